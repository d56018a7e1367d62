import Derived.Test.YtppcdmbkgficiaaGreatSF4
namespace Go.Proofs.YtppcdmbkgficiaaGreat
open Go.BX
theorem cid3 {a : CID} {x y z : Int} : ([((a.version : Int) == x), ((a.index : Int) == y), ((a.epoch : Int) == z)].all id) = true ↔ a = ⟨x, y, z⟩ := by
 obtain ⟨a1, a2, a3⟩ := a
 simp
theorem cid3_no {a : CID} {x y z : Int} (h : ([((a.version : Int) == x), ((a.index : Int) == y), ((a.epoch : Int) == z)].all id) = false) : a ≠ ⟨x, y, z⟩ := fun e => by
 rw [cid3.2 e] at h; cases h
theorem hdr7 {a : Hdr} {x y z k n s : Int} : ([((a.id.version : Int) == x), ((a.id.index : Int) == y), ((a.id.epoch : Int) == z), ((a.kk : Int) == k), ((a.nn : Int) == n), ((a.size : Int) == s), (((a.sum.toNat : Nat) : Int) == ((a.sum.toNat : Nat) : Int))].all id) = true ↔ a = ⟨⟨x, y, z⟩, k, n, s, a.sum⟩ := by
 obtain ⟨⟨a1, a2, a3⟩, a4, a5, a6, a7⟩ := a
 simp [and_assoc]
theorem hdr7_no {a : Hdr} {x y z k n s : Int} (h : ([((a.id.version : Int) == x), ((a.id.index : Int) == y), ((a.id.epoch : Int) == z), ((a.kk : Int) == k), ((a.nn : Int) == n), ((a.size : Int) == s), (((a.sum.toNat : Nat) : Int) == ((a.sum.toNat : Nat) : Int))].all id) = false) : a ≠ ⟨⟨x, y, z⟩, k, n, s, a.sum⟩ := fun e => by
 rw [hdr7.2 e] at h; cases h
def hitR (r : Rd) (frm : Int) (hd : Hdr) (i : Nat) : Bool := decide (hd.id = ⟨r.object.version, (i : Int), r.object.epoch⟩) && decide (r.object.nodes[i]? = some frm)
def goodR (r : Rd) (i : Nat) (hd : Hdr) (dt : List (BitVec 8)) (ok : Bool) : Prop := ok = true ∧ hd = { headR r (i : Int) with sum := hd.sum } ∧ wholeE { headR r (i : Int) with sum := hd.sum } dt = 0
instance (r : Rd) (i : Nat) (hd : Hdr) (dt : List (BitVec 8)) (ok : Bool) : Decidable (goodR r i hd dt ok) := by unfold goodR; infer_instance
def putR (r : Rd) (i : Nat) (dt : List (BitVec 8)) : Rd := { r with pieces := r.pieces ++ [⟨(i : Int), dt⟩] }
def badR (r : Rd) (i : Nat) : Rd := { r with bad := r.bad ++ [(i : Int)] }
def stepR (r : Rd) (i : Nat) (hd : Hdr) (dt : List (BitVec 8)) (ok : Bool) : Rd :=
 if goodR r i hd dt ok then { putR r i dt with done := judgeR (putR r i dt) } else { badR r i with done := judgeR (badR r i) }
def gotR (r : Rd) (frm : Int) (hd : Hdr) (dt : List (BitVec 8)) (ok : Bool) : Rd :=
 if waitsR r = false then r else
 match (List.range r.object.nodes.length).find? (hitR r frm hd) with
 | none => r
 | some i => if openR r (i : Int) = true then stepR r i hd dt ok else r
theorem rfind_hit {r : Rd} {frm : Int} {hd : Hdr} {i : Nat} (hi : i < r.object.nodes.length) (h : hitR r frm hd i = true) (hn : ∀ j < i, hitR r frm hd j = false) : (List.range r.object.nodes.length).find? (hitR r frm hd) = some i := by
 rw [List.find?_eq_some_iff_append]
 refine ⟨h, List.range i, (List.range (r.object.nodes.length - i - 1)).map (· + (i + 1)), ?_, fun j hj => by simp [hn j (List.mem_range.1 hj)]⟩
 have e : r.object.nodes.length = i + (1 + (r.object.nodes.length - i - 1)) := by omega
 conv => lhs; rw [e, List.range_add, List.range_add]
 simp [Function.comp_def, Nat.add_comm, Nat.add_left_comm]
theorem rfind_none {r : Rd} {frm : Int} {hd : Hdr} (hn : ∀ j < r.object.nodes.length, hitR r frm hd j = false) : (List.range r.object.nodes.length).find? (hitR r frm hd) = none := by
 rw [List.find?_eq_none]
 intro j hj
 simp [hn j (List.mem_range.1 hj)]
theorem hitR_yes {r : Rd} {frm : Int} {hd : Hdr} {i : Nat} (h2 : i < r.object.nodes.length) (e1 : hd.id = ⟨r.object.version, (i : Int), r.object.epoch⟩) (e2 : r.object.nodes[i] = frm) : hitR r frm hd i = true := by
 simp [hitR, h2, e1, e2]
theorem hitR_id {r : Rd} {frm : Int} {hd : Hdr} {i : Nat} (e1 : hd.id ≠ ⟨r.object.version, (i : Int), r.object.epoch⟩) : hitR r frm hd i = false := by
 simp [hitR, e1]
theorem hitR_no {r : Rd} {frm : Int} {hd : Hdr} {i : Nat} (h2 : i < r.object.nodes.length) (e2 : r.object.nodes[i] ≠ frm) : hitR r frm hd i = false := by
 simp [hitR, h2, e2]
theorem lt_succ_all {p : Nat → Prop} {i : Nat} (h : ∀ j < i, p j) (hi : p i) : ∀ j < i + 1, p j := fun j hj => by
 rcases Nat.lt_or_eq_of_le (Nat.le_of_lt_succ hj) with h1 | h1
 · exact h j h1
 · rw [h1]; exact hi
theorem RdOf.put {xs : List (BitVec 8)} {k n : Nat} {r : Rd} (h : RdOf xs k n r) {i : Nat} {dt : List (BitVec 8)} (ho : openR r (i : Int) = true) (hi : i < n) (hd : dt = rowAt (enc xs k n) i) : RdOf xs k n (putR r i dt) :=
 { h with
  of := {
   nd := by
    have h1 : ¬ (i : Int) ∈ r.pieces.map Pc.index := by
     unfold openR at ho
     simp only [Bool.and_eq_true, Bool.not_eq_true', decide_eq_false_iff_not] at ho
     exact ho.2
    show ((r.pieces ++ [(⟨(i : Int), dt⟩ : Pc)]).map Pc.index).Nodup
    rw [List.map_append, List.nodup_append]
    exact ⟨h.of.nd, by simp, fun a ha b hb e => h1 (by simp only [List.map_cons, List.map_nil, List.mem_singleton] at hb; rw [← hb, ← e]; exact ha)⟩
   rng := fun p hp => by
    rcases List.mem_append.1 hp with hp | hp
    · exact h.of.rng p hp
    · obtain rfl := List.mem_singleton.1 hp
      show (0 : Int) ≤ (i : Int) ∧ (i : Int) < (n : Int)
      omega
   dat := fun p hp => by
    rcases List.mem_append.1 hp with hp | hp
    · exact h.of.dat p hp
    · obtain rfl := List.mem_singleton.1 hp
      exact hd } }
theorem RdOf.le {xs : List (BitVec 8)} {k n : Nat} {r : Rd} (h : RdOf xs k n r) : r.pieces.length ≤ n := (h.of.ok h.hk h.hkn).le
set_option maxHeartbeats 4000000 in
theorem fgot_spec {S : Nat → Prop} {w : World} {r : Rd} {cs : List Value} (hr : rdS.rep S w cs r) {xs : List (BitVec 8)} {k n : Nat} (hR : RdOf xs k n r) (frm : Int) (hd : Hdr) (ok : Bool) {dt : List (BitVec 8)} {ad : Option Addr} {ce : Nat} (hdt : SB.rep S w [.slice ad dt.length ce] dt) (x2 x3 x4 x5 x6 x7 x9 x10 x11 x12 x21 x22 x23 x24 x25 x26 : Value) (hbl : r.bad.length ≤ 1000000) (hdl : dt.length ≤ 1000000) (hgood : ∀ i : Nat, hitR r frm hd i = true → goodR r i hd dt ok → dt = rowAt (enc xs k n) i) :
 Calls Tryz.prog 25 #[.agg cs.toArray, .agg #[.I 15, .I frm, x2, x3, x4, x5, x6, x7, .bool ok, x9, x10, x11, x12, .int .u64 hd.id.version, .I hd.id.index, .int .u64 hd.id.epoch, .I hd.kk, .I hd.nn, .I hd.size, .int .u32 ((hd.sum.toNat : Nat) : Int), .slice ad dt.length ce, x21, x22, x23, x24, x25, x26]] w (Ret fun v w' => Ext w w' ∧ ∃ (ds : List Value) (D : Rd), v = .tuple #[.agg ds.toArray, .I D.done] ∧ rdS.rep (Nw S w) w' ds D ∧ D = gotR r frm hd dt ok) := by
 obtain ⟨cs0r, a3r, k3r, a4r, k4r, rfl, h0r, h1r, h2r, h3r, h4r, h5r, h6r, h7r⟩ := rd_open hr
 obtain ⟨a6rO, k6rO, rfl, h0rO, h1rO, h2rO, h4rO, h5rO, h6rO⟩ := obj_open h0r
 have hnl := hR.nodes
 have hple := hR.le
 have hn9 := hR.hn
 refine qS (fn := Tryz.f25) (n := 93) (σ := [(0, .agg (rdV r a6rO k6rO a3r k3r a4r k4r).toArray), (1, .agg #[.I 15, .I frm, x2, x3, x4, x5, x6, x7, .bool ok, x9, x10, x11, x12, .int .u64 hd.id.version, .I hd.id.index, .int .u64 hd.id.epoch, .I hd.kk, .I hd.nn, .I hd.size, .int .u32 ((hd.sum.toNat : Nat) : Int), .slice ad dt.length ce, x21, x22, x23, x24, x25, x26])]) Tryz.func25 ?_
 have H := Hp.startF (w := w) (S := S) (G := [Rp Li [.slice a6rO r.object.nodes.length k6rO] r.object.nodes, Rp (Shape.slice pcS) [.slice a3r r.pieces.length k3r] r.pieces, Rp Li [.slice a4r r.bad.length k4r] r.bad, Rp SB [.slice ad dt.length ce] dt]) (.rp h6rO (.rp h3r (.rp h4r (.rp hdt .nil))))
 refine qR 1 [.c [0], .c [1]] [(0, .agg (rdV r a6rO k6rO a3r k3r a4r k4r).toArray), (1, .agg #[.I 15, .I frm, x2, x3, x4, x5, x6, x7, .bool ok, x9, x10, x11, x12, .int .u64 hd.id.version, .I hd.id.index, .int .u64 hd.id.epoch, .I hd.kk, .I hd.nn, .I hd.size, .int .u32 ((hd.sum.toNat : Nat) : Int), .slice ad dt.length ce, x21, x22, x23, x24, x25, x26])] ?_
 refine qG (sq 0 4) ?_
 refine qB .seq 2 (sq 1 4) ((rdV r a6rO k6rO a3r k3r a4r k4r).toArray) 30 H ?_
 intro b1 w2 H
 refine qB .seq 3 (sq 2 4) #[.I 15, .I frm, x2, x3, x4, x5, x6, x7, .bool ok, x9, x10, x11, x12, .int .u64 hd.id.version, .I hd.id.index, .int .u64 hd.id.epoch, .I hd.kk, .I hd.nn, .I hd.size, .int .u32 ((hd.sum.toNat : Nat) : Int), .slice ad dt.length ce, x21, x22, x23, x24, x25, x26] 89 H ?_
 intro b3 w4 H
 refine qB .seq 4 (sq 3 4) ((rdZ).toArray) 30 H ?_
 intro b5 w6 H
 refine qF 1 [(2, .P b1 0), (3, .P b3 0), (4, .P b5 0)] ?_
 refine qR 2 [.c [1, 0, 0], .c [1, 0, 1], .c [2]] [(2, .P b1 0), (3, .P b3 0), (4, .P b5 0)] ?_
 refine qG (sq 0 8) ?_
 refine qL .seq 9 (sq 1 8) 30 b1 0 0 (.agg (rdV r a6rO k6rO a3r k3r a4r k4r).toArray) (H.cells 2 rfl) ?_
 refine qK .seq (some 10) (sq 2 8) 44 #[.agg (rdV r a6rO k6rO a3r k3r a4r k4r).toArray] (waits_spec (r := r) (rd_mkB (by unfold rdB; omega) (H.rp 0 rfl) (H.rp 1 rfl) (H.rp 2 rfl))) ?_
 rintro _ w7 hE8 rfl
 have H := H.ext hE8
 refine qP 2 (sq 4 8) [(2, .P b1 0), (3, .P b3 0), (4, .P b5 0), (12, .bool (!(waitsR r)))] ?_
 refine RW.test (fun b_ => [(2, .P b1 0), (3, .P b3 0), (4, .P b5 0), (12, .bool b_)]) (!(waitsR r)) (fun h9 => ?_) (fun h9 => ?_)
 ·
  replace h9 : (waitsR r) = false := by revert h9; cases (waitsR r) <;> simp
  have hw8 : waitsR r = false := by first | assumption | (simpa using h9)
  refine qF 4 [(2, .P b1 0), (3, .P b3 0), (4, .P b5 0), (16, .bool true)] ?_
  refine qR 2 [.c [1, 0, 1, 0, 0], .c [1, 0, 1, 0, 1], .c [2]] [(2, .P b1 0), (4, .P b5 0)] ?_
  refine WK.drawH1 [b5] (.leaf [(0, .qui), (1, .qui), (2, .qui), (3, .seq), (4, .qui)]) Try_mixed (by as_aux_lemma => kernel_rfl) (by as_aux_lemma => kernel_rfl) ?_
  intro w10 hw11
  have H := H.draw
  rw [← hw11] at H
  clear hw11
  have hS := Chg.refl w10 [b5]
  refine RG.leaf' [(0, .qui), (1, .qui), (2, .qui), (3, .seq), (4, .qui)] (by as_aux_lemma => kernel_rfl) ?_
  refine qHL 17 [(1, .qui), (2, .qui), (3, .seq), (4, .qui)] 30 b1 0 0 (.agg (rdV r a6rO k6rO a3r k3r a4r k4r).toArray) hS (H.cells 2 rfl) (nq1 (H.raws 2 0 rfl rfl (by decide))) ?_
  refine qHP hS 1 [(2, .qui), (3, .seq), (4, .qui)] [(4, .P b5 0), (17, .agg (rdV r a6rO k6rO a3r k3r a4r k4r).toArray), (18, .P b1 13)] ?_
  refine qHL 19 [(3, .seq), (4, .qui)] 28 b1 13 13 (.I r.done) hS (H.cells 2 rfl) (nq1 (H.raws 2 0 rfl rfl (by decide))) ?_
  have Hr := H
  refine RH.sto ?_
  refine qWC 30 b5 0 [] (.agg (rdV r a6rO k6rO a3r k3r a4r k4r).toArray) [(b5, .cells (rdV r a6rO k6rO a3r k3r a4r k4r).toArray 30 (0, 0)), (b3, .cells #[.I 15, .I frm, x2, x3, x4, x5, x6, x7, .bool ok, x9, x10, x11, x12, .int .u64 hd.id.version, .I hd.id.index, .int .u64 hd.id.epoch, .I hd.kk, .I hd.nn, .I hd.size, .int .u32 ((hd.sum.toNat : Nat) : Int), .slice ad dt.length ce, x21, x22, x23, x24, x25, x26] 89 (0, 0)), (b1, .cells (rdV r a6rO k6rO a3r k3r a4r k4r).toArray 30 (0, 0))] H 0 rfl rfl ?_
  intro w13 hch12 H
  have hS14 := hS.sto hch12 (.inr (by simp))
  refine ⟨hS14, ?_⟩
  have hS := hS14
  refine RH.fin hS 1 [4, 5] [(4, .P b5 0), (5, .I r.done)] (by as_aux_lemma => kernel_rfl) ?_
  refine qRB (.tuple #[.agg (rdV r a6rO k6rO a3r k3r a4r k4r).toArray, .I r.done]) Tryz.func25 (v2 (.cell 4 30) (.tmp 5) (vC (H.cells 0 rfl)) vT) ?_
  have hpost : (r : Rd) = gotR r frm hd dt ok := by
   clear H
   symm
   unfold gotR
   rw [if_pos (by first | assumption | simpa using hw8)]
  exact ⟨_, rfl, H.done, [.string r.object.key, .int .u64 r.object.version, .I r.object.size, .int .u32 ((r.object.sum.toNat : Nat) : Int), .I r.object.group, .int .u64 r.object.epoch, .slice a6rO r.object.nodes.length k6rO, .I r.kk, .I r.nn, .slice a3r r.pieces.length k3r, .slice a4r r.bad.length k4r, .I r.waited, .I r.limit, .I r.done], r, rfl, H.out (rd_mkB (by unfold rdB; omega) (H.rp 0 rfl) (H.rp 1 rfl) (H.rp 2 rfl)), hpost⟩
 ·
  replace h9 : (waitsR r) = true := by revert h9; cases (waitsR r) <;> simp
  have hw9 : waitsR r = true := by first | assumption | (simpa using h9)
  refine qP 1 (sq 5 8) [(2, .P b1 0), (3, .P b3 0), (4, .P b5 0), (12, .bool false), (13, .P b3 0)] ?_
  refine qL .seq 14 (sq 6 8) 77 b3 0 0 (.I 15) (H.cells 1 rfl) ?_
  refine qF 2 [(2, .P b1 0), (3, .P b3 0), (4, .P b5 0), (16, .bool false)] ?_
  refine qR 4 [.c [2, 0, 0], .c [2, 0, 1], .c [3]] [(2, .P b1 0), (3, .P b3 0), (4, .P b5 0)] ?_
  refine qG (sq 0 5) ?_
  refine qP 2 (sq 2 5) [(2, .P b1 0), (3, .P b3 0), (4, .P b5 0), (21, .P b1 6)] ?_
  refine qL .seq 22 (sq 3 5) 24 b1 6 6 (.slice a6rO r.object.nodes.length k6rO) (H.cells 2 rfl) ?_
  refine qF 2 [(2, .P b1 0), (3, .P b3 0), (4, .P b5 0), (22, .slice a6rO r.object.nodes.length k6rO), (23, .I ((r.object.nodes.length : Nat) : Int)), (24, .I 0)] ?_
  refine qR 1 [.c [2, 0, 1, 0], .b 0, .c [3]] [(2, .P b1 0), (3, .P b3 0), (4, .P b5 0), (22, .slice a6rO r.object.nodes.length k6rO), (23, .I ((r.object.nodes.length : Nat) : Int)), (24, .I 0)] ?_
  refine WK.loop (α := Nat) (b := cd Tryz.prog 25 [2, 0, 1, 0, 0]) (by as_aux_lemma => kernel_rfl) (fun i => [(2, .P b1 0), (3, .P b3 0), (4, .P b5 0), (22, .slice a6rO r.object.nodes.length k6rO), (23, .I ((r.object.nodes.length : Nat) : Int)), (24, .I i)]) (fun i w' => Hp w S [] [(b5, .cells (rdZ).toArray 30 (0, 0)), (b3, .cells #[.I 15, .I frm, x2, x3, x4, x5, x6, x7, .bool ok, x9, x10, x11, x12, .int .u64 hd.id.version, .I hd.id.index, .int .u64 hd.id.epoch, .I hd.kk, .I hd.nn, .I hd.size, .int .u32 ((hd.sum.toNat : Nat) : Int), .slice ad dt.length ce, x21, x22, x23, x24, x25, x26] 89 (0, 0)), (b1, .cells (rdV r a6rO k6rO a3r k3r a4r k4r).toArray 30 (0, 0))] [] [Rp Li [.slice a6rO r.object.nodes.length k6rO] r.object.nodes, Rp (Shape.slice pcS) [.slice a3r r.pieces.length k3r] r.pieces, Rp Li [.slice a4r r.bad.length k4r] r.bad, Rp SB [.slice ad dt.length ce] dt] w' ∧ i ≤ r.object.nodes.length ∧ ∀ j < i, hitR r frm hd j = false) (fun i => r.object.nodes.length - i) 0 ⟨H, Nat.zero_le _, fun j hj => absurd hj (Nat.not_lt_zero j)⟩ (rfl) ?_
  rintro i w16 ⟨H, hinv0⟩ hback15
  refine qR 3 [.c [2, 0, 1, 0, 0, 1, 0], .c [2, 0, 1, 0, 0, 2], .l [2, 0, 1, 0, 0], .b 0, .c [3]] [(2, .P b1 0), (3, .P b3 0), (4, .P b5 0), (22, .slice a6rO r.object.nodes.length k6rO), (23, .I ((r.object.nodes.length : Nat) : Int)), (24, .I i), (25, .bool (decide (((i : Int) : Int) < ((r.object.nodes.length : Nat) : Int))))] ?_
  refine qD (((i : Int) : Int) < ((r.object.nodes.length : Nat) : Int)) (fun h17 => ?_) (fun h17 => ?_)
  ·
   refine qR 4 [.c [2, 0, 1, 0, 0, 2, 0, 0, 0], .c [2, 0, 1, 0, 0, 2, 0, 0, 1], .b 1, .c [2, 0, 1, 0, 0, 3], .l [2, 0, 1, 0, 0], .b 0, .c [3]] [(2, .P b1 0), (3, .P b3 0), (4, .P b5 0), (22, .slice a6rO r.object.nodes.length k6rO), (23, .I ((r.object.nodes.length : Nat) : Int)), (24, .I i)] ?_
   refine qG (sq 0 5) ?_
   refine qP 1 (sq 1 5) [(2, .P b1 0), (3, .P b3 0), (4, .P b5 0), (22, .slice a6rO r.object.nodes.length k6rO), (23, .I ((r.object.nodes.length : Nat) : Int)), (24, .I i), (26, .I i)] ?_
   have hx18 : i < r.object.nodes.length := by omega
   refine qX .seq 27 (sq 2 5) 24 3 (i : Int) Si (r.object.nodes[i]) H 0 rfl i (by omega) (List.getElem?_eq_getElem hx18) ?_
   intro b19 o20 es21 hr22 H
   have hb23 := Shape.i64_bd hr22
   obtain ⟨rfl, -⟩ := hr22
   refine qL .seq 28 (sq 3 5) 3 b19 o20 0 (.I (r.object.nodes[i])) (H.fc 0 rfl) ?_
   refine qF 2 [(2, .P b1 0), (3, .P b3 0), (4, .P b5 0), (6, .I i), (7, .I (r.object.nodes[i])), (22, .slice a6rO r.object.nodes.length k6rO), (23, .I ((r.object.nodes.length : Nat) : Int)), (24, .I i)] ?_
   refine qR 1 [.c [2, 0, 1, 0, 0, 2, 0, 0, 1, 0], .c [2, 0, 1, 0, 0, 2, 0, 0, 2], .b 1, .c [2, 0, 1, 0, 0, 3], .l [2, 0, 1, 0, 0], .b 0, .c [3]] [(2, .P b1 0), (3, .P b3 0), (4, .P b5 0), (6, .I i), (7, .I (r.object.nodes[i])), (22, .slice a6rO r.object.nodes.length k6rO), (23, .I ((r.object.nodes.length : Nat) : Int)), (24, .I i)] ?_
   refine qG (sq 0 5) ?_
   refine qL .seq 29 (sq 1 5) 30 b1 0 0 (.agg (rdV r a6rO k6rO a3r k3r a4r k4r).toArray) (H.cells 2 rfl) ?_
   refine qP 1 (sq 2 5) [(2, .P b1 0), (3, .P b3 0), (4, .P b5 0), (6, .I i), (7, .I (r.object.nodes[i])), (22, .slice a6rO r.object.nodes.length k6rO), (23, .I ((r.object.nodes.length : Nat) : Int)), (24, .I i), (29, .agg (rdV r a6rO k6rO a3r k3r a4r k4r).toArray), (30, .I i)] ?_
   refine qK .seq (some 31) (sq 3 5) 31 #[.agg (rdV r a6rO k6rO a3r k3r a4r k4r).toArray, .I i] (head_spec (r := r) (rd_mkB (by unfold rdB; omega) (H.rp 1 rfl) (H.rp 2 rfl) (H.rp 3 rfl)) (i : Int)) ?_
   rintro _ w24 hE25 rfl
   have H := H.ext hE25
   refine qB .seq 8 (sq 4 5) #[.int .u64 0, .I 0, .int .u64 0, .I 0, .I 0, .I 0, .int .u32 0] 84 H ?_
   intro b26 w27 H
   refine qW 84 b26 0 (sq 5 5) (.agg #[.int .u64 r.object.version, .I i, .int .u64 r.object.epoch, .I r.kk, .I r.nn, .I r.object.size, .int .u32 0]) [(b26, .cells #[.int .u64 r.object.version, .I i, .int .u64 r.object.epoch, .I r.kk, .I r.nn, .I r.object.size, .int .u32 0] 84 (0, 0)), (b5, .cells (rdZ).toArray 30 (0, 0)), (b3, .cells #[.I 15, .I frm, x2, x3, x4, x5, x6, x7, .bool ok, x9, x10, x11, x12, .int .u64 hd.id.version, .I hd.id.index, .int .u64 hd.id.epoch, .I hd.kk, .I hd.nn, .I hd.size, .int .u32 ((hd.sum.toNat : Nat) : Int), .slice ad dt.length ce, x21, x22, x23, x24, x25, x26] 89 (0, 0)), (b1, .cells (rdV r a6rO k6rO a3r k3r a4r k4r).toArray 30 (0, 0))] H 0 rfl rfl ?_
   intro w28 H
   refine qF 0 [(2, .P b1 0), (3, .P b3 0), (4, .P b5 0), (6, .I i), (7, .I (r.object.nodes[i])), (8, .P b26 0), (22, .slice a6rO r.object.nodes.length k6rO), (23, .I ((r.object.nodes.length : Nat) : Int)), (24, .I i)] ?_
   refine qR 2 [.c [2, 0, 1, 0, 0, 2, 0, 0, 2, 0, 0], .c [2, 0, 1, 0, 0, 2, 0, 0, 2, 0, 1], .c [2, 0, 1, 0, 0, 2, 0, 0, 3], .b 1, .c [2, 0, 1, 0, 0, 3], .l [2, 0, 1, 0, 0], .b 0, .c [3]] [(2, .P b1 0), (3, .P b3 0), (4, .P b5 0), (6, .I i), (7, .I (r.object.nodes[i])), (8, .P b26 0), (22, .slice a6rO r.object.nodes.length k6rO), (23, .I ((r.object.nodes.length : Nat) : Int)), (24, .I i)] ?_
   refine qG (sq 0 12) ?_
   refine qP 2 (sq 2 12) [(2, .P b1 0), (3, .P b3 0), (4, .P b5 0), (6, .I i), (7, .I (r.object.nodes[i])), (8, .P b26 0), (22, .slice a6rO r.object.nodes.length k6rO), (23, .I ((r.object.nodes.length : Nat) : Int)), (24, .I i), (33, .P b3 13)] ?_
   refine qL .seq 34 (sq 3 12) 82 b3 13 13 (.agg #[.int .u64 hd.id.version, .I hd.id.index, .int .u64 hd.id.epoch]) (H.cells 2 rfl) ?_
   refine qP 1 (sq 4 12) [(2, .P b1 0), (3, .P b3 0), (4, .P b5 0), (6, .I i), (7, .I (r.object.nodes[i])), (8, .P b26 0), (22, .slice a6rO r.object.nodes.length k6rO), (23, .I ((r.object.nodes.length : Nat) : Int)), (24, .I i), (34, .agg #[.int .u64 hd.id.version, .I hd.id.index, .int .u64 hd.id.epoch]), (35, .P b26 0)] ?_
   refine qL .seq 36 (sq 5 12) 82 b26 0 0 (.agg #[.int .u64 r.object.version, .I i, .int .u64 r.object.epoch]) (H.cells 0 rfl) ?_
   refine RW.neA (κ := .seq) (d := some 37) (r := (sq 6 12)) (T := 82) (xs := #[.int .u64 hd.id.version, .I hd.id.index, .int .u64 hd.id.epoch]) (ys := #[.int .u64 r.object.version, .I i, .int .u64 r.object.epoch]) (ox := (.tmp 34)) (oy := (.tmp 36)) [((hd.id.version : Int) == r.object.version), ((hd.id.index : Int) == (i : Int)), ((hd.id.epoch : Int) == r.object.epoch)] (by as_aux_lemma => kernel_rfl) (by as_aux_lemma => kernel_rfl) (by as_aux_lemma => kernel_rfl) ?_
   refine qP 1 (sq 7 12) [(2, .P b1 0), (3, .P b3 0), (4, .P b5 0), (6, .I i), (7, .I (r.object.nodes[i])), (8, .P b26 0), (22, .slice a6rO r.object.nodes.length k6rO), (23, .I ((r.object.nodes.length : Nat) : Int)), (24, .I i), (38, .bool (!([((hd.id.version : Int) == r.object.version), ((hd.id.index : Int) == (i : Int)), ((hd.id.epoch : Int) == r.object.epoch)].all id)))] ?_
   refine RW.test (fun b_ => [(2, .P b1 0), (3, .P b3 0), (4, .P b5 0), (6, .I i), (7, .I (r.object.nodes[i])), (8, .P b26 0), (22, .slice a6rO r.object.nodes.length k6rO), (23, .I ((r.object.nodes.length : Nat) : Int)), (24, .I i), (38, .bool b_)]) (!([((hd.id.version : Int) == r.object.version), ((hd.id.index : Int) == (i : Int)), ((hd.id.epoch : Int) == r.object.epoch)].all id)) (fun h29 => ?_) (fun h29 => ?_)
   ·
    replace h29 : (([((hd.id.version : Int) == r.object.version), ((hd.id.index : Int) == (i : Int)), ((hd.id.epoch : Int) == r.object.epoch)].all id)) = false := by revert h29; cases (([((hd.id.version : Int) == r.object.version), ((hd.id.index : Int) == (i : Int)), ((hd.id.epoch : Int) == r.object.epoch)].all id)) <;> simp
    have hmiss9 : hitR r frm hd i = false := hitR_id (cid3_no h29)
    refine qF 5 [(2, .P b1 0), (3, .P b3 0), (4, .P b5 0), (6, .I i), (8, .P b26 0), (22, .slice a6rO r.object.nodes.length k6rO), (23, .I ((r.object.nodes.length : Nat) : Int)), (24, .I i), (43, .bool true)] ?_
    refine qR 2 [.c [2, 0, 1, 0, 0, 3], .l [2, 0, 1, 0, 0], .b 0, .c [3]] [(2, .P b1 0), (3, .P b3 0), (4, .P b5 0), (22, .slice a6rO r.object.nodes.length k6rO), (23, .I ((r.object.nodes.length : Nat) : Int)), (24, .I i)] ?_
    refine qG (sq 0 2) ?_
    refine qI .seq 89 (sq 1 2) ((i : Int) + 1) ?_
    refine qF 1 [(2, .P b1 0), (3, .P b3 0), (4, .P b5 0), (22, .slice a6rO r.object.nodes.length k6rO), (23, .I ((r.object.nodes.length : Nat) : Int)), (24, .I ((i : Int) + 1))] ?_
    have H := H.pick [1, 2, 3, 4] rfl
    have H := H.frontM 3 (M' := [(b1, .cells (rdV r a6rO k6rO a3r k3r a4r k4r).toArray 30 (0, 0)), (b26, .cells #[.int .u64 r.object.version, .I i, .int .u64 r.object.epoch, .I r.kk, .I r.nn, .I r.object.size, .int .u32 0] 84 (0, 0)), (b5, .cells (rdZ).toArray 30 (0, 0)), (b3, .cells #[.I 15, .I frm, x2, x3, x4, x5, x6, x7, .bool ok, x9, x10, x11, x12, .int .u64 hd.id.version, .I hd.id.index, .int .u64 hd.id.epoch, .I hd.kk, .I hd.nn, .I hd.size, .int .u32 ((hd.sum.toNat : Nat) : Int), .slice ad dt.length ce, x21, x22, x23, x24, x25, x26] 89 (0, 0))]) rfl
    have H := H.frontM 3 (M' := [(b3, .cells #[.I 15, .I frm, x2, x3, x4, x5, x6, x7, .bool ok, x9, x10, x11, x12, .int .u64 hd.id.version, .I hd.id.index, .int .u64 hd.id.epoch, .I hd.kk, .I hd.nn, .I hd.size, .int .u32 ((hd.sum.toNat : Nat) : Int), .slice ad dt.length ce, x21, x22, x23, x24, x25, x26] 89 (0, 0)), (b1, .cells (rdV r a6rO k6rO a3r k3r a4r k4r).toArray 30 (0, 0)), (b26, .cells #[.int .u64 r.object.version, .I i, .int .u64 r.object.epoch, .I r.kk, .I r.nn, .I r.object.size, .int .u32 0] 84 (0, 0)), (b5, .cells (rdZ).toArray 30 (0, 0))]) rfl
    have H := H.frontM 3 (M' := [(b5, .cells (rdZ).toArray 30 (0, 0)), (b3, .cells #[.I 15, .I frm, x2, x3, x4, x5, x6, x7, .bool ok, x9, x10, x11, x12, .int .u64 hd.id.version, .I hd.id.index, .int .u64 hd.id.epoch, .I hd.kk, .I hd.nn, .I hd.size, .int .u32 ((hd.sum.toNat : Nat) : Int), .slice ad dt.length ce, x21, x22, x23, x24, x25, x26] 89 (0, 0)), (b1, .cells (rdV r a6rO k6rO a3r k3r a4r k4r).toArray 30 (0, 0)), (b26, .cells #[.int .u64 r.object.version, .I i, .int .u64 r.object.epoch, .I r.kk, .I r.nn, .I r.object.size, .int .u32 0] 84 (0, 0))]) rfl
    have H := H.drop (M' := [(b5, .cells (rdZ).toArray 30 (0, 0)), (b3, .cells #[.I 15, .I frm, x2, x3, x4, x5, x6, x7, .bool ok, x9, x10, x11, x12, .int .u64 hd.id.version, .I hd.id.index, .int .u64 hd.id.epoch, .I hd.kk, .I hd.nn, .I hd.size, .int .u32 ((hd.sum.toNat : Nat) : Int), .slice ad dt.length ce, x21, x22, x23, x24, x25, x26] 89 (0, 0)), (b1, .cells (rdV r a6rO k6rO a3r k3r a4r k4r).toArray 30 (0, 0))]) (W' := []) (by repeat (first | exact List.Sublist.refl _ | apply List.Sublist.cons_cons | apply List.Sublist.cons)) (by repeat (first | exact List.Sublist.refl _ | apply List.Sublist.cons_cons | apply List.Sublist.cons))
    exact WK.back (hback15 (i + 1) _ ⟨H, by omega, lt_succ_all hinv0.2 hmiss9⟩ (by first | omega | (simp only []; omega))) (by as_aux_lemma => kernel_rfl)
   ·
    replace h29 : (([((hd.id.version : Int) == r.object.version), ((hd.id.index : Int) == (i : Int)), ((hd.id.epoch : Int) == r.object.epoch)].all id)) = true := by revert h29; cases (([((hd.id.version : Int) == r.object.version), ((hd.id.index : Int) == (i : Int)), ((hd.id.epoch : Int) == r.object.epoch)].all id)) <;> simp
    have heq9 := cid3.1 h29
    refine qP 1 (sq 8 12) [(2, .P b1 0), (3, .P b3 0), (4, .P b5 0), (6, .I i), (7, .I (r.object.nodes[i])), (8, .P b26 0), (22, .slice a6rO r.object.nodes.length k6rO), (23, .I ((r.object.nodes.length : Nat) : Int)), (24, .I i), (38, .bool false), (39, .P b3 1)] ?_
    refine qL .seq 40 (sq 9 12) 3 b3 1 1 (.I frm) (H.cells 2 rfl) ?_
    refine qF 3 [(2, .P b1 0), (3, .P b3 0), (4, .P b5 0), (6, .I i), (8, .P b26 0), (22, .slice a6rO r.object.nodes.length k6rO), (23, .I ((r.object.nodes.length : Nat) : Int)), (24, .I i), (43, .bool (frm != (r.object.nodes[i])))] ?_
    refine qN frm (r.object.nodes[i]) (fun h30 => ?_) (fun h30 => ?_)
    ·
     have hmiss9 : hitR r frm hd i = false := by first | exact hitR_id (cid3_no h30) | exact hitR_no (by omega) h30 | exact hitR_no (by omega) (Ne.symm h30)
     refine qR 1 [.c [2, 0, 1, 0, 0, 3], .l [2, 0, 1, 0, 0], .b 0, .c [3]] [(2, .P b1 0), (3, .P b3 0), (4, .P b5 0), (22, .slice a6rO r.object.nodes.length k6rO), (23, .I ((r.object.nodes.length : Nat) : Int)), (24, .I i)] ?_
     refine qG (sq 0 2) ?_
     refine qI .seq 89 (sq 1 2) ((i : Int) + 1) ?_
     refine qF 1 [(2, .P b1 0), (3, .P b3 0), (4, .P b5 0), (22, .slice a6rO r.object.nodes.length k6rO), (23, .I ((r.object.nodes.length : Nat) : Int)), (24, .I ((i : Int) + 1))] ?_
     have H := H.pick [1, 2, 3, 4] rfl
     have H := H.frontM 3 (M' := [(b1, .cells (rdV r a6rO k6rO a3r k3r a4r k4r).toArray 30 (0, 0)), (b26, .cells #[.int .u64 r.object.version, .I i, .int .u64 r.object.epoch, .I r.kk, .I r.nn, .I r.object.size, .int .u32 0] 84 (0, 0)), (b5, .cells (rdZ).toArray 30 (0, 0)), (b3, .cells #[.I 15, .I frm, x2, x3, x4, x5, x6, x7, .bool ok, x9, x10, x11, x12, .int .u64 hd.id.version, .I hd.id.index, .int .u64 hd.id.epoch, .I hd.kk, .I hd.nn, .I hd.size, .int .u32 ((hd.sum.toNat : Nat) : Int), .slice ad dt.length ce, x21, x22, x23, x24, x25, x26] 89 (0, 0))]) rfl
     have H := H.frontM 3 (M' := [(b3, .cells #[.I 15, .I frm, x2, x3, x4, x5, x6, x7, .bool ok, x9, x10, x11, x12, .int .u64 hd.id.version, .I hd.id.index, .int .u64 hd.id.epoch, .I hd.kk, .I hd.nn, .I hd.size, .int .u32 ((hd.sum.toNat : Nat) : Int), .slice ad dt.length ce, x21, x22, x23, x24, x25, x26] 89 (0, 0)), (b1, .cells (rdV r a6rO k6rO a3r k3r a4r k4r).toArray 30 (0, 0)), (b26, .cells #[.int .u64 r.object.version, .I i, .int .u64 r.object.epoch, .I r.kk, .I r.nn, .I r.object.size, .int .u32 0] 84 (0, 0)), (b5, .cells (rdZ).toArray 30 (0, 0))]) rfl
     have H := H.frontM 3 (M' := [(b5, .cells (rdZ).toArray 30 (0, 0)), (b3, .cells #[.I 15, .I frm, x2, x3, x4, x5, x6, x7, .bool ok, x9, x10, x11, x12, .int .u64 hd.id.version, .I hd.id.index, .int .u64 hd.id.epoch, .I hd.kk, .I hd.nn, .I hd.size, .int .u32 ((hd.sum.toNat : Nat) : Int), .slice ad dt.length ce, x21, x22, x23, x24, x25, x26] 89 (0, 0)), (b1, .cells (rdV r a6rO k6rO a3r k3r a4r k4r).toArray 30 (0, 0)), (b26, .cells #[.int .u64 r.object.version, .I i, .int .u64 r.object.epoch, .I r.kk, .I r.nn, .I r.object.size, .int .u32 0] 84 (0, 0))]) rfl
     have H := H.drop (M' := [(b5, .cells (rdZ).toArray 30 (0, 0)), (b3, .cells #[.I 15, .I frm, x2, x3, x4, x5, x6, x7, .bool ok, x9, x10, x11, x12, .int .u64 hd.id.version, .I hd.id.index, .int .u64 hd.id.epoch, .I hd.kk, .I hd.nn, .I hd.size, .int .u32 ((hd.sum.toNat : Nat) : Int), .slice ad dt.length ce, x21, x22, x23, x24, x25, x26] 89 (0, 0)), (b1, .cells (rdV r a6rO k6rO a3r k3r a4r k4r).toArray 30 (0, 0))]) (W' := []) (by repeat (first | exact List.Sublist.refl _ | apply List.Sublist.cons_cons | apply List.Sublist.cons)) (by repeat (first | exact List.Sublist.refl _ | apply List.Sublist.cons_cons | apply List.Sublist.cons))
     exact WK.back (hback15 (i + 1) _ ⟨H, by omega, lt_succ_all hinv0.2 hmiss9⟩ (by first | omega | (simp only []; omega))) (by as_aux_lemma => kernel_rfl)
    ·
     have hhit9 : hitR r frm hd i = true := hitR_yes (by omega) heq9 (by first | exact h30 | exact Eq.symm h30)
     refine qR 3 [.c [2, 0, 1, 0, 0, 2, 0, 0, 3, 0, 0], .c [2, 0, 1, 0, 0, 2, 0, 0, 3, 0, 1], .c [2, 0, 1, 0, 0, 2, 0, 0, 4], .b 1, .c [2, 0, 1, 0, 0, 3], .l [2, 0, 1, 0, 0], .b 0, .c [3]] [(2, .P b1 0), (3, .P b3 0), (4, .P b5 0), (6, .I i), (8, .P b26 0)] ?_
     refine qG (sq 0 4) ?_
     refine qL .seq 44 (sq 1 4) 30 b1 0 0 (.agg (rdV r a6rO k6rO a3r k3r a4r k4r).toArray) (H.cells 3 rfl) ?_
     refine qP 1 (sq 2 4) [(2, .P b1 0), (3, .P b3 0), (4, .P b5 0), (6, .I i), (8, .P b26 0), (44, .agg (rdV r a6rO k6rO a3r k3r a4r k4r).toArray), (45, .I i)] ?_
     refine qK .seq (some 46) (sq 3 4) 17 #[.agg (rdV r a6rO k6rO a3r k3r a4r k4r).toArray, .I i] (open_spec (r := r) (rd_mkB (by unfold rdB; omega) (H.rp 1 rfl) (H.rp 2 rfl) (H.rp 3 rfl)) (i : Int)) ?_
     rintro _ w31 hE32 rfl
     have H := H.ext hE32
     refine qF 1 [(2, .P b1 0), (3, .P b3 0), (4, .P b5 0), (6, .I i), (8, .P b26 0), (47, .bool (!(openR r (i : Int))))] ?_
     refine qC (!(openR r (i : Int))) (fun h33 => ?_) (fun h33 => ?_)
     ·
      replace h33 : (openR r (i : Int)) = false := by revert h33; cases (openR r (i : Int)) <;> simp
      have hop8 : openR r (i : Int) = false := by first | assumption | (simpa using h33)
      refine qR 2 [.c [3, 0], .c [4]] [(2, .P b1 0), (4, .P b5 0)] ?_
      refine WK.drawH1 [b5] (.leaf [(0, .qui), (1, .qui), (2, .qui), (3, .seq), (4, .qui)]) Try_mixed (by as_aux_lemma => kernel_rfl) (by as_aux_lemma => kernel_rfl) ?_
      intro w34 hw35
      have H := H.draw
      rw [← hw35] at H
      clear hw35
      have hS := Chg.refl w34 [b5]
      refine RG.leaf' [(0, .qui), (1, .qui), (2, .qui), (3, .seq), (4, .qui)] (by as_aux_lemma => kernel_rfl) ?_
      refine qHL 90 [(1, .qui), (2, .qui), (3, .seq), (4, .qui)] 30 b1 0 0 (.agg (rdV r a6rO k6rO a3r k3r a4r k4r).toArray) hS (H.cells 3 rfl) (nq1 (H.raws 3 1 rfl rfl (by decide))) ?_
      refine qHP hS 1 [(2, .qui), (3, .seq), (4, .qui)] [(4, .P b5 0), (90, .agg (rdV r a6rO k6rO a3r k3r a4r k4r).toArray), (91, .P b1 13)] ?_
      refine qHL 92 [(3, .seq), (4, .qui)] 28 b1 13 13 (.I r.done) hS (H.cells 3 rfl) (nq1 (H.raws 3 1 rfl rfl (by decide))) ?_
      have Hr := H
      refine RH.sto ?_
      refine qWC 30 b5 0 [] (.agg (rdV r a6rO k6rO a3r k3r a4r k4r).toArray) [(b26, .cells #[.int .u64 r.object.version, .I i, .int .u64 r.object.epoch, .I r.kk, .I r.nn, .I r.object.size, .int .u32 0] 84 (0, 0)), (b5, .cells (rdV r a6rO k6rO a3r k3r a4r k4r).toArray 30 (0, 0)), (b3, .cells #[.I 15, .I frm, x2, x3, x4, x5, x6, x7, .bool ok, x9, x10, x11, x12, .int .u64 hd.id.version, .I hd.id.index, .int .u64 hd.id.epoch, .I hd.kk, .I hd.nn, .I hd.size, .int .u32 ((hd.sum.toNat : Nat) : Int), .slice ad dt.length ce, x21, x22, x23, x24, x25, x26] 89 (0, 0)), (b1, .cells (rdV r a6rO k6rO a3r k3r a4r k4r).toArray 30 (0, 0))] H 1 rfl rfl ?_
      intro w37 hch36 H
      have hS38 := hS.sto hch36 (.inr (by simp))
      refine ⟨hS38, ?_⟩
      have hS := hS38
      refine RH.fin hS 1 [4, 5] [(4, .P b5 0), (5, .I r.done)] (by as_aux_lemma => kernel_rfl) ?_
      refine qRB (.tuple #[.agg (rdV r a6rO k6rO a3r k3r a4r k4r).toArray, .I r.done]) Tryz.func25 (v2 (.cell 4 30) (.tmp 5) (vC (H.cells 1 rfl)) vT) ?_
      have hpost : (r : Rd) = gotR r frm hd dt ok := by
       clear H
       symm
       unfold gotR
       rw [if_neg (by rw [hw9]; decide)]; rw [rfind_hit (i := i) (by omega) hhit9 hinv0.2]; simp only []; rw [if_neg (by rw [hop8]; decide)]
      exact ⟨_, rfl, H.done, [.string r.object.key, .int .u64 r.object.version, .I r.object.size, .int .u32 ((r.object.sum.toNat : Nat) : Int), .I r.object.group, .int .u64 r.object.epoch, .slice a6rO r.object.nodes.length k6rO, .I r.kk, .I r.nn, .slice a3r r.pieces.length k3r, .slice a4r r.bad.length k4r, .I r.waited, .I r.limit, .I r.done], r, rfl, H.out (rd_mkB (by unfold rdB; omega) (H.rp 1 rfl) (H.rp 2 rfl) (H.rp 3 rfl)), hpost⟩
     ·
      replace h33 : (openR r (i : Int)) = true := by revert h33; cases (openR r (i : Int)) <;> simp
      have hop9 : openR r (i : Int) = true := by first | assumption | (simpa using h33)
      refine qR 2 [.c [2, 0, 1, 0, 0, 2, 0, 0, 4, 0], .c [2, 0, 1, 0, 0, 2, 0, 0, 5], .b 1, .c [2, 0, 1, 0, 0, 3], .l [2, 0, 1, 0, 0], .b 0, .c [3]] [(2, .P b1 0), (3, .P b3 0), (4, .P b5 0), (6, .I i), (8, .P b26 0)] ?_
      refine qG (sq 0 5) ?_
      refine qP 2 (sq 2 5) [(2, .P b1 0), (3, .P b3 0), (4, .P b5 0), (6, .I i), (8, .P b26 0), (49, .P b3 19)] ?_
      refine qL .seq 50 (sq 3 5) 23 b3 19 19 (.int .u32 ((hd.sum.toNat : Nat) : Int)) (H.cells 2 rfl) ?_
      refine qP 1 (sq 4 5) [(2, .P b1 0), (3, .P b3 0), (4, .P b5 0), (6, .I i), (8, .P b26 0), (50, .int .u32 ((hd.sum.toNat : Nat) : Int)), (51, .P b26 6)] ?_
      refine qW 23 b26 6 (sq 5 5) (.int .u32 ((hd.sum.toNat : Nat) : Int)) [(b26, .cells #[.int .u64 r.object.version, .I i, .int .u64 r.object.epoch, .I r.kk, .I r.nn, .I r.object.size, .int .u32 ((hd.sum.toNat : Nat) : Int)] 84 (0, 0)), (b5, .cells (rdZ).toArray 30 (0, 0)), (b3, .cells #[.I 15, .I frm, x2, x3, x4, x5, x6, x7, .bool ok, x9, x10, x11, x12, .int .u64 hd.id.version, .I hd.id.index, .int .u64 hd.id.epoch, .I hd.kk, .I hd.nn, .I hd.size, .int .u32 ((hd.sum.toNat : Nat) : Int), .slice ad dt.length ce, x21, x22, x23, x24, x25, x26] 89 (0, 0)), (b1, .cells (rdV r a6rO k6rO a3r k3r a4r k4r).toArray 30 (0, 0))] H 0 rfl rfl ?_
      intro w39 H
      refine qF 0 [(2, .P b1 0), (3, .P b3 0), (4, .P b5 0), (6, .I i), (8, .P b26 0)] ?_
      refine qR 2 [.c [2, 0, 1, 0, 0, 2, 0, 0, 5, 0, 0], .c [2, 0, 1, 0, 0, 2, 0, 0, 5, 0, 1], .c [2, 0, 1, 0, 0, 2, 0, 0, 6], .b 1, .c [2, 0, 1, 0, 0, 3], .l [2, 0, 1, 0, 0], .b 0, .c [3]] [(2, .P b1 0), (3, .P b3 0), (4, .P b5 0), (6, .I i), (8, .P b26 0)] ?_
      refine WK.joinV (α := Bool) (fun x_ w_ => match x_ with | gb => Hp w S [] [(b26, .cells #[.int .u64 r.object.version, .I i, .int .u64 r.object.epoch, .I r.kk, .I r.nn, .I r.object.size, .int .u32 ((hd.sum.toNat : Nat) : Int)] 84 (0, 0)), (b5, .cells (rdZ).toArray 30 (0, 0)), (b3, .cells #[.I 15, .I frm, x2, x3, x4, x5, x6, x7, .bool ok, x9, x10, x11, x12, .int .u64 hd.id.version, .I hd.id.index, .int .u64 hd.id.epoch, .I hd.kk, .I hd.nn, .I hd.size, .int .u32 ((hd.sum.toNat : Nat) : Int), .slice ad dt.length ce, x21, x22, x23, x24, x25, x26] 89 (0, 0)), (b1, .cells (rdV r a6rO k6rO a3r k3r a4r k4r).toArray 30 (0, 0))] [] [Fc b19 o20 [.I (r.object.nodes[i])], Rp Li [.slice a6rO r.object.nodes.length k6rO] r.object.nodes, Rp (Shape.slice pcS) [.slice a3r r.pieces.length k3r] r.pieces, Rp Li [.slice a4r r.bad.length k4r] r.bad, Rp SB [.slice ad dt.length ce] dt] w_ ∧ gb = decide (goodR r i hd dt ok)) (fun x_ => match x_ with | gb => [(2, .P b1 0), (3, .P b3 0), (4, .P b5 0), (6, .I i), (67, .bool gb)]) [Cq Tryz.prog 25 [2, 0, 1, 0, 0, 2, 0, 0, 5, 0, 1], Cq Tryz.prog 25 [2, 0, 1, 0, 0, 2, 0, 0, 6], .inBlock 1, Cq Tryz.prog 25 [2, 0, 1, 0, 0, 3], Lq Tryz.prog 25 [2, 0, 1, 0, 0], .inBlock 0, Cq Tryz.prog 25 [3]] (fun hJ40 => ?_) ?_
      ·
       refine qG (sq 0 16) ?_
       refine qP 1 (sq 1 16) [(2, .P b1 0), (3, .P b3 0), (4, .P b5 0), (6, .I i), (8, .P b26 0), (52, .P b3 8)] ?_
       refine qL .seq 53 (sq 2 16) 4 b3 8 8 (.bool ok) (H.cells 2 rfl) ?_
       refine qP 1 (sq 3 16) [(2, .P b1 0), (3, .P b3 0), (4, .P b5 0), (6, .I i), (8, .P b26 0), (54, .bool ok)] ?_
       refine RW.test (fun b_ => [(2, .P b1 0), (3, .P b3 0), (4, .P b5 0), (6, .I i), (8, .P b26 0), (54, .bool b_)]) ok (fun h42 => ?_) (fun h42 => ?_)
       ·
        have hok9 : ok = true := h42
        refine qP 1 (sq 4 16) [(2, .P b1 0), (3, .P b3 0), (4, .P b5 0), (6, .I i), (8, .P b26 0), (54, .bool true), (55, .P b3 13)] ?_
        refine qL .seq 56 (sq 5 16) 84 b3 13 13 (.agg (hdrV hd).toArray) (H.cells 2 rfl) ?_
        refine qL .seq 57 (sq 6 16) 84 b26 0 0 (.agg #[.int .u64 r.object.version, .I i, .int .u64 r.object.epoch, .I r.kk, .I r.nn, .I r.object.size, .int .u32 ((hd.sum.toNat : Nat) : Int)]) (H.cells 0 rfl) ?_
        refine RW.eqA (κ := .seq) (d := some 58) (r := (sq 7 16)) (T := 84) (xs := #[.int .u64 hd.id.version, .I hd.id.index, .int .u64 hd.id.epoch, .I hd.kk, .I hd.nn, .I hd.size, .int .u32 ((hd.sum.toNat : Nat) : Int)]) (ys := #[.int .u64 r.object.version, .I i, .int .u64 r.object.epoch, .I r.kk, .I r.nn, .I r.object.size, .int .u32 ((hd.sum.toNat : Nat) : Int)]) (ox := (.tmp 56)) (oy := (.tmp 57)) [((hd.id.version : Int) == r.object.version), ((hd.id.index : Int) == (i : Int)), ((hd.id.epoch : Int) == r.object.epoch), ((hd.kk : Int) == r.kk), ((hd.nn : Int) == r.nn), ((hd.size : Int) == r.object.size), ((((hd.sum.toNat : Nat) : Int) : Int) == ((hd.sum.toNat : Nat) : Int))] (by as_aux_lemma => kernel_rfl) (by as_aux_lemma => kernel_rfl) (by as_aux_lemma => kernel_rfl) ?_
        refine qP 2 (sq 9 16) [(2, .P b1 0), (3, .P b3 0), (4, .P b5 0), (6, .I i), (8, .P b26 0), (60, .bool ([((hd.id.version : Int) == r.object.version), ((hd.id.index : Int) == (i : Int)), ((hd.id.epoch : Int) == r.object.epoch), ((hd.kk : Int) == r.kk), ((hd.nn : Int) == r.nn), ((hd.size : Int) == r.object.size), ((((hd.sum.toNat : Nat) : Int) : Int) == ((hd.sum.toNat : Nat) : Int))].all id))] ?_
        refine RW.test (fun b_ => [(2, .P b1 0), (3, .P b3 0), (4, .P b5 0), (6, .I i), (8, .P b26 0), (60, .bool b_)]) ([((hd.id.version : Int) == r.object.version), ((hd.id.index : Int) == (i : Int)), ((hd.id.epoch : Int) == r.object.epoch), ((hd.kk : Int) == r.kk), ((hd.nn : Int) == r.nn), ((hd.size : Int) == r.object.size), ((((hd.sum.toNat : Nat) : Int) : Int) == ((hd.sum.toNat : Nat) : Int))].all id) (fun h43 => ?_) (fun h43 => ?_)
        ·
         have heqh9 := hdr7.1 h43
         refine qL .seq 61 (sq 10 16) 84 b26 0 0 (.agg #[.int .u64 r.object.version, .I i, .int .u64 r.object.epoch, .I r.kk, .I r.nn, .I r.object.size, .int .u32 ((hd.sum.toNat : Nat) : Int)]) (H.cells 0 rfl) ?_
         refine qP 1 (sq 11 16) [(2, .P b1 0), (3, .P b3 0), (4, .P b5 0), (6, .I i), (60, .bool true), (61, .agg #[.int .u64 r.object.version, .I i, .int .u64 r.object.epoch, .I r.kk, .I r.nn, .I r.object.size, .int .u32 ((hd.sum.toNat : Nat) : Int)]), (62, .P b3 20)] ?_
         refine qL .seq 63 (sq 12 16) 62 b3 20 20 (.slice ad dt.length ce) (H.cells 2 rfl) ?_
         refine qP 1 (sq 13 16) [(2, .P b1 0), (3, .P b3 0), (4, .P b5 0), (6, .I i), (60, .bool true), (64, .agg #[.int .u64 r.object.version, .I i, .int .u64 r.object.epoch, .I r.kk, .I r.nn, .I r.object.size, .int .u32 ((hd.sum.toNat : Nat) : Int), .slice ad dt.length ce, .bool false])] ?_
         refine qK .seq (some 65) (sq 14 16) 45 #[.agg #[.int .u64 r.object.version, .I i, .int .u64 r.object.epoch, .I r.kk, .I r.nn, .I r.object.size, .int .u32 ((hd.sum.toNat : Nat) : Int), .slice ad dt.length ce, .bool false]] (whole_spec (C := ⟨⟨⟨r.object.version, (i : Int), r.object.epoch⟩, r.kk, r.nn, r.object.size, hd.sum⟩, dt, false⟩) (chk_mk (hdr_mk (cid_mk u64a i64a u64a) i64a i64a i64a Shape.bv_mk) (H.rp 4 rfl) Shape.bool_mk)) ?_
         rintro _ w44 hE45 rfl
         have H := H.ext hE45
         refine qF 2 [(2, .P b1 0), (3, .P b3 0), (4, .P b5 0), (6, .I i), (67, .bool ((wholeE (⟨⟨r.object.version, (i : Int), r.object.epoch⟩, r.kk, r.nn, r.object.size, hd.sum⟩) dt) == 0))] ?_
         exact hJ40 ((wholeE (⟨⟨r.object.version, (i : Int), r.object.epoch⟩, r.kk, r.nn, r.object.size, hd.sum⟩) dt) == 0) _ ⟨H, by rw [Bool.eq_iff_iff, decide_eq_true_iff, beq_iff_eq]; exact ⟨fun h => ⟨hok9, heqh9, h⟩, fun h => h.2.2⟩⟩
        ·
         have hng9 : ¬ goodR r i hd dt ok := fun g => hdr7_no h43 g.2.1
         refine qF 7 [(2, .P b1 0), (3, .P b3 0), (4, .P b5 0), (6, .I i), (67, .bool false)] ?_
         exact hJ40 (false) _ ⟨H, (decide_eq_false hng9).symm⟩
       ·
        have hng9 : ¬ goodR r i hd dt ok := fun g => absurd (g.1.symm.trans h42) (by decide)
        refine qF 13 [(2, .P b1 0), (3, .P b3 0), (4, .P b5 0), (6, .I i), (67, .bool false)] ?_
        exact hJ40 (false) _ ⟨H, (decide_eq_false hng9).symm⟩
      ·
       rintro gb w41 ⟨H, hgb⟩
       refine qC gb (fun h47 => ?_) (fun h47 => ?_)
       ·
        rw [hgb] at h47
        replace h47 := of_decide_eq_true h47
        have hgd9 : goodR r i hd dt ok := h47
        have hR1 : RdOf xs k n (putR r i dt) := hR.put hop9 (by omega) (hgood i hhit9 hgd9)
        refine WK.draw1 11 [(0, .qui), (1, .qui), (3, .qui), (4, .qui), (5, .qui), (2, .chn), (6, .chn), (7, .qui), (8, .chn), (9, .chn), (10, .qui)] [(0, .qui), (1, .qui), (3, .qui), (4, .qui), (5, .qui), (2, .chn), (6, .chn), (7, .qui), (8, .chn), (9, .chn), (10, .qui), (11, .seq)] Try_mixed (by as_aux_lemma => kernel_rfl) (by as_aux_lemma => kernel_rfl) (by as_aux_lemma => kernel_rfl) ?_
        have H := H.draw
        generalize ({ w41 with drawn := w41.drawn + 1 } : World) = w48 at H ⊢
        refine qP 1 [(1, .qui), (3, .qui), (4, .qui), (5, .qui), (2, .chn), (6, .chn), (7, .qui), (8, .chn), (9, .chn), (10, .qui), (11, .seq)] [(2, .P b1 0), (3, .P b3 0), (4, .P b5 0), (6, .I i), (68, .P b1 9)] ?_
        refine qL .qui 69 [(3, .qui), (4, .qui), (5, .qui), (2, .chn), (6, .chn), (7, .qui), (8, .chn), (9, .chn), (10, .qui), (11, .seq)] 27 b1 9 9 (.slice a3r r.pieces.length k3r) (H.cells 3 rfl) ?_
        refine qP 2 [(5, .qui), (2, .chn), (6, .chn), (7, .qui), (8, .chn), (9, .chn), (10, .qui), (11, .seq)] [(2, .P b1 0), (4, .P b5 0), (69, .slice a3r r.pieces.length k3r), (71, .I i), (72, .P b3 20)] ?_
        refine qL .qui 73 [(2, .chn), (6, .chn), (7, .qui), (8, .chn), (9, .chn), (10, .qui), (11, .seq)] 62 b3 20 20 (.slice ad dt.length ce) (H.cells 2 rfl) ?_
        refine qK .chn (some 70) [(6, .chn), (7, .qui), (8, .chn), (9, .chn), (10, .qui), (11, .seq)] 46 #[.slice a3r r.pieces.length k3r] (clip_pc (ps := r.pieces) (H.rp 2 rfl)) ?_
        rintro _ w49 hE50 rfl
        have H := H.ext hE50
        have H := H.add (F := Rp (Shape.slice pcS) [.slice a3r r.pieces.length r.pieces.length] r.pieces) (Shape.clip_rep (H.rp 2 rfl))
        refine qK .chn (some 74) [(7, .qui), (8, .chn), (9, .chn), (10, .qui), (11, .seq)] 47 #[.slice ad dt.length ce] (bclone_spec (H.rp 5 rfl) (by omega)) ?_
        rintro v53 w52 - H'
        have H := H.back (M1 := []) (W1 := []) H'
        obtain ⟨a54, c55, rfl, hc56, hm57⟩ := H.ownForm 0 rfl
        have H : Hp w S [] [(b26, .cells #[.int .u64 r.object.version, .I i, .int .u64 r.object.epoch, .I r.kk, .I r.nn, .I r.object.size, .int .u32 ((hd.sum.toNat : Nat) : Int)] 84 (0, 0)), (b5, .cells (rdZ).toArray 30 (0, 0)), (b3, .cells #[.I 15, .I frm, x2, x3, x4, x5, x6, x7, .bool ok, x9, x10, x11, x12, .int .u64 hd.id.version, .I hd.id.index, .int .u64 hd.id.epoch, .I hd.kk, .I hd.nn, .I hd.size, .int .u32 ((hd.sum.toNat : Nat) : Int), .slice ad dt.length ce, x21, x22, x23, x24, x25, x26] 89 (0, 0)), (b1, .cells (rdV r a6rO k6rO a3r k3r a4r k4r).toArray 30 (0, 0))] [⟨Sb, 5, .slice a54 dt.length c55, dt⟩] [Rp (Shape.slice pcS) [.slice a3r r.pieces.length r.pieces.length] r.pieces, Fc b19 o20 [.I (r.object.nodes[i])], Rp Li [.slice a6rO r.object.nodes.length k6rO] r.object.nodes, Rp (Shape.slice pcS) [.slice a3r r.pieces.length k3r] r.pieces, Rp Li [.slice a4r r.bad.length k4r] r.bad, Rp SB [.slice ad dt.length ce] dt] _ := H
        refine qP 1 [(8, .chn), (9, .chn), (10, .qui), (11, .seq)] [(2, .P b1 0), (4, .P b5 0), (70, .slice a3r r.pieces.length r.pieces.length), (75, .agg #[.I i, .slice a54 dt.length c55])] ?_
        refine RW.new (κ := .chn) (d := some 76) (r := [(9, .chn), (10, .qui), (11, .seq)]) (o := .cells #[.I i, .slice a54 dt.length c55] 64 (0, 0)) (v := fun b => .slice (some ⟨b, 0, none⟩) 1 1) (fun b => by as_aux_lemma => kernel_rfl) (nofun) H ?_
        intro b58 w59 H
        have H : Hp w S [] [(b58, .cells #[.I i, .slice a54 dt.length c55] 64 (0, 0)), (b26, .cells #[.int .u64 r.object.version, .I i, .int .u64 r.object.epoch, .I r.kk, .I r.nn, .I r.object.size, .int .u32 ((hd.sum.toNat : Nat) : Int)] 84 (0, 0)), (b5, .cells (rdZ).toArray 30 (0, 0)), (b3, .cells #[.I 15, .I frm, x2, x3, x4, x5, x6, x7, .bool ok, x9, x10, x11, x12, .int .u64 hd.id.version, .I hd.id.index, .int .u64 hd.id.epoch, .I hd.kk, .I hd.nn, .I hd.size, .int .u32 ((hd.sum.toNat : Nat) : Int), .slice ad dt.length ce, x21, x22, x23, x24, x25, x26] 89 (0, 0)), (b1, .cells (rdV r a6rO k6rO a3r k3r a4r k4r).toArray 30 (0, 0))] [] [Rp SB [.slice a54 dt.length c55] dt, Rp (Shape.slice pcS) [.slice a3r r.pieces.length r.pieces.length] r.pieces, Fc b19 o20 [.I (r.object.nodes[i])], Rp Li [.slice a6rO r.object.nodes.length k6rO] r.object.nodes, Rp (Shape.slice pcS) [.slice a3r r.pieces.length k3r] r.pieces, Rp Li [.slice a4r r.bad.length k4r] r.bad, Rp SB [.slice ad dt.length ce] dt] _ := H.freezeW 0 rfl
        have H := H.freeze 0 rfl pcS ([⟨(i : Int), dt⟩] : List Pc) 1 (by simp [maxLen]) (by first | exact Nat.le_refl _ | simp) (EsP.cons (c := [.I i, .slice a54 dt.length c55]) (pc_mk i64a (H.rp 0 rfl)) EsP.nil)
        have H : Hp w S [] [(b26, .cells #[.int .u64 r.object.version, .I i, .int .u64 r.object.epoch, .I r.kk, .I r.nn, .I r.object.size, .int .u32 ((hd.sum.toNat : Nat) : Int)] 84 (0, 0)), (b5, .cells (rdZ).toArray 30 (0, 0)), (b3, .cells #[.I 15, .I frm, x2, x3, x4, x5, x6, x7, .bool ok, x9, x10, x11, x12, .int .u64 hd.id.version, .I hd.id.index, .int .u64 hd.id.epoch, .I hd.kk, .I hd.nn, .I hd.size, .int .u32 ((hd.sum.toNat : Nat) : Int), .slice ad dt.length ce, x21, x22, x23, x24, x25, x26] 89 (0, 0)), (b1, .cells (rdV r a6rO k6rO a3r k3r a4r k4r).toArray 30 (0, 0))] [] [Rp (Shape.slice pcS) [.slice (some ⟨b58, 0, none⟩) 1 1] ([⟨(i : Int), dt⟩] : List Pc), Rp SB [.slice a54 dt.length c55] dt, Rp (Shape.slice pcS) [.slice a3r r.pieces.length r.pieces.length] r.pieces, Fc b19 o20 [.I (r.object.nodes[i])], Rp Li [.slice a6rO r.object.nodes.length k6rO] r.object.nodes, Rp (Shape.slice pcS) [.slice a3r r.pieces.length k3r] r.pieces, Rp Li [.slice a4r r.bad.length k4r] r.bad, Rp SB [.slice ad dt.length ce] dt] _ := H
        refine RW.appendC (κ := .chn) (d := some 77) (r := [(10, .qui), (11, .seq)]) (T := 27) (ty := 27) (e := 64) (m := 2) (by_ := 32) (a1 := a3r) (l1 := r.pieces.length) (a2 := (some ⟨b58, 0, none⟩)) (l2 := 1) (c2 := 1) (zs := (r.pieces ++ ([⟨(i : Int), dt⟩] : List Pc))) (by as_aux_lemma => kernel_rfl) (nofun) (by as_aux_lemma => kernel_rfl) rfl H 2 rfl 0 rfl (by simp) (rfl) (by rw [List.length_append]; simp only [List.length_cons, List.length_nil]; omega) ?_
        intro a60 c61 w62 H
        refine qP 1 [(11, .seq)] [(2, .P b1 0), (4, .P b5 0), (77, .slice a60 ((r.pieces ++ ([⟨(i : Int), dt⟩] : List Pc)).length) c61), (78, .P b1 9)] ?_
        refine qW 27 b1 9 [] (.slice a60 ((r.pieces ++ ([⟨(i : Int), dt⟩] : List Pc)).length) c61) [(b26, .cells #[.int .u64 r.object.version, .I i, .int .u64 r.object.epoch, .I r.kk, .I r.nn, .I r.object.size, .int .u32 ((hd.sum.toNat : Nat) : Int)] 84 (0, 0)), (b5, .cells (rdZ).toArray 30 (0, 0)), (b3, .cells #[.I 15, .I frm, x2, x3, x4, x5, x6, x7, .bool ok, x9, x10, x11, x12, .int .u64 hd.id.version, .I hd.id.index, .int .u64 hd.id.epoch, .I hd.kk, .I hd.nn, .I hd.size, .int .u32 ((hd.sum.toNat : Nat) : Int), .slice ad dt.length ce, x21, x22, x23, x24, x25, x26] 89 (0, 0)), (b1, .cells ((rdV r a6rO k6rO none 0 a4r k4r).set 9 (.slice a60 ((r.pieces ++ ([⟨(i : Int), dt⟩] : List Pc)).length) c61)).toArray 30 (0, 0))] H 3 rfl rfl ?_
        intro w63 H
        refine qF 0 [(2, .P b1 0), (4, .P b5 0)] ?_
        refine qR 1 [.c [2, 0, 1, 0, 0, 2, 0, 0, 6, 0], .c [2, 0, 1, 0, 0, 2, 0, 0, 7], .b 1, .c [2, 0, 1, 0, 0, 3], .l [2, 0, 1, 0, 0], .b 0, .c [3]] [(2, .P b1 0), (4, .P b5 0)] ?_
        refine qG (sq 0 4) ?_
        refine qL .seq 86 (sq 1 4) 30 b1 0 0 (.agg ((rdV r a6rO k6rO none 0 a4r k4r).set 9 (.slice a60 ((r.pieces ++ ([⟨(i : Int), dt⟩] : List Pc)).length) c61)).toArray) (H.cells 3 rfl) ?_
        refine qK .seq (some 87) (sq 2 4) 49 #[.agg ((rdV r a6rO k6rO none 0 a4r k4r).set 9 (.slice a60 ((r.pieces ++ ([⟨(i : Int), dt⟩] : List Pc)).length) c61)).toArray] (judge_spec (r := ⟨r.object, r.kk, r.nn, (r.pieces ++ ([⟨(i : Int), dt⟩] : List Pc)), r.bad, r.waited, r.limit, r.done⟩) (rd_mk (y0 := r.object) (obj_mk (y0 := r.object.key) (y1 := r.object.version) (y2 := r.object.size) (y3 := r.object.sum) (y4 := r.object.group) (y5 := r.object.epoch) (y6 := r.object.nodes) ⟨rfl, h0rO⟩ u64a i64a Shape.bv_mk i64a u64a (H.rp 5 rfl)) i64a i64a (H.rp 0 rfl) (H.rp 7 rfl) i64a i64a i64a) (by exact hR1)) ?_
        rintro _ w64 hE65 rfl
        have H := H.ext hE65
        have hjb9 := judgeR_bd (⟨r.object, r.kk, r.nn, (r.pieces ++ ([⟨(i : Int), dt⟩] : List Pc)), r.bad, r.waited, r.limit, r.done⟩)
        refine qP 1 (sq 3 4) [(2, .P b1 0), (4, .P b5 0), (87, .I (judgeR (⟨r.object, r.kk, r.nn, (r.pieces ++ ([⟨(i : Int), dt⟩] : List Pc)), r.bad, r.waited, r.limit, r.done⟩))), (88, .P b1 13)] ?_
        refine qW 28 b1 13 (sq 4 4) (.I (judgeR (⟨r.object, r.kk, r.nn, (r.pieces ++ ([⟨(i : Int), dt⟩] : List Pc)), r.bad, r.waited, r.limit, r.done⟩))) [(b26, .cells #[.int .u64 r.object.version, .I i, .int .u64 r.object.epoch, .I r.kk, .I r.nn, .I r.object.size, .int .u32 ((hd.sum.toNat : Nat) : Int)] 84 (0, 0)), (b5, .cells (rdZ).toArray 30 (0, 0)), (b3, .cells #[.I 15, .I frm, x2, x3, x4, x5, x6, x7, .bool ok, x9, x10, x11, x12, .int .u64 hd.id.version, .I hd.id.index, .int .u64 hd.id.epoch, .I hd.kk, .I hd.nn, .I hd.size, .int .u32 ((hd.sum.toNat : Nat) : Int), .slice ad dt.length ce, x21, x22, x23, x24, x25, x26] 89 (0, 0)), (b1, .cells (((rdV r a6rO k6rO none 0 a4r k4r).set 9 (.slice a60 ((r.pieces ++ ([⟨(i : Int), dt⟩] : List Pc)).length) c61)).set 13 (.I (judgeR (⟨r.object, r.kk, r.nn, (r.pieces ++ ([⟨(i : Int), dt⟩] : List Pc)), r.bad, r.waited, r.limit, r.done⟩)))).toArray 30 (0, 0))] H 3 rfl rfl ?_
        intro w66 H
        refine qF 0 [(2, .P b1 0), (4, .P b5 0)] ?_
        refine qR 2 [.c [3, 0], .c [4]] [(2, .P b1 0), (4, .P b5 0)] ?_
        refine WK.drawH1 [b5] (.leaf [(0, .qui), (1, .qui), (2, .qui), (3, .seq), (4, .qui)]) Try_mixed (by as_aux_lemma => kernel_rfl) (by as_aux_lemma => kernel_rfl) ?_
        intro w67 hw68
        have H := H.draw
        rw [← hw68] at H
        clear hw68
        have hS := Chg.refl w67 [b5]
        refine RG.leaf' [(0, .qui), (1, .qui), (2, .qui), (3, .seq), (4, .qui)] (by as_aux_lemma => kernel_rfl) ?_
        refine qHL 90 [(1, .qui), (2, .qui), (3, .seq), (4, .qui)] 30 b1 0 0 (.agg (((rdV r a6rO k6rO none 0 a4r k4r).set 9 (.slice a60 ((r.pieces ++ ([⟨(i : Int), dt⟩] : List Pc)).length) c61)).set 13 (.I (judgeR (⟨r.object, r.kk, r.nn, (r.pieces ++ ([⟨(i : Int), dt⟩] : List Pc)), r.bad, r.waited, r.limit, r.done⟩)))).toArray) hS (H.cells 3 rfl) (nq1 (H.raws 3 1 rfl rfl (by decide))) ?_
        refine qHP hS 1 [(2, .qui), (3, .seq), (4, .qui)] [(4, .P b5 0), (90, .agg (((rdV r a6rO k6rO none 0 a4r k4r).set 9 (.slice a60 ((r.pieces ++ ([⟨(i : Int), dt⟩] : List Pc)).length) c61)).set 13 (.I (judgeR (⟨r.object, r.kk, r.nn, (r.pieces ++ ([⟨(i : Int), dt⟩] : List Pc)), r.bad, r.waited, r.limit, r.done⟩)))).toArray), (91, .P b1 13)] ?_
        refine qHL 92 [(3, .seq), (4, .qui)] 28 b1 13 13 (.I (judgeR (⟨r.object, r.kk, r.nn, (r.pieces ++ ([⟨(i : Int), dt⟩] : List Pc)), r.bad, r.waited, r.limit, r.done⟩))) hS (H.cells 3 rfl) (nq1 (H.raws 3 1 rfl rfl (by decide))) ?_
        have Hr := H
        refine RH.sto ?_
        refine qWC 30 b5 0 [] (.agg (((rdV r a6rO k6rO none 0 a4r k4r).set 9 (.slice a60 ((r.pieces ++ ([⟨(i : Int), dt⟩] : List Pc)).length) c61)).set 13 (.I (judgeR (⟨r.object, r.kk, r.nn, (r.pieces ++ ([⟨(i : Int), dt⟩] : List Pc)), r.bad, r.waited, r.limit, r.done⟩)))).toArray) [(b26, .cells #[.int .u64 r.object.version, .I i, .int .u64 r.object.epoch, .I r.kk, .I r.nn, .I r.object.size, .int .u32 ((hd.sum.toNat : Nat) : Int)] 84 (0, 0)), (b5, .cells (((rdV r a6rO k6rO none 0 a4r k4r).set 9 (.slice a60 ((r.pieces ++ ([⟨(i : Int), dt⟩] : List Pc)).length) c61)).set 13 (.I (judgeR (⟨r.object, r.kk, r.nn, (r.pieces ++ ([⟨(i : Int), dt⟩] : List Pc)), r.bad, r.waited, r.limit, r.done⟩)))).toArray 30 (0, 0)), (b3, .cells #[.I 15, .I frm, x2, x3, x4, x5, x6, x7, .bool ok, x9, x10, x11, x12, .int .u64 hd.id.version, .I hd.id.index, .int .u64 hd.id.epoch, .I hd.kk, .I hd.nn, .I hd.size, .int .u32 ((hd.sum.toNat : Nat) : Int), .slice ad dt.length ce, x21, x22, x23, x24, x25, x26] 89 (0, 0)), (b1, .cells (((rdV r a6rO k6rO none 0 a4r k4r).set 9 (.slice a60 ((r.pieces ++ ([⟨(i : Int), dt⟩] : List Pc)).length) c61)).set 13 (.I (judgeR (⟨r.object, r.kk, r.nn, (r.pieces ++ ([⟨(i : Int), dt⟩] : List Pc)), r.bad, r.waited, r.limit, r.done⟩)))).toArray 30 (0, 0))] H 1 rfl rfl ?_
        intro w70 hch69 H
        have hS71 := hS.sto hch69 (.inr (by simp))
        refine ⟨hS71, ?_⟩
        have hS := hS71
        refine RH.fin hS 1 [4, 5] [(4, .P b5 0), (5, .I (judgeR (⟨r.object, r.kk, r.nn, (r.pieces ++ ([⟨(i : Int), dt⟩] : List Pc)), r.bad, r.waited, r.limit, r.done⟩)))] (by as_aux_lemma => kernel_rfl) ?_
        refine qRB (.tuple #[.agg (((rdV r a6rO k6rO none 0 a4r k4r).set 9 (.slice a60 ((r.pieces ++ ([⟨(i : Int), dt⟩] : List Pc)).length) c61)).set 13 (.I (judgeR (⟨r.object, r.kk, r.nn, (r.pieces ++ ([⟨(i : Int), dt⟩] : List Pc)), r.bad, r.waited, r.limit, r.done⟩)))).toArray, .I (judgeR (⟨r.object, r.kk, r.nn, (r.pieces ++ ([⟨(i : Int), dt⟩] : List Pc)), r.bad, r.waited, r.limit, r.done⟩))]) Tryz.func25 (v2 (.cell 4 30) (.tmp 5) (vC (H.cells 1 rfl)) vT) ?_
        have hpost : (⟨r.object, r.kk, r.nn, (r.pieces ++ ([⟨(i : Int), dt⟩] : List Pc)), r.bad, r.waited, r.limit, judgeR (⟨r.object, r.kk, r.nn, (r.pieces ++ ([⟨(i : Int), dt⟩] : List Pc)), r.bad, r.waited, r.limit, r.done⟩)⟩ : Rd) = gotR r frm hd dt ok := by
         clear H
         symm
         unfold gotR
         rw [if_neg (by rw [hw9]; decide)]; rw [rfind_hit (i := i) (by omega) hhit9 hinv0.2]; simp only []; rw [if_pos hop9]; unfold stepR; rw [if_pos hgd9]; rfl
        exact ⟨_, rfl, H.done, [.string r.object.key, .int .u64 r.object.version, .I r.object.size, .int .u32 ((r.object.sum.toNat : Nat) : Int), .I r.object.group, .int .u64 r.object.epoch, .slice a6rO r.object.nodes.length k6rO, .I r.kk, .I r.nn, .slice a60 ((r.pieces ++ ([⟨(i : Int), dt⟩] : List Pc)).length) c61, .slice a4r r.bad.length k4r, .I r.waited, .I r.limit, .I (judgeR (⟨r.object, r.kk, r.nn, (r.pieces ++ ([⟨(i : Int), dt⟩] : List Pc)), r.bad, r.waited, r.limit, r.done⟩))], ⟨r.object, r.kk, r.nn, (r.pieces ++ ([⟨(i : Int), dt⟩] : List Pc)), r.bad, r.waited, r.limit, judgeR (⟨r.object, r.kk, r.nn, (r.pieces ++ ([⟨(i : Int), dt⟩] : List Pc)), r.bad, r.waited, r.limit, r.done⟩)⟩, rfl, H.out (rd_mk (y0 := r.object) (obj_mk (y0 := r.object.key) (y1 := r.object.version) (y2 := r.object.size) (y3 := r.object.sum) (y4 := r.object.group) (y5 := r.object.epoch) (y6 := r.object.nodes) ⟨rfl, h0rO⟩ u64a i64a Shape.bv_mk i64a u64a (H.rp 5 rfl)) i64a i64a (H.rp 0 rfl) (H.rp 7 rfl) i64a i64a i64a), hpost⟩
       ·
        rw [hgb] at h47
        replace h47 := of_decide_eq_false h47
        have hgd9 : ¬ goodR r i hd dt ok := h47
        have hR1 : RdOf xs k n (badR r i) := { hR with }
        refine qG (sq 0 8) ?_
        refine qP 1 (sq 1 8) [(2, .P b1 0), (4, .P b5 0), (6, .I i), (79, .P b1 10)] ?_
        refine qL .seq 80 (sq 2 8) 24 b1 10 10 (.slice a4r r.bad.length k4r) (H.cells 3 rfl) ?_
        refine qK .seq (some 81) (sq 3 8) 48 #[.slice a4r r.bad.length k4r] (clip_int (xs := r.bad) (H.rp 3 rfl)) ?_
        rintro _ w72 hE73 rfl
        have H := H.ext hE73
        have H := H.add (F := Rp Li [.slice a4r r.bad.length r.bad.length] r.bad) (Shape.clip_rep (H.rp 3 rfl))
        refine qP 1 (sq 4 8) [(2, .P b1 0), (4, .P b5 0), (81, .slice a4r r.bad.length r.bad.length), (82, .I i)] ?_
        refine RW.new (κ := .seq) (d := some 83) (r := (sq 5 8)) (o := .cells #[.I i] 3 (0, 0)) (v := fun b => .slice (some ⟨b, 0, none⟩) 1 1) (fun b => by as_aux_lemma => kernel_rfl) (nofun) H ?_
        intro b75 w76 H
        have H := H.freeze 0 rfl Si ([(i : Int)] : List Int) 1 (by simp [maxLen]) (by first | exact Nat.le_refl _ | simp) (EsP.cons (c := [.I i]) i64a EsP.nil)
        have H : Hp w S [] [(b26, .cells #[.int .u64 r.object.version, .I i, .int .u64 r.object.epoch, .I r.kk, .I r.nn, .I r.object.size, .int .u32 ((hd.sum.toNat : Nat) : Int)] 84 (0, 0)), (b5, .cells (rdZ).toArray 30 (0, 0)), (b3, .cells #[.I 15, .I frm, x2, x3, x4, x5, x6, x7, .bool ok, x9, x10, x11, x12, .int .u64 hd.id.version, .I hd.id.index, .int .u64 hd.id.epoch, .I hd.kk, .I hd.nn, .I hd.size, .int .u32 ((hd.sum.toNat : Nat) : Int), .slice ad dt.length ce, x21, x22, x23, x24, x25, x26] 89 (0, 0)), (b1, .cells (rdV r a6rO k6rO a3r k3r a4r k4r).toArray 30 (0, 0))] [] [Rp Li [.slice (some ⟨b75, 0, none⟩) 1 1] ([(i : Int)] : List Int), Rp Li [.slice a4r r.bad.length r.bad.length] r.bad, Fc b19 o20 [.I (r.object.nodes[i])], Rp Li [.slice a6rO r.object.nodes.length k6rO] r.object.nodes, Rp (Shape.slice pcS) [.slice a3r r.pieces.length k3r] r.pieces, Rp Li [.slice a4r r.bad.length k4r] r.bad, Rp SB [.slice ad dt.length ce] dt] _ := H
        refine RW.appendC (κ := .seq) (d := some 84) (r := (sq 6 8)) (T := 24) (ty := 24) (e := 3) (m := 1) (by_ := 8) (a1 := a4r) (l1 := r.bad.length) (a2 := (some ⟨b75, 0, none⟩)) (l2 := 1) (c2 := 1) (zs := (r.bad ++ ([(i : Int)] : List Int))) (by as_aux_lemma => kernel_rfl) (nofun) (by as_aux_lemma => kernel_rfl) rfl H 1 rfl 0 rfl (by simp) (rfl) (by rw [List.length_append]; simp only [List.length_cons, List.length_nil]; omega) ?_
        intro a77 c78 w79 H
        refine qP 1 (sq 7 8) [(2, .P b1 0), (4, .P b5 0), (84, .slice a77 ((r.bad ++ ([(i : Int)] : List Int)).length) c78), (85, .P b1 10)] ?_
        refine qW 24 b1 10 (sq 8 8) (.slice a77 ((r.bad ++ ([(i : Int)] : List Int)).length) c78) [(b26, .cells #[.int .u64 r.object.version, .I i, .int .u64 r.object.epoch, .I r.kk, .I r.nn, .I r.object.size, .int .u32 ((hd.sum.toNat : Nat) : Int)] 84 (0, 0)), (b5, .cells (rdZ).toArray 30 (0, 0)), (b3, .cells #[.I 15, .I frm, x2, x3, x4, x5, x6, x7, .bool ok, x9, x10, x11, x12, .int .u64 hd.id.version, .I hd.id.index, .int .u64 hd.id.epoch, .I hd.kk, .I hd.nn, .I hd.size, .int .u32 ((hd.sum.toNat : Nat) : Int), .slice ad dt.length ce, x21, x22, x23, x24, x25, x26] 89 (0, 0)), (b1, .cells ((rdV r a6rO k6rO a3r k3r none 0).set 10 (.slice a77 ((r.bad ++ ([(i : Int)] : List Int)).length) c78)).toArray 30 (0, 0))] H 3 rfl rfl ?_
        intro w80 H
        refine qF 0 [(2, .P b1 0), (4, .P b5 0)] ?_
        refine qR 1 [.c [2, 0, 1, 0, 0, 2, 0, 0, 6, 0], .c [2, 0, 1, 0, 0, 2, 0, 0, 7], .b 1, .c [2, 0, 1, 0, 0, 3], .l [2, 0, 1, 0, 0], .b 0, .c [3]] [(2, .P b1 0), (4, .P b5 0)] ?_
        refine qG (sq 0 4) ?_
        refine qL .seq 86 (sq 1 4) 30 b1 0 0 (.agg ((rdV r a6rO k6rO a3r k3r none 0).set 10 (.slice a77 ((r.bad ++ ([(i : Int)] : List Int)).length) c78)).toArray) (H.cells 3 rfl) ?_
        refine qK .seq (some 87) (sq 2 4) 49 #[.agg ((rdV r a6rO k6rO a3r k3r none 0).set 10 (.slice a77 ((r.bad ++ ([(i : Int)] : List Int)).length) c78)).toArray] (judge_spec (r := ⟨r.object, r.kk, r.nn, r.pieces, (r.bad ++ ([(i : Int)] : List Int)), r.waited, r.limit, r.done⟩) (rd_mk (y0 := r.object) (obj_mk (y0 := r.object.key) (y1 := r.object.version) (y2 := r.object.size) (y3 := r.object.sum) (y4 := r.object.group) (y5 := r.object.epoch) (y6 := r.object.nodes) ⟨rfl, h0rO⟩ u64a i64a Shape.bv_mk i64a u64a (H.rp 4 rfl)) i64a i64a (H.rp 5 rfl) (H.rp 0 rfl) i64a i64a i64a) (by exact hR1)) ?_
        rintro _ w81 hE82 rfl
        have H := H.ext hE82
        have hjb9 := judgeR_bd (⟨r.object, r.kk, r.nn, r.pieces, (r.bad ++ ([(i : Int)] : List Int)), r.waited, r.limit, r.done⟩)
        refine qP 1 (sq 3 4) [(2, .P b1 0), (4, .P b5 0), (87, .I (judgeR (⟨r.object, r.kk, r.nn, r.pieces, (r.bad ++ ([(i : Int)] : List Int)), r.waited, r.limit, r.done⟩))), (88, .P b1 13)] ?_
        refine qW 28 b1 13 (sq 4 4) (.I (judgeR (⟨r.object, r.kk, r.nn, r.pieces, (r.bad ++ ([(i : Int)] : List Int)), r.waited, r.limit, r.done⟩))) [(b26, .cells #[.int .u64 r.object.version, .I i, .int .u64 r.object.epoch, .I r.kk, .I r.nn, .I r.object.size, .int .u32 ((hd.sum.toNat : Nat) : Int)] 84 (0, 0)), (b5, .cells (rdZ).toArray 30 (0, 0)), (b3, .cells #[.I 15, .I frm, x2, x3, x4, x5, x6, x7, .bool ok, x9, x10, x11, x12, .int .u64 hd.id.version, .I hd.id.index, .int .u64 hd.id.epoch, .I hd.kk, .I hd.nn, .I hd.size, .int .u32 ((hd.sum.toNat : Nat) : Int), .slice ad dt.length ce, x21, x22, x23, x24, x25, x26] 89 (0, 0)), (b1, .cells (((rdV r a6rO k6rO a3r k3r none 0).set 10 (.slice a77 ((r.bad ++ ([(i : Int)] : List Int)).length) c78)).set 13 (.I (judgeR (⟨r.object, r.kk, r.nn, r.pieces, (r.bad ++ ([(i : Int)] : List Int)), r.waited, r.limit, r.done⟩)))).toArray 30 (0, 0))] H 3 rfl rfl ?_
        intro w83 H
        refine qF 0 [(2, .P b1 0), (4, .P b5 0)] ?_
        refine qR 2 [.c [3, 0], .c [4]] [(2, .P b1 0), (4, .P b5 0)] ?_
        refine WK.drawH1 [b5] (.leaf [(0, .qui), (1, .qui), (2, .qui), (3, .seq), (4, .qui)]) Try_mixed (by as_aux_lemma => kernel_rfl) (by as_aux_lemma => kernel_rfl) ?_
        intro w84 hw85
        have H := H.draw
        rw [← hw85] at H
        clear hw85
        have hS := Chg.refl w84 [b5]
        refine RG.leaf' [(0, .qui), (1, .qui), (2, .qui), (3, .seq), (4, .qui)] (by as_aux_lemma => kernel_rfl) ?_
        refine qHL 90 [(1, .qui), (2, .qui), (3, .seq), (4, .qui)] 30 b1 0 0 (.agg (((rdV r a6rO k6rO a3r k3r none 0).set 10 (.slice a77 ((r.bad ++ ([(i : Int)] : List Int)).length) c78)).set 13 (.I (judgeR (⟨r.object, r.kk, r.nn, r.pieces, (r.bad ++ ([(i : Int)] : List Int)), r.waited, r.limit, r.done⟩)))).toArray) hS (H.cells 3 rfl) (nq1 (H.raws 3 1 rfl rfl (by decide))) ?_
        refine qHP hS 1 [(2, .qui), (3, .seq), (4, .qui)] [(4, .P b5 0), (90, .agg (((rdV r a6rO k6rO a3r k3r none 0).set 10 (.slice a77 ((r.bad ++ ([(i : Int)] : List Int)).length) c78)).set 13 (.I (judgeR (⟨r.object, r.kk, r.nn, r.pieces, (r.bad ++ ([(i : Int)] : List Int)), r.waited, r.limit, r.done⟩)))).toArray), (91, .P b1 13)] ?_
        refine qHL 92 [(3, .seq), (4, .qui)] 28 b1 13 13 (.I (judgeR (⟨r.object, r.kk, r.nn, r.pieces, (r.bad ++ ([(i : Int)] : List Int)), r.waited, r.limit, r.done⟩))) hS (H.cells 3 rfl) (nq1 (H.raws 3 1 rfl rfl (by decide))) ?_
        have Hr := H
        refine RH.sto ?_
        refine qWC 30 b5 0 [] (.agg (((rdV r a6rO k6rO a3r k3r none 0).set 10 (.slice a77 ((r.bad ++ ([(i : Int)] : List Int)).length) c78)).set 13 (.I (judgeR (⟨r.object, r.kk, r.nn, r.pieces, (r.bad ++ ([(i : Int)] : List Int)), r.waited, r.limit, r.done⟩)))).toArray) [(b26, .cells #[.int .u64 r.object.version, .I i, .int .u64 r.object.epoch, .I r.kk, .I r.nn, .I r.object.size, .int .u32 ((hd.sum.toNat : Nat) : Int)] 84 (0, 0)), (b5, .cells (((rdV r a6rO k6rO a3r k3r none 0).set 10 (.slice a77 ((r.bad ++ ([(i : Int)] : List Int)).length) c78)).set 13 (.I (judgeR (⟨r.object, r.kk, r.nn, r.pieces, (r.bad ++ ([(i : Int)] : List Int)), r.waited, r.limit, r.done⟩)))).toArray 30 (0, 0)), (b3, .cells #[.I 15, .I frm, x2, x3, x4, x5, x6, x7, .bool ok, x9, x10, x11, x12, .int .u64 hd.id.version, .I hd.id.index, .int .u64 hd.id.epoch, .I hd.kk, .I hd.nn, .I hd.size, .int .u32 ((hd.sum.toNat : Nat) : Int), .slice ad dt.length ce, x21, x22, x23, x24, x25, x26] 89 (0, 0)), (b1, .cells (((rdV r a6rO k6rO a3r k3r none 0).set 10 (.slice a77 ((r.bad ++ ([(i : Int)] : List Int)).length) c78)).set 13 (.I (judgeR (⟨r.object, r.kk, r.nn, r.pieces, (r.bad ++ ([(i : Int)] : List Int)), r.waited, r.limit, r.done⟩)))).toArray 30 (0, 0))] H 1 rfl rfl ?_
        intro w87 hch86 H
        have hS88 := hS.sto hch86 (.inr (by simp))
        refine ⟨hS88, ?_⟩
        have hS := hS88
        refine RH.fin hS 1 [4, 5] [(4, .P b5 0), (5, .I (judgeR (⟨r.object, r.kk, r.nn, r.pieces, (r.bad ++ ([(i : Int)] : List Int)), r.waited, r.limit, r.done⟩)))] (by as_aux_lemma => kernel_rfl) ?_
        refine qRB (.tuple #[.agg (((rdV r a6rO k6rO a3r k3r none 0).set 10 (.slice a77 ((r.bad ++ ([(i : Int)] : List Int)).length) c78)).set 13 (.I (judgeR (⟨r.object, r.kk, r.nn, r.pieces, (r.bad ++ ([(i : Int)] : List Int)), r.waited, r.limit, r.done⟩)))).toArray, .I (judgeR (⟨r.object, r.kk, r.nn, r.pieces, (r.bad ++ ([(i : Int)] : List Int)), r.waited, r.limit, r.done⟩))]) Tryz.func25 (v2 (.cell 4 30) (.tmp 5) (vC (H.cells 1 rfl)) vT) ?_
        have hpost : (⟨r.object, r.kk, r.nn, r.pieces, (r.bad ++ ([(i : Int)] : List Int)), r.waited, r.limit, judgeR (⟨r.object, r.kk, r.nn, r.pieces, (r.bad ++ ([(i : Int)] : List Int)), r.waited, r.limit, r.done⟩)⟩ : Rd) = gotR r frm hd dt ok := by
         clear H
         symm
         unfold gotR
         rw [if_neg (by rw [hw9]; decide)]; rw [rfind_hit (i := i) (by omega) hhit9 hinv0.2]; simp only []; rw [if_pos hop9]; unfold stepR; rw [if_neg hgd9]; rfl
        exact ⟨_, rfl, H.done, [.string r.object.key, .int .u64 r.object.version, .I r.object.size, .int .u32 ((r.object.sum.toNat : Nat) : Int), .I r.object.group, .int .u64 r.object.epoch, .slice a6rO r.object.nodes.length k6rO, .I r.kk, .I r.nn, .slice a3r r.pieces.length k3r, .slice a77 ((r.bad ++ ([(i : Int)] : List Int)).length) c78, .I r.waited, .I r.limit, .I (judgeR (⟨r.object, r.kk, r.nn, r.pieces, (r.bad ++ ([(i : Int)] : List Int)), r.waited, r.limit, r.done⟩))], ⟨r.object, r.kk, r.nn, r.pieces, (r.bad ++ ([(i : Int)] : List Int)), r.waited, r.limit, judgeR (⟨r.object, r.kk, r.nn, r.pieces, (r.bad ++ ([(i : Int)] : List Int)), r.waited, r.limit, r.done⟩)⟩, rfl, H.out (rd_mk (y0 := r.object) (obj_mk (y0 := r.object.key) (y1 := r.object.version) (y2 := r.object.size) (y3 := r.object.sum) (y4 := r.object.group) (y5 := r.object.epoch) (y6 := r.object.nodes) ⟨rfl, h0rO⟩ u64a i64a Shape.bv_mk i64a u64a (H.rp 4 rfl)) i64a i64a (H.rp 5 rfl) (H.rp 0 rfl) i64a i64a i64a), hpost⟩
  ·
   refine qR 2 [.c [3, 0], .c [4]] [(2, .P b1 0), (4, .P b5 0)] ?_
   refine WK.drawH1 [b5] (.leaf [(0, .qui), (1, .qui), (2, .qui), (3, .seq), (4, .qui)]) Try_mixed (by as_aux_lemma => kernel_rfl) (by as_aux_lemma => kernel_rfl) ?_
   intro w89 hw90
   have H := H.draw
   rw [← hw90] at H
   clear hw90
   have hS := Chg.refl w89 [b5]
   refine RG.leaf' [(0, .qui), (1, .qui), (2, .qui), (3, .seq), (4, .qui)] (by as_aux_lemma => kernel_rfl) ?_
   refine qHL 90 [(1, .qui), (2, .qui), (3, .seq), (4, .qui)] 30 b1 0 0 (.agg (rdV r a6rO k6rO a3r k3r a4r k4r).toArray) hS (H.cells 2 rfl) (nq1 (H.raws 2 0 rfl rfl (by decide))) ?_
   refine qHP hS 1 [(2, .qui), (3, .seq), (4, .qui)] [(4, .P b5 0), (90, .agg (rdV r a6rO k6rO a3r k3r a4r k4r).toArray), (91, .P b1 13)] ?_
   refine qHL 92 [(3, .seq), (4, .qui)] 28 b1 13 13 (.I r.done) hS (H.cells 2 rfl) (nq1 (H.raws 2 0 rfl rfl (by decide))) ?_
   have Hr := H
   refine RH.sto ?_
   refine qWC 30 b5 0 [] (.agg (rdV r a6rO k6rO a3r k3r a4r k4r).toArray) [(b5, .cells (rdV r a6rO k6rO a3r k3r a4r k4r).toArray 30 (0, 0)), (b3, .cells #[.I 15, .I frm, x2, x3, x4, x5, x6, x7, .bool ok, x9, x10, x11, x12, .int .u64 hd.id.version, .I hd.id.index, .int .u64 hd.id.epoch, .I hd.kk, .I hd.nn, .I hd.size, .int .u32 ((hd.sum.toNat : Nat) : Int), .slice ad dt.length ce, x21, x22, x23, x24, x25, x26] 89 (0, 0)), (b1, .cells (rdV r a6rO k6rO a3r k3r a4r k4r).toArray 30 (0, 0))] H 0 rfl rfl ?_
   intro w92 hch91 H
   have hS93 := hS.sto hch91 (.inr (by simp))
   refine ⟨hS93, ?_⟩
   have hS := hS93
   refine RH.fin hS 1 [4, 5] [(4, .P b5 0), (5, .I r.done)] (by as_aux_lemma => kernel_rfl) ?_
   refine qRB (.tuple #[.agg (rdV r a6rO k6rO a3r k3r a4r k4r).toArray, .I r.done]) Tryz.func25 (v2 (.cell 4 30) (.tmp 5) (vC (H.cells 0 rfl)) vT) ?_
   have hpost : (r : Rd) = gotR r frm hd dt ok := by
    clear H
    symm
    unfold gotR
    rw [if_neg (by rw [hw9]; decide)]; rw [rfind_none fun j hj => hinv0.2 j (by omega)]
   exact ⟨_, rfl, H.done, [.string r.object.key, .int .u64 r.object.version, .I r.object.size, .int .u32 ((r.object.sum.toNat : Nat) : Int), .I r.object.group, .int .u64 r.object.epoch, .slice a6rO r.object.nodes.length k6rO, .I r.kk, .I r.nn, .slice a3r r.pieces.length k3r, .slice a4r r.bad.length k4r, .I r.waited, .I r.limit, .I r.done], r, rfl, H.out (rd_mkB (by unfold rdB; omega) (H.rp 0 rfl) (H.rp 1 rfl) (H.rp 2 rfl)), hpost⟩
end Go.Proofs.YtppcdmbkgficiaaGreat
