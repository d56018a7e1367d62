import Derived.Test.YtppcdmbkgficiaaGreatSBxB
import Derived.Test.YtppcdmbkgficiaaGreatSF4
namespace Go.Proofs.YtppcdmbkgficiaaGreat
open Go.BX
theorem cid3 {a : CID} {x y z : Int} : ([((a.version : Int) == x), ((a.index : Int) == y), ((a.epoch : Int) == z)].all id) = true ↔ a = ⟨x, y, z⟩ := by
 obtain ⟨_, _, _⟩ := a
 simp
theorem cid3_no {a : CID} {x y z : Int} (h : ([((a.version : Int) == x), ((a.index : Int) == y), ((a.epoch : Int) == z)].all id) = false) : a ≠ ⟨x, y, z⟩ := fun e => by
 rw [cid3.2 e] at h; cases h
theorem hdr7 {a : Hdr} {x y z k n s : Int} : ([((a.id.version : Int) == x), ((a.id.index : Int) == y), ((a.id.epoch : Int) == z), ((a.kk : Int) == k), ((a.nn : Int) == n), ((a.size : Int) == s), (((a.sum.toNat : Nat) : Int) == ((a.sum.toNat : Nat) : Int))].all id) = true ↔ a = ⟨⟨x, y, z⟩, k, n, s, a.sum⟩ := by
 obtain ⟨⟨_, _, _⟩, _, _, _, _⟩ := a
 simp [and_assoc]
theorem hdr7_no {a : Hdr} {x y z k n s : Int} (h : ([((a.id.version : Int) == x), ((a.id.index : Int) == y), ((a.id.epoch : Int) == z), ((a.kk : Int) == k), ((a.nn : Int) == n), ((a.size : Int) == s), (((a.sum.toNat : Nat) : Int) == ((a.sum.toNat : Nat) : Int))].all id) = false) : a ≠ ⟨⟨x, y, z⟩, k, n, s, a.sum⟩ := fun e => by
 rw [hdr7.2 e] at h; cases h
def hitR (r : Rd) (frm : Int) (hd : Hdr) (i : Nat) : Bool := decide (hd.id = ⟨r.object.version, (i : Int), r.object.epoch⟩) && decide (r.object.nodes[i]? = some frm)
def goodR (r : Rd) (i : Nat) (hd : Hdr) (dt : List (BitVec 8)) (ok : Bool) : Prop := ok = true ∧ hd = { headR r (i : Int) with sum := hd.sum } ∧ wholeE { headR r (i : Int) with sum := hd.sum } dt = 0
instance (r : Rd) (i : Nat) (hd : Hdr) (dt : List (BitVec 8)) (ok : Bool) : Decidable (goodR r i hd dt ok) := by unfold goodR; infer_instance
def putR (r : Rd) (i : Nat) (dt : List (BitVec 8)) : Rd := { r with pieces := r.pieces ++ [⟨(i : Int), dt⟩] }
def badR (r : Rd) (i : Nat) : Rd := { r with bad := r.bad ++ [(i : Int)] }
def stepR (r : Rd) (i : Nat) (hd : Hdr) (dt : List (BitVec 8)) (ok : Bool) : Rd :=
 if goodR r i hd dt ok then { putR r i dt with done := judgeR (putR r i dt) } else { badR r i with done := judgeR (badR r i) }
def gotR (r : Rd) (frm : Int) (hd : Hdr) (dt : List (BitVec 8)) (ok : Bool) : Rd :=
 if waitsR r = false then r else
 match (List.range r.object.nodes.length).find? (hitR r frm hd) with
 | none => r
 | some i => if openR r (i : Int) = true then stepR r i hd dt ok else r
theorem rfind_hit {r : Rd} {frm : Int} {hd : Hdr} {i : Nat} (hi : i < r.object.nodes.length) (h : hitR r frm hd i = true) (hn : ∀ j < i, hitR r frm hd j = false) : (List.range r.object.nodes.length).find? (hitR r frm hd) = some i := by
 rw [List.find?_eq_some_iff_append]
 refine ⟨h, List.range i, (List.range (r.object.nodes.length - i - 1)).map (· + (i + 1)), ?_, fun j hj => by simp [hn j (List.mem_range.1 hj)]⟩
 have e : r.object.nodes.length = i + (1 + (r.object.nodes.length - i - 1)) := by omega
 conv => lhs; rw [e, List.range_add, List.range_add]
 simp [Function.comp_def, Nat.add_comm, Nat.add_left_comm]
theorem rfind_none {r : Rd} {frm : Int} {hd : Hdr} (hn : ∀ j < r.object.nodes.length, hitR r frm hd j = false) : (List.range r.object.nodes.length).find? (hitR r frm hd) = none := by
 rw [List.find?_eq_none]
 intro j hj
 simp [hn j (List.mem_range.1 hj)]
theorem hitR_yes {r : Rd} {frm : Int} {hd : Hdr} {i : Nat} (h2 : i < r.object.nodes.length) (e1 : hd.id = ⟨r.object.version, (i : Int), r.object.epoch⟩) (e2 : r.object.nodes[i] = frm) : hitR r frm hd i = true := by
 simp [hitR, h2, e1, e2]
theorem hitR_id {r : Rd} {frm : Int} {hd : Hdr} {i : Nat} (e1 : hd.id ≠ ⟨r.object.version, (i : Int), r.object.epoch⟩) : hitR r frm hd i = false := by
 simp [hitR, e1]
theorem hitR_no {r : Rd} {frm : Int} {hd : Hdr} {i : Nat} (h2 : i < r.object.nodes.length) (e2 : r.object.nodes[i] ≠ frm) : hitR r frm hd i = false := by
 simp [hitR, h2, e2]
theorem lt_succ_all {p : Nat → Prop} {i : Nat} (h : ∀ j < i, p j) (hi : p i) : ∀ j < i + 1, p j := fun j hj => by
 rcases Nat.lt_or_eq_of_le (Nat.le_of_lt_succ hj) with h1 | h1
 · exact h j h1
 · rw [h1]; exact hi
theorem RdOf.put {xs : List (BitVec 8)} {k n : Nat} {r : Rd} (h : RdOf xs k n r) {i : Nat} {dt : List (BitVec 8)} (ho : openR r (i : Int) = true) (hi : i < n) (hd : dt = rowAt (enc xs k n) i) : RdOf xs k n (putR r i dt) :=
 { h with
  of := {
   nd := by
    have c : ¬ (i : Int) ∈ r.pieces.map Pc.index := by
     unfold openR at ho
     simp only [Bool.and_eq_true, Bool.not_eq_true', decide_eq_false_iff_not] at ho
     exact ho.2
    show ((r.pieces ++ [(⟨(i : Int), dt⟩ : Pc)]).map Pc.index).Nodup
    rw [List.map_append, List.nodup_append]
    exact ⟨h.of.nd, by simp, fun a ha b hb e => c (by simp only [List.map_cons, List.map_nil, List.mem_singleton] at hb; rw [← hb, ← e]; exact ha)⟩
   rng := fun p hp => by
    rcases List.mem_append.1 hp with hp | hp
    · exact h.of.rng p hp
    · obtain rfl := List.mem_singleton.1 hp
      show (0 : Int) ≤ (i : Int) ∧ (i : Int) < (n : Int)
      omega
   dat := fun p hp => by
    rcases List.mem_append.1 hp with hp | hp
    · exact h.of.dat p hp
    · obtain rfl := List.mem_singleton.1 hp
      exact hd } }
theorem RdOf.le {xs : List (BitVec 8)} {k n : Nat} {r : Rd} (h : RdOf xs k n r) : r.pieces.length ≤ n := (h.of.ok h.hk h.hkn).le
set_option maxHeartbeats 4000000 in
theorem fgot_spec {S : Nat → Prop} {w : World} {r : Rd} {cs : List Value} (hr : rdS.rep S w cs r) {xs : List (BitVec 8)} {k n : Nat} (hR : RdOf xs k n r) (frm : Int) (hd : Hdr) (ok : Bool) {dt : List (BitVec 8)} {ad : Option Addr} {ce : Nat} (hdt : SB.rep S w [.slice ad dt.length ce] dt) (x2 x3 x4 x5 x6 x7 x9 x10 x11 x12 x21 x22 x23 x24 x25 x26 : Value) (hbl : r.bad.length ≤ 1000000) (hdl : dt.length ≤ 1000000) (hgood : ∀ i : Nat, hitR r frm hd i = true → goodR r i hd dt ok → dt = rowAt (enc xs k n) i) :
 Calls Tryz.prog 25 #[.agg cs.toArray, .agg #[.I 15, .I frm, x2, x3, x4, x5, x6, x7, .bool ok, x9, x10, x11, x12, .int .u64 hd.id.version, .I hd.id.index, .int .u64 hd.id.epoch, .I hd.kk, .I hd.nn, .I hd.size, .int .u32 ((hd.sum.toNat : Nat) : Int), .slice ad dt.length ce, x21, x22, x23, x24, x25, x26]] w (Ret fun v w' => Ext w w' ∧ ∃ (ds : List Value) (D : Rd), v = .tuple #[.agg ds.toArray, .I D.done] ∧ rdS.rep (Nw S w) w' ds D ∧ D = gotR r frm hd dt ok) := by
 obtain ⟨_, s, u, q, t, rfl, O0, _, _, P0, Q0, _, _, _⟩ := rd_open hr
 obtain ⟨a, f, rfl, y, _, _, _, _, V⟩ := obj_open O0
 have hnl := hR.nodes
 have hple := hR.le
 have d1 := hR.hn
 refine uS1 Tryz.func25 ?_
 have H := Hp.startF (.rp V (.rp P0 (.rp Q0 (.rp hdt .nil))))
 refine uR 1 [.c [0], .c [1]] ?_
 refine qG (sq 0 4) ?_
 refine uC ((rdV r a f s u q t).toArray) 30 H ?_
 intro z _ H
 refine uC #[.I 15, .I frm, x2, x3, x4, x5, x6, x7, .bool ok, x9, x10, x11, x12, .int .u64 hd.id.version, .I hd.id.index, .int .u64 hd.id.epoch, .I hd.kk, .I hd.nn, .I hd.size, .int .u32 ((hd.sum.toNat : Nat) : Int), .slice ad dt.length ce, x21, x22, x23, x24, x25, x26] 89 H ?_
 intro B _ H
 refine uC ((rdZ).toArray) 30 H ?_
 intro x _ H
 refine uF 1 ?_
 refine uR 2 [.c [1, 0, 0], .c [1, 0, 1], .c [2]] ?_
 refine qG (sq 0 8) ?_
 refine uV 30 0 (H.cells 2 rfl) ?_
 refine uK (waits_spec (r := r) (rd_mkB (by unfold rdB; omega) (H.rp 0 rfl) (H.rp 1 rfl) (H.rp 2 rfl))) ?_
 rintro _ _ R0 rfl
 have H := H.ext R0
 refine uP 2 ?_
 refine uT 12 (!(waitsR r)) (fun h9 => ?_) (fun h9 => ?_)
 ·
  replace h9 : (waitsR r) = false := by revert h9; cases (waitsR r) <;> simp
  have S0 : waitsR r = false := by first | assumption | (simpa using h9)
  refine uF 4 ?_
  refine uR 2 [.c [1, 0, 1, 0, 0], .c [1, 0, 1, 0, 1], .c [2]] ?_
  refine WK.drawH1 [x] (.leaf [(0, .qui), (1, .qui), (2, .qui), (3, .seq), (4, .qui)]) Try_mixed (by as_aux_lemma => kernel_rfl) (by as_aux_lemma => kernel_rfl) ?_
  intro T0 e0
  have H := H.draw
  rw [← e0] at H
  clear e0
  have hS := Chg.refl T0 [x]
  refine RG.leaf' [(0, .qui), (1, .qui), (2, .qui), (3, .seq), (4, .qui)] (by as_aux_lemma => kernel_rfl) ?_
  refine uHV 30 0 hS (H.cells 2 rfl) (nq1 (H.raws 2 0 rfl rfl (by decide))) ?_
  refine uHP hS 1 ?_
  refine uHV 28 13 hS (H.cells 2 rfl) (nq1 (H.raws 2 0 rfl rfl (by decide))) ?_
  have Hr := H
  refine RH.sto ?_
  refine uWC 30 0 (rdV r a f s u q t).toArray H 0 rfl ?_
  intro _ t0 H
  have f0 := hS.sto t0 (.inr (by simp))
  refine ⟨f0, ?_⟩
  have hS := f0
  refine uHF hS 1 ?_
  refine qRB (.tuple #[.agg (rdV r a f s u q t).toArray, .I r.done]) Tryz.func25 (v2 (.cell 4 30) (.tmp 5) (vC (H.cells 0 rfl)) vT) ?_
  have hpost : (r : Rd) = gotR r frm hd dt ok := by
   clear H
   symm
   unfold gotR
   rw [if_pos (by first | assumption | simpa using S0)]
  exact ⟨_, rfl, H.done, [.string r.object.key, .int .u64 r.object.version, .I r.object.size, .int .u32 ((r.object.sum.toNat : Nat) : Int), .I r.object.group, .int .u64 r.object.epoch, .slice a r.object.nodes.length f, .I r.kk, .I r.nn, .slice s r.pieces.length u, .slice q r.bad.length t, .I r.waited, .I r.limit, .I r.done], r, rfl, H.out (rd_mkB (by unfold rdB; omega) (H.rp 0 rfl) (H.rp 1 rfl) (H.rp 2 rfl)), hpost⟩
 ·
  replace h9 : (waitsR r) = true := by revert h9; cases (waitsR r) <;> simp
  have d0 : waitsR r = true := by first | assumption | (simpa using h9)
  refine uP 1 ?_
  refine uV 77 0 (H.cells 1 rfl) ?_
  refine uF 2 ?_
  refine qR 4 [.c [2, 0, 0], .c [2, 0, 1], .c [3]] [(2, .P z 0), (3, .P B 0), (4, .P x 0)] ?_
  refine qG (sq 0 5) ?_
  refine uP 2 ?_
  refine uV 24 6 (H.cells 2 rfl) ?_
  refine uF 2 ?_
  refine uR 1 [.c [2, 0, 1, 0], .b 0, .c [3]] ?_
  refine uL (α := Nat) (g := 25) (p := [2, 0, 1, 0, 0]) (fun i => [(2, .P z 0), (3, .P B 0), (4, .P x 0), (22, .slice a r.object.nodes.length f), (23, .I ((r.object.nodes.length : Nat) : Int)), (24, .I i)]) (fun i w' => Hp w S [] [(x, .cells (rdZ).toArray 30 (0, 0)), (B, .cells #[.I 15, .I frm, x2, x3, x4, x5, x6, x7, .bool ok, x9, x10, x11, x12, .int .u64 hd.id.version, .I hd.id.index, .int .u64 hd.id.epoch, .I hd.kk, .I hd.nn, .I hd.size, .int .u32 ((hd.sum.toNat : Nat) : Int), .slice ad dt.length ce, x21, x22, x23, x24, x25, x26] 89 (0, 0)), (z, .cells (rdV r a f s u q t).toArray 30 (0, 0))] [] [Rp (Shape.slice (Shape.int .i64)) [.slice a r.object.nodes.length f] r.object.nodes, Rp (Shape.slice pcS) [.slice s r.pieces.length u] r.pieces, Rp (Shape.slice (Shape.int .i64)) [.slice q r.bad.length t] r.bad, Rp SB [.slice ad dt.length ce] dt] w' ∧ i ≤ r.object.nodes.length ∧ ∀ j < i, hitR r frm hd j = false) (fun i => r.object.nodes.length - i) 0 ⟨H, Nat.zero_le _, fun j hj => absurd hj (Nat.not_lt_zero j)⟩ ?_
  rintro i _ ⟨H, A⟩ N
  refine uR 3 [.c [2, 0, 1, 0, 0, 1, 0], .c [2, 0, 1, 0, 0, 2], .l [2, 0, 1, 0, 0], .b 0, .c [3]] ?_
  refine qD (((i : Int) : Int) < ((r.object.nodes.length : Nat) : Int)) (fun U0 => ?_) (fun U0 => ?_)
  ·
   refine uR 4 [.c [2, 0, 1, 0, 0, 2, 0, 0, 0], .c [2, 0, 1, 0, 0, 2, 0, 0, 1], .b 1, .c [2, 0, 1, 0, 0, 3], .l [2, 0, 1, 0, 0], .b 0, .c [3]] ?_
   refine qG (sq 0 5) ?_
   refine uP 1 ?_
   have C0 : i < r.object.nodes.length := by omega
   refine uX 24 (i : Int) H 0 rfl i (by omega) (List.getElem?_eq_getElem C0) ?_
   intro V0 W0 _ g0 H
   have c1 := Shape.i64_bd g0
   obtain ⟨rfl, -⟩ := g0
   refine uV 3 0 (H.fc 0 rfl) ?_
   refine uF 2 ?_
   refine uR 1 [.c [2, 0, 1, 0, 0, 2, 0, 0, 1, 0], .c [2, 0, 1, 0, 0, 2, 0, 0, 2], .b 1, .c [2, 0, 1, 0, 0, 3], .l [2, 0, 1, 0, 0], .b 0, .c [3]] ?_
   refine qG (sq 0 5) ?_
   refine uV 30 0 (H.cells 2 rfl) ?_
   refine uP 1 ?_
   refine uK (head_spec (r := r) (rd_mkB (by unfold rdB; omega) (H.rp 1 rfl) (H.rp 2 rfl) (H.rp 3 rfl)) (i : Int)) ?_
   rintro _ _ D0 rfl
   have H := H.ext D0
   refine uC #[.int .u64 0, .I 0, .int .u64 0, .I 0, .I 0, .I 0, .int .u32 0] 84 H ?_
   intro E _ H
   refine uW 84 0 #[.int .u64 r.object.version, .I i, .int .u64 r.object.epoch, .I r.kk, .I r.nn, .I r.object.size, .int .u32 0] H 0 rfl ?_
   intro _ H
   refine uF 0 ?_
   refine uR 2 [.c [2, 0, 1, 0, 0, 2, 0, 0, 2, 0, 0], .c [2, 0, 1, 0, 0, 2, 0, 0, 2, 0, 1], .c [2, 0, 1, 0, 0, 2, 0, 0, 3], .b 1, .c [2, 0, 1, 0, 0, 3], .l [2, 0, 1, 0, 0], .b 0, .c [3]] ?_
   refine qG (sq 0 12) ?_
   refine uP 2 ?_
   refine uV 82 13 (H.cells 2 rfl) ?_
   refine uP 1 ?_
   refine uV 82 0 (H.cells 0 rfl) ?_
   refine RW.neA (κ := .seq) (d := some 37) (r := (sq 6 12)) (T := 82) (xs := #[.int .u64 hd.id.version, .I hd.id.index, .int .u64 hd.id.epoch]) (ys := #[.int .u64 r.object.version, .I i, .int .u64 r.object.epoch]) (ox := (.tmp 34)) (oy := (.tmp 36)) [((hd.id.version : Int) == r.object.version), ((hd.id.index : Int) == (i : Int)), ((hd.id.epoch : Int) == r.object.epoch)] (by as_aux_lemma => kernel_rfl) (by as_aux_lemma => kernel_rfl) (by as_aux_lemma => kernel_rfl) ?_
   refine qP 1 (sq 7 12) [(2, .P z 0), (3, .P B 0), (4, .P x 0), (6, .I i), (7, .I (r.object.nodes[i])), (8, .P E 0), (22, .slice a r.object.nodes.length f), (23, .I ((r.object.nodes.length : Nat) : Int)), (24, .I i), (38, .bool (!([((hd.id.version : Int) == r.object.version), ((hd.id.index : Int) == (i : Int)), ((hd.id.epoch : Int) == r.object.epoch)].all id)))] ?_
   refine uT 38 (!([((hd.id.version : Int) == r.object.version), ((hd.id.index : Int) == (i : Int)), ((hd.id.epoch : Int) == r.object.epoch)].all id)) (fun K => ?_) (fun K => ?_)
   ·
    replace K : (([((hd.id.version : Int) == r.object.version), ((hd.id.index : Int) == (i : Int)), ((hd.id.epoch : Int) == r.object.epoch)].all id)) = false := by revert K; cases (([((hd.id.version : Int) == r.object.version), ((hd.id.index : Int) == (i : Int)), ((hd.id.epoch : Int) == r.object.epoch)].all id)) <;> simp
    have L : hitR r frm hd i = false := hitR_id (cid3_no K)
    refine uF 5 ?_
    refine uR 2 [.c [2, 0, 1, 0, 0, 3], .l [2, 0, 1, 0, 0], .b 0, .c [3]] ?_
    refine qG (sq 0 2) ?_
    refine uI ((i : Int) + 1) ?_
    refine uF 1 ?_
    have H := H.pick [1, 2, 3, 4] rfl
    have H := H.frontM 3 (M' := [(z, .cells (rdV r a f s u q t).toArray 30 (0, 0)), (E, .cells #[.int .u64 r.object.version, .I i, .int .u64 r.object.epoch, .I r.kk, .I r.nn, .I r.object.size, .int .u32 0] 84 (0, 0)), (x, .cells (rdZ).toArray 30 (0, 0)), (B, .cells #[.I 15, .I frm, x2, x3, x4, x5, x6, x7, .bool ok, x9, x10, x11, x12, .int .u64 hd.id.version, .I hd.id.index, .int .u64 hd.id.epoch, .I hd.kk, .I hd.nn, .I hd.size, .int .u32 ((hd.sum.toNat : Nat) : Int), .slice ad dt.length ce, x21, x22, x23, x24, x25, x26] 89 (0, 0))]) rfl
    have H := H.frontM 3 (M' := [(B, .cells #[.I 15, .I frm, x2, x3, x4, x5, x6, x7, .bool ok, x9, x10, x11, x12, .int .u64 hd.id.version, .I hd.id.index, .int .u64 hd.id.epoch, .I hd.kk, .I hd.nn, .I hd.size, .int .u32 ((hd.sum.toNat : Nat) : Int), .slice ad dt.length ce, x21, x22, x23, x24, x25, x26] 89 (0, 0)), (z, .cells (rdV r a f s u q t).toArray 30 (0, 0)), (E, .cells #[.int .u64 r.object.version, .I i, .int .u64 r.object.epoch, .I r.kk, .I r.nn, .I r.object.size, .int .u32 0] 84 (0, 0)), (x, .cells (rdZ).toArray 30 (0, 0))]) rfl
    have H := H.frontM 3 (M' := [(x, .cells (rdZ).toArray 30 (0, 0)), (B, .cells #[.I 15, .I frm, x2, x3, x4, x5, x6, x7, .bool ok, x9, x10, x11, x12, .int .u64 hd.id.version, .I hd.id.index, .int .u64 hd.id.epoch, .I hd.kk, .I hd.nn, .I hd.size, .int .u32 ((hd.sum.toNat : Nat) : Int), .slice ad dt.length ce, x21, x22, x23, x24, x25, x26] 89 (0, 0)), (z, .cells (rdV r a f s u q t).toArray 30 (0, 0)), (E, .cells #[.int .u64 r.object.version, .I i, .int .u64 r.object.epoch, .I r.kk, .I r.nn, .I r.object.size, .int .u32 0] 84 (0, 0))]) rfl
    have H := H.drop (M' := [(x, .cells (rdZ).toArray 30 (0, 0)), (B, .cells #[.I 15, .I frm, x2, x3, x4, x5, x6, x7, .bool ok, x9, x10, x11, x12, .int .u64 hd.id.version, .I hd.id.index, .int .u64 hd.id.epoch, .I hd.kk, .I hd.nn, .I hd.size, .int .u32 ((hd.sum.toNat : Nat) : Int), .slice ad dt.length ce, x21, x22, x23, x24, x25, x26] 89 (0, 0)), (z, .cells (rdV r a f s u q t).toArray 30 (0, 0))]) (W' := []) (by repeat (first | exact List.Sublist.refl _ | apply List.Sublist.cons_cons | apply List.Sublist.cons)) (by repeat (first | exact List.Sublist.refl _ | apply List.Sublist.cons_cons | apply List.Sublist.cons))
    exact uB (N (i + 1) _ ⟨H, by omega, lt_succ_all A.2 L⟩ (by first | omega | (simp only []; omega)))
   ·
    replace K : (([((hd.id.version : Int) == r.object.version), ((hd.id.index : Int) == (i : Int)), ((hd.id.epoch : Int) == r.object.epoch)].all id)) = true := by revert K; cases (([((hd.id.version : Int) == r.object.version), ((hd.id.index : Int) == (i : Int)), ((hd.id.epoch : Int) == r.object.epoch)].all id)) <;> simp
    have E0 := cid3.1 K
    refine uP 1 ?_
    refine uV 3 1 (H.cells 2 rfl) ?_
    refine uF 3 ?_
    refine qN frm (r.object.nodes[i]) (fun O => ?_) (fun O => ?_)
    ·
     have L : hitR r frm hd i = false := by first | exact hitR_id (cid3_no O) | exact hitR_no (by omega) O | exact hitR_no (by omega) (Ne.symm O)
     refine uR 1 [.c [2, 0, 1, 0, 0, 3], .l [2, 0, 1, 0, 0], .b 0, .c [3]] ?_
     refine qG (sq 0 2) ?_
     refine uI ((i : Int) + 1) ?_
     refine uF 1 ?_
     have H := H.pick [1, 2, 3, 4] rfl
     have H := H.frontM 3 (M' := [(z, .cells (rdV r a f s u q t).toArray 30 (0, 0)), (E, .cells #[.int .u64 r.object.version, .I i, .int .u64 r.object.epoch, .I r.kk, .I r.nn, .I r.object.size, .int .u32 0] 84 (0, 0)), (x, .cells (rdZ).toArray 30 (0, 0)), (B, .cells #[.I 15, .I frm, x2, x3, x4, x5, x6, x7, .bool ok, x9, x10, x11, x12, .int .u64 hd.id.version, .I hd.id.index, .int .u64 hd.id.epoch, .I hd.kk, .I hd.nn, .I hd.size, .int .u32 ((hd.sum.toNat : Nat) : Int), .slice ad dt.length ce, x21, x22, x23, x24, x25, x26] 89 (0, 0))]) rfl
     have H := H.frontM 3 (M' := [(B, .cells #[.I 15, .I frm, x2, x3, x4, x5, x6, x7, .bool ok, x9, x10, x11, x12, .int .u64 hd.id.version, .I hd.id.index, .int .u64 hd.id.epoch, .I hd.kk, .I hd.nn, .I hd.size, .int .u32 ((hd.sum.toNat : Nat) : Int), .slice ad dt.length ce, x21, x22, x23, x24, x25, x26] 89 (0, 0)), (z, .cells (rdV r a f s u q t).toArray 30 (0, 0)), (E, .cells #[.int .u64 r.object.version, .I i, .int .u64 r.object.epoch, .I r.kk, .I r.nn, .I r.object.size, .int .u32 0] 84 (0, 0)), (x, .cells (rdZ).toArray 30 (0, 0))]) rfl
     have H := H.frontM 3 (M' := [(x, .cells (rdZ).toArray 30 (0, 0)), (B, .cells #[.I 15, .I frm, x2, x3, x4, x5, x6, x7, .bool ok, x9, x10, x11, x12, .int .u64 hd.id.version, .I hd.id.index, .int .u64 hd.id.epoch, .I hd.kk, .I hd.nn, .I hd.size, .int .u32 ((hd.sum.toNat : Nat) : Int), .slice ad dt.length ce, x21, x22, x23, x24, x25, x26] 89 (0, 0)), (z, .cells (rdV r a f s u q t).toArray 30 (0, 0)), (E, .cells #[.int .u64 r.object.version, .I i, .int .u64 r.object.epoch, .I r.kk, .I r.nn, .I r.object.size, .int .u32 0] 84 (0, 0))]) rfl
     have H := H.drop (M' := [(x, .cells (rdZ).toArray 30 (0, 0)), (B, .cells #[.I 15, .I frm, x2, x3, x4, x5, x6, x7, .bool ok, x9, x10, x11, x12, .int .u64 hd.id.version, .I hd.id.index, .int .u64 hd.id.epoch, .I hd.kk, .I hd.nn, .I hd.size, .int .u32 ((hd.sum.toNat : Nat) : Int), .slice ad dt.length ce, x21, x22, x23, x24, x25, x26] 89 (0, 0)), (z, .cells (rdV r a f s u q t).toArray 30 (0, 0))]) (W' := []) (by repeat (first | exact List.Sublist.refl _ | apply List.Sublist.cons_cons | apply List.Sublist.cons)) (by repeat (first | exact List.Sublist.refl _ | apply List.Sublist.cons_cons | apply List.Sublist.cons))
     exact uB (N (i + 1) _ ⟨H, by omega, lt_succ_all A.2 L⟩ (by first | omega | (simp only []; omega)))
    ·
     have J : hitR r frm hd i = true := hitR_yes (by omega) E0 (by first | exact O | exact Eq.symm O)
     refine uR 3 [.c [2, 0, 1, 0, 0, 2, 0, 0, 3, 0, 0], .c [2, 0, 1, 0, 0, 2, 0, 0, 3, 0, 1], .c [2, 0, 1, 0, 0, 2, 0, 0, 4], .b 1, .c [2, 0, 1, 0, 0, 3], .l [2, 0, 1, 0, 0], .b 0, .c [3]] ?_
     refine qG (sq 0 4) ?_
     refine uV 30 0 (H.cells 3 rfl) ?_
     refine uP 1 ?_
     refine uK (open_spec (r := r) (rd_mkB (by unfold rdB; omega) (H.rp 1 rfl) (H.rp 2 rfl) (H.rp 3 rfl)) (i : Int)) ?_
     rintro _ _ F0 rfl
     have H := H.ext F0
     refine uF 1 ?_
     refine qC (!(openR r (i : Int))) (fun M => ?_) (fun M => ?_)
     ·
      replace M : (openR r (i : Int)) = false := by revert M; cases (openR r (i : Int)) <;> simp
      have G0 : openR r (i : Int) = false := by first | assumption | (simpa using M)
      refine qR 2 [.c [3, 0], .c [4]] [(2, .P z 0), (4, .P x 0)] ?_
      refine WK.drawH1 [x] (.leaf [(0, .qui), (1, .qui), (2, .qui), (3, .seq), (4, .qui)]) Try_mixed (by as_aux_lemma => kernel_rfl) (by as_aux_lemma => kernel_rfl) ?_
      intro X0 h0
      have H := H.draw
      rw [← h0] at H
      clear h0
      have hS := Chg.refl X0 [x]
      refine RG.leaf' [(0, .qui), (1, .qui), (2, .qui), (3, .seq), (4, .qui)] (by as_aux_lemma => kernel_rfl) ?_
      refine uHV 30 0 hS (H.cells 3 rfl) (nq1 (H.raws 3 1 rfl rfl (by decide))) ?_
      refine uHP hS 1 ?_
      refine uHV 28 13 hS (H.cells 3 rfl) (nq1 (H.raws 3 1 rfl rfl (by decide))) ?_
      have Hr := H
      refine RH.sto ?_
      refine uWC 30 0 (rdV r a f s u q t).toArray H 1 rfl ?_
      intro _ u0 H
      have i0 := hS.sto u0 (.inr (by simp))
      refine ⟨i0, ?_⟩
      have hS := i0
      refine uHF hS 1 ?_
      refine qRB (.tuple #[.agg (rdV r a f s u q t).toArray, .I r.done]) Tryz.func25 (v2 (.cell 4 30) (.tmp 5) (vC (H.cells 1 rfl)) vT) ?_
      have hpost : (r : Rd) = gotR r frm hd dt ok := by
       clear H
       symm
       unfold gotR
       rw [if_neg (by rw [d0]; decide)]; rw [rfind_hit (i := i) (by omega) J A.2]; simp only []; rw [if_neg (by rw [G0]; decide)]
      exact ⟨_, rfl, H.done, [.string r.object.key, .int .u64 r.object.version, .I r.object.size, .int .u32 ((r.object.sum.toNat : Nat) : Int), .I r.object.group, .int .u64 r.object.epoch, .slice a r.object.nodes.length f, .I r.kk, .I r.nn, .slice s r.pieces.length u, .slice q r.bad.length t, .I r.waited, .I r.limit, .I r.done], r, rfl, H.out (rd_mkB (by unfold rdB; omega) (H.rp 1 rfl) (H.rp 2 rfl) (H.rp 3 rfl)), hpost⟩
     ·
      replace M : (openR r (i : Int)) = true := by revert M; cases (openR r (i : Int)) <;> simp
      have a0 : openR r (i : Int) = true := by first | assumption | (simpa using M)
      refine uR 2 [.c [2, 0, 1, 0, 0, 2, 0, 0, 4, 0], .c [2, 0, 1, 0, 0, 2, 0, 0, 5], .b 1, .c [2, 0, 1, 0, 0, 3], .l [2, 0, 1, 0, 0], .b 0, .c [3]] ?_
      refine qG (sq 0 5) ?_
      refine uP 2 ?_
      refine uV 23 19 (H.cells 2 rfl) ?_
      refine uP 1 ?_
      refine uW 23 6 #[.int .u64 r.object.version, .I i, .int .u64 r.object.epoch, .I r.kk, .I r.nn, .I r.object.size, .int .u32 ((hd.sum.toNat : Nat) : Int)] H 0 rfl ?_
      intro _ H
      refine uF 0 ?_
      refine uR 2 [.c [2, 0, 1, 0, 0, 2, 0, 0, 5, 0, 0], .c [2, 0, 1, 0, 0, 2, 0, 0, 5, 0, 1], .c [2, 0, 1, 0, 0, 2, 0, 0, 6], .b 1, .c [2, 0, 1, 0, 0, 3], .l [2, 0, 1, 0, 0], .b 0, .c [3]] ?_
      refine WK.joinV (α := Bool) (fun x_ w_ => match x_ with | gb => Hp w S [] [(E, .cells #[.int .u64 r.object.version, .I i, .int .u64 r.object.epoch, .I r.kk, .I r.nn, .I r.object.size, .int .u32 ((hd.sum.toNat : Nat) : Int)] 84 (0, 0)), (x, .cells (rdZ).toArray 30 (0, 0)), (B, .cells #[.I 15, .I frm, x2, x3, x4, x5, x6, x7, .bool ok, x9, x10, x11, x12, .int .u64 hd.id.version, .I hd.id.index, .int .u64 hd.id.epoch, .I hd.kk, .I hd.nn, .I hd.size, .int .u32 ((hd.sum.toNat : Nat) : Int), .slice ad dt.length ce, x21, x22, x23, x24, x25, x26] 89 (0, 0)), (z, .cells (rdV r a f s u q t).toArray 30 (0, 0))] [] [Fc V0 W0 [.I (r.object.nodes[i])], Rp (Shape.slice (Shape.int .i64)) [.slice a r.object.nodes.length f] r.object.nodes, Rp (Shape.slice pcS) [.slice s r.pieces.length u] r.pieces, Rp (Shape.slice (Shape.int .i64)) [.slice q r.bad.length t] r.bad, Rp SB [.slice ad dt.length ce] dt] w_ ∧ gb = decide (goodR r i hd dt ok)) (fun x_ => match x_ with | gb => [(2, .P z 0), (3, .P B 0), (4, .P x 0), (6, .I i), (67, .bool gb)]) [Cq Tryz.prog 25 [2, 0, 1, 0, 0, 2, 0, 0, 5, 0, 1], Cq Tryz.prog 25 [2, 0, 1, 0, 0, 2, 0, 0, 6], .inBlock 1, Cq Tryz.prog 25 [2, 0, 1, 0, 0, 3], Lq Tryz.prog 25 [2, 0, 1, 0, 0], .inBlock 0, Cq Tryz.prog 25 [3]] (fun b0 => ?_) ?_
      ·
       refine qG (sq 0 16) ?_
       refine uP 1 ?_
       refine uV 4 8 (H.cells 2 rfl) ?_
       refine uP 1 ?_
       refine uT 54 ok (fun j0 => ?_) (fun j0 => ?_)
       ·
        have H0 : ok = true := j0
        refine uP 1 ?_
        refine uV 84 13 (H.cells 2 rfl) ?_
        refine uV 84 0 (H.cells 0 rfl) ?_
        refine RW.eqA (κ := .seq) (d := some 58) (r := (sq 7 16)) (T := 84) (xs := #[.int .u64 hd.id.version, .I hd.id.index, .int .u64 hd.id.epoch, .I hd.kk, .I hd.nn, .I hd.size, .int .u32 ((hd.sum.toNat : Nat) : Int)]) (ys := #[.int .u64 r.object.version, .I i, .int .u64 r.object.epoch, .I r.kk, .I r.nn, .I r.object.size, .int .u32 ((hd.sum.toNat : Nat) : Int)]) (ox := (.tmp 56)) (oy := (.tmp 57)) [((hd.id.version : Int) == r.object.version), ((hd.id.index : Int) == (i : Int)), ((hd.id.epoch : Int) == r.object.epoch), ((hd.kk : Int) == r.kk), ((hd.nn : Int) == r.nn), ((hd.size : Int) == r.object.size), ((((hd.sum.toNat : Nat) : Int) : Int) == ((hd.sum.toNat : Nat) : Int))] (by as_aux_lemma => kernel_rfl) (by as_aux_lemma => kernel_rfl) (by as_aux_lemma => kernel_rfl) ?_
        refine qP 2 (sq 9 16) [(2, .P z 0), (3, .P B 0), (4, .P x 0), (6, .I i), (8, .P E 0), (60, .bool ([((hd.id.version : Int) == r.object.version), ((hd.id.index : Int) == (i : Int)), ((hd.id.epoch : Int) == r.object.epoch), ((hd.kk : Int) == r.kk), ((hd.nn : Int) == r.nn), ((hd.size : Int) == r.object.size), ((((hd.sum.toNat : Nat) : Int) : Int) == ((hd.sum.toNat : Nat) : Int))].all id))] ?_
        refine uT 60 ([((hd.id.version : Int) == r.object.version), ((hd.id.index : Int) == (i : Int)), ((hd.id.epoch : Int) == r.object.epoch), ((hd.kk : Int) == r.kk), ((hd.nn : Int) == r.nn), ((hd.size : Int) == r.object.size), ((((hd.sum.toNat : Nat) : Int) : Int) == ((hd.sum.toNat : Nat) : Int))].all id) (fun k0 => ?_) (fun k0 => ?_)
        ·
         have v0 := hdr7.1 k0
         refine uV 84 0 (H.cells 0 rfl) ?_
         refine uP 1 ?_
         refine uV 62 20 (H.cells 2 rfl) ?_
         refine uP 1 ?_
         refine uK (whole_spec (C := ⟨⟨⟨r.object.version, (i : Int), r.object.epoch⟩, r.kk, r.nn, r.object.size, hd.sum⟩, dt, false⟩) (chk_mk (hdr_mk (cid_mk u64a i64a u64a) i64a i64a i64a Shape.bv_mk) (H.rp 4 rfl) Shape.bool_mk)) ?_
         rintro _ _ I0 rfl
         have H := H.ext I0
         refine uF 2 ?_
         exact uB (b0 ((wholeE (⟨⟨r.object.version, (i : Int), r.object.epoch⟩, r.kk, r.nn, r.object.size, hd.sum⟩) dt) == 0) _ ⟨H, by rw [Bool.eq_iff_iff, decide_eq_true_iff, beq_iff_eq]; exact ⟨fun h => ⟨H0, v0, h⟩, fun h => h.2.2⟩⟩)
        ·
         have c0 : ¬ goodR r i hd dt ok := fun g => hdr7_no k0 g.2.1
         refine uF 7 ?_
         exact uB (b0 (false) _ ⟨H, (decide_eq_false c0).symm⟩)
       ·
        have c0 : ¬ goodR r i hd dt ok := fun g => absurd (g.1.symm.trans j0) (by decide)
        refine uF 13 ?_
        exact uB (b0 (false) _ ⟨H, (decide_eq_false c0).symm⟩)
      ·
       rintro gb A0 ⟨H, hgb⟩
       refine qC gb (fun G => ?_) (fun G => ?_)
       ·
        rw [hgb] at G
        replace G := of_decide_eq_true G
        have U : goodR r i hd dt ok := G
        have l0 : RdOf xs k n (putR r i dt) := hR.put a0 (by omega) (hgood i J U)
        refine WK.draw1 11 [(0, .qui), (1, .qui), (3, .qui), (4, .qui), (5, .qui), (2, .chn), (6, .chn), (7, .qui), (8, .chn), (9, .chn), (10, .qui)] [(0, .qui), (1, .qui), (3, .qui), (4, .qui), (5, .qui), (2, .chn), (6, .chn), (7, .qui), (8, .chn), (9, .chn), (10, .qui), (11, .seq)] Try_mixed (by as_aux_lemma => kernel_rfl) (by as_aux_lemma => kernel_rfl) (by as_aux_lemma => kernel_rfl) ?_
        have H := H.draw
        generalize ({ A0 with drawn := A0.drawn + 1 } : World) = e1 at H ⊢
        refine uP 1 ?_
        refine uV 27 9 (H.cells 3 rfl) ?_
        refine uP 2 ?_
        refine uV 62 20 (H.cells 2 rfl) ?_
        refine uK (clip_pc (ps := r.pieces) (H.rp 2 rfl)) ?_
        rintro _ _ J0 rfl
        have H := H.ext J0
        have H := H.add (F := Rp (Shape.slice pcS) [.slice s r.pieces.length r.pieces.length] r.pieces) (Shape.clip_rep (H.rp 2 rfl))
        refine uK (bclone_spec (H.rp 5 rfl) (by omega)) ?_
        rintro _ _ - H'
        have H := H.back (M1 := []) (W1 := []) H'
        obtain ⟨W, X, rfl, _, _⟩ := H.ownForm 0 rfl
        have H : Hp w S [] [_, _, _, _] [⟨Sb, 5, .slice W dt.length X, dt⟩] [_, _, _, _, _, _] _ := H
        refine uP 1 ?_
        refine RW.new (κ := .chn) (d := some 76) (r := [(9, .chn), (10, .qui), (11, .seq)]) (o := .cells #[.I i, .slice W dt.length X] 64 (0, 0)) (v := fun b => .slice (some ⟨b, 0, none⟩) 1 1) (fun b => by as_aux_lemma => kernel_rfl) (nofun) H ?_
        intro m0 _ H
        have H : Hp w S [] [(m0, .cells #[.I i, .slice W dt.length X] 64 (0, 0)), _, _, _, _] [] [Rp SB [.slice W dt.length X] dt, _, _, _, _, _, _] _ := H.freezeW 0 rfl
        have H := H.freeze 0 rfl pcS ([⟨(i : Int), dt⟩] : List Pc) 1 (by simp [maxLen]) (by first | exact Nat.le_refl _ | simp) (EsP.cons (c := [.I i, .slice W dt.length X]) (pc_mk i64a (H.rp 0 rfl)) EsP.nil)
        have H : Hp w S [] [_, _, _, _] [] [Rp (Shape.slice pcS) [.slice (some ⟨m0, 0, none⟩) 1 1] ([⟨(i : Int), dt⟩] : List Pc), _, _, _, _, _, _, _] _ := H
        refine RW.appendC (κ := .chn) (d := some 77) (r := [(10, .qui), (11, .seq)]) (T := 27) (ty := 27) (e := 64) (m := 2) (by_ := 32) (a1 := s) (l1 := r.pieces.length) (a2 := (some ⟨m0, 0, none⟩)) (l2 := 1) (c2 := 1) (zs := (r.pieces ++ ([⟨(i : Int), dt⟩] : List Pc))) (by as_aux_lemma => kernel_rfl) (nofun) (by as_aux_lemma => kernel_rfl) rfl H 2 rfl 0 rfl (by simp) (rfl) (by rw [List.length_append]; simp only [List.length_cons, List.length_nil]; omega) ?_
        intro Q R _ H
        refine uP 1 ?_
        refine uW 27 9 ((rdV r a f none 0 q t).set 9 (.slice Q ((r.pieces ++ ([⟨(i : Int), dt⟩] : List Pc)).length) R)).toArray H 3 rfl ?_
        intro _ H
        refine uF 0 ?_
        refine uR 1 [.c [2, 0, 1, 0, 0, 2, 0, 0, 6, 0], .c [2, 0, 1, 0, 0, 2, 0, 0, 7], .b 1, .c [2, 0, 1, 0, 0, 3], .l [2, 0, 1, 0, 0], .b 0, .c [3]] ?_
        refine qG (sq 0 4) ?_
        refine uV 30 0 (H.cells 3 rfl) ?_
        refine uK (judge_spec (r := ⟨r.object, r.kk, r.nn, (r.pieces ++ ([⟨(i : Int), dt⟩] : List Pc)), r.bad, r.waited, r.limit, r.done⟩) (rd_mk (y0 := r.object) (obj_mk (y0 := r.object.key) (y1 := r.object.version) (y2 := r.object.size) (y3 := r.object.sum) (y4 := r.object.group) (y5 := r.object.epoch) (y6 := r.object.nodes) ⟨rfl, y⟩ u64a i64a Shape.bv_mk i64a u64a (H.rp 5 rfl)) i64a i64a (H.rp 0 rfl) (H.rp 7 rfl) i64a i64a i64a) (by exact l0)) ?_
        rintro _ _ K0 rfl
        have H := H.ext K0
        have L0 := judgeR_bd (⟨r.object, r.kk, r.nn, (r.pieces ++ ([⟨(i : Int), dt⟩] : List Pc)), r.bad, r.waited, r.limit, r.done⟩)
        refine uP 1 ?_
        refine uW 28 13 (((rdV r a f none 0 q t).set 9 (.slice Q ((r.pieces ++ ([⟨(i : Int), dt⟩] : List Pc)).length) R)).set 13 (.I (judgeR (⟨r.object, r.kk, r.nn, (r.pieces ++ ([⟨(i : Int), dt⟩] : List Pc)), r.bad, r.waited, r.limit, r.done⟩)))).toArray H 3 rfl ?_
        intro _ H
        refine uF 0 ?_
        refine uR 2 [.c [3, 0], .c [4]] ?_
        refine WK.drawH1 [x] (.leaf [(0, .qui), (1, .qui), (2, .qui), (3, .seq), (4, .qui)]) Try_mixed (by as_aux_lemma => kernel_rfl) (by as_aux_lemma => kernel_rfl) ?_
        intro Y0 n0
        have H := H.draw
        rw [← n0] at H
        clear n0
        have hS := Chg.refl Y0 [x]
        refine RG.leaf' [(0, .qui), (1, .qui), (2, .qui), (3, .seq), (4, .qui)] (by as_aux_lemma => kernel_rfl) ?_
        refine uHV 30 0 hS (H.cells 3 rfl) (nq1 (H.raws 3 1 rfl rfl (by decide))) ?_
        refine qHP hS 1 [(2, .qui), (3, .seq), (4, .qui)] [(4, .P x 0), (90, .agg (((rdV r a f none 0 q t).set 9 (.slice Q ((r.pieces ++ ([⟨(i : Int), dt⟩] : List Pc)).length) R)).set 13 (.I (judgeR (⟨r.object, r.kk, r.nn, (r.pieces ++ ([⟨(i : Int), dt⟩] : List Pc)), r.bad, r.waited, r.limit, r.done⟩)))).toArray), (91, .P z 13)] ?_
        refine uHV 28 13 hS (H.cells 3 rfl) (nq1 (H.raws 3 1 rfl rfl (by decide))) ?_
        have Hr := H
        refine RH.sto ?_
        refine uWC 30 0 (((rdV r a f none 0 q t).set 9 (.slice Q ((r.pieces ++ ([⟨(i : Int), dt⟩] : List Pc)).length) R)).set 13 (.I (judgeR (⟨r.object, r.kk, r.nn, (r.pieces ++ ([⟨(i : Int), dt⟩] : List Pc)), r.bad, r.waited, r.limit, r.done⟩)))).toArray H 1 rfl ?_
        intro _ w0 H
        have o0 := hS.sto w0 (.inr (by simp))
        refine ⟨o0, ?_⟩
        have hS := o0
        refine uHF hS 1 ?_
        refine qRB (.tuple #[.agg (((rdV r a f none 0 q t).set 9 (.slice Q ((r.pieces ++ ([⟨(i : Int), dt⟩] : List Pc)).length) R)).set 13 (.I (judgeR (⟨r.object, r.kk, r.nn, (r.pieces ++ ([⟨(i : Int), dt⟩] : List Pc)), r.bad, r.waited, r.limit, r.done⟩)))).toArray, .I (judgeR (⟨r.object, r.kk, r.nn, (r.pieces ++ ([⟨(i : Int), dt⟩] : List Pc)), r.bad, r.waited, r.limit, r.done⟩))]) Tryz.func25 (v2 (.cell 4 30) (.tmp 5) (vC (H.cells 1 rfl)) vT) ?_
        have hpost : (⟨r.object, r.kk, r.nn, (r.pieces ++ ([⟨(i : Int), dt⟩] : List Pc)), r.bad, r.waited, r.limit, judgeR (⟨r.object, r.kk, r.nn, (r.pieces ++ ([⟨(i : Int), dt⟩] : List Pc)), r.bad, r.waited, r.limit, r.done⟩)⟩ : Rd) = gotR r frm hd dt ok := by
         clear H
         symm
         unfold gotR
         rw [if_neg (by rw [d0]; decide)]; rw [rfind_hit (i := i) (by omega) J A.2]; simp only []; rw [if_pos a0]; unfold stepR; rw [if_pos U]; rfl
        exact ⟨_, rfl, H.done, [.string r.object.key, .int .u64 r.object.version, .I r.object.size, .int .u32 ((r.object.sum.toNat : Nat) : Int), .I r.object.group, .int .u64 r.object.epoch, .slice a r.object.nodes.length f, .I r.kk, .I r.nn, .slice Q ((r.pieces ++ ([⟨(i : Int), dt⟩] : List Pc)).length) R, .slice q r.bad.length t, .I r.waited, .I r.limit, .I (judgeR (⟨r.object, r.kk, r.nn, (r.pieces ++ ([⟨(i : Int), dt⟩] : List Pc)), r.bad, r.waited, r.limit, r.done⟩))], ⟨r.object, r.kk, r.nn, (r.pieces ++ ([⟨(i : Int), dt⟩] : List Pc)), r.bad, r.waited, r.limit, judgeR (⟨r.object, r.kk, r.nn, (r.pieces ++ ([⟨(i : Int), dt⟩] : List Pc)), r.bad, r.waited, r.limit, r.done⟩)⟩, rfl, H.out (rd_mk (y0 := r.object) (obj_mk (y0 := r.object.key) (y1 := r.object.version) (y2 := r.object.size) (y3 := r.object.sum) (y4 := r.object.group) (y5 := r.object.epoch) (y6 := r.object.nodes) ⟨rfl, y⟩ u64a i64a Shape.bv_mk i64a u64a (H.rp 5 rfl)) i64a i64a (H.rp 0 rfl) (H.rp 7 rfl) i64a i64a i64a), hpost⟩
       ·
        rw [hgb] at G
        replace G := of_decide_eq_false G
        have U : ¬ goodR r i hd dt ok := G
        have l0 : RdOf xs k n (badR r i) := { hR with }
        refine qG (sq 0 8) ?_
        refine uP 1 ?_
        refine uV 24 10 (H.cells 3 rfl) ?_
        refine uK (clip_int (xs := r.bad) (H.rp 3 rfl)) ?_
        rintro _ _ M0 rfl
        have H := H.ext M0
        have H := H.add (F := Rp (Shape.slice (Shape.int .i64)) [.slice q r.bad.length r.bad.length] r.bad) (Shape.clip_rep (H.rp 3 rfl))
        refine uP 1 ?_
        refine RW.new (κ := .seq) (d := some 83) (r := (sq 5 8)) (o := .cells #[.I i] 3 (0, 0)) (v := fun b => .slice (some ⟨b, 0, none⟩) 1 1) (fun b => by as_aux_lemma => kernel_rfl) (nofun) H ?_
        intro B0 _ H
        have H := H.freeze 0 rfl (Shape.int .i64) ([(i : Int)] : List Int) 1 (by simp [maxLen]) (by first | exact Nat.le_refl _ | simp) (EsP.cons (c := [.I i]) i64a EsP.nil)
        have H : Hp w S [] [_, _, _, _] [] [Rp (Shape.slice (Shape.int .i64)) [.slice (some ⟨B0, 0, none⟩) 1 1] ([(i : Int)] : List Int), _, _, _, _, _, _] _ := H
        refine RW.appendC (κ := .seq) (d := some 84) (r := (sq 6 8)) (T := 24) (ty := 24) (e := 3) (m := 1) (by_ := 8) (a1 := q) (l1 := r.bad.length) (a2 := (some ⟨B0, 0, none⟩)) (l2 := 1) (c2 := 1) (zs := (r.bad ++ ([(i : Int)] : List Int))) (by as_aux_lemma => kernel_rfl) (nofun) (by as_aux_lemma => kernel_rfl) rfl H 1 rfl 0 rfl (by simp) (rfl) (by rw [List.length_append]; simp only [List.length_cons, List.length_nil]; omega) ?_
        intro Y Z _ H
        refine uP 1 ?_
        refine uW 24 10 ((rdV r a f s u none 0).set 10 (.slice Y ((r.bad ++ ([(i : Int)] : List Int)).length) Z)).toArray H 3 rfl ?_
        intro _ H
        refine uF 0 ?_
        refine uR 1 [.c [2, 0, 1, 0, 0, 2, 0, 0, 6, 0], .c [2, 0, 1, 0, 0, 2, 0, 0, 7], .b 1, .c [2, 0, 1, 0, 0, 3], .l [2, 0, 1, 0, 0], .b 0, .c [3]] ?_
        refine qG (sq 0 4) ?_
        refine uV 30 0 (H.cells 3 rfl) ?_
        refine uK (judge_spec (r := ⟨r.object, r.kk, r.nn, r.pieces, (r.bad ++ ([(i : Int)] : List Int)), r.waited, r.limit, r.done⟩) (rd_mk (y0 := r.object) (obj_mk (y0 := r.object.key) (y1 := r.object.version) (y2 := r.object.size) (y3 := r.object.sum) (y4 := r.object.group) (y5 := r.object.epoch) (y6 := r.object.nodes) ⟨rfl, y⟩ u64a i64a Shape.bv_mk i64a u64a (H.rp 4 rfl)) i64a i64a (H.rp 5 rfl) (H.rp 0 rfl) i64a i64a i64a) (by exact l0)) ?_
        rintro _ _ N0 rfl
        have H := H.ext N0
        have L0 := judgeR_bd (⟨r.object, r.kk, r.nn, r.pieces, (r.bad ++ ([(i : Int)] : List Int)), r.waited, r.limit, r.done⟩)
        refine uP 1 ?_
        refine uW 28 13 (((rdV r a f s u none 0).set 10 (.slice Y ((r.bad ++ ([(i : Int)] : List Int)).length) Z)).set 13 (.I (judgeR (⟨r.object, r.kk, r.nn, r.pieces, (r.bad ++ ([(i : Int)] : List Int)), r.waited, r.limit, r.done⟩)))).toArray H 3 rfl ?_
        intro _ H
        refine uF 0 ?_
        refine uR 2 [.c [3, 0], .c [4]] ?_
        refine WK.drawH1 [x] (.leaf [(0, .qui), (1, .qui), (2, .qui), (3, .seq), (4, .qui)]) Try_mixed (by as_aux_lemma => kernel_rfl) (by as_aux_lemma => kernel_rfl) ?_
        intro Z0 p0
        have H := H.draw
        rw [← p0] at H
        clear p0
        have hS := Chg.refl Z0 [x]
        refine RG.leaf' [(0, .qui), (1, .qui), (2, .qui), (3, .seq), (4, .qui)] (by as_aux_lemma => kernel_rfl) ?_
        refine uHV 30 0 hS (H.cells 3 rfl) (nq1 (H.raws 3 1 rfl rfl (by decide))) ?_
        refine uHP hS 1 ?_
        refine uHV 28 13 hS (H.cells 3 rfl) (nq1 (H.raws 3 1 rfl rfl (by decide))) ?_
        have Hr := H
        refine RH.sto ?_
        refine uWC 30 0 (((rdV r a f s u none 0).set 10 (.slice Y ((r.bad ++ ([(i : Int)] : List Int)).length) Z)).set 13 (.I (judgeR (⟨r.object, r.kk, r.nn, r.pieces, (r.bad ++ ([(i : Int)] : List Int)), r.waited, r.limit, r.done⟩)))).toArray H 1 rfl ?_
        intro _ x0 H
        have q0 := hS.sto x0 (.inr (by simp))
        refine ⟨q0, ?_⟩
        have hS := q0
        refine uHF hS 1 ?_
        refine qRB (.tuple #[.agg (((rdV r a f s u none 0).set 10 (.slice Y ((r.bad ++ ([(i : Int)] : List Int)).length) Z)).set 13 (.I (judgeR (⟨r.object, r.kk, r.nn, r.pieces, (r.bad ++ ([(i : Int)] : List Int)), r.waited, r.limit, r.done⟩)))).toArray, .I (judgeR (⟨r.object, r.kk, r.nn, r.pieces, (r.bad ++ ([(i : Int)] : List Int)), r.waited, r.limit, r.done⟩))]) Tryz.func25 (v2 (.cell 4 30) (.tmp 5) (vC (H.cells 1 rfl)) vT) ?_
        have hpost : (⟨r.object, r.kk, r.nn, r.pieces, (r.bad ++ ([(i : Int)] : List Int)), r.waited, r.limit, judgeR (⟨r.object, r.kk, r.nn, r.pieces, (r.bad ++ ([(i : Int)] : List Int)), r.waited, r.limit, r.done⟩)⟩ : Rd) = gotR r frm hd dt ok := by
         clear H
         symm
         unfold gotR
         rw [if_neg (by rw [d0]; decide)]; rw [rfind_hit (i := i) (by omega) J A.2]; simp only []; rw [if_pos a0]; unfold stepR; rw [if_neg U]; rfl
        exact ⟨_, rfl, H.done, [.string r.object.key, .int .u64 r.object.version, .I r.object.size, .int .u32 ((r.object.sum.toNat : Nat) : Int), .I r.object.group, .int .u64 r.object.epoch, .slice a r.object.nodes.length f, .I r.kk, .I r.nn, .slice s r.pieces.length u, .slice Y ((r.bad ++ ([(i : Int)] : List Int)).length) Z, .I r.waited, .I r.limit, .I (judgeR (⟨r.object, r.kk, r.nn, r.pieces, (r.bad ++ ([(i : Int)] : List Int)), r.waited, r.limit, r.done⟩))], ⟨r.object, r.kk, r.nn, r.pieces, (r.bad ++ ([(i : Int)] : List Int)), r.waited, r.limit, judgeR (⟨r.object, r.kk, r.nn, r.pieces, (r.bad ++ ([(i : Int)] : List Int)), r.waited, r.limit, r.done⟩)⟩, rfl, H.out (rd_mk (y0 := r.object) (obj_mk (y0 := r.object.key) (y1 := r.object.version) (y2 := r.object.size) (y3 := r.object.sum) (y4 := r.object.group) (y5 := r.object.epoch) (y6 := r.object.nodes) ⟨rfl, y⟩ u64a i64a Shape.bv_mk i64a u64a (H.rp 4 rfl)) i64a i64a (H.rp 5 rfl) (H.rp 0 rfl) i64a i64a i64a), hpost⟩
  ·
   refine uR 2 [.c [3, 0], .c [4]] ?_
   refine WK.drawH1 [x] (.leaf [(0, .qui), (1, .qui), (2, .qui), (3, .seq), (4, .qui)]) Try_mixed (by as_aux_lemma => kernel_rfl) (by as_aux_lemma => kernel_rfl) ?_
   intro b1 r0
   have H := H.draw
   rw [← r0] at H
   clear r0
   have hS := Chg.refl b1 [x]
   refine RG.leaf' [(0, .qui), (1, .qui), (2, .qui), (3, .seq), (4, .qui)] (by as_aux_lemma => kernel_rfl) ?_
   refine uHV 30 0 hS (H.cells 2 rfl) (nq1 (H.raws 2 0 rfl rfl (by decide))) ?_
   refine uHP hS 1 ?_
   refine uHV 28 13 hS (H.cells 2 rfl) (nq1 (H.raws 2 0 rfl rfl (by decide))) ?_
   have Hr := H
   refine RH.sto ?_
   refine uWC 30 0 (rdV r a f s u q t).toArray H 0 rfl ?_
   intro _ z0 H
   have s0 := hS.sto z0 (.inr (by simp))
   refine ⟨s0, ?_⟩
   have hS := s0
   refine uHF hS 1 ?_
   refine qRB (.tuple #[.agg (rdV r a f s u q t).toArray, .I r.done]) Tryz.func25 (v2 (.cell 4 30) (.tmp 5) (vC (H.cells 0 rfl)) vT) ?_
   have hpost : (r : Rd) = gotR r frm hd dt ok := by
    clear H
    symm
    unfold gotR
    rw [if_neg (by rw [d0]; decide)]; rw [rfind_none fun j hj => A.2 j (by omega)]
   exact ⟨_, rfl, H.done, [.string r.object.key, .int .u64 r.object.version, .I r.object.size, .int .u32 ((r.object.sum.toNat : Nat) : Int), .I r.object.group, .int .u64 r.object.epoch, .slice a r.object.nodes.length f, .I r.kk, .I r.nn, .slice s r.pieces.length u, .slice q r.bad.length t, .I r.waited, .I r.limit, .I r.done], r, rfl, H.out (rd_mkB (by unfold rdB; omega) (H.rp 0 rfl) (H.rp 1 rfl) (H.rp 2 rfl)), hpost⟩
end Go.Proofs.YtppcdmbkgficiaaGreat
