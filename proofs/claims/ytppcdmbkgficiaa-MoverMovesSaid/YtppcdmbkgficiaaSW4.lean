import Derived.Test.YtppcdmbkgficiaaSW2
import Derived.Test.YtppcdmbkgficiaaSBxJoin
namespace Go.Proofs.Ytppcdmbkgficiaa
open Go.BX
theorem prepares_spec {S : Nat → Prop} {w : World} {W : Wr} {cs : List Value} (hW : wrS.rep S w cs W) (hR : W.heads.length = W.chunks.length ∧ W.heads.length = W.nodes.length) (hn : W.heads.length ≤ 1000000) (hcb : ∀ c ∈ W.chunks, c.length ≤ 1000000) :
 Calls Try.prog 57 #[.agg cs.toArray] w (Ret fun v w' => Ext w w' ∧ ∃ (a : Option Addr) (c : Nat), v = .slice a (msgsOf W).length c ∧ (Shape.slice msgS).rep (Nw S w) w' [.slice a (msgsOf W).length c] (msgsOf W)) := by
 obtain ⟨a3W, k3W, a4W, k4W, a5W, k5W, a6W, k6W, rfl, h0W, h1W, h2W, h3W, h4W, h5W, h6W, h7W, h8W, h9W⟩ := wr_open hW
 refine qS (fn := Try.f57) (n := 7) (σ := [(0, .agg (wrV W a3W k3W a4W k4W a5W k5W a6W k6W).toArray)]) Try.func57 ?_
 have H := Hp.startF (w := w) (S := S) (G := [Rp (Shape.slice hdrS) [.slice a3W W.heads.length k3W] W.heads, Rp (Shape.slice SB) [.slice a4W W.chunks.length k4W] W.chunks, Rp Li [.slice a5W W.nodes.length k5W] W.nodes, Rp Li [.slice a6W W.acks.length k6W] W.acks]) (.rp h3W (.rp h4W (.rp h5W (.rp h6W .nil))))
 refine qR 1 [.c [0], .c [1]] [(0, .agg (wrV W a3W k3W a4W k4W a5W k5W a6W k6W).toArray)] ?_
 refine qG (sq 0 2) ?_
 refine qB .seq 1 (sq 1 2) ((wrV W a3W k3W a4W k4W a5W k5W a6W k6W).toArray) 32 H ?_
 intro b1 w2 H
 refine qF 1 [(1, .P b1 0)] ?_
 refine qR 1 [.c [1, 0], .c [2]] [(1, .P b1 0)] ?_
 refine qG (sq 0 5) ?_
 refine qL .seq 3 (sq 1 5) 32 b1 0 0 (.agg (wrV W a3W k3W a4W k4W a5W k5W a6W k6W).toArray) (H.cells 0 rfl) ?_
 refine qP 2 (sq 3 5) [(3, .agg (wrV W a3W k3W a4W k4W a5W k5W a6W k6W).toArray), (4, .func (.func 88) #[] #[.P b1 0]), (5, .func (.func 89) #[] #[.P b1 0])] ?_
 have H := H.freezeM
 have H : Hp w S [] [] [] [Fc b1 0 (wrV W a3W k3W a4W k4W a5W k5W a6W k6W), Rp (Shape.slice hdrS) [.slice a3W W.heads.length k3W] W.heads, Rp (Shape.slice SB) [.slice a4W W.chunks.length k4W] W.chunks, Rp Li [.slice a5W W.nodes.length k5W] W.nodes, Rp Li [.slice a6W W.acks.length k6W] W.acks] _ := H
 refine qK .seq (some 6) (sq 4 5) 63 #[.agg (wrV W a3W k3W a4W k4W a5W k5W a6W k6W).toArray, .func (.func 88) #[] #[.P b1 0], .func (.func 89) #[] #[.P b1 0]] (messages_prep (S := Av S w [] (idsOf [] [])) (W := W) (wr_mkV u64a u64a ⟨rfl, h2W⟩ (H.rp 1 rfl) (H.rp 2 rfl) (H.rp 3 rfl) (H.rp 4 rfl) i64a i64a i64a) (H.fact 0 rfl) (by first | assumption | omega) (by omega) (by assumption)) ?_
 rintro _ w3 hE6 ⟨a4, c5, rfl, hr7⟩
 have H := H.addN hE6 (F := Rp (Shape.slice msgS) [.slice a4 (msgsOf W).length c5] (msgsOf W)) hr7
 refine qF 1 [(2, .slice a4 (msgsOf W).length c5)] ?_
 refine qT (.slice a4 (msgsOf W).length c5) Try.func57 ?_
 exact ⟨_, rfl, H.done, _, _, rfl, H.out (H.rp 0 rfl)⟩
theorem hdr_all {a b : Hdr} : ([((a.id.version : Int) == b.id.version), ((a.id.index : Int) == b.id.index), ((a.id.epoch : Int) == b.id.epoch), ((a.kk : Int) == b.kk), ((a.nn : Int) == b.nn), ((a.size : Int) == b.size), (((a.sum.toNat : Nat) : Int) == ((b.sum.toNat : Nat) : Int))].all id) = true ↔ a = b := by
 obtain ⟨⟨a1, a2, a3⟩, a4, a5, a6, a7⟩ := a
 obtain ⟨⟨b1, b2, b3⟩, b4, b5, b6, b7⟩ := b
 have h7 : ((a7.toNat : Nat) : Int) = ((b7.toNat : Nat) : Int) ↔ a7 = b7 := ⟨fun h => BitVec.eq_of_toNat_eq (by omega), fun h => by rw [h]⟩
 simp [h7, and_assoc]
theorem hdr_no {a b : Hdr} (h : ([((a.id.version : Int) == b.id.version), ((a.id.index : Int) == b.id.index), ((a.id.epoch : Int) == b.id.epoch), ((a.kk : Int) == b.kk), ((a.nn : Int) == b.nn), ((a.size : Int) == b.size), (((a.sum.toNat : Nat) : Int) == ((b.sum.toNat : Nat) : Int))].all id) = false) : a ≠ b := fun e => by
 rw [hdr_all.2 e] at h; cases h
def hitW (W : Wr) (frm : Int) (hd : Hdr) (i : Nat) : Bool := decide (W.heads[i]? = some hd) && decide (W.nodes[i]? = some frm)
def acksOf (W : Wr) (i n : Nat) : List Int := ((List.range n).map fun k : Nat => (k : Int)).filter fun k => decide (k = (i : Int)) || decide (k ∈ W.acks)
theorem acksOf_yes {W : Wr} {i k : Nat} (h : (k : Int) = (i : Int) ∨ (k : Int) ∈ W.acks) : acksOf W i k ++ [(k : Int)] = acksOf W i (k + 1) := by
 unfold acksOf
 rw [List.range_succ, List.map_append, List.filter_append]
 have e : (decide ((k : Int) = (i : Int)) || decide ((k : Int) ∈ W.acks)) = true := by simpa using h
 simp [List.filter_cons, e]
theorem acksOf_no {W : Wr} {i k : Nat} (h1 : ¬ (k : Int) = (i : Int)) (h2 : ¬ (k : Int) ∈ W.acks) : acksOf W i k = acksOf W i (k + 1) := by
 unfold acksOf
 rw [List.range_succ, List.map_append, List.filter_append]
 have e : (decide ((k : Int) = (i : Int)) || decide ((k : Int) ∈ W.acks)) = false := by simp [h1, h2]
 simp [List.filter_cons, e]
theorem acksOf_le (W : Wr) (i n : Nat) : (acksOf W i n).length ≤ n := by
 have := List.length_filter_le (fun k => decide (k = (i : Int)) || decide (k ∈ W.acks)) ((List.range n).map fun k : Nat => (k : Int))
 simpa [acksOf] using this
def gotOf (W : Wr) (kind frm : Int) (hd : Hdr) (ok : Bool) : Wr × Int :=
 if rightW W = false ∨ W.done ≠ 0 ∨ kind ≠ 10 then (W, W.done) else
 match (List.range W.heads.length).find? (hitW W frm hd) with
 | none => (W, W.done)
 | some i => if ok = false then ({ W with done := 2 }, 2) else
  if (acksOf W i W.heads.length).length = W.heads.length then ({ W with acks := acksOf W i W.heads.length, done := 1 }, 1) else ({ W with acks := acksOf W i W.heads.length }, W.done)
theorem find_hit {W : Wr} {frm : Int} {hd : Hdr} {i : Nat} (hi : i < W.heads.length) (h : hitW W frm hd i = true) (hn : ∀ j < i, hitW W frm hd j = false) : (List.range W.heads.length).find? (hitW W frm hd) = some i := by
 rw [List.find?_eq_some_iff_append]
 refine ⟨h, List.range i, (List.range (W.heads.length - i - 1)).map (· + (i + 1)), ?_, fun j hj => by simp [hn j (List.mem_range.1 hj)]⟩
 have e : W.heads.length = i + (1 + (W.heads.length - i - 1)) := by omega
 conv => lhs; rw [e, List.range_add, List.range_add]
 simp [Function.comp_def, Nat.add_comm, Nat.add_left_comm]
theorem find_none {W : Wr} {frm : Int} {hd : Hdr} (hn : ∀ j < W.heads.length, hitW W frm hd j = false) : (List.range W.heads.length).find? (hitW W frm hd) = none := by
 rw [List.find?_eq_none]
 intro j hj
 simp [hn j (List.mem_range.1 hj)]
theorem hit_at {W : Wr} {frm : Int} {hd : Hdr} {i : Nat} (h1 : i < W.heads.length) (h2 : i < W.nodes.length) (e1 : W.heads[i] = hd) (e2 : W.nodes[i] = frm) : hitW W frm hd i = true := by
 simp [hitW, h1, h2, e1, e2]
theorem miss_h {W : Wr} {frm : Int} {hd : Hdr} {i : Nat} (h1 : i < W.heads.length) (e1 : W.heads[i] ≠ hd) : hitW W frm hd i = false := by
 simp [hitW, h1, e1]
theorem miss_n {W : Wr} {frm : Int} {hd : Hdr} {i : Nat} (h2 : i < W.nodes.length) (e2 : W.nodes[i] ≠ frm) : hitW W frm hd i = false := by
 simp [hitW, h2, e2]
theorem lt_succ_cases {p : Nat → Prop} {i : Nat} (h : ∀ j < i, p j) (hi : p i) : ∀ j < i + 1, p j := fun j hj => by
 rcases Nat.lt_or_eq_of_le (Nat.le_of_lt_succ hj) with h1 | h1
 · exact h j h1
 · rw [h1]; exact hi
set_option maxHeartbeats 4000000 in
theorem got_spec {S : Nat → Prop} {w : World} {W : Wr} {cs : List Value} (hW : wrS.rep S w cs W) (kind frm : Int) (hd : Hdr) (ok : Bool) (x2 x3 x4 x5 x6 x7 x9 x10 x11 x12 x20 x21 x22 x23 x24 x25 x26 : Value) (hn : W.heads.length ≤ 1000000) :
 Calls Try.prog 23 #[.agg cs.toArray, .agg #[.I kind, .I frm, x2, x3, x4, x5, x6, x7, .bool ok, x9, x10, x11, x12, .int .u64 hd.id.version, .I hd.id.index, .int .u64 hd.id.epoch, .I hd.kk, .I hd.nn, .I hd.size, .int .u32 ((hd.sum.toNat : Nat) : Int), x20, x21, x22, x23, x24, x25, x26]] w (Ret fun v w' => Ext w w' ∧ ∃ (ds : List Value) (D : Wr) (e : Int), v = .tuple #[.agg ds.toArray, .I e] ∧ wrS.rep (Nw S w) w' ds D ∧ (D, e) = gotOf W kind frm hd ok) := by
 obtain ⟨a3W, k3W, a4W, k4W, a5W, k5W, a6W, k6W, rfl, h0W, h1W, h2W, h3W, h4W, h5W, h6W, h7W, h8W, h9W⟩ := wr_open hW
 refine qS (fn := Try.f23) (n := 85) (σ := [(0, .agg (wrV W a3W k3W a4W k4W a5W k5W a6W k6W).toArray), (1, .agg #[.I kind, .I frm, x2, x3, x4, x5, x6, x7, .bool ok, x9, x10, x11, x12, .int .u64 hd.id.version, .I hd.id.index, .int .u64 hd.id.epoch, .I hd.kk, .I hd.nn, .I hd.size, .int .u32 ((hd.sum.toNat : Nat) : Int), x20, x21, x22, x23, x24, x25, x26])]) Try.func23 ?_
 have H := Hp.startF (w := w) (S := S) (G := [Rp (Shape.slice hdrS) [.slice a3W W.heads.length k3W] W.heads, Rp (Shape.slice SB) [.slice a4W W.chunks.length k4W] W.chunks, Rp Li [.slice a5W W.nodes.length k5W] W.nodes, Rp Li [.slice a6W W.acks.length k6W] W.acks]) (.rp h3W (.rp h4W (.rp h5W (.rp h6W .nil))))
 refine qR 1 [.c [0], .c [1]] [(0, .agg (wrV W a3W k3W a4W k4W a5W k5W a6W k6W).toArray), (1, .agg #[.I kind, .I frm, x2, x3, x4, x5, x6, x7, .bool ok, x9, x10, x11, x12, .int .u64 hd.id.version, .I hd.id.index, .int .u64 hd.id.epoch, .I hd.kk, .I hd.nn, .I hd.size, .int .u32 ((hd.sum.toNat : Nat) : Int), x20, x21, x22, x23, x24, x25, x26])] ?_
 refine qG (sq 0 4) ?_
 refine qB .seq 2 (sq 1 4) ((wrV W a3W k3W a4W k4W a5W k5W a6W k6W).toArray) 32 H ?_
 intro b1 w2 H
 refine qB .seq 3 (sq 2 4) #[.I kind, .I frm, x2, x3, x4, x5, x6, x7, .bool ok, x9, x10, x11, x12, .int .u64 hd.id.version, .I hd.id.index, .int .u64 hd.id.epoch, .I hd.kk, .I hd.nn, .I hd.size, .int .u32 ((hd.sum.toNat : Nat) : Int), x20, x21, x22, x23, x24, x25, x26] 57 H ?_
 intro b3 w4 H
 refine qB .seq 4 (sq 3 4) ((wrZ).toArray) 32 H ?_
 intro b5 w6 H
 refine qF 1 [(2, .P b1 0), (3, .P b3 0), (4, .P b5 0)] ?_
 refine qR 2 [.c [1, 0, 0], .c [1, 0, 1], .c [2]] [(2, .P b1 0), (3, .P b3 0), (4, .P b5 0)] ?_
 refine WK.joinV (α := Bool) (fun x_ w_ => match x_ with | gb => Hp w S [] [(b5, .cells (wrZ).toArray 32 (0, 0)), (b3, .cells #[.I kind, .I frm, x2, x3, x4, x5, x6, x7, .bool ok, x9, x10, x11, x12, .int .u64 hd.id.version, .I hd.id.index, .int .u64 hd.id.epoch, .I hd.kk, .I hd.nn, .I hd.size, .int .u32 ((hd.sum.toNat : Nat) : Int), x20, x21, x22, x23, x24, x25, x26] 57 (0, 0)), (b1, .cells (wrV W a3W k3W a4W k4W a5W k5W a6W k6W).toArray 32 (0, 0))] [] [Rp (Shape.slice hdrS) [.slice a3W W.heads.length k3W] W.heads, Rp (Shape.slice SB) [.slice a4W W.chunks.length k4W] W.chunks, Rp Li [.slice a5W W.nodes.length k5W] W.nodes, Rp Li [.slice a6W W.acks.length k6W] W.acks] w_ ∧ gb = decide (rightW W = false ∨ W.done ≠ 0 ∨ kind ≠ 10)) (fun x_ => match x_ with | gb => [(2, .P b1 0), (3, .P b3 0), (4, .P b5 0), (22, .bool gb)]) [Cq Try.prog 23 [1, 0, 1], Cq Try.prog 23 [2]] (fun hJ7 => ?_) ?_
 ·
  refine qG (sq 0 13) ?_
  refine qL .seq 10 (sq 1 13) 32 b1 0 0 (.agg (wrV W a3W k3W a4W k4W a5W k5W a6W k6W).toArray) (H.cells 2 rfl) ?_
  refine qK .seq (some 11) (sq 2 13) 60 #[.agg (wrV W a3W k3W a4W k4W a5W k5W a6W k6W).toArray] (right_spec (W := W) (wr_mkV u64a u64a ⟨rfl, h2W⟩ (H.rp 0 rfl) (H.rp 1 rfl) (H.rp 2 rfl) (H.rp 3 rfl) i64a i64a i64a)) ?_
  rintro _ w9 hE10 rfl
  have H := H.ext hE10
  refine qP 2 (sq 4 13) [(2, .P b1 0), (3, .P b3 0), (4, .P b5 0), (13, .bool (!(rightW W)))] ?_
  refine RW.test (fun b_ => [(2, .P b1 0), (3, .P b3 0), (4, .P b5 0), (13, .bool b_)]) (!(rightW W)) (fun h11 => ?_) (fun h11 => ?_)
  ·
   replace h11 : (rightW W) = false := by revert h11; cases (rightW W) <;> simp
   have hrw8 : rightW W = false := by first | assumption | (simpa using h11)
   refine qF 9 [(2, .P b1 0), (3, .P b3 0), (4, .P b5 0), (22, .bool true)] ?_
   exact hJ7 (true) _ ⟨H, (decide_eq_true (.inl hrw8)).symm⟩
  ·
   replace h11 : (rightW W) = true := by revert h11; cases (rightW W) <;> simp
   have hrw9 : rightW W = true := by first | assumption | (simpa using h11)
   refine qP 1 (sq 5 13) [(2, .P b1 0), (3, .P b3 0), (4, .P b5 0), (13, .bool false), (14, .P b1 9)] ?_
   refine qL .seq 15 (sq 6 13) 30 b1 9 9 (.I W.done) (H.cells 2 rfl) ?_
   refine qP 3 (sq 9 13) [(2, .P b1 0), (3, .P b3 0), (4, .P b5 0), (18, .bool (W.done != 0))] ?_
   refine tN (fun b_ => [(2, .P b1 0), (3, .P b3 0), (4, .P b5 0), (18, .bool b_)]) W.done 0 (fun h12 => ?_) (fun h12 => ?_)
   ·
    have hdn8 := h12
    refine qF 4 [(2, .P b1 0), (3, .P b3 0), (4, .P b5 0), (22, .bool true)] ?_
    exact hJ7 (true) _ ⟨H, (decide_eq_true (.inr (.inl hdn8))).symm⟩
   ·
    have hdn9 := h12
    refine qP 1 (sq 10 13) [(2, .P b1 0), (3, .P b3 0), (4, .P b5 0), (18, .bool false), (19, .P b3 0)] ?_
    refine qL .seq 20 (sq 11 13) 45 b3 0 0 (.I kind) (H.cells 1 rfl) ?_
    refine qF 2 [(2, .P b1 0), (3, .P b3 0), (4, .P b5 0), (22, .bool (kind != 10))] ?_
    exact hJ7 (kind != 10) _ ⟨H, by rw [Bool.eq_iff_iff, decide_eq_true_iff, bne_iff_ne]; exact ⟨fun h => .inr (.inr h), fun h => h.elim (fun q => absurd (hrw9.symm.trans q) (by decide)) (fun q => q.elim (fun q => absurd hdn9 q) id)⟩⟩
 ·
  rintro gb w8 ⟨H, hgb⟩
  refine qC gb (fun h13 => ?_) (fun h13 => ?_)
  ·
   rw [hgb] at h13
   replace h13 := of_decide_eq_true h13
   have hw22 := h13
   refine qR 1 [.c [1, 0, 1, 0, 0], .c [1, 0, 1, 0, 1], .c [2]] [(2, .P b1 0), (4, .P b5 0)] ?_
   refine WK.drawH1 [b5] (.leaf [(0, .qui), (1, .qui), (2, .qui), (3, .seq), (4, .qui)]) Try_mixed (by as_aux_lemma => kernel_rfl) (by as_aux_lemma => kernel_rfl) ?_
   intro w14 hw15
   have H := H.draw
   rw [← hw15] at H
   clear hw15
   have hS := Chg.refl w14 [b5]
   refine RG.leaf' [(0, .qui), (1, .qui), (2, .qui), (3, .seq), (4, .qui)] (by as_aux_lemma => kernel_rfl) ?_
   refine qHL 23 [(1, .qui), (2, .qui), (3, .seq), (4, .qui)] 32 b1 0 0 (.agg (wrV W a3W k3W a4W k4W a5W k5W a6W k6W).toArray) hS (H.cells 2 rfl) (nq1 (H.raws 2 0 rfl rfl (by decide))) ?_
   refine qHP hS 1 [(2, .qui), (3, .seq), (4, .qui)] [(4, .P b5 0), (23, .agg (wrV W a3W k3W a4W k4W a5W k5W a6W k6W).toArray), (24, .P b1 9)] ?_
   refine qHL 25 [(3, .seq), (4, .qui)] 30 b1 9 9 (.I W.done) hS (H.cells 2 rfl) (nq1 (H.raws 2 0 rfl rfl (by decide))) ?_
   have Hr := H
   refine RH.sto ?_
   refine qWC 32 b5 0 [] (.agg (wrV W a3W k3W a4W k4W a5W k5W a6W k6W).toArray) [(b5, .cells (wrV W a3W k3W a4W k4W a5W k5W a6W k6W).toArray 32 (0, 0)), (b3, .cells #[.I kind, .I frm, x2, x3, x4, x5, x6, x7, .bool ok, x9, x10, x11, x12, .int .u64 hd.id.version, .I hd.id.index, .int .u64 hd.id.epoch, .I hd.kk, .I hd.nn, .I hd.size, .int .u32 ((hd.sum.toNat : Nat) : Int), x20, x21, x22, x23, x24, x25, x26] 57 (0, 0)), (b1, .cells (wrV W a3W k3W a4W k4W a5W k5W a6W k6W).toArray 32 (0, 0))] H 0 rfl rfl ?_
   intro w17 hch16 H
   have hS18 := hS.sto hch16 (.inr (by simp))
   refine ⟨hS18, ?_⟩
   have hS := hS18
   refine RH.fin hS 1 [4, 5] [(4, .P b5 0), (5, .I W.done)] (by as_aux_lemma => kernel_rfl) ?_
   refine qRB (.tuple #[.agg (wrV W a3W k3W a4W k4W a5W k5W a6W k6W).toArray, .I W.done]) Try.func23 (v2 (.cell 4 32) (.tmp 5) (vC (H.cells 0 rfl)) vT) ?_
   have hpost : (W, (W.done : Int)) = gotOf W kind frm hd ok := by
    clear H
    symm
    unfold gotOf; rw [if_pos hw22]
   exact ⟨_, rfl, H.done, [.int .u64 W.client, .int .u64 W.seq, .string W.key, .slice a3W W.heads.length k3W, .slice a4W W.chunks.length k4W, .slice a5W W.nodes.length k5W, .slice a6W W.acks.length k6W, .I W.waited, .I W.limit, .I W.done], W, W.done, rfl, H.out (wr_mkV u64a u64a ⟨rfl, h2W⟩ (H.rp 0 rfl) (H.rp 1 rfl) (H.rp 2 rfl) (H.rp 3 rfl) i64a i64a i64a), hpost⟩
  ·
   rw [hgb] at h13
   replace h13 := of_decide_eq_false h13
   have hw22 := h13
   have hrw9 : rightW W = true := by
    cases hq : rightW W
    · exact absurd (.inl hq) hw22
    · rfl
   have hrr9 := of_decide_eq_true (p := W.heads.length = W.chunks.length ∧ W.heads.length = W.nodes.length) hrw9
   refine qR 3 [.c [2, 0, 0], .c [2, 0, 1], .c [3]] [(2, .P b1 0), (3, .P b3 0), (4, .P b5 0)] ?_
   refine qG (sq 0 4) ?_
   refine qP 1 (sq 1 4) [(2, .P b1 0), (3, .P b3 0), (4, .P b5 0), (26, .P b1 3)] ?_
   refine qL .seq 27 (sq 2 4) 28 b1 3 3 (.slice a3W W.heads.length k3W) (H.cells 2 rfl) ?_
   refine qF 2 [(2, .P b1 0), (3, .P b3 0), (4, .P b5 0), (27, .slice a3W W.heads.length k3W), (28, .I ((W.heads.length : Nat) : Int)), (29, .I 0)] ?_
   refine qR 1 [.c [2, 0, 1, 0], .b 0, .c [3]] [(2, .P b1 0), (3, .P b3 0), (4, .P b5 0), (27, .slice a3W W.heads.length k3W), (28, .I ((W.heads.length : Nat) : Int)), (29, .I 0)] ?_
   refine WK.loop (α := Nat) (b := cd Try.prog 23 [2, 0, 1, 0, 0]) (by as_aux_lemma => kernel_rfl) (fun i => [(2, .P b1 0), (3, .P b3 0), (4, .P b5 0), (27, .slice a3W W.heads.length k3W), (28, .I ((W.heads.length : Nat) : Int)), (29, .I i)]) (fun i w' => Hp w S [] [(b5, .cells (wrZ).toArray 32 (0, 0)), (b3, .cells #[.I kind, .I frm, x2, x3, x4, x5, x6, x7, .bool ok, x9, x10, x11, x12, .int .u64 hd.id.version, .I hd.id.index, .int .u64 hd.id.epoch, .I hd.kk, .I hd.nn, .I hd.size, .int .u32 ((hd.sum.toNat : Nat) : Int), x20, x21, x22, x23, x24, x25, x26] 57 (0, 0)), (b1, .cells (wrV W a3W k3W a4W k4W a5W k5W a6W k6W).toArray 32 (0, 0))] [] [Rp (Shape.slice hdrS) [.slice a3W W.heads.length k3W] W.heads, Rp (Shape.slice SB) [.slice a4W W.chunks.length k4W] W.chunks, Rp Li [.slice a5W W.nodes.length k5W] W.nodes, Rp Li [.slice a6W W.acks.length k6W] W.acks] w' ∧ i ≤ W.heads.length ∧ ∀ j < i, hitW W frm hd j = false) (fun i => W.heads.length - i) 0 ⟨H, Nat.zero_le _, fun j hj => absurd hj (Nat.not_lt_zero j)⟩ (rfl) ?_
   rintro i w20 ⟨H, hinv0⟩ hback19
   refine qR 3 [.c [2, 0, 1, 0, 0, 1, 0], .c [2, 0, 1, 0, 0, 2], .l [2, 0, 1, 0, 0], .b 0, .c [3]] [(2, .P b1 0), (3, .P b3 0), (4, .P b5 0), (27, .slice a3W W.heads.length k3W), (28, .I ((W.heads.length : Nat) : Int)), (29, .I i), (30, .bool (decide (((i : Int) : Int) < ((W.heads.length : Nat) : Int))))] ?_
   refine qD (((i : Int) : Int) < ((W.heads.length : Nat) : Int)) (fun h21 => ?_) (fun h21 => ?_)
   ·
    refine qR 4 [.c [2, 0, 1, 0, 0, 2, 0, 0, 0], .c [2, 0, 1, 0, 0, 2, 0, 0, 1], .b 1, .c [2, 0, 1, 0, 0, 3], .l [2, 0, 1, 0, 0], .b 0, .c [3]] [(2, .P b1 0), (3, .P b3 0), (4, .P b5 0), (27, .slice a3W W.heads.length k3W), (28, .I ((W.heads.length : Nat) : Int)), (29, .I i)] ?_
    refine qG (sq 0 6) ?_
    refine qP 1 (sq 1 6) [(2, .P b1 0), (3, .P b3 0), (4, .P b5 0), (27, .slice a3W W.heads.length k3W), (28, .I ((W.heads.length : Nat) : Int)), (29, .I i), (31, .I i)] ?_
    have hx22 : i < W.heads.length := by omega
    refine qX .seq 32 (sq 2 6) 28 53 (i : Int) hdrS (W.heads[i]) H 0 rfl i (by omega) (List.getElem?_eq_getElem hx22) ?_
    intro b23 o24 es25 hr26 H
    obtain ⟨cs0q27, rfl, hf28, hf29, hf30, hf31⟩ := hdr_open hr26
    obtain ⟨rfl, hf33, hf34, hf35⟩ := cid_open hf28
    refine qL .seq 33 (sq 3 6) 53 b23 o24 0 (.agg (hdrV (W.heads[i])).toArray) (H.fc 0 rfl) ?_
    refine qB .seq 7 (sq 4 6) #[.int .u64 0, .I 0, .int .u64 0, .I 0, .I 0, .I 0, .int .u32 0] 53 H ?_
    intro b36 w37 H
    refine qP 1 (sq 5 6) [(2, .P b1 0), (3, .P b3 0), (4, .P b5 0), (6, .I i), (7, .P b36 0), (27, .slice a3W W.heads.length k3W), (28, .I ((W.heads.length : Nat) : Int)), (29, .I i), (33, .agg (hdrV (W.heads[i])).toArray)] ?_
    refine qW 53 b36 0 (sq 6 6) (.agg (hdrV (W.heads[i])).toArray) [(b36, .cells (hdrV (W.heads[i])).toArray 53 (0, 0)), (b5, .cells (wrZ).toArray 32 (0, 0)), (b3, .cells #[.I kind, .I frm, x2, x3, x4, x5, x6, x7, .bool ok, x9, x10, x11, x12, .int .u64 hd.id.version, .I hd.id.index, .int .u64 hd.id.epoch, .I hd.kk, .I hd.nn, .I hd.size, .int .u32 ((hd.sum.toNat : Nat) : Int), x20, x21, x22, x23, x24, x25, x26] 57 (0, 0)), (b1, .cells (wrV W a3W k3W a4W k4W a5W k5W a6W k6W).toArray 32 (0, 0))] H 0 rfl rfl ?_
    intro w38 H
    refine qF 0 [(2, .P b1 0), (3, .P b3 0), (4, .P b5 0), (6, .I i), (7, .P b36 0), (27, .slice a3W W.heads.length k3W), (28, .I ((W.heads.length : Nat) : Int)), (29, .I i)] ?_
    refine qR 2 [.c [2, 0, 1, 0, 0, 2, 0, 0, 1, 0, 0], .c [2, 0, 1, 0, 0, 2, 0, 0, 1, 0, 1], .c [2, 0, 1, 0, 0, 2, 0, 0, 2], .b 1, .c [2, 0, 1, 0, 0, 3], .l [2, 0, 1, 0, 0], .b 0, .c [3]] [(2, .P b1 0), (3, .P b3 0), (4, .P b5 0), (6, .I i), (7, .P b36 0), (27, .slice a3W W.heads.length k3W), (28, .I ((W.heads.length : Nat) : Int)), (29, .I i)] ?_
    refine WK.draw1 14 (qs [0, 1, 2, 3, 4, 5, 6, 7, 8, 9, 10, 11, 12, 13]) (qs [0, 1, 2, 3, 4, 5, 6, 7, 8, 9, 10, 11, 12, 13]) Try_mixed (by as_aux_lemma => kernel_rfl) (by as_aux_lemma => kernel_rfl) (by as_aux_lemma => kernel_rfl) ?_
    have H := H.draw
    generalize ({ w38 with drawn := w38.drawn + 1 } : World) = w39 at H ⊢
    refine qL .qui 34 (qs [1, 2, 3, 4, 5, 6, 7, 8, 9, 10, 11, 12, 13]) 53 b36 0 0 (.agg (hdrV (W.heads[i])).toArray) (H.cells 0 rfl) ?_
    refine qP 1 (qs [2, 3, 4, 5, 6, 7, 8, 9, 10, 11, 12, 13]) [(2, .P b1 0), (3, .P b3 0), (4, .P b5 0), (6, .I i), (27, .slice a3W W.heads.length k3W), (28, .I ((W.heads.length : Nat) : Int)), (29, .I i), (34, .agg (hdrV (W.heads[i])).toArray), (35, .P b3 13)] ?_
    refine qL .qui 36 (qs [3, 4, 5, 6, 7, 8, 9, 10, 11, 12, 13]) 53 b3 13 13 (.agg (hdrV hd).toArray) (H.cells 2 rfl) ?_
    refine RW.neA (κ := .qui) (d := some 37) (r := (qs [4, 5, 6, 7, 8, 9, 10, 11, 12, 13])) (T := 53) (xs := #[.int .u64 (((W.heads[i]).id).version), .I (((W.heads[i]).id).index), .int .u64 (((W.heads[i]).id).epoch), .I ((W.heads[i]).kk), .I ((W.heads[i]).nn), .I ((W.heads[i]).size), .int .u32 ((((W.heads[i]).sum).toNat : Nat) : Int)]) (ys := #[.int .u64 hd.id.version, .I hd.id.index, .int .u64 hd.id.epoch, .I hd.kk, .I hd.nn, .I hd.size, .int .u32 ((hd.sum.toNat : Nat) : Int)]) (ox := (.tmp 34)) (oy := (.tmp 36)) [((((W.heads[i]).id).version : Int) == hd.id.version), ((((W.heads[i]).id).index : Int) == hd.id.index), ((((W.heads[i]).id).epoch : Int) == hd.id.epoch), (((W.heads[i]).kk : Int) == hd.kk), (((W.heads[i]).nn : Int) == hd.nn), (((W.heads[i]).size : Int) == hd.size), ((((((W.heads[i]).sum).toNat : Nat) : Int) : Int) == ((hd.sum.toNat : Nat) : Int))] (by as_aux_lemma => kernel_rfl) (by as_aux_lemma => kernel_rfl) (by as_aux_lemma => kernel_rfl) ?_
    refine qP 1 (qs [5, 6, 7, 8, 9, 10, 11, 12, 13]) [(2, .P b1 0), (3, .P b3 0), (4, .P b5 0), (6, .I i), (27, .slice a3W W.heads.length k3W), (28, .I ((W.heads.length : Nat) : Int)), (29, .I i), (38, .bool (!([((((W.heads[i]).id).version : Int) == hd.id.version), ((((W.heads[i]).id).index : Int) == hd.id.index), ((((W.heads[i]).id).epoch : Int) == hd.id.epoch), (((W.heads[i]).kk : Int) == hd.kk), (((W.heads[i]).nn : Int) == hd.nn), (((W.heads[i]).size : Int) == hd.size), ((((((W.heads[i]).sum).toNat : Nat) : Int) : Int) == ((hd.sum.toNat : Nat) : Int))].all id)))] ?_
    refine RW.test (fun b_ => [(2, .P b1 0), (3, .P b3 0), (4, .P b5 0), (6, .I i), (27, .slice a3W W.heads.length k3W), (28, .I ((W.heads.length : Nat) : Int)), (29, .I i), (38, .bool b_)]) (!([((((W.heads[i]).id).version : Int) == hd.id.version), ((((W.heads[i]).id).index : Int) == hd.id.index), ((((W.heads[i]).id).epoch : Int) == hd.id.epoch), (((W.heads[i]).kk : Int) == hd.kk), (((W.heads[i]).nn : Int) == hd.nn), (((W.heads[i]).size : Int) == hd.size), ((((((W.heads[i]).sum).toNat : Nat) : Int) : Int) == ((hd.sum.toNat : Nat) : Int))].all id)) (fun h40 => ?_) (fun h40 => ?_)
    ·
     replace h40 : (([((((W.heads[i]).id).version : Int) == hd.id.version), ((((W.heads[i]).id).index : Int) == hd.id.index), ((((W.heads[i]).id).epoch : Int) == hd.id.epoch), (((W.heads[i]).kk : Int) == hd.kk), (((W.heads[i]).nn : Int) == hd.nn), (((W.heads[i]).size : Int) == hd.size), ((((((W.heads[i]).sum).toNat : Nat) : Int) : Int) == ((hd.sum.toNat : Nat) : Int))].all id)) = false := by revert h40; cases (([((((W.heads[i]).id).version : Int) == hd.id.version), ((((W.heads[i]).id).index : Int) == hd.id.index), ((((W.heads[i]).id).epoch : Int) == hd.id.epoch), (((W.heads[i]).kk : Int) == hd.kk), (((W.heads[i]).nn : Int) == hd.nn), (((W.heads[i]).size : Int) == hd.size), ((((((W.heads[i]).sum).toNat : Nat) : Int) : Int) == ((hd.sum.toNat : Nat) : Int))].all id)) <;> simp
     have hne9 : W.heads[i] ≠ hd := hdr_no h40
     have hmiss9 : hitW W frm hd i = false := miss_h (by omega) hne9
     refine qF 9 [(2, .P b1 0), (3, .P b3 0), (4, .P b5 0), (6, .I i), (27, .slice a3W W.heads.length k3W), (28, .I ((W.heads.length : Nat) : Int)), (29, .I i), (47, .bool true)] ?_
     refine qR 2 [.c [2, 0, 1, 0, 0, 3], .l [2, 0, 1, 0, 0], .b 0, .c [3]] [(2, .P b1 0), (3, .P b3 0), (4, .P b5 0), (27, .slice a3W W.heads.length k3W), (28, .I ((W.heads.length : Nat) : Int)), (29, .I i)] ?_
     refine qG (sq 0 2) ?_
     refine qI .seq 81 (sq 1 2) ((i : Int) + 1) ?_
     refine qF 1 [(2, .P b1 0), (3, .P b3 0), (4, .P b5 0), (27, .slice a3W W.heads.length k3W), (28, .I ((W.heads.length : Nat) : Int)), (29, .I ((i : Int) + 1))] ?_
     have H := H.pick [1, 2, 3, 4] rfl
     have H := H.frontM 3 (M' := [(b1, .cells (wrV W a3W k3W a4W k4W a5W k5W a6W k6W).toArray 32 (0, 0)), (b36, .cells (hdrV (W.heads[i])).toArray 53 (0, 0)), (b5, .cells (wrZ).toArray 32 (0, 0)), (b3, .cells #[.I kind, .I frm, x2, x3, x4, x5, x6, x7, .bool ok, x9, x10, x11, x12, .int .u64 hd.id.version, .I hd.id.index, .int .u64 hd.id.epoch, .I hd.kk, .I hd.nn, .I hd.size, .int .u32 ((hd.sum.toNat : Nat) : Int), x20, x21, x22, x23, x24, x25, x26] 57 (0, 0))]) rfl
     have H := H.frontM 3 (M' := [(b3, .cells #[.I kind, .I frm, x2, x3, x4, x5, x6, x7, .bool ok, x9, x10, x11, x12, .int .u64 hd.id.version, .I hd.id.index, .int .u64 hd.id.epoch, .I hd.kk, .I hd.nn, .I hd.size, .int .u32 ((hd.sum.toNat : Nat) : Int), x20, x21, x22, x23, x24, x25, x26] 57 (0, 0)), (b1, .cells (wrV W a3W k3W a4W k4W a5W k5W a6W k6W).toArray 32 (0, 0)), (b36, .cells (hdrV (W.heads[i])).toArray 53 (0, 0)), (b5, .cells (wrZ).toArray 32 (0, 0))]) rfl
     have H := H.frontM 3 (M' := [(b5, .cells (wrZ).toArray 32 (0, 0)), (b3, .cells #[.I kind, .I frm, x2, x3, x4, x5, x6, x7, .bool ok, x9, x10, x11, x12, .int .u64 hd.id.version, .I hd.id.index, .int .u64 hd.id.epoch, .I hd.kk, .I hd.nn, .I hd.size, .int .u32 ((hd.sum.toNat : Nat) : Int), x20, x21, x22, x23, x24, x25, x26] 57 (0, 0)), (b1, .cells (wrV W a3W k3W a4W k4W a5W k5W a6W k6W).toArray 32 (0, 0)), (b36, .cells (hdrV (W.heads[i])).toArray 53 (0, 0))]) rfl
     have H := H.drop (M' := [(b5, .cells (wrZ).toArray 32 (0, 0)), (b3, .cells #[.I kind, .I frm, x2, x3, x4, x5, x6, x7, .bool ok, x9, x10, x11, x12, .int .u64 hd.id.version, .I hd.id.index, .int .u64 hd.id.epoch, .I hd.kk, .I hd.nn, .I hd.size, .int .u32 ((hd.sum.toNat : Nat) : Int), x20, x21, x22, x23, x24, x25, x26] 57 (0, 0)), (b1, .cells (wrV W a3W k3W a4W k4W a5W k5W a6W k6W).toArray 32 (0, 0))]) (W' := []) (by repeat (first | exact List.Sublist.refl _ | apply List.Sublist.cons_cons | apply List.Sublist.cons)) (by repeat (first | exact List.Sublist.refl _ | apply List.Sublist.cons_cons | apply List.Sublist.cons))
     exact WK.back (hback19 (i + 1) _ ⟨H, by omega, lt_succ_cases hinv0.2 hmiss9⟩ (by first | omega | (simp only []; omega))) (by as_aux_lemma => kernel_rfl)
    ·
     replace h40 : (([((((W.heads[i]).id).version : Int) == hd.id.version), ((((W.heads[i]).id).index : Int) == hd.id.index), ((((W.heads[i]).id).epoch : Int) == hd.id.epoch), (((W.heads[i]).kk : Int) == hd.kk), (((W.heads[i]).nn : Int) == hd.nn), (((W.heads[i]).size : Int) == hd.size), ((((((W.heads[i]).sum).toNat : Nat) : Int) : Int) == ((hd.sum.toNat : Nat) : Int))].all id)) = true := by revert h40; cases (([((((W.heads[i]).id).version : Int) == hd.id.version), ((((W.heads[i]).id).index : Int) == hd.id.index), ((((W.heads[i]).id).epoch : Int) == hd.id.epoch), (((W.heads[i]).kk : Int) == hd.kk), (((W.heads[i]).nn : Int) == hd.nn), (((W.heads[i]).size : Int) == hd.size), ((((((W.heads[i]).sum).toNat : Nat) : Int) : Int) == ((hd.sum.toNat : Nat) : Int))].all id)) <;> simp
     have heq9 : W.heads[i] = hd := hdr_all.1 h40
     refine qP 1 (qs [6, 7, 8, 9, 10, 11, 12, 13]) [(2, .P b1 0), (3, .P b3 0), (4, .P b5 0), (6, .I i), (27, .slice a3W W.heads.length k3W), (28, .I ((W.heads.length : Nat) : Int)), (29, .I i), (38, .bool false), (39, .P b1 5)] ?_
     refine qL .qui 40 (qs [7, 8, 9, 10, 11, 12, 13]) 25 b1 5 5 (.slice a5W W.nodes.length k5W) (H.cells 3 rfl) ?_
     refine qP 1 (qs [8, 9, 10, 11, 12, 13]) [(2, .P b1 0), (3, .P b3 0), (4, .P b5 0), (6, .I i), (27, .slice a3W W.heads.length k3W), (28, .I ((W.heads.length : Nat) : Int)), (29, .I i), (38, .bool false), (40, .slice a5W W.nodes.length k5W), (41, .I i)] ?_
     have hx41 : i < W.nodes.length := by omega
     refine qX .qui 42 (qs [9, 10, 11, 12, 13]) 25 3 (i : Int) Si (W.nodes[i]) H 3 rfl i (by omega) (List.getElem?_eq_getElem hx41) ?_
     intro b42 o43 es44 hr45 H
     have hb46 := Shape.i64_bd hr45
     obtain ⟨rfl, -⟩ := hr45
     refine qL .qui 43 (qs [10, 11, 12, 13]) 3 b42 o43 0 (.I (W.nodes[i])) (H.fc 0 rfl) ?_
     refine qP 1 (qs [11, 12, 13]) [(2, .P b1 0), (3, .P b3 0), (4, .P b5 0), (6, .I i), (27, .slice a3W W.heads.length k3W), (28, .I ((W.heads.length : Nat) : Int)), (29, .I i), (38, .bool false), (43, .I (W.nodes[i])), (44, .P b3 1)] ?_
     refine qL .qui 45 (qs [12, 13]) 3 b3 1 1 (.I frm) (H.cells 2 rfl) ?_
     refine qF 2 [(2, .P b1 0), (3, .P b3 0), (4, .P b5 0), (6, .I i), (27, .slice a3W W.heads.length k3W), (28, .I ((W.heads.length : Nat) : Int)), (29, .I i), (47, .bool ((W.nodes[i]) != frm))] ?_
     refine qN (W.nodes[i]) frm (fun h47 => ?_) (fun h47 => ?_)
     ·
      have hmiss9 : hitW W frm hd i = false := by first | exact miss_h (by omega) hne9 | exact miss_n (by omega) h47
      refine qR 1 [.c [2, 0, 1, 0, 0, 3], .l [2, 0, 1, 0, 0], .b 0, .c [3]] [(2, .P b1 0), (3, .P b3 0), (4, .P b5 0), (27, .slice a3W W.heads.length k3W), (28, .I ((W.heads.length : Nat) : Int)), (29, .I i)] ?_
      refine qG (sq 0 2) ?_
      refine qI .seq 81 (sq 1 2) ((i : Int) + 1) ?_
      refine qF 1 [(2, .P b1 0), (3, .P b3 0), (4, .P b5 0), (27, .slice a3W W.heads.length k3W), (28, .I ((W.heads.length : Nat) : Int)), (29, .I ((i : Int) + 1))] ?_
      have H := H.pick [2, 3, 4, 5] rfl
      have H := H.frontM 3 (M' := [(b1, .cells (wrV W a3W k3W a4W k4W a5W k5W a6W k6W).toArray 32 (0, 0)), (b36, .cells (hdrV (W.heads[i])).toArray 53 (0, 0)), (b5, .cells (wrZ).toArray 32 (0, 0)), (b3, .cells #[.I kind, .I frm, x2, x3, x4, x5, x6, x7, .bool ok, x9, x10, x11, x12, .int .u64 hd.id.version, .I hd.id.index, .int .u64 hd.id.epoch, .I hd.kk, .I hd.nn, .I hd.size, .int .u32 ((hd.sum.toNat : Nat) : Int), x20, x21, x22, x23, x24, x25, x26] 57 (0, 0))]) rfl
      have H := H.frontM 3 (M' := [(b3, .cells #[.I kind, .I frm, x2, x3, x4, x5, x6, x7, .bool ok, x9, x10, x11, x12, .int .u64 hd.id.version, .I hd.id.index, .int .u64 hd.id.epoch, .I hd.kk, .I hd.nn, .I hd.size, .int .u32 ((hd.sum.toNat : Nat) : Int), x20, x21, x22, x23, x24, x25, x26] 57 (0, 0)), (b1, .cells (wrV W a3W k3W a4W k4W a5W k5W a6W k6W).toArray 32 (0, 0)), (b36, .cells (hdrV (W.heads[i])).toArray 53 (0, 0)), (b5, .cells (wrZ).toArray 32 (0, 0))]) rfl
      have H := H.frontM 3 (M' := [(b5, .cells (wrZ).toArray 32 (0, 0)), (b3, .cells #[.I kind, .I frm, x2, x3, x4, x5, x6, x7, .bool ok, x9, x10, x11, x12, .int .u64 hd.id.version, .I hd.id.index, .int .u64 hd.id.epoch, .I hd.kk, .I hd.nn, .I hd.size, .int .u32 ((hd.sum.toNat : Nat) : Int), x20, x21, x22, x23, x24, x25, x26] 57 (0, 0)), (b1, .cells (wrV W a3W k3W a4W k4W a5W k5W a6W k6W).toArray 32 (0, 0)), (b36, .cells (hdrV (W.heads[i])).toArray 53 (0, 0))]) rfl
      have H := H.drop (M' := [(b5, .cells (wrZ).toArray 32 (0, 0)), (b3, .cells #[.I kind, .I frm, x2, x3, x4, x5, x6, x7, .bool ok, x9, x10, x11, x12, .int .u64 hd.id.version, .I hd.id.index, .int .u64 hd.id.epoch, .I hd.kk, .I hd.nn, .I hd.size, .int .u32 ((hd.sum.toNat : Nat) : Int), x20, x21, x22, x23, x24, x25, x26] 57 (0, 0)), (b1, .cells (wrV W a3W k3W a4W k4W a5W k5W a6W k6W).toArray 32 (0, 0))]) (W' := []) (by repeat (first | exact List.Sublist.refl _ | apply List.Sublist.cons_cons | apply List.Sublist.cons)) (by repeat (first | exact List.Sublist.refl _ | apply List.Sublist.cons_cons | apply List.Sublist.cons))
      exact WK.back (hback19 (i + 1) _ ⟨H, by omega, lt_succ_cases hinv0.2 hmiss9⟩ (by first | omega | (simp only []; omega))) (by as_aux_lemma => kernel_rfl)
     ·
      have hhit9 : hitW W frm hd i = true := hit_at (by omega) (by omega) heq9 h47
      refine qR 3 [.c [2, 0, 1, 0, 0, 2, 0, 0, 2, 0, 0], .c [2, 0, 1, 0, 0, 2, 0, 0, 2, 0, 1], .c [2, 0, 1, 0, 0, 2, 0, 0, 3], .b 1, .c [2, 0, 1, 0, 0, 3], .l [2, 0, 1, 0, 0], .b 0, .c [3]] [(2, .P b1 0), (3, .P b3 0), (4, .P b5 0), (6, .I i)] ?_
      refine qG (sq 0 3) ?_
      refine qP 1 (sq 1 3) [(2, .P b1 0), (4, .P b5 0), (6, .I i), (48, .P b3 8)] ?_
      refine qL .seq 49 (sq 2 3) 4 b3 8 8 (.bool ok) (H.cells 2 rfl) ?_
      refine qF 1 [(2, .P b1 0), (4, .P b5 0), (6, .I i), (50, .bool (!ok))] ?_
      refine qC (!ok) (fun h48 => ?_) (fun h48 => ?_)
      ·
       replace h48 : (ok) = false := by revert h48; cases (ok) <;> simp
       refine qR 1 [.c [2, 0, 1, 0, 0, 2, 0, 0, 2, 0, 1, 0, 0], .c [2, 0, 1, 0, 0, 2, 0, 0, 2, 0, 1, 0, 1], .c [2, 0, 1, 0, 0, 2, 0, 0, 3], .b 1, .c [2, 0, 1, 0, 0, 3], .l [2, 0, 1, 0, 0], .b 0, .c [3]] [(2, .P b1 0), (4, .P b5 0)] ?_
       refine qG (sq 0 2) ?_
       refine qP 1 (sq 1 2) [(2, .P b1 0), (4, .P b5 0), (51, .P b1 9)] ?_
       refine qW 30 b1 9 (sq 2 2) (.I 2) [(b36, .cells (hdrV (W.heads[i])).toArray 53 (0, 0)), (b5, .cells (wrZ).toArray 32 (0, 0)), (b3, .cells #[.I kind, .I frm, x2, x3, x4, x5, x6, x7, .bool ok, x9, x10, x11, x12, .int .u64 hd.id.version, .I hd.id.index, .int .u64 hd.id.epoch, .I hd.kk, .I hd.nn, .I hd.size, .int .u32 ((hd.sum.toNat : Nat) : Int), x20, x21, x22, x23, x24, x25, x26] 57 (0, 0)), (b1, .cells ((wrV W a3W k3W a4W k4W a5W k5W a6W k6W).set 9 (.I 2)).toArray 32 (0, 0))] H 3 rfl rfl ?_
       intro w49 H
       refine qF 0 [(2, .P b1 0), (4, .P b5 0)] ?_
       refine qR 2 [.c [3, 0], .c [4]] [(2, .P b1 0), (4, .P b5 0)] ?_
       refine WK.drawH1 [b5] (.leaf [(0, .qui), (1, .qui), (2, .qui), (3, .seq), (4, .qui)]) Try_mixed (by as_aux_lemma => kernel_rfl) (by as_aux_lemma => kernel_rfl) ?_
       intro w50 hw51
       have H := H.draw
       rw [← hw51] at H
       clear hw51
       have hS := Chg.refl w50 [b5]
       refine RG.leaf' [(0, .qui), (1, .qui), (2, .qui), (3, .seq), (4, .qui)] (by as_aux_lemma => kernel_rfl) ?_
       refine qHL 82 [(1, .qui), (2, .qui), (3, .seq), (4, .qui)] 32 b1 0 0 (.agg ((wrV W a3W k3W a4W k4W a5W k5W a6W k6W).set 9 (.I 2)).toArray) hS (H.cells 3 rfl) (nq1 (H.raws 3 1 rfl rfl (by decide))) ?_
       refine qHP hS 1 [(2, .qui), (3, .seq), (4, .qui)] [(4, .P b5 0), (82, .agg ((wrV W a3W k3W a4W k4W a5W k5W a6W k6W).set 9 (.I 2)).toArray), (83, .P b1 9)] ?_
       refine qHL 84 [(3, .seq), (4, .qui)] 30 b1 9 9 (.I 2) hS (H.cells 3 rfl) (nq1 (H.raws 3 1 rfl rfl (by decide))) ?_
       have Hr := H
       refine RH.sto ?_
       refine qWC 32 b5 0 [] (.agg ((wrV W a3W k3W a4W k4W a5W k5W a6W k6W).set 9 (.I 2)).toArray) [(b36, .cells (hdrV (W.heads[i])).toArray 53 (0, 0)), (b5, .cells ((wrV W a3W k3W a4W k4W a5W k5W a6W k6W).set 9 (.I 2)).toArray 32 (0, 0)), (b3, .cells #[.I kind, .I frm, x2, x3, x4, x5, x6, x7, .bool ok, x9, x10, x11, x12, .int .u64 hd.id.version, .I hd.id.index, .int .u64 hd.id.epoch, .I hd.kk, .I hd.nn, .I hd.size, .int .u32 ((hd.sum.toNat : Nat) : Int), x20, x21, x22, x23, x24, x25, x26] 57 (0, 0)), (b1, .cells ((wrV W a3W k3W a4W k4W a5W k5W a6W k6W).set 9 (.I 2)).toArray 32 (0, 0))] H 1 rfl rfl ?_
       intro w53 hch52 H
       have hS54 := hS.sto hch52 (.inr (by simp))
       refine ⟨hS54, ?_⟩
       have hS := hS54
       refine RH.fin hS 1 [4, 5] [(4, .P b5 0), (5, .I 2)] (by as_aux_lemma => kernel_rfl) ?_
       refine qRB (.tuple #[.agg ((wrV W a3W k3W a4W k4W a5W k5W a6W k6W).set 9 (.I 2)).toArray, .I 2]) Try.func23 (v2 (.cell 4 32) (.tmp 5) (vC (H.cells 1 rfl)) vT) ?_
       have hpost : (⟨W.client, W.seq, W.key, W.heads, W.chunks, W.nodes, W.acks, W.waited, W.limit, 2⟩, (2 : Int)) = gotOf W kind frm hd ok := by
        clear H
        symm
        unfold gotOf; rw [if_neg hw22]; rw [find_hit (i := i) (by omega) hhit9 hinv0.2]; simp only []; rw [if_pos (by first | assumption | simp_all)]
       exact ⟨_, rfl, H.done, [.int .u64 W.client, .int .u64 W.seq, .string W.key, .slice a3W W.heads.length k3W, .slice a4W W.chunks.length k4W, .slice a5W W.nodes.length k5W, .slice a6W W.acks.length k6W, .I W.waited, .I W.limit, .I 2], ⟨W.client, W.seq, W.key, W.heads, W.chunks, W.nodes, W.acks, W.waited, W.limit, 2⟩, 2, rfl, H.out (wr_mk (l0 := [.int .u64 W.client]) (y0 := W.client) (l1 := [.int .u64 W.seq]) (y1 := W.seq) (l2 := [.string W.key]) (y2 := W.key) (l3 := [.slice a3W W.heads.length k3W]) (y3 := W.heads) (l4 := [.slice a4W W.chunks.length k4W]) (y4 := W.chunks) (l5 := [.slice a5W W.nodes.length k5W]) (y5 := W.nodes) (l6 := [.slice a6W W.acks.length k6W]) (y6 := W.acks) (l7 := [.I W.waited]) (y7 := W.waited) (l8 := [.I W.limit]) (y8 := W.limit) (l9 := [.I 2]) (y9 := 2) u64a u64a ⟨rfl, h2W⟩ (H.rp 2 rfl) (H.rp 3 rfl) (H.rp 4 rfl) (H.rp 5 rfl) i64a i64a (Shape.int_mk (by decide))), hpost⟩
      ·
       replace h48 : (ok) = true := by revert h48; cases (ok) <;> simp
       refine qR 5 [.c [2, 0, 1, 0, 0, 2, 0, 0, 4, 0, 0], .c [2, 0, 1, 0, 0, 2, 0, 0, 4, 0, 1], .c [2, 0, 1, 0, 0, 2, 0, 0, 5], .b 1, .c [2, 0, 1, 0, 0, 3], .l [2, 0, 1, 0, 0], .b 0, .c [3]] [(2, .P b1 0), (4, .P b5 0), (6, .I i), (8, .slice none 0 0)] ?_
       refine qG (sq 0 4) ?_
       refine qP 1 (sq 1 4) [(2, .P b1 0), (4, .P b5 0), (6, .I i), (8, .slice none 0 0), (52, .P b1 3)] ?_
       refine qL .seq 53 (sq 2 4) 28 b1 3 3 (.slice a3W W.heads.length k3W) (H.cells 3 rfl) ?_
       refine qF 2 [(2, .P b1 0), (4, .P b5 0), (6, .I i), (8, .slice none 0 0), (54, .I ((W.heads.length : Nat) : Int)), (55, .I 0)] ?_
       refine qR 1 [.c [2, 0, 1, 0, 0, 2, 0, 0, 4, 0, 1, 0], .b 2, .c [2, 0, 1, 0, 0, 2, 0, 0, 5], .b 1, .c [2, 0, 1, 0, 0, 3], .l [2, 0, 1, 0, 0], .b 0, .c [3]] [(2, .P b1 0), (4, .P b5 0), (6, .I i), (8, .slice none 0 0), (54, .I ((W.heads.length : Nat) : Int)), (55, .I 0)] ?_
       have H := H.ownNil Si 3
       refine WK.loop (α := Nat × Option Addr × Nat) (b := cd Try.prog 23 [2, 0, 1, 0, 0, 2, 0, 0, 4, 0, 1, 0, 0]) (by as_aux_lemma => kernel_rfl) (fun st_ => match st_ with | (k, ao, co) => [(2, .P b1 0), (4, .P b5 0), (6, .I i), (8, .slice ao (acksOf W i k).length co), (54, .I ((W.heads.length : Nat) : Int)), (55, .I k)]) (fun st_ w' => match st_ with | (k, ao, co) => Hp w S [] [(b36, .cells (hdrV (W.heads[i])).toArray 53 (0, 0)), (b5, .cells (wrZ).toArray 32 (0, 0)), (b3, .cells #[.I kind, .I frm, x2, x3, x4, x5, x6, x7, .bool ok, x9, x10, x11, x12, .int .u64 hd.id.version, .I hd.id.index, .int .u64 hd.id.epoch, .I hd.kk, .I hd.nn, .I hd.size, .int .u32 ((hd.sum.toNat : Nat) : Int), x20, x21, x22, x23, x24, x25, x26] 57 (0, 0)), (b1, .cells (wrV W a3W k3W a4W k4W a5W k5W a6W k6W).toArray 32 (0, 0))] [⟨Shape.int .i64, 3, .slice ao (acksOf W i k).length co, acksOf W i k⟩] [Fc b42 o43 [.I (W.nodes[i])], Fc b23 o24 (hdrV (W.heads[i])), Rp (Shape.slice hdrS) [.slice a3W W.heads.length k3W] W.heads, Rp (Shape.slice SB) [.slice a4W W.chunks.length k4W] W.chunks, Rp Li [.slice a5W W.nodes.length k5W] W.nodes, Rp Li [.slice a6W W.acks.length k6W] W.acks] w' ∧ k ≤ W.heads.length) (fun st_ => match st_ with | (k, ao, co) => W.heads.length - k) (0, none, 0) ⟨H, Nat.zero_le _⟩ (rfl) ?_
       rintro ⟨k, ao, co⟩ w56 ⟨H, hinv1⟩ hback55
       have hal := acksOf_le W i k
       refine qR 3 [.c [2, 0, 1, 0, 0, 2, 0, 0, 4, 0, 1, 0, 0, 1, 0], .c [2, 0, 1, 0, 0, 2, 0, 0, 4, 0, 1, 0, 0, 2], .l [2, 0, 1, 0, 0, 2, 0, 0, 4, 0, 1, 0, 0], .b 2, .c [2, 0, 1, 0, 0, 2, 0, 0, 5], .b 1, .c [2, 0, 1, 0, 0, 3], .l [2, 0, 1, 0, 0], .b 0, .c [3]] [(2, .P b1 0), (4, .P b5 0), (6, .I i), (8, .slice ao (acksOf W i k).length co), (54, .I ((W.heads.length : Nat) : Int)), (55, .I k), (56, .bool (decide (((k : Int) : Int) < ((W.heads.length : Nat) : Int))))] ?_
       refine qD (((k : Int) : Int) < ((W.heads.length : Nat) : Int)) (fun h57 => ?_) (fun h57 => ?_)
       ·
        refine qR 6 [.c [2, 0, 1, 0, 0, 2, 0, 0, 4, 0, 1, 0, 0, 2, 0, 0, 1, 0], .c [2, 0, 1, 0, 0, 2, 0, 0, 4, 0, 1, 0, 0, 2, 0, 0, 2], .b 3, .c [2, 0, 1, 0, 0, 2, 0, 0, 4, 0, 1, 0, 0, 3], .l [2, 0, 1, 0, 0, 2, 0, 0, 4, 0, 1, 0, 0], .b 2, .c [2, 0, 1, 0, 0, 2, 0, 0, 5], .b 1, .c [2, 0, 1, 0, 0, 3], .l [2, 0, 1, 0, 0], .b 0, .c [3]] [(2, .P b1 0), (4, .P b5 0), (6, .I i), (8, .slice ao (acksOf W i k).length co), (9, .I k), (54, .I ((W.heads.length : Nat) : Int)), (55, .I k)] ?_
        refine qG (sq 0 9) ?_
        refine qP 4 (sq 4 9) [(2, .P b1 0), (4, .P b5 0), (6, .I i), (8, .slice ao (acksOf W i k).length co), (9, .I k), (54, .I ((W.heads.length : Nat) : Int)), (55, .I k), (61, .bool ((k : Int) == (i : Int)))] ?_
        refine tE (fun b_ => [(2, .P b1 0), (4, .P b5 0), (6, .I i), (8, .slice ao (acksOf W i k).length co), (9, .I k), (54, .I ((W.heads.length : Nat) : Int)), (55, .I k), (61, .bool b_)]) (k : Int) (i : Int) (fun h58 => ?_) (fun h58 => ?_)
        ·
         refine qF 5 [(2, .P b1 0), (4, .P b5 0), (6, .I i), (8, .slice ao (acksOf W i k).length co), (9, .I k), (54, .I ((W.heads.length : Nat) : Int)), (55, .I k), (66, .bool true)] ?_
         refine qR 1 [.c [2, 0, 1, 0, 0, 2, 0, 0, 4, 0, 1, 0, 0, 2, 0, 0, 2, 0], .b 3, .c [2, 0, 1, 0, 0, 2, 0, 0, 4, 0, 1, 0, 0, 3], .l [2, 0, 1, 0, 0, 2, 0, 0, 4, 0, 1, 0, 0], .b 2, .c [2, 0, 1, 0, 0, 2, 0, 0, 5], .b 1, .c [2, 0, 1, 0, 0, 3], .l [2, 0, 1, 0, 0], .b 0, .c [3]] [(2, .P b1 0), (4, .P b5 0), (6, .I i), (8, .slice ao (acksOf W i k).length co), (9, .I k), (54, .I ((W.heads.length : Nat) : Int)), (55, .I k)] ?_
         refine qG (sq 0 5) ?_
         refine qP 2 (sq 2 5) [(2, .P b1 0), (4, .P b5 0), (6, .I i), (8, .slice ao (acksOf W i k).length co), (54, .I ((W.heads.length : Nat) : Int)), (55, .I k), (67, .slice ao (acksOf W i k).length co), (68, .I k)] ?_
         refine RW.new (κ := .seq) (d := some 69) (r := (sq 3 5)) (o := .cells #[.I k] 3 (0, 0)) (v := fun b => .slice (some ⟨b, 0, none⟩) 1 1) (fun b => by as_aux_lemma => kernel_rfl) (nofun) H ?_
         intro b59 w60 H
         have H := H.freeze 0 rfl Si ([(k : Int)] : List Int) 1 (by simp [maxLen]) (by first | exact Nat.le_refl _ | simp) (EsP.cons (c := [.I k]) i64a EsP.nil)
         have H : Hp w S [] [(b36, .cells (hdrV (W.heads[i])).toArray 53 (0, 0)), (b5, .cells (wrZ).toArray 32 (0, 0)), (b3, .cells #[.I kind, .I frm, x2, x3, x4, x5, x6, x7, .bool ok, x9, x10, x11, x12, .int .u64 hd.id.version, .I hd.id.index, .int .u64 hd.id.epoch, .I hd.kk, .I hd.nn, .I hd.size, .int .u32 ((hd.sum.toNat : Nat) : Int), x20, x21, x22, x23, x24, x25, x26] 57 (0, 0)), (b1, .cells (wrV W a3W k3W a4W k4W a5W k5W a6W k6W).toArray 32 (0, 0))] [⟨Shape.int .i64, 3, .slice ao (acksOf W i k).length co, acksOf W i k⟩] [Rp Li [.slice (some ⟨b59, 0, none⟩) 1 1] ([(k : Int)] : List Int), Fc b42 o43 [.I (W.nodes[i])], Fc b23 o24 (hdrV (W.heads[i])), Rp (Shape.slice hdrS) [.slice a3W W.heads.length k3W] W.heads, Rp (Shape.slice SB) [.slice a4W W.chunks.length k4W] W.chunks, Rp Li [.slice a5W W.nodes.length k5W] W.nodes, Rp Li [.slice a6W W.acks.length k6W] W.acks] _ := H
         refine RW.appendW (d := some 70) (r := (sq 4 5)) (T := 25) (ty := 25) (e := 3) (m := 1) (by_ := 8) (v := .slice ao (acksOf W i k).length co) (a2 := (some ⟨b59, 0, none⟩)) (l2 := 1) (c2 := 1) (zs := acksOf W i (k + 1)) (by as_aux_lemma => kernel_rfl) (by as_aux_lemma => kernel_rfl) rfl H 0 rfl 0 rfl (acksOf_yes (by first | (left; assumption) | (right; assumption))) (by have := acksOf_le W i (k + 1); omega) ?_
         intro a61 c62 w64 H hc63
         have H : Hp w S [] [(b36, .cells (hdrV (W.heads[i])).toArray 53 (0, 0)), (b5, .cells (wrZ).toArray 32 (0, 0)), (b3, .cells #[.I kind, .I frm, x2, x3, x4, x5, x6, x7, .bool ok, x9, x10, x11, x12, .int .u64 hd.id.version, .I hd.id.index, .int .u64 hd.id.epoch, .I hd.kk, .I hd.nn, .I hd.size, .int .u32 ((hd.sum.toNat : Nat) : Int), x20, x21, x22, x23, x24, x25, x26] 57 (0, 0)), (b1, .cells (wrV W a3W k3W a4W k4W a5W k5W a6W k6W).toArray 32 (0, 0))] [⟨Shape.int .i64, 3, .slice a61 ((acksOf W i (k + 1)).length) c62, acksOf W i (k + 1)⟩] [Rp Li [.slice (some ⟨b59, 0, none⟩) 1 1] ([(k : Int)] : List Int), Fc b42 o43 [.I (W.nodes[i])], Fc b23 o24 (hdrV (W.heads[i])), Rp (Shape.slice hdrS) [.slice a3W W.heads.length k3W] W.heads, Rp (Shape.slice SB) [.slice a4W W.chunks.length k4W] W.chunks, Rp Li [.slice a5W W.nodes.length k5W] W.nodes, Rp Li [.slice a6W W.acks.length k6W] W.acks] _ := H
         refine qF 1 [(2, .P b1 0), (4, .P b5 0), (6, .I i), (8, .slice a61 ((acksOf W i (k + 1)).length) c62), (54, .I ((W.heads.length : Nat) : Int)), (55, .I k)] ?_
         refine qR 1 [.c [2, 0, 1, 0, 0, 2, 0, 0, 4, 0, 1, 0, 0, 3], .l [2, 0, 1, 0, 0, 2, 0, 0, 4, 0, 1, 0, 0], .b 2, .c [2, 0, 1, 0, 0, 2, 0, 0, 5], .b 1, .c [2, 0, 1, 0, 0, 3], .l [2, 0, 1, 0, 0], .b 0, .c [3]] [(2, .P b1 0), (4, .P b5 0), (6, .I i), (8, .slice a61 ((acksOf W i (k + 1)).length) c62), (54, .I ((W.heads.length : Nat) : Int)), (55, .I k)] ?_
         refine qG (sq 0 2) ?_
         refine qI .seq 71 (sq 1 2) ((k : Int) + 1) ?_
         refine qF 1 [(2, .P b1 0), (4, .P b5 0), (6, .I i), (8, .slice a61 ((acksOf W i (k + 1)).length) c62), (54, .I ((W.heads.length : Nat) : Int)), (55, .I ((k : Int) + 1))] ?_
         have H := H.pick [1, 2, 3, 4, 5, 6] rfl
         exact WK.back (hback55 (k + 1, a61, c62) _ ⟨H, by omega⟩ (by first | omega | (simp only []; omega))) (by first | rfl | (rw [acksOf_no (by assumption) (by assumption)]; rfl))
        ·
         refine qP 1 (sq 5 9) [(2, .P b1 0), (4, .P b5 0), (6, .I i), (8, .slice ao (acksOf W i k).length co), (9, .I k), (54, .I ((W.heads.length : Nat) : Int)), (55, .I k), (61, .bool false), (62, .P b1 6)] ?_
         refine qL .seq 63 (sq 6 9) 25 b1 6 6 (.slice a6W W.acks.length k6W) (H.cells 3 rfl) ?_
         refine qP 1 (sq 7 9) [(2, .P b1 0), (4, .P b5 0), (6, .I i), (8, .slice ao (acksOf W i k).length co), (9, .I k), (54, .I ((W.heads.length : Nat) : Int)), (55, .I k), (61, .bool false), (63, .slice a6W W.acks.length k6W), (64, .I k)] ?_
         refine qK .seq (some 65) (sq 8 9) 61 #[.slice a6W W.acks.length k6W, .I k] (contains_spec (k : Int) (H.rp 5 rfl)) ?_
         rintro _ w65 hE66 rfl
         have H := H.ext hE66
         refine qF 1 [(2, .P b1 0), (4, .P b5 0), (6, .I i), (8, .slice ao (acksOf W i k).length co), (9, .I k), (54, .I ((W.heads.length : Nat) : Int)), (55, .I k), (66, .bool (decide ((k : Int) ∈ W.acks)))] ?_
         refine qD ((k : Int) ∈ W.acks) (fun h67 => ?_) (fun h67 => ?_)
         ·
          refine qG (sq 0 5) ?_
          refine qP 2 (sq 2 5) [(2, .P b1 0), (4, .P b5 0), (6, .I i), (8, .slice ao (acksOf W i k).length co), (54, .I ((W.heads.length : Nat) : Int)), (55, .I k), (67, .slice ao (acksOf W i k).length co), (68, .I k)] ?_
          refine RW.new (κ := .seq) (d := some 69) (r := (sq 3 5)) (o := .cells #[.I k] 3 (0, 0)) (v := fun b => .slice (some ⟨b, 0, none⟩) 1 1) (fun b => by as_aux_lemma => kernel_rfl) (nofun) H ?_
          intro b68 w69 H
          have H := H.freeze 0 rfl Si ([(k : Int)] : List Int) 1 (by simp [maxLen]) (by first | exact Nat.le_refl _ | simp) (EsP.cons (c := [.I k]) i64a EsP.nil)
          have H : Hp w S [] [(b36, .cells (hdrV (W.heads[i])).toArray 53 (0, 0)), (b5, .cells (wrZ).toArray 32 (0, 0)), (b3, .cells #[.I kind, .I frm, x2, x3, x4, x5, x6, x7, .bool ok, x9, x10, x11, x12, .int .u64 hd.id.version, .I hd.id.index, .int .u64 hd.id.epoch, .I hd.kk, .I hd.nn, .I hd.size, .int .u32 ((hd.sum.toNat : Nat) : Int), x20, x21, x22, x23, x24, x25, x26] 57 (0, 0)), (b1, .cells (wrV W a3W k3W a4W k4W a5W k5W a6W k6W).toArray 32 (0, 0))] [⟨Shape.int .i64, 3, .slice ao (acksOf W i k).length co, acksOf W i k⟩] [Rp Li [.slice (some ⟨b68, 0, none⟩) 1 1] ([(k : Int)] : List Int), Fc b42 o43 [.I (W.nodes[i])], Fc b23 o24 (hdrV (W.heads[i])), Rp (Shape.slice hdrS) [.slice a3W W.heads.length k3W] W.heads, Rp (Shape.slice SB) [.slice a4W W.chunks.length k4W] W.chunks, Rp Li [.slice a5W W.nodes.length k5W] W.nodes, Rp Li [.slice a6W W.acks.length k6W] W.acks] _ := H
          refine RW.appendW (d := some 70) (r := (sq 4 5)) (T := 25) (ty := 25) (e := 3) (m := 1) (by_ := 8) (v := .slice ao (acksOf W i k).length co) (a2 := (some ⟨b68, 0, none⟩)) (l2 := 1) (c2 := 1) (zs := acksOf W i (k + 1)) (by as_aux_lemma => kernel_rfl) (by as_aux_lemma => kernel_rfl) rfl H 0 rfl 0 rfl (acksOf_yes (by first | (left; assumption) | (right; assumption))) (by have := acksOf_le W i (k + 1); omega) ?_
          intro a70 c71 w73 H hc72
          have H : Hp w S [] [(b36, .cells (hdrV (W.heads[i])).toArray 53 (0, 0)), (b5, .cells (wrZ).toArray 32 (0, 0)), (b3, .cells #[.I kind, .I frm, x2, x3, x4, x5, x6, x7, .bool ok, x9, x10, x11, x12, .int .u64 hd.id.version, .I hd.id.index, .int .u64 hd.id.epoch, .I hd.kk, .I hd.nn, .I hd.size, .int .u32 ((hd.sum.toNat : Nat) : Int), x20, x21, x22, x23, x24, x25, x26] 57 (0, 0)), (b1, .cells (wrV W a3W k3W a4W k4W a5W k5W a6W k6W).toArray 32 (0, 0))] [⟨Shape.int .i64, 3, .slice a70 ((acksOf W i (k + 1)).length) c71, acksOf W i (k + 1)⟩] [Rp Li [.slice (some ⟨b68, 0, none⟩) 1 1] ([(k : Int)] : List Int), Fc b42 o43 [.I (W.nodes[i])], Fc b23 o24 (hdrV (W.heads[i])), Rp (Shape.slice hdrS) [.slice a3W W.heads.length k3W] W.heads, Rp (Shape.slice SB) [.slice a4W W.chunks.length k4W] W.chunks, Rp Li [.slice a5W W.nodes.length k5W] W.nodes, Rp Li [.slice a6W W.acks.length k6W] W.acks] _ := H
          refine qF 1 [(2, .P b1 0), (4, .P b5 0), (6, .I i), (8, .slice a70 ((acksOf W i (k + 1)).length) c71), (54, .I ((W.heads.length : Nat) : Int)), (55, .I k)] ?_
          refine qR 1 [.c [2, 0, 1, 0, 0, 2, 0, 0, 4, 0, 1, 0, 0, 3], .l [2, 0, 1, 0, 0, 2, 0, 0, 4, 0, 1, 0, 0], .b 2, .c [2, 0, 1, 0, 0, 2, 0, 0, 5], .b 1, .c [2, 0, 1, 0, 0, 3], .l [2, 0, 1, 0, 0], .b 0, .c [3]] [(2, .P b1 0), (4, .P b5 0), (6, .I i), (8, .slice a70 ((acksOf W i (k + 1)).length) c71), (54, .I ((W.heads.length : Nat) : Int)), (55, .I k)] ?_
          refine qG (sq 0 2) ?_
          refine qI .seq 71 (sq 1 2) ((k : Int) + 1) ?_
          refine qF 1 [(2, .P b1 0), (4, .P b5 0), (6, .I i), (8, .slice a70 ((acksOf W i (k + 1)).length) c71), (54, .I ((W.heads.length : Nat) : Int)), (55, .I ((k : Int) + 1))] ?_
          have H := H.pick [1, 2, 3, 4, 5, 6] rfl
          exact WK.back (hback55 (k + 1, a70, c71) _ ⟨H, by omega⟩ (by first | omega | (simp only []; omega))) (by first | rfl | (rw [acksOf_no (by assumption) (by assumption)]; rfl))
         ·
          refine qR 2 [.c [2, 0, 1, 0, 0, 2, 0, 0, 4, 0, 1, 0, 0, 3], .l [2, 0, 1, 0, 0, 2, 0, 0, 4, 0, 1, 0, 0], .b 2, .c [2, 0, 1, 0, 0, 2, 0, 0, 5], .b 1, .c [2, 0, 1, 0, 0, 3], .l [2, 0, 1, 0, 0], .b 0, .c [3]] [(2, .P b1 0), (4, .P b5 0), (6, .I i), (8, .slice ao (acksOf W i k).length co), (54, .I ((W.heads.length : Nat) : Int)), (55, .I k)] ?_
          refine qG (sq 0 2) ?_
          refine qI .seq 71 (sq 1 2) ((k : Int) + 1) ?_
          refine qF 1 [(2, .P b1 0), (4, .P b5 0), (6, .I i), (8, .slice ao (acksOf W i k).length co), (54, .I ((W.heads.length : Nat) : Int)), (55, .I ((k : Int) + 1))] ?_
          have H := H.reW (acksOf_no (by assumption) (by assumption)) (by rw [acksOf_no (by assumption) (by assumption)])
          exact WK.back (hback55 (k + 1, ao, co) _ ⟨H, by omega⟩ (by first | omega | (simp only []; omega))) (by first | rfl | (rw [acksOf_no (by assumption) (by assumption)]; rfl))
       ·
        refine qR 2 [.c [2, 0, 1, 0, 0, 2, 0, 0, 5, 0], .c [2, 0, 1, 0, 0, 2, 0, 0, 6], .b 1, .c [2, 0, 1, 0, 0, 3], .l [2, 0, 1, 0, 0], .b 0, .c [3]] [(2, .P b1 0), (4, .P b5 0), (8, .slice ao (acksOf W i k).length co)] ?_
        refine qG (sq 0 3) ?_
        refine qP 2 (sq 2 3) [(2, .P b1 0), (4, .P b5 0), (8, .slice ao (acksOf W i k).length co), (72, .slice ao (acksOf W i k).length co), (73, .P b1 6)] ?_
        refine qW 25 b1 6 (sq 3 3) (.slice ao (acksOf W i k).length co) [(b36, .cells (hdrV (W.heads[i])).toArray 53 (0, 0)), (b5, .cells (wrZ).toArray 32 (0, 0)), (b3, .cells #[.I kind, .I frm, x2, x3, x4, x5, x6, x7, .bool ok, x9, x10, x11, x12, .int .u64 hd.id.version, .I hd.id.index, .int .u64 hd.id.epoch, .I hd.kk, .I hd.nn, .I hd.size, .int .u32 ((hd.sum.toNat : Nat) : Int), x20, x21, x22, x23, x24, x25, x26] 57 (0, 0)), (b1, .cells ((wrV W a3W k3W a4W k4W a5W k5W none 0).set 6 (.slice ao (acksOf W i k).length co)).toArray 32 (0, 0))] H 3 rfl rfl ?_
        intro w74 H
        refine qF 0 [(2, .P b1 0), (4, .P b5 0), (8, .slice ao (acksOf W i k).length co)] ?_
        refine qR 2 [.c [2, 0, 1, 0, 0, 2, 0, 0, 6, 0, 0], .c [2, 0, 1, 0, 0, 2, 0, 0, 6, 0, 1], .c [2, 0, 1, 0, 0, 2, 0, 0, 7], .b 1, .c [2, 0, 1, 0, 0, 3], .l [2, 0, 1, 0, 0], .b 0, .c [3]] [(2, .P b1 0), (4, .P b5 0), (8, .slice ao (acksOf W i k).length co)] ?_
        refine qG (sq 0 6) ?_
        refine qP 3 (sq 3 6) [(2, .P b1 0), (4, .P b5 0), (75, .I (((acksOf W i k).length : Nat) : Int)), (76, .P b1 3)] ?_
        refine qL .seq 77 (sq 4 6) 28 b1 3 3 (.slice a3W W.heads.length k3W) (H.cells 3 rfl) ?_
        refine qF 2 [(2, .P b1 0), (4, .P b5 0), (79, .bool ((((acksOf W i k).length : Nat) : Int) == ((W.heads.length : Nat) : Int)))] ?_
        refine qE (((acksOf W i k).length : Nat) : Int) ((W.heads.length : Nat) : Int) (fun h75 => ?_) (fun h75 => ?_)
        ·
         refine qG (sq 0 2) ?_
         refine qP 1 (sq 1 2) [(2, .P b1 0), (4, .P b5 0), (80, .P b1 9)] ?_
         refine qW 30 b1 9 (sq 2 2) (.I 1) [(b36, .cells (hdrV (W.heads[i])).toArray 53 (0, 0)), (b5, .cells (wrZ).toArray 32 (0, 0)), (b3, .cells #[.I kind, .I frm, x2, x3, x4, x5, x6, x7, .bool ok, x9, x10, x11, x12, .int .u64 hd.id.version, .I hd.id.index, .int .u64 hd.id.epoch, .I hd.kk, .I hd.nn, .I hd.size, .int .u32 ((hd.sum.toNat : Nat) : Int), x20, x21, x22, x23, x24, x25, x26] 57 (0, 0)), (b1, .cells (((wrV W a3W k3W a4W k4W a5W k5W none 0).set 6 (.slice ao (acksOf W i k).length co)).set 9 (.I 1)).toArray 32 (0, 0))] H 3 rfl rfl ?_
         intro w76 H
         refine qF 0 [(2, .P b1 0), (4, .P b5 0)] ?_
         refine qR 2 [.c [3, 0], .c [4]] [(2, .P b1 0), (4, .P b5 0)] ?_
         refine WK.drawH1 [b5] (.leaf [(0, .qui), (1, .qui), (2, .qui), (3, .seq), (4, .qui)]) Try_mixed (by as_aux_lemma => kernel_rfl) (by as_aux_lemma => kernel_rfl) ?_
         intro w77 hw78
         have H := H.draw
         rw [← hw78] at H
         clear hw78
         have hS := Chg.refl w77 [b5]
         refine RG.leaf' [(0, .qui), (1, .qui), (2, .qui), (3, .seq), (4, .qui)] (by as_aux_lemma => kernel_rfl) ?_
         refine qHL 82 [(1, .qui), (2, .qui), (3, .seq), (4, .qui)] 32 b1 0 0 (.agg (((wrV W a3W k3W a4W k4W a5W k5W none 0).set 6 (.slice ao (acksOf W i k).length co)).set 9 (.I 1)).toArray) hS (H.cells 3 rfl) (nq1 (H.raws 3 1 rfl rfl (by decide))) ?_
         refine qHP hS 1 [(2, .qui), (3, .seq), (4, .qui)] [(4, .P b5 0), (82, .agg (((wrV W a3W k3W a4W k4W a5W k5W none 0).set 6 (.slice ao (acksOf W i k).length co)).set 9 (.I 1)).toArray), (83, .P b1 9)] ?_
         refine qHL 84 [(3, .seq), (4, .qui)] 30 b1 9 9 (.I 1) hS (H.cells 3 rfl) (nq1 (H.raws 3 1 rfl rfl (by decide))) ?_
         have Hr := H
         refine RH.sto ?_
         refine qWC 32 b5 0 [] (.agg (((wrV W a3W k3W a4W k4W a5W k5W none 0).set 6 (.slice ao (acksOf W i k).length co)).set 9 (.I 1)).toArray) [(b36, .cells (hdrV (W.heads[i])).toArray 53 (0, 0)), (b5, .cells (((wrV W a3W k3W a4W k4W a5W k5W none 0).set 6 (.slice ao (acksOf W i k).length co)).set 9 (.I 1)).toArray 32 (0, 0)), (b3, .cells #[.I kind, .I frm, x2, x3, x4, x5, x6, x7, .bool ok, x9, x10, x11, x12, .int .u64 hd.id.version, .I hd.id.index, .int .u64 hd.id.epoch, .I hd.kk, .I hd.nn, .I hd.size, .int .u32 ((hd.sum.toNat : Nat) : Int), x20, x21, x22, x23, x24, x25, x26] 57 (0, 0)), (b1, .cells (((wrV W a3W k3W a4W k4W a5W k5W none 0).set 6 (.slice ao (acksOf W i k).length co)).set 9 (.I 1)).toArray 32 (0, 0))] H 1 rfl rfl ?_
         intro w80 hch79 H
         have hS81 := hS.sto hch79 (.inr (by simp))
         refine ⟨hS81, ?_⟩
         have hS := hS81
         refine RH.fin hS 1 [4, 5] [(4, .P b5 0), (5, .I 1)] (by as_aux_lemma => kernel_rfl) ?_
         refine qRB (.tuple #[.agg (((wrV W a3W k3W a4W k4W a5W k5W none 0).set 6 (.slice ao (acksOf W i k).length co)).set 9 (.I 1)).toArray, .I 1]) Try.func23 (v2 (.cell 4 32) (.tmp 5) (vC (H.cells 1 rfl)) vT) ?_
         have H : Hp w S [] [(b36, .cells (hdrV (W.heads[i])).toArray 53 (0, 0)), (b5, .cells (((wrV W a3W k3W a4W k4W a5W k5W none 0).set 6 (.slice ao (acksOf W i k).length co)).set 9 (.I 1)).toArray 32 (0, 0)), (b3, .cells #[.I kind, .I frm, x2, x3, x4, x5, x6, x7, .bool ok, x9, x10, x11, x12, .int .u64 hd.id.version, .I hd.id.index, .int .u64 hd.id.epoch, .I hd.kk, .I hd.nn, .I hd.size, .int .u32 ((hd.sum.toNat : Nat) : Int), x20, x21, x22, x23, x24, x25, x26] 57 (0, 0)), (b1, .cells (((wrV W a3W k3W a4W k4W a5W k5W none 0).set 6 (.slice ao (acksOf W i k).length co)).set 9 (.I 1)).toArray 32 (0, 0))] [] [Rp Li [.slice ao (acksOf W i k).length co] (acksOf W i k), Fc b42 o43 [.I (W.nodes[i])], Fc b23 o24 (hdrV (W.heads[i])), Rp (Shape.slice hdrS) [.slice a3W W.heads.length k3W] W.heads, Rp (Shape.slice SB) [.slice a4W W.chunks.length k4W] W.chunks, Rp Li [.slice a5W W.nodes.length k5W] W.nodes, Rp Li [.slice a6W W.acks.length k6W] W.acks] _ := H.freezeW 0 rfl
         have hpost : (⟨W.client, W.seq, W.key, W.heads, W.chunks, W.nodes, acksOf W i k, W.waited, W.limit, 1⟩, (1 : Int)) = gotOf W kind frm hd ok := by
          clear H
          symm
          unfold gotOf; rw [if_neg hw22]; have hk9 : k = W.heads.length := by omega
          subst hk9
          rw [find_hit (i := i) (by omega) hhit9 hinv0.2]; simp only []; rw [if_neg (by simp_all)]; rw [if_pos (by omega)]
         exact ⟨_, rfl, H.done, [.int .u64 W.client, .int .u64 W.seq, .string W.key, .slice a3W W.heads.length k3W, .slice a4W W.chunks.length k4W, .slice a5W W.nodes.length k5W, .slice ao (acksOf W i k).length co, .I W.waited, .I W.limit, .I 1], ⟨W.client, W.seq, W.key, W.heads, W.chunks, W.nodes, acksOf W i k, W.waited, W.limit, 1⟩, 1, rfl, H.out (wr_mk (l0 := [.int .u64 W.client]) (y0 := W.client) (l1 := [.int .u64 W.seq]) (y1 := W.seq) (l2 := [.string W.key]) (y2 := W.key) (l3 := [.slice a3W W.heads.length k3W]) (y3 := W.heads) (l4 := [.slice a4W W.chunks.length k4W]) (y4 := W.chunks) (l5 := [.slice a5W W.nodes.length k5W]) (y5 := W.nodes) (l6 := [.slice ao (acksOf W i k).length co]) (y6 := acksOf W i k) (l7 := [.I W.waited]) (y7 := W.waited) (l8 := [.I W.limit]) (y8 := W.limit) (l9 := [.I 1]) (y9 := 1) u64a u64a ⟨rfl, h2W⟩ (H.rp 3 rfl) (H.rp 4 rfl) (H.rp 5 rfl) (H.rp 0 rfl) i64a i64a (Shape.int_mk (by decide))), hpost⟩
        ·
         refine qR 3 [.c [3, 0], .c [4]] [(2, .P b1 0), (4, .P b5 0)] ?_
         refine WK.drawH1 [b5] (.leaf [(0, .qui), (1, .qui), (2, .qui), (3, .seq), (4, .qui)]) Try_mixed (by as_aux_lemma => kernel_rfl) (by as_aux_lemma => kernel_rfl) ?_
         intro w82 hw83
         have H := H.draw
         rw [← hw83] at H
         clear hw83
         have hS := Chg.refl w82 [b5]
         refine RG.leaf' [(0, .qui), (1, .qui), (2, .qui), (3, .seq), (4, .qui)] (by as_aux_lemma => kernel_rfl) ?_
         refine qHL 82 [(1, .qui), (2, .qui), (3, .seq), (4, .qui)] 32 b1 0 0 (.agg ((wrV W a3W k3W a4W k4W a5W k5W none 0).set 6 (.slice ao (acksOf W i k).length co)).toArray) hS (H.cells 3 rfl) (nq1 (H.raws 3 1 rfl rfl (by decide))) ?_
         refine qHP hS 1 [(2, .qui), (3, .seq), (4, .qui)] [(4, .P b5 0), (82, .agg ((wrV W a3W k3W a4W k4W a5W k5W none 0).set 6 (.slice ao (acksOf W i k).length co)).toArray), (83, .P b1 9)] ?_
         refine qHL 84 [(3, .seq), (4, .qui)] 30 b1 9 9 (.I W.done) hS (H.cells 3 rfl) (nq1 (H.raws 3 1 rfl rfl (by decide))) ?_
         have Hr := H
         refine RH.sto ?_
         refine qWC 32 b5 0 [] (.agg ((wrV W a3W k3W a4W k4W a5W k5W none 0).set 6 (.slice ao (acksOf W i k).length co)).toArray) [(b36, .cells (hdrV (W.heads[i])).toArray 53 (0, 0)), (b5, .cells ((wrV W a3W k3W a4W k4W a5W k5W none 0).set 6 (.slice ao (acksOf W i k).length co)).toArray 32 (0, 0)), (b3, .cells #[.I kind, .I frm, x2, x3, x4, x5, x6, x7, .bool ok, x9, x10, x11, x12, .int .u64 hd.id.version, .I hd.id.index, .int .u64 hd.id.epoch, .I hd.kk, .I hd.nn, .I hd.size, .int .u32 ((hd.sum.toNat : Nat) : Int), x20, x21, x22, x23, x24, x25, x26] 57 (0, 0)), (b1, .cells ((wrV W a3W k3W a4W k4W a5W k5W none 0).set 6 (.slice ao (acksOf W i k).length co)).toArray 32 (0, 0))] H 1 rfl rfl ?_
         intro w85 hch84 H
         have hS86 := hS.sto hch84 (.inr (by simp))
         refine ⟨hS86, ?_⟩
         have hS := hS86
         refine RH.fin hS 1 [4, 5] [(4, .P b5 0), (5, .I W.done)] (by as_aux_lemma => kernel_rfl) ?_
         refine qRB (.tuple #[.agg ((wrV W a3W k3W a4W k4W a5W k5W none 0).set 6 (.slice ao (acksOf W i k).length co)).toArray, .I W.done]) Try.func23 (v2 (.cell 4 32) (.tmp 5) (vC (H.cells 1 rfl)) vT) ?_
         have H : Hp w S [] [(b36, .cells (hdrV (W.heads[i])).toArray 53 (0, 0)), (b5, .cells ((wrV W a3W k3W a4W k4W a5W k5W none 0).set 6 (.slice ao (acksOf W i k).length co)).toArray 32 (0, 0)), (b3, .cells #[.I kind, .I frm, x2, x3, x4, x5, x6, x7, .bool ok, x9, x10, x11, x12, .int .u64 hd.id.version, .I hd.id.index, .int .u64 hd.id.epoch, .I hd.kk, .I hd.nn, .I hd.size, .int .u32 ((hd.sum.toNat : Nat) : Int), x20, x21, x22, x23, x24, x25, x26] 57 (0, 0)), (b1, .cells ((wrV W a3W k3W a4W k4W a5W k5W none 0).set 6 (.slice ao (acksOf W i k).length co)).toArray 32 (0, 0))] [] [Rp Li [.slice ao (acksOf W i k).length co] (acksOf W i k), Fc b42 o43 [.I (W.nodes[i])], Fc b23 o24 (hdrV (W.heads[i])), Rp (Shape.slice hdrS) [.slice a3W W.heads.length k3W] W.heads, Rp (Shape.slice SB) [.slice a4W W.chunks.length k4W] W.chunks, Rp Li [.slice a5W W.nodes.length k5W] W.nodes, Rp Li [.slice a6W W.acks.length k6W] W.acks] _ := H.freezeW 0 rfl
         have hpost : (⟨W.client, W.seq, W.key, W.heads, W.chunks, W.nodes, acksOf W i k, W.waited, W.limit, W.done⟩, (W.done : Int)) = gotOf W kind frm hd ok := by
          clear H
          symm
          unfold gotOf; rw [if_neg hw22]; have hk9 : k = W.heads.length := by omega
          subst hk9
          rw [find_hit (i := i) (by omega) hhit9 hinv0.2]; simp only []; rw [if_neg (by simp_all)]; rw [if_neg (by omega)]
         exact ⟨_, rfl, H.done, [.int .u64 W.client, .int .u64 W.seq, .string W.key, .slice a3W W.heads.length k3W, .slice a4W W.chunks.length k4W, .slice a5W W.nodes.length k5W, .slice ao (acksOf W i k).length co, .I W.waited, .I W.limit, .I W.done], ⟨W.client, W.seq, W.key, W.heads, W.chunks, W.nodes, acksOf W i k, W.waited, W.limit, W.done⟩, W.done, rfl, H.out (wr_mk (l0 := [.int .u64 W.client]) (y0 := W.client) (l1 := [.int .u64 W.seq]) (y1 := W.seq) (l2 := [.string W.key]) (y2 := W.key) (l3 := [.slice a3W W.heads.length k3W]) (y3 := W.heads) (l4 := [.slice a4W W.chunks.length k4W]) (y4 := W.chunks) (l5 := [.slice a5W W.nodes.length k5W]) (y5 := W.nodes) (l6 := [.slice ao (acksOf W i k).length co]) (y6 := acksOf W i k) (l7 := [.I W.waited]) (y7 := W.waited) (l8 := [.I W.limit]) (y8 := W.limit) (l9 := [.I W.done]) (y9 := W.done) u64a u64a ⟨rfl, h2W⟩ (H.rp 3 rfl) (H.rp 4 rfl) (H.rp 5 rfl) (H.rp 0 rfl) i64a i64a i64a), hpost⟩
   ·
    refine qR 2 [.c [3, 0], .c [4]] [(2, .P b1 0), (4, .P b5 0)] ?_
    refine WK.drawH1 [b5] (.leaf [(0, .qui), (1, .qui), (2, .qui), (3, .seq), (4, .qui)]) Try_mixed (by as_aux_lemma => kernel_rfl) (by as_aux_lemma => kernel_rfl) ?_
    intro w87 hw88
    have H := H.draw
    rw [← hw88] at H
    clear hw88
    have hS := Chg.refl w87 [b5]
    refine RG.leaf' [(0, .qui), (1, .qui), (2, .qui), (3, .seq), (4, .qui)] (by as_aux_lemma => kernel_rfl) ?_
    refine qHL 82 [(1, .qui), (2, .qui), (3, .seq), (4, .qui)] 32 b1 0 0 (.agg (wrV W a3W k3W a4W k4W a5W k5W a6W k6W).toArray) hS (H.cells 2 rfl) (nq1 (H.raws 2 0 rfl rfl (by decide))) ?_
    refine qHP hS 1 [(2, .qui), (3, .seq), (4, .qui)] [(4, .P b5 0), (82, .agg (wrV W a3W k3W a4W k4W a5W k5W a6W k6W).toArray), (83, .P b1 9)] ?_
    refine qHL 84 [(3, .seq), (4, .qui)] 30 b1 9 9 (.I W.done) hS (H.cells 2 rfl) (nq1 (H.raws 2 0 rfl rfl (by decide))) ?_
    have Hr := H
    refine RH.sto ?_
    refine qWC 32 b5 0 [] (.agg (wrV W a3W k3W a4W k4W a5W k5W a6W k6W).toArray) [(b5, .cells (wrV W a3W k3W a4W k4W a5W k5W a6W k6W).toArray 32 (0, 0)), (b3, .cells #[.I kind, .I frm, x2, x3, x4, x5, x6, x7, .bool ok, x9, x10, x11, x12, .int .u64 hd.id.version, .I hd.id.index, .int .u64 hd.id.epoch, .I hd.kk, .I hd.nn, .I hd.size, .int .u32 ((hd.sum.toNat : Nat) : Int), x20, x21, x22, x23, x24, x25, x26] 57 (0, 0)), (b1, .cells (wrV W a3W k3W a4W k4W a5W k5W a6W k6W).toArray 32 (0, 0))] H 0 rfl rfl ?_
    intro w90 hch89 H
    have hS91 := hS.sto hch89 (.inr (by simp))
    refine ⟨hS91, ?_⟩
    have hS := hS91
    refine RH.fin hS 1 [4, 5] [(4, .P b5 0), (5, .I W.done)] (by as_aux_lemma => kernel_rfl) ?_
    refine qRB (.tuple #[.agg (wrV W a3W k3W a4W k4W a5W k5W a6W k6W).toArray, .I W.done]) Try.func23 (v2 (.cell 4 32) (.tmp 5) (vC (H.cells 0 rfl)) vT) ?_
    have hpost : (W, (W.done : Int)) = gotOf W kind frm hd ok := by
     clear H
     symm
     unfold gotOf; rw [if_neg hw22]; rw [find_none fun j hj => hinv0.2 j (by omega)]
    exact ⟨_, rfl, H.done, [.int .u64 W.client, .int .u64 W.seq, .string W.key, .slice a3W W.heads.length k3W, .slice a4W W.chunks.length k4W, .slice a5W W.nodes.length k5W, .slice a6W W.acks.length k6W, .I W.waited, .I W.limit, .I W.done], W, W.done, rfl, H.out (wr_mkV u64a u64a ⟨rfl, h2W⟩ (H.rp 0 rfl) (H.rp 1 rfl) (H.rp 2 rfl) (H.rp 3 rfl) i64a i64a i64a), hpost⟩
end Go.Proofs.Ytppcdmbkgficiaa
