import Derived.Test.YtppcdmbkgficiaaP6
namespace Go.Proofs.Ytppcdmbkgficiaa
open Go.BX

def hE : List (List (BitVec 8)) := enc [1#8, 2#8, 3#8] 2 4
theorem hE_len : hE.length = 4 := by decide +kernel
theorem hE_1 (h : 1 < hE.length) : hE[1] = [3#8, 0#8] := by
 have h1 : hE[1]? = some [3#8, 0#8] := by decide +kernel
 rw [List.getElem?_eq_getElem h] at h1
 exact Option.some.inj h1
def hx3 : List (BitVec 8) := (hE[3]?).getD []
def hx0 : List (BitVec 8) := (hE[0]?).getD []
theorem hE_3 (h : 3 < hE.length) : hE[3] = hx3 := by
 unfold hx3
 rw [List.getElem?_eq_getElem h]
 rfl
theorem hE_0 (h : 0 < hE.length) : hE[0] = hx0 := by
 unfold hx0
 rw [List.getElem?_eq_getElem h]
 rfl
theorem hx_len : hx3.length = 2 ∧ hx0.length = 2 := by decide +kernel
def hps : List Pc := [⟨3, hx3⟩, ⟨0, hx0⟩]
theorem hps_ok : PsOk hps 4 (lenOf 3 2) where
 nd := by decide +kernel
 rng := by decide +kernel
 len := by decide +kernel
theorem hps1_ok : PsOk [⟨3, hx3⟩] 4 (lenOf 3 2) where
 nd := by decide +kernel
 rng := by decide +kernel
 len := by decide +kernel
theorem two_sorted {p q : Pc} (hpq : q.index < p.index) {ys : List Pc} (h : ys.Perm [p, q]) (hs : ys.Pairwise fun x y => x.index ≤ y.index) : ys = [q, p] := by
 have hl := h.length_eq
 match ys, hl with
 | [a, b], _ =>
  have h1 : p ∈ [a, b] := h.mem_iff.2 (by simp)
  have h2 : q ∈ [a, b] := h.mem_iff.2 (by simp)
  simp only [List.mem_cons, List.not_mem_nil, or_false] at h1 h2
  have h3 : a.index ≤ b.index := (List.pairwise_cons.1 hs).1 b (by simp)
  rcases h1 with rfl | rfl
  · rcases h2 with rfl | rfl
    · omega
    · omega
  · rcases h2 with rfl | rfl
    · rfl
    · omega
theorem hps_reg : ∀ ys : List Pc, ys.Perm hps → ys.Pairwise (fun x y => x.index ≤ y.index) → (redTo (subM ys 2 4) (ident 2) 2).1 = 2 := fun ys h hs => by
 rw [two_sorted (by decide) h hs]
 decide +kernel
theorem hps_obj {ys : List Pc} (h : ys.Perm hps) (hs : ys.Pairwise (fun x y => x.index ≤ y.index)) : objL ys 2 4 3 = [1#8, 2#8, 3#8] := by
 rw [two_sorted (by decide) h hs]
 decide +kernel

theorem heads_spec {S : Nat → Prop} {w : World}  :
 Calls Try.prog 28 #[] w (Ret fun v w' => Ext w w' ∧ v = .bool true) := by
 refine qS (fn := Try.f28) (n := 60) (σ := []) Try.func28 ?_
 have H := Hp.startF (w := w) (S := S) (G := []) .nil
 refine qR 3 [.c [1, 0], .c [2]] [] ?_
 refine qG (sq 0 7) ?_
 refine RW.new (κ := .seq) (d := some 8) (r := (sq 1 7)) (o := .cells #[.int .u8 1, .int .u8 2, .int .u8 3] 5 (0, 0)) (v := fun b => .slice (some ⟨b, 0, none⟩) 3 3) (fun b => by as_aux_lemma => kernel_rfl) (nofun) H ?_
 intro b1 w2 H
 have H := H.freeze 0 rfl Sb ([1#8, 2#8, 3#8] : List (BitVec 8)) 3 (by simp [maxLen]) (by first | exact Nat.le_refl _ | simp) (EsP.cons (c := [.int .u8 1]) (Shape.bv_lit (x := 1#8) (by decide)) (EsP.cons (c := [.int .u8 2]) (Shape.bv_lit (x := 2#8) (by decide)) (EsP.cons (c := [.int .u8 3]) (Shape.bv_lit (x := 3#8) (by decide)) EsP.nil)))
 have H : Hp w S [] [] [] [Rp SB [.slice (some ⟨b1, 0, none⟩) 3 3] ([1#8, 2#8, 3#8] : List (BitVec 8))] _ := H
 refine qK .seq (some 9) (sq 2 7) 29 #[.slice (some ⟨b1, 0, none⟩) 3 3, .I 2, .I 4] (encode_ok (S := Av S w [] (idsOf [] [])) (xs := ([1#8, 2#8, 3#8] : List (BitVec 8))) 2 4 (H.rp 0 rfl) (by decide) (by decide) (by decide) (by decide)) ?_
 rintro _ w3 hE6 ⟨a4, c5, rfl, hr7⟩
 rw [show enc ([1#8, 2#8, 3#8] : List (BitVec 8)) 2 4 = hE from rfl] at hr7 ⊢
 have hEl := hE_len
 have H := H.addN hE6 (F := Rp (Shape.slice SB) [.slice a4 hE.length c5] hE) hr7
 refine qF 5 [(1, .slice a4 hE.length c5), (2, .I 0)] ?_
 refine qR 2 [.c [2, 0, 0], .c [2, 0, 1], .c [3]] [(1, .slice a4 hE.length c5), (2, .I 0)] ?_
 refine qG (sq 0 15) ?_
 refine qP 8 (sq 8 15) [(1, .slice a4 hE.length c5), (19, .bool (((hE.length : Nat) : Int) != 4))] ?_
 refine tN (fun b_ => [(1, .slice a4 hE.length c5), (19, .bool b_)]) ((hE.length : Nat) : Int) 4 (fun h8 => ?_) (fun h8 => ?_)
 ·
  omega
 ·
  refine qP 1 (sq 9 15) [(1, .slice a4 hE.length c5), (19, .bool false), (20, .slice a4 hE.length c5)] ?_
  have hx9 : 1 < hE.length := by omega
  refine qX .seq 21 (sq 10 15) 29 23 1 SB ([3#8, 0#8] : List (BitVec 8)) H 0 rfl 1 (by omega) (by rw [List.getElem?_eq_getElem (by omega), hE_1]) ?_
  intro b10 o11 es12 hr13 H
  obtain ⟨a14, k15, rfl⟩ := Shape.slice_form' hr13
  have H := H.add (F := Rp SB [.slice a14 (([3#8, 0#8] : List (BitVec 8)).length) k15] ([3#8, 0#8] : List (BitVec 8))) hr13
  refine qL .seq 22 (sq 11 15) 23 b10 o11 0 (.slice a14 (([3#8, 0#8] : List (BitVec 8)).length) k15) (H.fc 1 rfl) ?_
  refine RW.new (κ := .seq) (d := some 23) (r := (sq 12 15)) (o := .cells #[.int .u8 3, .int .u8 0] 5 (0, 0)) (v := fun b => .slice (some ⟨b, 0, none⟩) 2 2) (fun b => by as_aux_lemma => kernel_rfl) (nofun) H ?_
  intro b16 w17 H
  have H := H.freeze 0 rfl Sb ([3#8, 0#8] : List (BitVec 8)) 2 (by simp [maxLen]) (by first | exact Nat.le_refl _ | simp) (EsP.cons (c := [.int .u8 3]) (Shape.bv_lit (x := 3#8) (by decide)) (EsP.cons (c := [.int .u8 0]) (Shape.bv_lit (x := 0#8) (by decide)) EsP.nil))
  have H : Hp w S [] [] [] [Rp SB [.slice (some ⟨b16, 0, none⟩) 2 2] ([3#8, 0#8] : List (BitVec 8)), Rp SB [.slice a14 (([3#8, 0#8] : List (BitVec 8)).length) k15] ([3#8, 0#8] : List (BitVec 8)), Fc b10 o11 [.slice a14 (([3#8, 0#8] : List (BitVec 8)).length) k15], Rp (Shape.slice SB) [.slice a4 hE.length c5] hE, Rp SB [.slice (some ⟨b1, 0, none⟩) 3 3] ([1#8, 2#8, 3#8] : List (BitVec 8))] _ := H
  refine qK .seq (some 24) (sq 13 15) 30 #[.slice a14 (([3#8, 0#8] : List (BitVec 8)).length) k15, .slice (some ⟨b16, 0, none⟩) 2 2] (same01_spec (S := Av S w [] (idsOf [] [])) (xs := ([3#8, 0#8] : List (BitVec 8))) (ys := ([3#8, 0#8] : List (BitVec 8))) (H.rp 1 rfl) (H.rp 0 rfl) (rfl)) ?_
  rintro _ w18 hE19 rfl
  have H := H.ext hE19
  refine qF 2 [(1, .slice a4 hE.length c5), (26, .bool false)] ?_
  refine qR 3 [.c [3, 0], .c [4]] [(1, .slice a4 hE.length c5)] ?_
  refine WK.draw1 15 [(0, .qui), (1, .qui), (2, .qui), (3, .qui), (4, .qui), (5, .qui), (6, .qui), (7, .qui), (8, .chn), (9, .chn), (10, .qui), (11, .qui), (12, .qui), (13, .qui), (14, .qui)] [(0, .qui), (1, .qui), (2, .qui), (3, .qui), (4, .qui), (5, .qui), (6, .qui), (7, .qui), (8, .chn), (9, .chn), (10, .qui), (11, .qui), (12, .qui), (13, .qui), (14, .qui)] Try_mixed (by as_aux_lemma => kernel_rfl) (by as_aux_lemma => kernel_rfl) (by as_aux_lemma => kernel_rfl) ?_
  have H := H.draw
  generalize ({ w18 with drawn := w18.drawn + 1 } : World) = w20 at H ⊢
  refine qP 1 [(1, .qui), (2, .qui), (3, .qui), (4, .qui), (5, .qui), (6, .qui), (7, .qui), (8, .chn), (9, .chn), (10, .qui), (11, .qui), (12, .qui), (13, .qui), (14, .qui)] [(1, .slice a4 hE.length c5), (28, .slice a4 hE.length c5)] ?_
  have hx21 : 3 < hE.length := by omega
  refine qX .qui 29 [(2, .qui), (3, .qui), (4, .qui), (5, .qui), (6, .qui), (7, .qui), (8, .chn), (9, .chn), (10, .qui), (11, .qui), (12, .qui), (13, .qui), (14, .qui)] 29 23 3 SB hx3 H 3 rfl 3 (by omega) (by rw [List.getElem?_eq_getElem (by omega), hE_3]) ?_
  intro b22 o23 es24 hr25 H
  obtain ⟨a26, k27, rfl⟩ := Shape.slice_form' hr25
  have H := H.add (F := Rp SB [.slice a26 hx3.length k27] hx3) hr25
  refine qL .qui 30 [(3, .qui), (4, .qui), (5, .qui), (6, .qui), (7, .qui), (8, .chn), (9, .chn), (10, .qui), (11, .qui), (12, .qui), (13, .qui), (14, .qui)] 23 b22 o23 0 (.slice a26 hx3.length k27) (H.fc 1 rfl) ?_
  refine qP 2 [(5, .qui), (6, .qui), (7, .qui), (8, .chn), (9, .chn), (10, .qui), (11, .qui), (12, .qui), (13, .qui), (14, .qui)] [(1, .slice a4 hE.length c5), (31, .agg #[.I 3, .slice a26 hx3.length k27]), (32, .slice a4 hE.length c5)] ?_
  have hx28 : 0 < hE.length := by omega
  refine qX .qui 33 [(6, .qui), (7, .qui), (8, .chn), (9, .chn), (10, .qui), (11, .qui), (12, .qui), (13, .qui), (14, .qui)] 29 23 0 SB hx0 H 5 rfl 0 (by omega) (by rw [List.getElem?_eq_getElem (by omega), hE_0]) ?_
  intro b29 o30 es31 hr32 H
  obtain ⟨a33, k34, rfl⟩ := Shape.slice_form' hr32
  have H := H.add (F := Rp SB [.slice a33 hx0.length k34] hx0) hr32
  refine qL .qui 34 [(7, .qui), (8, .chn), (9, .chn), (10, .qui), (11, .qui), (12, .qui), (13, .qui), (14, .qui)] 23 b29 o30 0 (.slice a33 hx0.length k34) (H.fc 1 rfl) ?_
  refine qP 1 [(8, .chn), (9, .chn), (10, .qui), (11, .qui), (12, .qui), (13, .qui), (14, .qui)] [(1, .slice a4 hE.length c5), (31, .agg #[.I 3, .slice a26 hx3.length k27]), (35, .agg #[.I 0, .slice a33 hx0.length k34])] ?_
  refine RW.new (κ := .chn) (d := some 36) (r := [(9, .chn), (10, .qui), (11, .qui), (12, .qui), (13, .qui), (14, .qui)]) (o := .cells #[.I 3, .slice a26 hx3.length k27, .I 0, .slice a33 hx0.length k34] 72 (0, 0)) (v := fun b => .slice (some ⟨b, 0, none⟩) 2 2) (fun b => by as_aux_lemma => kernel_rfl) (nofun) H ?_
  intro b35 w36 H
  have H := H.freeze 0 rfl pcS ([⟨3, hx3⟩, ⟨0, hx0⟩] : List Pc) 2 (by simp [maxLen]) (by first | exact Nat.le_refl _ | simp) (EsP.cons (c := [.I 3, .slice a26 hx3.length k27]) (pc_mk (Shape.int_mk (by decide)) (H.rp 2 rfl)) (EsP.cons (c := [.I 0, .slice a33 hx0.length k34]) (pc_mk (Shape.int_mk (by decide)) (H.rp 0 rfl)) EsP.nil))
  have H : Hp w S [] [] [] [Rp (Shape.slice pcS) [.slice (some ⟨b35, 0, none⟩) 2 2] ([⟨3, hx3⟩, ⟨0, hx0⟩] : List Pc), Rp SB [.slice a33 hx0.length k34] hx0, Fc b29 o30 [.slice a33 hx0.length k34], Rp SB [.slice a26 hx3.length k27] hx3, Fc b22 o23 [.slice a26 hx3.length k27], Rp SB [.slice (some ⟨b16, 0, none⟩) 2 2] ([3#8, 0#8] : List (BitVec 8)), Rp SB [.slice a14 (([3#8, 0#8] : List (BitVec 8)).length) k15] ([3#8, 0#8] : List (BitVec 8)), Fc b10 o11 [.slice a14 (([3#8, 0#8] : List (BitVec 8)).length) k15], Rp (Shape.slice SB) [.slice a4 hE.length c5] hE, Rp SB [.slice (some ⟨b1, 0, none⟩) 3 3] ([1#8, 2#8, 3#8] : List (BitVec 8))] _ := H
  refine qK .chn (some 37) (qs [10, 11, 12, 13, 14]) 31 #[.slice (some ⟨b35, 0, none⟩) 2 2, .I 3, .I 2, .I 4] (decode_ok (S := Av S w [] (idsOf [] [])) (ps := hps) (H.rp 0 rfl) (size := 3) (k := 2) (n := 4) (by decide) (by decide) (by decide) (by decide) hps_ok (by decide) hps_reg) ?_
  rintro _ w37 hE40 ⟨a38, c39, ys, rfl, hys, hord, hr41⟩
  rw [hps_obj hys hord] at hr41 ⊢
  have H := H.addN hE40 (F := Rp SB [.slice a38 (([1#8, 2#8, 3#8] : List (BitVec 8)).length) c39] ([1#8, 2#8, 3#8] : List (BitVec 8))) hr41
  refine qF 5 [(1, .slice a4 hE.length c5), (3, .slice a38 (([1#8, 2#8, 3#8] : List (BitVec 8)).length) c39), (4, .I 0)] ?_
  refine qR 1 [.c [4, 0], .c [5]] [(1, .slice a4 hE.length c5), (3, .slice a38 (([1#8, 2#8, 3#8] : List (BitVec 8)).length) c39), (4, .I 0)] ?_
  refine qG (sq 0 11) ?_
  refine qP 1 (sq 1 11) [(3, .slice a38 (([1#8, 2#8, 3#8] : List (BitVec 8)).length) c39), (4, .I 0), (41, .slice a4 hE.length c5)] ?_
  have hx42 : 3 < hE.length := by omega
  refine qX .seq 42 (sq 2 11) 29 23 3 SB hx3 H 9 rfl 3 (by omega) (by rw [List.getElem?_eq_getElem (by omega), hE_3]) ?_
  intro b43 o44 es45 hr46 H
  obtain ⟨a47, k48, rfl⟩ := Shape.slice_form' hr46
  have H := H.add (F := Rp SB [.slice a47 hx3.length k48] hx3) hr46
  refine qL .seq 43 (sq 3 11) 23 b43 o44 0 (.slice a47 hx3.length k48) (H.fc 1 rfl) ?_
  refine qP 1 (sq 4 11) [(3, .slice a38 (([1#8, 2#8, 3#8] : List (BitVec 8)).length) c39), (4, .I 0), (44, .agg #[.I 3, .slice a47 hx3.length k48])] ?_
  refine RW.new (κ := .seq) (d := some 45) (r := (sq 5 11)) (o := .cells #[.I 3, .slice a47 hx3.length k48] 72 (0, 0)) (v := fun b => .slice (some ⟨b, 0, none⟩) 1 1) (fun b => by as_aux_lemma => kernel_rfl) (nofun) H ?_
  intro b49 w50 H
  have H := H.freeze 0 rfl pcS ([⟨3, hx3⟩] : List Pc) 1 (by simp [maxLen]) (by first | exact Nat.le_refl _ | simp) (EsP.cons (c := [.I 3, .slice a47 hx3.length k48]) (pc_mk (Shape.int_mk (by decide)) (H.rp 0 rfl)) EsP.nil)
  have H : Hp w S [] [] [] [Rp (Shape.slice pcS) [.slice (some ⟨b49, 0, none⟩) 1 1] ([⟨3, hx3⟩] : List Pc), Rp SB [.slice a47 hx3.length k48] hx3, Fc b43 o44 [.slice a47 hx3.length k48], Rp SB [.slice a38 (([1#8, 2#8, 3#8] : List (BitVec 8)).length) c39] ([1#8, 2#8, 3#8] : List (BitVec 8)), Rp (Shape.slice pcS) [.slice (some ⟨b35, 0, none⟩) 2 2] ([⟨3, hx3⟩, ⟨0, hx0⟩] : List Pc), Rp SB [.slice a33 hx0.length k34] hx0, Fc b29 o30 [.slice a33 hx0.length k34], Rp SB [.slice a26 hx3.length k27] hx3, Fc b22 o23 [.slice a26 hx3.length k27], Rp SB [.slice (some ⟨b16, 0, none⟩) 2 2] ([3#8, 0#8] : List (BitVec 8)), Rp SB [.slice a14 (([3#8, 0#8] : List (BitVec 8)).length) k15] ([3#8, 0#8] : List (BitVec 8)), Fc b10 o11 [.slice a14 (([3#8, 0#8] : List (BitVec 8)).length) k15], Rp (Shape.slice SB) [.slice a4 hE.length c5] hE, Rp SB [.slice (some ⟨b1, 0, none⟩) 3 3] ([1#8, 2#8, 3#8] : List (BitVec 8))] _ := H
  refine qK .seq (some 46) (sq 6 11) 31 #[.slice (some ⟨b49, 0, none⟩) 1 1, .I 3, .I 2, .I 4] (decode_few (S := fun _ => True) (ps := [⟨3, hx3⟩]) (H.viewF 0 rfl) (size := 3) (k := 2) (n := 4) (by decide) (by decide) (by decide) (by decide) hps1_ok (by decide)) ?_
  rintro _ w51 hE52 rfl
  have H := H.ext hE52
  refine qF 5 [(3, .slice a38 (([1#8, 2#8, 3#8] : List (BitVec 8)).length) c39), (4, .I 0), (6, .I 30)] ?_
  refine qR 1 [.c [5, 0], .c [6]] [(3, .slice a38 (([1#8, 2#8, 3#8] : List (BitVec 8)).length) c39), (4, .I 0), (6, .I 30)] ?_
  refine qG (sq 0 12) ?_
  refine qP 4 (sq 4 12) [(6, .I 30), (51, .bool true), (52, .slice a38 (([1#8, 2#8, 3#8] : List (BitVec 8)).length) c39)] ?_
  refine RW.new (κ := .seq) (d := some 53) (r := (sq 5 12)) (o := .cells #[.int .u8 1, .int .u8 2, .int .u8 3] 5 (0, 0)) (v := fun b => .slice (some ⟨b, 0, none⟩) 3 3) (fun b => by as_aux_lemma => kernel_rfl) (nofun) H ?_
  intro b53 w54 H
  have H := H.freeze 0 rfl Sb ([1#8, 2#8, 3#8] : List (BitVec 8)) 3 (by simp [maxLen]) (by first | exact Nat.le_refl _ | simp) (EsP.cons (c := [.int .u8 1]) (Shape.bv_lit (x := 1#8) (by decide)) (EsP.cons (c := [.int .u8 2]) (Shape.bv_lit (x := 2#8) (by decide)) (EsP.cons (c := [.int .u8 3]) (Shape.bv_lit (x := 3#8) (by decide)) EsP.nil)))
  have H : Hp w S [] [] [] [Rp SB [.slice (some ⟨b53, 0, none⟩) 3 3] ([1#8, 2#8, 3#8] : List (BitVec 8)), Rp (Shape.slice pcS) [.slice (some ⟨b49, 0, none⟩) 1 1] ([⟨3, hx3⟩] : List Pc), Rp SB [.slice a47 hx3.length k48] hx3, Fc b43 o44 [.slice a47 hx3.length k48], Rp SB [.slice a38 (([1#8, 2#8, 3#8] : List (BitVec 8)).length) c39] ([1#8, 2#8, 3#8] : List (BitVec 8)), Rp (Shape.slice pcS) [.slice (some ⟨b35, 0, none⟩) 2 2] ([⟨3, hx3⟩, ⟨0, hx0⟩] : List Pc), Rp SB [.slice a33 hx0.length k34] hx0, Fc b29 o30 [.slice a33 hx0.length k34], Rp SB [.slice a26 hx3.length k27] hx3, Fc b22 o23 [.slice a26 hx3.length k27], Rp SB [.slice (some ⟨b16, 0, none⟩) 2 2] ([3#8, 0#8] : List (BitVec 8)), Rp SB [.slice a14 (([3#8, 0#8] : List (BitVec 8)).length) k15] ([3#8, 0#8] : List (BitVec 8)), Fc b10 o11 [.slice a14 (([3#8, 0#8] : List (BitVec 8)).length) k15], Rp (Shape.slice SB) [.slice a4 hE.length c5] hE, Rp SB [.slice (some ⟨b1, 0, none⟩) 3 3] ([1#8, 2#8, 3#8] : List (BitVec 8))] _ := H
  refine qK .seq (some 54) (sq 6 12) 30 #[.slice a38 (([1#8, 2#8, 3#8] : List (BitVec 8)).length) c39, .slice (some ⟨b53, 0, none⟩) 3 3] (same01_spec (S := Av S w [] (idsOf [] [])) (xs := ([1#8, 2#8, 3#8] : List (BitVec 8))) (ys := ([1#8, 2#8, 3#8] : List (BitVec 8))) (H.rp 4 rfl) (H.rp 0 rfl) (rfl)) ?_
  rintro _ w55 hE56 rfl
  have H := H.ext hE56
  refine qF 6 [(0, .bool true)] ?_
  refine qT (.bool true) Try.func28 ?_
  exact ⟨_, rfl, H.done, rfl⟩


end Go.Proofs.Ytppcdmbkgficiaa
