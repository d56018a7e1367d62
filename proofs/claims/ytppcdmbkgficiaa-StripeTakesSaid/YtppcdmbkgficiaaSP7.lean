import Derived.Test.YtppcdmbkgficiaaSBxA
import Derived.Test.YtppcdmbkgficiaaSP6
namespace Go.Proofs.Ytppcdmbkgficiaa
open Go.BX
def hE : List (List (BitVec 8)) := enc [1#8, 2#8, 3#8] 2 4
theorem hE_len : hE.length = 4 := by decide +kernel
theorem hE_1 (h : 1 < hE.length) : hE[1] = [3#8, 0#8] := by
 have a : hE[1]? = some [3#8, 0#8] := by decide +kernel
 rw [List.getElem?_eq_getElem h] at a
 exact Option.some.inj a
def hx3 : List (BitVec 8) := (hE[3]?).getD []
def hx0 : List (BitVec 8) := (hE[0]?).getD []
theorem hE_3 (h : 3 < hE.length) : hE[3] = hx3 := by
 unfold hx3
 rw [List.getElem?_eq_getElem h]
 rfl
theorem hE_0 (h : 0 < hE.length) : hE[0] = hx0 := by
 unfold hx0
 rw [List.getElem?_eq_getElem h]
 rfl
def hps : List Pc := [⟨3, hx3⟩, ⟨0, hx0⟩]
theorem hps_ok : PsOk hps 4 (lenOf 3 2) where
 nd := by decide +kernel
 rng := by decide +kernel
 len := by decide +kernel
theorem hps1_ok : PsOk [⟨3, hx3⟩] 4 (lenOf 3 2) where
 nd := by decide +kernel
 rng := by decide +kernel
 len := by decide +kernel
theorem two_sorted {p q : Pc} (hpq : q.index < p.index) {ys : List Pc} (h : ys.Perm [p, q]) (hs : ys.Pairwise fun x y => x.index ≤ y.index) : ys = [q, p] := by
 have hl := h.length_eq
 match ys, hl with
 | [a, b], _ =>
  have d : p ∈ [a, b] := h.mem_iff.2 (by simp)
  have c : q ∈ [a, b] := h.mem_iff.2 (by simp)
  simp only [List.mem_cons, List.not_mem_nil, or_false] at d c
  have e : a.index ≤ b.index := (List.pairwise_cons.1 hs).1 b (by simp)
  rcases d with rfl | rfl
  · rcases c with rfl | rfl
    · omega
    · omega
  · rcases c with rfl | rfl
    · rfl
    · omega
theorem hps_reg : ∀ ys : List Pc, ys.Perm hps → ys.Pairwise (fun x y => x.index ≤ y.index) → (redTo (subM ys 2 4) (ident 2) 2).1 = 2 := fun ys h hs => by
 rw [two_sorted (by decide) h hs]
 decide +kernel
theorem hps_obj {ys : List Pc} (h : ys.Perm hps) (hs : ys.Pairwise (fun x y => x.index ≤ y.index)) : objL ys 2 4 3 = [1#8, 2#8, 3#8] := by
 rw [two_sorted (by decide) h hs]
 decide +kernel
theorem heads_spec {S : Nat → Prop} {w : World}  :
 Calls Try.prog 28 #[] w (Ret fun v w' => Ext w w' ∧ v = .bool true) := by
 refine uS1 Try.func28 ?_
 have H := Hp.startF (w := w) (S := S) (G := []) .nil
 refine uR 3 [.c [1, 0], .c [2]] ?_
 refine qG (sq 0 7) ?_
 refine RW.new (κ := .seq) (d := some 8) (r := (sq 1 7)) (o := .cells #[.int .u8 1, .int .u8 2, .int .u8 3] 5 (0, 0)) (v := fun b => .slice (some ⟨b, 0, none⟩) 3 3) (fun b => by as_aux_lemma => kernel_rfl) (nofun) H ?_
 intro W _ H
 have H := H.freeze 0 rfl Sb ([1#8, 2#8, 3#8] : List (BitVec 8)) 3 (by simp [maxLen]) (by first | exact Nat.le_refl _ | simp) (EsP.cons (c := [.int .u8 1]) (Shape.bv_lit (x := 1#8) (by decide)) (EsP.cons (c := [.int .u8 2]) (Shape.bv_lit (x := 2#8) (by decide)) (EsP.cons (c := [.int .u8 3]) (Shape.bv_lit (x := 3#8) (by decide)) EsP.nil)))
 have H : Hp w S [] [] [] [Rp SB [.slice (some ⟨W, 0, none⟩) 3 3] ([1#8, 2#8, 3#8] : List (BitVec 8))] _ := H
 refine uK (encode_ok (xs := ([1#8, 2#8, 3#8] : List (BitVec 8))) 2 4 (H.rp 0 rfl) (by decide) (by decide) (by decide) (by decide)) ?_
 rintro _ _ B ⟨X, Y, rfl, s⟩
 rw [show enc ([1#8, 2#8, 3#8] : List (BitVec 8)) 2 4 = hE from rfl] at s ⊢
 have hEl := hE_len
 have H := H.addM B s
 refine uF 5 ?_
 refine uR 2 [.c [2, 0, 0], .c [2, 0, 1], .c [3]] ?_
 refine qG (sq 0 15) ?_
 refine uP 8 ?_
 refine uN 19 ((hE.length : Nat) : Int) 4 (fun Z => ?_) (fun Z => ?_)
 ·
  omega
 ·
  refine uP 1 ?_
  have d0 : 1 < hE.length := by omega
  refine uX 29 1 H 0 rfl 1 (by omega) (by rw [List.getElem?_eq_getElem (by omega), hE_1]) ?_
  intro C D _ a H
  obtain ⟨E, F, rfl⟩ := Shape.slice_form' a
  have H := H.addR a
  refine uV 23 0 (H.fc 1 rfl) ?_
  refine RW.new (κ := .seq) (d := some 23) (r := (sq 12 15)) (o := .cells #[.int .u8 3, .int .u8 0] 5 (0, 0)) (v := fun b => .slice (some ⟨b, 0, none⟩) 2 2) (fun b => by as_aux_lemma => kernel_rfl) (nofun) H ?_
  intro J _ H
  have H := H.freeze 0 rfl Sb ([3#8, 0#8] : List (BitVec 8)) 2 (by simp [maxLen]) (by first | exact Nat.le_refl _ | simp) (EsP.cons (c := [.int .u8 3]) (Shape.bv_lit (x := 3#8) (by decide)) (EsP.cons (c := [.int .u8 0]) (Shape.bv_lit (x := 0#8) (by decide)) EsP.nil))
  have H : Hp w S [] [] [] [Rp SB [.slice (some ⟨J, 0, none⟩) 2 2] ([3#8, 0#8] : List (BitVec 8)), _, Fc C D [.slice E (([3#8, 0#8] : List (BitVec 8)).length) F], _, _] _ := H
  refine uK (same01_spec (xs := ([3#8, 0#8] : List (BitVec 8))) (ys := ([3#8, 0#8] : List (BitVec 8))) (H.rp 1 rfl) (H.rp 0 rfl) (rfl)) ?_
  rintro _ t u rfl
  have H := H.ext u
  refine uF 2 ?_
  refine uR 3 [.c [3, 0], .c [4]] ?_
  refine WK.draw1 15 [(0, .qui), (1, .qui), (2, .qui), (3, .qui), (4, .qui), (5, .qui), (6, .qui), (7, .qui), (8, .chn), (9, .chn), (10, .qui), (11, .qui), (12, .qui), (13, .qui), (14, .qui)] [(0, .qui), (1, .qui), (2, .qui), (3, .qui), (4, .qui), (5, .qui), (6, .qui), (7, .qui), (8, .chn), (9, .chn), (10, .qui), (11, .qui), (12, .qui), (13, .qui), (14, .qui)] Try_mixed (by as_aux_lemma => kernel_rfl) (by as_aux_lemma => kernel_rfl) (by as_aux_lemma => kernel_rfl) ?_
  have H := H.draw
  generalize ({ t with drawn := t.drawn + 1 } : World) = e0 at H ⊢
  refine uP 1 ?_
  have a0 : 3 < hE.length := by omega
  refine uX 29 3 H 3 rfl 3 (by omega) (by rw [List.getElem?_eq_getElem (by omega), hE_3]) ?_
  intro K L _ e H
  obtain ⟨f, g, rfl⟩ := Shape.slice_form' e
  have H := H.addR e
  refine uV 23 0 (H.fc 1 rfl) ?_
  refine uP 2 ?_
  have b0 : 0 < hE.length := by omega
  refine uX 29 0 H 5 rfl 0 (by omega) (by rw [List.getElem?_eq_getElem (by omega), hE_0]) ?_
  intro M N _ h H
  obtain ⟨i, j, rfl⟩ := Shape.slice_form' h
  have H := H.addR h
  refine uV 23 0 (H.fc 1 rfl) ?_
  refine uP 1 ?_
  refine RW.new (κ := .chn) (d := some 36) (r := [(9, .chn), (10, .qui), (11, .qui), (12, .qui), (13, .qui), (14, .qui)]) (o := .cells #[.I 3, .slice f hx3.length g, .I 0, .slice i hx0.length j] 72 (0, 0)) (v := fun b => .slice (some ⟨b, 0, none⟩) 2 2) (fun b => by as_aux_lemma => kernel_rfl) (nofun) H ?_
  intro O _ H
  have H := H.freeze 0 rfl pcS ([⟨3, hx3⟩, ⟨0, hx0⟩] : List Pc) 2 (by simp [maxLen]) (by first | exact Nat.le_refl _ | simp) (EsP.cons (c := [.I 3, .slice f hx3.length g]) (pc_mk (Shape.int_mk (by decide)) (H.rp 2 rfl)) (EsP.cons (c := [.I 0, .slice i hx0.length j]) (pc_mk (Shape.int_mk (by decide)) (H.rp 0 rfl)) EsP.nil))
  have H : Hp w S [] [] [] [Rp (Shape.slice pcS) [.slice (some ⟨O, 0, none⟩) 2 2] ([⟨3, hx3⟩, ⟨0, hx0⟩] : List Pc), _, Fc M N [.slice i hx0.length j], _, Fc K L [.slice f hx3.length g], _, _, _, _, _] _ := H
  refine uK (decode_ok (ps := hps) (H.rp 0 rfl) (size := 3) (k := 2) (n := 4) (by decide) (by decide) (by decide) (by decide) hps_ok (by decide) hps_reg) ?_
  rintro _ _ y ⟨P, Q, ys, rfl, hys, hord, l⟩
  rw [hps_obj hys hord] at l ⊢
  have H := H.addM y l
  refine qF 5 [(1, .slice X hE.length Y), (3, .slice P (([1#8, 2#8, 3#8] : List (BitVec 8)).length) Q), (4, .I 0)] ?_
  refine uR 1 [.c [4, 0], .c [5]] ?_
  refine qG (sq 0 11) ?_
  refine uP 1 ?_
  have c0 : 3 < hE.length := by omega
  refine uX 29 3 H 9 rfl 3 (by omega) (by rw [List.getElem?_eq_getElem (by omega), hE_3]) ?_
  intro R T _ m H
  obtain ⟨p, q, rfl⟩ := Shape.slice_form' m
  have H := H.addR m
  refine uV 23 0 (H.fc 1 rfl) ?_
  refine uP 1 ?_
  refine RW.new (κ := .seq) (d := some 45) (r := (sq 5 11)) (o := .cells #[.I 3, .slice p hx3.length q] 72 (0, 0)) (v := fun b => .slice (some ⟨b, 0, none⟩) 1 1) (fun b => by as_aux_lemma => kernel_rfl) (nofun) H ?_
  intro U _ H
  have H := H.freeze 0 rfl pcS ([⟨3, hx3⟩] : List Pc) 1 (by simp [maxLen]) (by first | exact Nat.le_refl _ | simp) (EsP.cons (c := [.I 3, .slice p hx3.length q]) (pc_mk (Shape.int_mk (by decide)) (H.rp 0 rfl)) EsP.nil)
  have H : Hp w S [] [] [] [Rp (Shape.slice pcS) [.slice (some ⟨U, 0, none⟩) 1 1] ([⟨3, hx3⟩] : List Pc), _, Fc R T [.slice p hx3.length q], _, _, _, _, _, _, _, _, _, _, _] _ := H
  refine uK (decode_few (S := fun _ => True) (ps := [⟨3, hx3⟩]) (H.viewF 0 rfl) (size := 3) (k := 2) (n := 4) (by decide) (by decide) (by decide) (by decide) hps1_ok (by decide)) ?_
  rintro _ _ z rfl
  have H := H.ext z
  refine uF 5 ?_
  refine uR 1 [.c [5, 0], .c [6]] ?_
  refine qG (sq 0 12) ?_
  refine uP 4 ?_
  refine RW.new (κ := .seq) (d := some 53) (r := (sq 5 12)) (o := .cells #[.int .u8 1, .int .u8 2, .int .u8 3] 5 (0, 0)) (v := fun b => .slice (some ⟨b, 0, none⟩) 3 3) (fun b => by as_aux_lemma => kernel_rfl) (nofun) H ?_
  intro V _ H
  have H := H.freeze 0 rfl Sb ([1#8, 2#8, 3#8] : List (BitVec 8)) 3 (by simp [maxLen]) (by first | exact Nat.le_refl _ | simp) (EsP.cons (c := [.int .u8 1]) (Shape.bv_lit (x := 1#8) (by decide)) (EsP.cons (c := [.int .u8 2]) (Shape.bv_lit (x := 2#8) (by decide)) (EsP.cons (c := [.int .u8 3]) (Shape.bv_lit (x := 3#8) (by decide)) EsP.nil)))
  have H : Hp w S [] [] [] [Rp SB [.slice (some ⟨V, 0, none⟩) 3 3] ([1#8, 2#8, 3#8] : List (BitVec 8)), _, _, _, _, _, _, _, _, _, _, _, _, _, _] _ := H
  refine uK (same01_spec (xs := ([1#8, 2#8, 3#8] : List (BitVec 8))) (ys := ([1#8, 2#8, 3#8] : List (BitVec 8))) (H.rp 4 rfl) (H.rp 0 rfl) (rfl)) ?_
  rintro _ _ A rfl
  have H := H.ext A
  refine uF 6 ?_
  refine qT (.bool true) Try.func28 ?_
  exact ⟨_, rfl, H.done, rfl⟩
end Go.Proofs.Ytppcdmbkgficiaa
