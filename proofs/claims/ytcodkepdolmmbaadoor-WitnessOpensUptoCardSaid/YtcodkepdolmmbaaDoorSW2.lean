import Derived.Test.YtcodkepdolmmbaaDoorSW1
namespace Go.Proofs.YtcodkepdolmmbaaDoor
open Go.BX
def upOk (hs : List Wop) (i : Nat) : Prop := (∀ x ∈ hs.take i, ¬ badX x) ∧ (hs.take i).Pairwise fun x y => ¬ clash x y
theorem upOk_zero {hs : List Wop} : upOk hs 0 := ⟨fun _ hx => (by cases hx), List.Pairwise.nil⟩
theorem upOk_step {hs : List Wop} {i : Nat} (hi : i < hs.length) (h : upOk hs i) (hb : ¬ badX hs[i]) (hc : ∀ y ∈ hs.take i, ¬ clash hs[i] y) : upOk hs (i + 1) := by
 unfold upOk
 rw [List.take_succ_eq_append_getElem hi]
 refine ⟨fun x hx => ?_, List.pairwise_append.2 ⟨h.2, List.pairwise_singleton _ _, fun a ha b hb' => ?_⟩⟩
 · rcases List.mem_append.1 hx with hx | hx
   · exact h.1 x hx
   · rw [List.mem_singleton.1 hx]; exact hb
 · rw [List.mem_singleton.1 hb']
   exact fun q => hc a ha (clash_symm q)
theorem upOk_end {hs : List Wop} {i : Nat} (h : upOk hs i) (hi : hs.length ≤ i) (hl : hs.length ≤ 14) : okH hs := by
 unfold upOk at h
 rw [List.take_of_length_le hi] at h
 exact ⟨hl, h.1, h.2⟩
theorem not_ok_bad {hs : List Wop} {i : Nat} (hi : i < hs.length) (h : badX hs[i]) : ¬ okH hs := fun q => q.2.1 _ (List.getElem_mem hi) h
theorem not_ok_clash {hs : List Wop} {i k : Nat} (hi : i < hs.length) (hk : k < (hs.take i).length) (h : clash hs[i] (hs.take i)[k]) : ¬ okH hs := fun q => by
 rw [List.getElem_take] at h
 rw [List.length_take] at hk
 exact List.pairwise_iff_getElem.1 q.2.2 k i (by omega) hi (by omega) (clash_symm h)
theorem clash_step {hs : List Wop} {k : Nat} (hk : k < hs.length) {x : Wop} (h : ∀ y ∈ hs.take k, ¬ clash x y) (hc : ¬ clash x hs[k]) : ∀ y ∈ hs.take (k + 1), ¬ clash x y := fun y hy => by
 rw [List.take_succ_eq_append_getElem hk] at hy
 rcases List.mem_append.1 hy with hy | hy
 · exact h y hy
 · rw [List.mem_singleton.1 hy]; exact hc
theorem check_spec {S : Nat → Prop} {w : World} {hs : List Wop} {a : Option Addr} {c : Nat} (h : (Shape.slice wopS).rep S w [.slice a hs.length c] hs) :
 Calls Tryd.prog 13 #[.slice a hs.length c] w (Ret fun v w' => Ext w w' ∧ ∃ e : Int, v = .I e ∧ (e = 0 ∨ e = 240) ∧ (e = 0 ↔ okH hs)) := by
 have hlen := Shape.slice_len h
 refine qS (fn := Tryd.f13) (n := 91) (σ := [(0, .slice a hs.length c)]) Tryd.func13 ?_
 have H := Hp.startF (w := w) (S := S) (G := [Rp (Shape.slice wopS) [.slice a hs.length c] hs]) (.rp h .nil)
 refine qR 5 [.c [1, 0, 1], .c [2]] [(0, .slice a hs.length c), (9, .bool (decide ((((hs.length : Nat) : Int) : Int) > 14)))] ?_
 refine qD ((((hs.length : Nat) : Int) : Int) > 14) (fun h1 => ?_) (fun h1 => ?_)
 ·
  refine qR 2 [.c [1, 0, 1, 0, 1], .c [2]] [(2, .I 240)] ?_
  refine qT (.I 240) Tryd.func13 ?_
  refine ⟨_, rfl, H.done, _, rfl, by decide, ?_⟩
  exact ⟨fun q => absurd q (by decide), fun q => absurd q (fun q => absurd q.1 (by omega))⟩
 ·
  refine qR 5 [.c [2, 0, 1, 0], .b 0, .c [3]] [(0, .slice a hs.length c), (10, .slice a hs.length c), (11, .I ((hs.length : Nat) : Int)), (12, .I 0)] ?_
  refine WK.loop (α := Nat) (b := cd Tryd.prog 13 [2, 0, 1, 0, 0]) (by as_aux_lemma => kernel_rfl) (fun i => [(0, .slice a hs.length c), (10, .slice a hs.length c), (11, .I ((hs.length : Nat) : Int)), (12, .I i)]) (fun i w' => Hp w S [] [] [] [Rp (Shape.slice wopS) [.slice a hs.length c] hs] w' ∧ i ≤ hs.length ∧ upOk hs i) (fun i => hs.length - i) 0 ⟨H, Nat.zero_le _, upOk_zero⟩ (rfl) ?_
  rintro i w3 ⟨H, hinv0⟩ hback2
  refine qR 3 [.c [2, 0, 1, 0, 0, 1, 0], .c [2, 0, 1, 0, 0, 2], .l [2, 0, 1, 0, 0], .b 0, .c [3]] [(0, .slice a hs.length c), (10, .slice a hs.length c), (11, .I ((hs.length : Nat) : Int)), (12, .I i), (13, .bool (decide (((i : Int) : Int) < ((hs.length : Nat) : Int))))] ?_
  refine qD (((i : Int) : Int) < ((hs.length : Nat) : Int)) (fun h4 => ?_) (fun h4 => ?_)
  ·
   refine qR 4 [.c [2, 0, 1, 0, 0, 2, 0, 0, 0], .c [2, 0, 1, 0, 0, 2, 0, 0, 1], .b 1, .c [2, 0, 1, 0, 0, 3], .l [2, 0, 1, 0, 0], .b 0, .c [3]] [(0, .slice a hs.length c), (10, .slice a hs.length c), (11, .I ((hs.length : Nat) : Int)), (12, .I i)] ?_
   refine qG (sq 0 6) ?_
   refine qP 1 (sq 1 6) [(0, .slice a hs.length c), (10, .slice a hs.length c), (11, .I ((hs.length : Nat) : Int)), (12, .I i), (14, .I i)] ?_
   have hx5 : i < hs.length := by omega
   refine qX .seq 15 (sq 2 6) 22 33 (i : Int) wopS (hs[i]) H 0 rfl i (by omega) (List.getElem?_eq_getElem hx5) ?_
   intro b6 o7 es8 hr9 H
   obtain ⟨a4q10, k4q10, a6q10, k6q10, a7q10, k7q10, rfl, hf11, hf12, hf13, hf14, hf15, hf16, hf17, hf18, hf19, hf20⟩ := wop_open hr9
   have H := H.add (F := Rp SB [.slice a4q10 ((hs[i]).data.length) k4q10] ((hs[i]).data)) hf15
   have H := H.add (F := Rp SB [.slice a6q10 ((hs[i]).answer.length) k6q10] ((hs[i]).answer)) hf17
   have H := H.add (F := Rp (Shape.slice Shape.str) [.slice a7q10 ((hs[i]).names.length) k7q10] ((hs[i]).names)) hf18
   refine qL .seq 16 (sq 3 6) 33 b6 o7 0 (.agg #[.int .u64 ((hs[i]).client), .int .u64 ((hs[i]).seq), .I ((hs[i]).kind), .string ((hs[i]).key), .slice a4q10 ((hs[i]).data.length) k4q10, .I ((hs[i]).code), .slice a6q10 ((hs[i]).answer.length) k6q10, .slice a7q10 ((hs[i]).names.length) k7q10, .I ((hs[i]).beg), .I ((hs[i]).fin)]) (H.fc 3 rfl) ?_
   refine qB .seq 4 (sq 4 6) #[.int .u64 0, .int .u64 0, .I 0, .string (⟨#[]⟩ : ByteArray), .slice none 0 0, .I 0, .slice none 0 0, .slice none 0 0, .I 0, .I 0] 33 H ?_
   intro b21 w22 H
   refine qP 1 (sq 5 6) [(0, .slice a hs.length c), (3, .I i), (4, .P b21 0), (10, .slice a hs.length c), (11, .I ((hs.length : Nat) : Int)), (12, .I i), (16, .agg #[.int .u64 ((hs[i]).client), .int .u64 ((hs[i]).seq), .I ((hs[i]).kind), .string ((hs[i]).key), .slice a4q10 ((hs[i]).data.length) k4q10, .I ((hs[i]).code), .slice a6q10 ((hs[i]).answer.length) k6q10, .slice a7q10 ((hs[i]).names.length) k7q10, .I ((hs[i]).beg), .I ((hs[i]).fin)])] ?_
   refine qW 33 b21 0 (sq 6 6) (.agg #[.int .u64 ((hs[i]).client), .int .u64 ((hs[i]).seq), .I ((hs[i]).kind), .string ((hs[i]).key), .slice a4q10 ((hs[i]).data.length) k4q10, .I ((hs[i]).code), .slice a6q10 ((hs[i]).answer.length) k6q10, .slice a7q10 ((hs[i]).names.length) k7q10, .I ((hs[i]).beg), .I ((hs[i]).fin)]) [(b21, .cells #[.int .u64 ((hs[i]).client), .int .u64 ((hs[i]).seq), .I ((hs[i]).kind), .string ((hs[i]).key), .slice a4q10 ((hs[i]).data.length) k4q10, .I ((hs[i]).code), .slice a6q10 ((hs[i]).answer.length) k6q10, .slice a7q10 ((hs[i]).names.length) k7q10, .I ((hs[i]).beg), .I ((hs[i]).fin)] 33 (0, 0))] H 0 rfl rfl ?_
   intro w23 H
   refine qF 0 [(0, .slice a hs.length c), (3, .I i), (4, .P b21 0), (10, .slice a hs.length c), (11, .I ((hs.length : Nat) : Int)), (12, .I i)] ?_
   refine qR 2 [.c [2, 0, 1, 0, 0, 2, 0, 0, 1, 0, 0], .c [2, 0, 1, 0, 0, 2, 0, 0, 1, 0, 1], .c [2, 0, 1, 0, 0, 2, 0, 0, 2], .b 1, .c [2, 0, 1, 0, 0, 3], .l [2, 0, 1, 0, 0], .b 0, .c [3]] [(0, .slice a hs.length c), (3, .I i), (4, .P b21 0), (10, .slice a hs.length c), (11, .I ((hs.length : Nat) : Int)), (12, .I i)] ?_
   refine WK.joinV (α := Bool) (fun x_ w_ => match x_ with | g1 => Hp w S [] [(b21, .cells #[.int .u64 ((hs[i]).client), .int .u64 ((hs[i]).seq), .I ((hs[i]).kind), .string ((hs[i]).key), .slice a4q10 ((hs[i]).data.length) k4q10, .I ((hs[i]).code), .slice a6q10 ((hs[i]).answer.length) k6q10, .slice a7q10 ((hs[i]).names.length) k7q10, .I ((hs[i]).beg), .I ((hs[i]).fin)] 33 (0, 0))] [] [Rp (Shape.slice Shape.str) [.slice a7q10 ((hs[i]).names.length) k7q10] ((hs[i]).names), Rp SB [.slice a6q10 ((hs[i]).answer.length) k6q10] ((hs[i]).answer), Rp SB [.slice a4q10 ((hs[i]).data.length) k4q10] ((hs[i]).data), Fc b6 o7 [.int .u64 ((hs[i]).client), .int .u64 ((hs[i]).seq), .I ((hs[i]).kind), .string ((hs[i]).key), .slice a4q10 ((hs[i]).data.length) k4q10, .I ((hs[i]).code), .slice a6q10 ((hs[i]).answer.length) k6q10, .slice a7q10 ((hs[i]).names.length) k7q10, .I ((hs[i]).beg), .I ((hs[i]).fin)], Rp (Shape.slice wopS) [.slice a hs.length c] hs] w_ ∧ (g1 = true ↔ badX hs[i])) (fun x_ => match x_ with | g1 => [(0, .slice a hs.length c), (3, .I i), (4, .P b21 0), (10, .slice a hs.length c), (11, .I ((hs.length : Nat) : Int)), (12, .I i), (51, .bool g1)]) [Cq Tryd.prog 13 [2, 0, 1, 0, 0, 2, 0, 0, 1, 0, 1], Cq Tryd.prog 13 [2, 0, 1, 0, 0, 2, 0, 0, 2], .inBlock 1, Cq Tryd.prog 13 [2, 0, 1, 0, 0, 3], Lq Tryd.prog 13 [2, 0, 1, 0, 0], .inBlock 0, Cq Tryd.prog 13 [3]] (fun hJ24 => ?_) ?_
   ·
    refine qG (sq 0 35) ?_
    refine qP 1 (sq 1 35) [(0, .slice a hs.length c), (3, .I i), (4, .P b21 0), (10, .slice a hs.length c), (11, .I ((hs.length : Nat) : Int)), (12, .I i), (17, .P b21 8)] ?_
    refine qL .seq 18 (sq 2 35) 3 b21 8 8 (.I ((hs[i]).beg)) (H.cells 0 rfl) ?_
    refine qP 2 (sq 4 35) [(0, .slice a hs.length c), (3, .I i), (4, .P b21 0), (10, .slice a hs.length c), (11, .I ((hs.length : Nat) : Int)), (12, .I i), (20, .bool (decide (((hs[i]).beg : Int) < 1)))] ?_
    refine tD (fun b_ => [(0, .slice a hs.length c), (3, .I i), (4, .P b21 0), (10, .slice a hs.length c), (11, .I ((hs.length : Nat) : Int)), (12, .I i), (20, .bool b_)]) (((hs[i]).beg : Int) < 1) (fun h26 => ?_) (fun h26 => ?_)
    ·
     refine qF 31 [(0, .slice a hs.length c), (3, .I i), (4, .P b21 0), (10, .slice a hs.length c), (11, .I ((hs.length : Nat) : Int)), (12, .I i), (51, .bool true)] ?_
     exact hJ24 (true) _ ⟨H, ⟨fun _ => by unfold badX; first | omega | (simp_all; done), fun _ => rfl⟩⟩
    ·
     refine qP 1 (sq 5 35) [(0, .slice a hs.length c), (3, .I i), (4, .P b21 0), (10, .slice a hs.length c), (11, .I ((hs.length : Nat) : Int)), (12, .I i), (20, .bool false), (21, .P b21 9)] ?_
     refine qL .seq 22 (sq 6 35) 3 b21 9 9 (.I ((hs[i]).fin)) (H.cells 0 rfl) ?_
     refine qP 2 (sq 8 35) [(0, .slice a hs.length c), (3, .I i), (4, .P b21 0), (10, .slice a hs.length c), (11, .I ((hs.length : Nat) : Int)), (12, .I i), (20, .bool false), (24, .bool (((hs[i]).fin) != 0))] ?_
     refine tN (fun b_ => [(0, .slice a hs.length c), (3, .I i), (4, .P b21 0), (10, .slice a hs.length c), (11, .I ((hs.length : Nat) : Int)), (12, .I i), (20, .bool false), (24, .bool b_)]) ((hs[i]).fin) 0 (fun h27 => ?_) (fun h27 => ?_)
     ·
      refine qP 1 (sq 9 35) [(0, .slice a hs.length c), (3, .I i), (4, .P b21 0), (10, .slice a hs.length c), (11, .I ((hs.length : Nat) : Int)), (12, .I i), (20, .bool false), (24, .bool true), (25, .P b21 9)] ?_
      refine qL .seq 26 (sq 10 35) 3 b21 9 9 (.I ((hs[i]).fin)) (H.cells 0 rfl) ?_
      refine qP 1 (sq 11 35) [(0, .slice a hs.length c), (3, .I i), (4, .P b21 0), (10, .slice a hs.length c), (11, .I ((hs.length : Nat) : Int)), (12, .I i), (20, .bool false), (24, .bool true), (26, .I ((hs[i]).fin)), (27, .P b21 8)] ?_
      refine qL .seq 28 (sq 12 35) 3 b21 8 8 (.I ((hs[i]).beg)) (H.cells 0 rfl) ?_
      refine qP 4 (sq 16 35) [(0, .slice a hs.length c), (3, .I i), (4, .P b21 0), (10, .slice a hs.length c), (11, .I ((hs.length : Nat) : Int)), (12, .I i), (32, .bool (decide (((hs[i]).fin : Int) ≤ (hs[i]).beg)))] ?_
      refine tD (fun b_ => [(0, .slice a hs.length c), (3, .I i), (4, .P b21 0), (10, .slice a hs.length c), (11, .I ((hs.length : Nat) : Int)), (12, .I i), (32, .bool b_)]) (((hs[i]).fin : Int) ≤ (hs[i]).beg) (fun h28 => ?_) (fun h28 => ?_)
      ·
       refine qF 19 [(0, .slice a hs.length c), (3, .I i), (4, .P b21 0), (10, .slice a hs.length c), (11, .I ((hs.length : Nat) : Int)), (12, .I i), (51, .bool true)] ?_
       exact hJ24 (true) _ ⟨H, ⟨fun _ => by unfold badX; first | omega | (simp_all; done), fun _ => rfl⟩⟩
      ·
       refine qP 1 (sq 17 35) [(0, .slice a hs.length c), (3, .I i), (4, .P b21 0), (10, .slice a hs.length c), (11, .I ((hs.length : Nat) : Int)), (12, .I i), (32, .bool false), (33, .P b21 2)] ?_
       refine qL .seq 34 (sq 18 35) 28 b21 2 2 (.I ((hs[i]).kind)) (H.cells 0 rfl) ?_
       refine qP 3 (sq 21 35) [(0, .slice a hs.length c), (3, .I i), (4, .P b21 0), (10, .slice a hs.length c), (11, .I ((hs.length : Nat) : Int)), (12, .I i), (37, .bool (decide (((hs[i]).kind : Int) < 1)))] ?_
       refine tD (fun b_ => [(0, .slice a hs.length c), (3, .I i), (4, .P b21 0), (10, .slice a hs.length c), (11, .I ((hs.length : Nat) : Int)), (12, .I i), (37, .bool b_)]) (((hs[i]).kind : Int) < 1) (fun h29 => ?_) (fun h29 => ?_)
       ·
        refine qF 14 [(0, .slice a hs.length c), (3, .I i), (4, .P b21 0), (10, .slice a hs.length c), (11, .I ((hs.length : Nat) : Int)), (12, .I i), (51, .bool true)] ?_
        exact hJ24 (true) _ ⟨H, ⟨fun _ => by unfold badX; first | omega | (simp_all; done), fun _ => rfl⟩⟩
       ·
        refine qP 1 (sq 22 35) [(0, .slice a hs.length c), (3, .I i), (4, .P b21 0), (10, .slice a hs.length c), (11, .I ((hs.length : Nat) : Int)), (12, .I i), (37, .bool false), (38, .P b21 2)] ?_
        refine qL .seq 39 (sq 23 35) 28 b21 2 2 (.I ((hs[i]).kind)) (H.cells 0 rfl) ?_
        refine qP 3 (sq 26 35) [(0, .slice a hs.length c), (3, .I i), (4, .P b21 0), (10, .slice a hs.length c), (11, .I ((hs.length : Nat) : Int)), (12, .I i), (42, .bool (decide (((hs[i]).kind : Int) > 4)))] ?_
        refine tD (fun b_ => [(0, .slice a hs.length c), (3, .I i), (4, .P b21 0), (10, .slice a hs.length c), (11, .I ((hs.length : Nat) : Int)), (12, .I i), (42, .bool b_)]) (((hs[i]).kind : Int) > 4) (fun h30 => ?_) (fun h30 => ?_)
        ·
         refine qF 9 [(0, .slice a hs.length c), (3, .I i), (4, .P b21 0), (10, .slice a hs.length c), (11, .I ((hs.length : Nat) : Int)), (12, .I i), (51, .bool true)] ?_
         exact hJ24 (true) _ ⟨H, ⟨fun _ => by unfold badX; first | omega | (simp_all; done), fun _ => rfl⟩⟩
        ·
         refine qP 1 (sq 27 35) [(0, .slice a hs.length c), (3, .I i), (4, .P b21 0), (10, .slice a hs.length c), (11, .I ((hs.length : Nat) : Int)), (12, .I i), (42, .bool false), (43, .P b21 5)] ?_
         refine qL .seq 44 (sq 28 35) 30 b21 5 5 (.I ((hs[i]).code)) (H.cells 0 rfl) ?_
         refine qP 3 (sq 31 35) [(0, .slice a hs.length c), (3, .I i), (4, .P b21 0), (10, .slice a hs.length c), (11, .I ((hs.length : Nat) : Int)), (12, .I i), (47, .bool (decide (((hs[i]).code : Int) < 0)))] ?_
         refine tD (fun b_ => [(0, .slice a hs.length c), (3, .I i), (4, .P b21 0), (10, .slice a hs.length c), (11, .I ((hs.length : Nat) : Int)), (12, .I i), (47, .bool b_)]) (((hs[i]).code : Int) < 0) (fun h31 => ?_) (fun h31 => ?_)
         ·
          refine qF 4 [(0, .slice a hs.length c), (3, .I i), (4, .P b21 0), (10, .slice a hs.length c), (11, .I ((hs.length : Nat) : Int)), (12, .I i), (51, .bool true)] ?_
          exact hJ24 (true) _ ⟨H, ⟨fun _ => by unfold badX; first | omega | (simp_all; done), fun _ => rfl⟩⟩
         ·
          refine qP 1 (sq 32 35) [(0, .slice a hs.length c), (3, .I i), (4, .P b21 0), (10, .slice a hs.length c), (11, .I ((hs.length : Nat) : Int)), (12, .I i), (47, .bool false), (48, .P b21 5)] ?_
          refine qL .seq 49 (sq 33 35) 30 b21 5 5 (.I ((hs[i]).code)) (H.cells 0 rfl) ?_
          refine qF 2 [(0, .slice a hs.length c), (3, .I i), (4, .P b21 0), (10, .slice a hs.length c), (11, .I ((hs.length : Nat) : Int)), (12, .I i), (51, .bool (decide (((hs[i]).code : Int) > 6)))] ?_
          exact hJ24 (decide (((hs[i]).code : Int) > 6)) _ ⟨H, by unfold badX; first | (simp only [decide_eq_true_iff, Bool.not_eq_true', decide_eq_false_iff_not, Bool.not_eq_true, bne_iff_ne, beq_iff_eq, ne_eq]; omega) | (simp_all; done) | (simp_all; omega)⟩
     ·
      refine qP 9 (sq 17 35) [(0, .slice a hs.length c), (3, .I i), (4, .P b21 0), (10, .slice a hs.length c), (11, .I ((hs.length : Nat) : Int)), (12, .I i), (32, .bool false), (33, .P b21 2)] ?_
      refine qL .seq 34 (sq 18 35) 28 b21 2 2 (.I ((hs[i]).kind)) (H.cells 0 rfl) ?_
      refine qP 3 (sq 21 35) [(0, .slice a hs.length c), (3, .I i), (4, .P b21 0), (10, .slice a hs.length c), (11, .I ((hs.length : Nat) : Int)), (12, .I i), (37, .bool (decide (((hs[i]).kind : Int) < 1)))] ?_
      refine tD (fun b_ => [(0, .slice a hs.length c), (3, .I i), (4, .P b21 0), (10, .slice a hs.length c), (11, .I ((hs.length : Nat) : Int)), (12, .I i), (37, .bool b_)]) (((hs[i]).kind : Int) < 1) (fun h32 => ?_) (fun h32 => ?_)
      ·
       refine qF 14 [(0, .slice a hs.length c), (3, .I i), (4, .P b21 0), (10, .slice a hs.length c), (11, .I ((hs.length : Nat) : Int)), (12, .I i), (51, .bool true)] ?_
       exact hJ24 (true) _ ⟨H, ⟨fun _ => by unfold badX; first | omega | (simp_all; done), fun _ => rfl⟩⟩
      ·
       refine qP 1 (sq 22 35) [(0, .slice a hs.length c), (3, .I i), (4, .P b21 0), (10, .slice a hs.length c), (11, .I ((hs.length : Nat) : Int)), (12, .I i), (37, .bool false), (38, .P b21 2)] ?_
       refine qL .seq 39 (sq 23 35) 28 b21 2 2 (.I ((hs[i]).kind)) (H.cells 0 rfl) ?_
       refine qP 3 (sq 26 35) [(0, .slice a hs.length c), (3, .I i), (4, .P b21 0), (10, .slice a hs.length c), (11, .I ((hs.length : Nat) : Int)), (12, .I i), (42, .bool (decide (((hs[i]).kind : Int) > 4)))] ?_
       refine tD (fun b_ => [(0, .slice a hs.length c), (3, .I i), (4, .P b21 0), (10, .slice a hs.length c), (11, .I ((hs.length : Nat) : Int)), (12, .I i), (42, .bool b_)]) (((hs[i]).kind : Int) > 4) (fun h33 => ?_) (fun h33 => ?_)
       ·
        refine qF 9 [(0, .slice a hs.length c), (3, .I i), (4, .P b21 0), (10, .slice a hs.length c), (11, .I ((hs.length : Nat) : Int)), (12, .I i), (51, .bool true)] ?_
        exact hJ24 (true) _ ⟨H, ⟨fun _ => by unfold badX; first | omega | (simp_all; done), fun _ => rfl⟩⟩
       ·
        refine qP 1 (sq 27 35) [(0, .slice a hs.length c), (3, .I i), (4, .P b21 0), (10, .slice a hs.length c), (11, .I ((hs.length : Nat) : Int)), (12, .I i), (42, .bool false), (43, .P b21 5)] ?_
        refine qL .seq 44 (sq 28 35) 30 b21 5 5 (.I ((hs[i]).code)) (H.cells 0 rfl) ?_
        refine qP 3 (sq 31 35) [(0, .slice a hs.length c), (3, .I i), (4, .P b21 0), (10, .slice a hs.length c), (11, .I ((hs.length : Nat) : Int)), (12, .I i), (47, .bool (decide (((hs[i]).code : Int) < 0)))] ?_
        refine tD (fun b_ => [(0, .slice a hs.length c), (3, .I i), (4, .P b21 0), (10, .slice a hs.length c), (11, .I ((hs.length : Nat) : Int)), (12, .I i), (47, .bool b_)]) (((hs[i]).code : Int) < 0) (fun h34 => ?_) (fun h34 => ?_)
        ·
         refine qF 4 [(0, .slice a hs.length c), (3, .I i), (4, .P b21 0), (10, .slice a hs.length c), (11, .I ((hs.length : Nat) : Int)), (12, .I i), (51, .bool true)] ?_
         exact hJ24 (true) _ ⟨H, ⟨fun _ => by unfold badX; first | omega | (simp_all; done), fun _ => rfl⟩⟩
        ·
         refine qP 1 (sq 32 35) [(0, .slice a hs.length c), (3, .I i), (4, .P b21 0), (10, .slice a hs.length c), (11, .I ((hs.length : Nat) : Int)), (12, .I i), (47, .bool false), (48, .P b21 5)] ?_
         refine qL .seq 49 (sq 33 35) 30 b21 5 5 (.I ((hs[i]).code)) (H.cells 0 rfl) ?_
         refine qF 2 [(0, .slice a hs.length c), (3, .I i), (4, .P b21 0), (10, .slice a hs.length c), (11, .I ((hs.length : Nat) : Int)), (12, .I i), (51, .bool (decide (((hs[i]).code : Int) > 6)))] ?_
         exact hJ24 (decide (((hs[i]).code : Int) > 6)) _ ⟨H, by unfold badX; first | (simp only [decide_eq_true_iff, Bool.not_eq_true', decide_eq_false_iff_not, Bool.not_eq_true, bne_iff_ne, beq_iff_eq, ne_eq]; omega) | (simp_all; done) | (simp_all; omega)⟩
   ·
    rintro g1 w25 ⟨H, hg1⟩
    refine qC g1 (fun h35 => ?_) (fun h35 => ?_)
    ·
     have hc1 := hg1.1 h35
     refine qR 2 [.c [2, 0, 1, 0, 0, 2, 0, 0, 1, 0, 1, 0, 1], .c [2, 0, 1, 0, 0, 2, 0, 0, 2], .b 1, .c [2, 0, 1, 0, 0, 3], .l [2, 0, 1, 0, 0], .b 0, .c [3]] [(2, .I 240)] ?_
     refine qT (.I 240) Tryd.func13 ?_
     refine ⟨_, rfl, H.done, _, rfl, by decide, ?_⟩
     exact ⟨fun q => absurd q (by decide), fun q => absurd q (not_ok_bad (by omega) hc1)⟩
    ·
     have hc1 : ¬ badX hs[i] := fun q => absurd (hg1.2 q) (by rw [h35]; decide)
     refine qR 2 [.c [2, 0, 1, 0, 0, 2, 0, 0, 2, 0], .c [2, 0, 1, 0, 0, 2, 0, 0, 3], .b 1, .c [2, 0, 1, 0, 0, 3], .l [2, 0, 1, 0, 0], .b 0, .c [3]] [(0, .slice a hs.length c), (3, .I i), (4, .P b21 0), (10, .slice a hs.length c), (11, .I ((hs.length : Nat) : Int)), (12, .I i)] ?_
     refine qG (sq 0 5) ?_
     refine qP 2 (sq 2 5) [(0, .slice a hs.length c), (4, .P b21 0), (10, .slice a hs.length c), (11, .I ((hs.length : Nat) : Int)), (12, .I i), (52, .slice a hs.length c), (53, .I i)] ?_
     refine RW.slice (κ := .seq) (d := some 54) (r := (sq 3 5)) (T := 22) (e := 33) (sh := wopS) (a := a) (len := hs.length) (cap := c) (zs := (hs.take i)) (lv := none) (hv := (some (.I i))) (by as_aux_lemma => kernel_rfl) (by as_aux_lemma => kernel_rfl) H 4 rfl 0 i .nil (.mk (by omega)) (by omega) (by omega) (by rw [List.drop_zero]) ?_
     intro a36 H
     refine qF 2 [(0, .slice a hs.length c), (4, .P b21 0), (10, .slice a hs.length c), (11, .I ((hs.length : Nat) : Int)), (12, .I i), (54, .slice a36 (hs.take i).length c), (55, .I (((hs.take i).length : Nat) : Int)), (56, .I 0)] ?_
     refine qR 1 [.c [2, 0, 1, 0, 0, 2, 0, 0, 3, 0], .b 2, .b 1, .c [2, 0, 1, 0, 0, 3], .l [2, 0, 1, 0, 0], .b 0, .c [3]] [(0, .slice a hs.length c), (4, .P b21 0), (10, .slice a hs.length c), (11, .I ((hs.length : Nat) : Int)), (12, .I i), (54, .slice a36 (hs.take i).length c), (55, .I (((hs.take i).length : Nat) : Int)), (56, .I 0)] ?_
     have hti : (hs.take i).length = i := by rw [List.length_take]; omega
     refine WK.loop (α := Nat) (b := cd Tryd.prog 13 [2, 0, 1, 0, 0, 2, 0, 0, 3, 0, 0]) (by as_aux_lemma => kernel_rfl) (fun k => [(0, .slice a hs.length c), (4, .P b21 0), (10, .slice a hs.length c), (11, .I ((hs.length : Nat) : Int)), (12, .I i), (54, .slice a36 (hs.take i).length c), (55, .I (((hs.take i).length : Nat) : Int)), (56, .I k)]) (fun k w' => Hp w S [] [(b21, .cells #[.int .u64 ((hs[i]).client), .int .u64 ((hs[i]).seq), .I ((hs[i]).kind), .string ((hs[i]).key), .slice a4q10 ((hs[i]).data.length) k4q10, .I ((hs[i]).code), .slice a6q10 ((hs[i]).answer.length) k6q10, .slice a7q10 ((hs[i]).names.length) k7q10, .I ((hs[i]).beg), .I ((hs[i]).fin)] 33 (0, 0))] [] [Rp (Shape.slice wopS) [.slice a36 (hs.take i).length c] (hs.take i), Rp (Shape.slice Shape.str) [.slice a7q10 ((hs[i]).names.length) k7q10] ((hs[i]).names), Rp SB [.slice a6q10 ((hs[i]).answer.length) k6q10] ((hs[i]).answer), Rp SB [.slice a4q10 ((hs[i]).data.length) k4q10] ((hs[i]).data), Fc b6 o7 [.int .u64 ((hs[i]).client), .int .u64 ((hs[i]).seq), .I ((hs[i]).kind), .string ((hs[i]).key), .slice a4q10 ((hs[i]).data.length) k4q10, .I ((hs[i]).code), .slice a6q10 ((hs[i]).answer.length) k6q10, .slice a7q10 ((hs[i]).names.length) k7q10, .I ((hs[i]).beg), .I ((hs[i]).fin)], Rp (Shape.slice wopS) [.slice a hs.length c] hs] w' ∧ k ≤ i ∧ ∀ y ∈ (hs.take i).take k, ¬ clash hs[i] y) (fun k => i - k) 0 ⟨H, Nat.zero_le _, fun y hy => (by cases hy)⟩ (rfl) ?_
     rintro k w38 ⟨H, hinv1⟩ hback37
     refine qR 3 [.c [2, 0, 1, 0, 0, 2, 0, 0, 3, 0, 0, 1, 0], .c [2, 0, 1, 0, 0, 2, 0, 0, 3, 0, 0, 2], .l [2, 0, 1, 0, 0, 2, 0, 0, 3, 0, 0], .b 2, .b 1, .c [2, 0, 1, 0, 0, 3], .l [2, 0, 1, 0, 0], .b 0, .c [3]] [(0, .slice a hs.length c), (4, .P b21 0), (10, .slice a hs.length c), (11, .I ((hs.length : Nat) : Int)), (12, .I i), (54, .slice a36 (hs.take i).length c), (55, .I (((hs.take i).length : Nat) : Int)), (56, .I k), (57, .bool (decide (((k : Int) : Int) < (((hs.take i).length : Nat) : Int))))] ?_
     refine qD (((k : Int) : Int) < (((hs.take i).length : Nat) : Int)) (fun h39 => ?_) (fun h39 => ?_)
     ·
      refine qR 4 [.c [2, 0, 1, 0, 0, 2, 0, 0, 3, 0, 0, 2, 0, 0, 0], .c [2, 0, 1, 0, 0, 2, 0, 0, 3, 0, 0, 2, 0, 0, 1], .b 3, .c [2, 0, 1, 0, 0, 2, 0, 0, 3, 0, 0, 3], .l [2, 0, 1, 0, 0, 2, 0, 0, 3, 0, 0], .b 2, .b 1, .c [2, 0, 1, 0, 0, 3], .l [2, 0, 1, 0, 0], .b 0, .c [3]] [(0, .slice a hs.length c), (4, .P b21 0), (10, .slice a hs.length c), (11, .I ((hs.length : Nat) : Int)), (12, .I i), (54, .slice a36 (hs.take i).length c), (55, .I (((hs.take i).length : Nat) : Int)), (56, .I k)] ?_
      refine qG (sq 0 4) ?_
      have hx40 : k < (hs.take i).length := by omega
      refine qX .seq 58 (sq 1 4) 22 33 (k : Int) wopS ((hs.take i)[k]) H 0 rfl k (by omega) (List.getElem?_eq_getElem hx40) ?_
      intro b41 o42 es43 hr44 H
      obtain ⟨a4q45, k4q45, a6q45, k6q45, a7q45, k7q45, rfl, hf46, hf47, hf48, hf49, hf50, hf51, hf52, hf53, hf54, hf55⟩ := wop_open hr44
      have H := H.add (F := Rp SB [.slice a4q45 (((hs.take i)[k]).data.length) k4q45] (((hs.take i)[k]).data)) hf50
      have H := H.add (F := Rp SB [.slice a6q45 (((hs.take i)[k]).answer.length) k6q45] (((hs.take i)[k]).answer)) hf52
      have H := H.add (F := Rp (Shape.slice Shape.str) [.slice a7q45 (((hs.take i)[k]).names.length) k7q45] (((hs.take i)[k]).names)) hf53
      refine qL .seq 59 (sq 2 4) 33 b41 o42 0 (.agg #[.int .u64 (((hs.take i)[k]).client), .int .u64 (((hs.take i)[k]).seq), .I (((hs.take i)[k]).kind), .string (((hs.take i)[k]).key), .slice a4q45 (((hs.take i)[k]).data.length) k4q45, .I (((hs.take i)[k]).code), .slice a6q45 (((hs.take i)[k]).answer.length) k6q45, .slice a7q45 (((hs.take i)[k]).names.length) k7q45, .I (((hs.take i)[k]).beg), .I (((hs.take i)[k]).fin)]) (H.fc 3 rfl) ?_
      refine qB .seq 6 (sq 3 4) #[.int .u64 0, .int .u64 0, .I 0, .string (⟨#[]⟩ : ByteArray), .slice none 0 0, .I 0, .slice none 0 0, .slice none 0 0, .I 0, .I 0] 33 H ?_
      intro b56 w57 H
      refine qW 33 b56 0 (sq 4 4) (.agg #[.int .u64 (((hs.take i)[k]).client), .int .u64 (((hs.take i)[k]).seq), .I (((hs.take i)[k]).kind), .string (((hs.take i)[k]).key), .slice a4q45 (((hs.take i)[k]).data.length) k4q45, .I (((hs.take i)[k]).code), .slice a6q45 (((hs.take i)[k]).answer.length) k6q45, .slice a7q45 (((hs.take i)[k]).names.length) k7q45, .I (((hs.take i)[k]).beg), .I (((hs.take i)[k]).fin)]) [(b56, .cells #[.int .u64 (((hs.take i)[k]).client), .int .u64 (((hs.take i)[k]).seq), .I (((hs.take i)[k]).kind), .string (((hs.take i)[k]).key), .slice a4q45 (((hs.take i)[k]).data.length) k4q45, .I (((hs.take i)[k]).code), .slice a6q45 (((hs.take i)[k]).answer.length) k6q45, .slice a7q45 (((hs.take i)[k]).names.length) k7q45, .I (((hs.take i)[k]).beg), .I (((hs.take i)[k]).fin)] 33 (0, 0)), (b21, .cells #[.int .u64 ((hs[i]).client), .int .u64 ((hs[i]).seq), .I ((hs[i]).kind), .string ((hs[i]).key), .slice a4q10 ((hs[i]).data.length) k4q10, .I ((hs[i]).code), .slice a6q10 ((hs[i]).answer.length) k6q10, .slice a7q10 ((hs[i]).names.length) k7q10, .I ((hs[i]).beg), .I ((hs[i]).fin)] 33 (0, 0))] H 0 rfl rfl ?_
      intro w58 H
      refine qF 0 [(0, .slice a hs.length c), (4, .P b21 0), (6, .P b56 0), (10, .slice a hs.length c), (11, .I ((hs.length : Nat) : Int)), (12, .I i), (54, .slice a36 (hs.take i).length c), (55, .I (((hs.take i).length : Nat) : Int)), (56, .I k)] ?_
      refine qR 1 [.c [2, 0, 1, 0, 0, 2, 0, 0, 3, 0, 0, 2, 0, 0, 1, 0], .c [2, 0, 1, 0, 0, 2, 0, 0, 3, 0, 0, 2, 0, 0, 2], .b 3, .c [2, 0, 1, 0, 0, 2, 0, 0, 3, 0, 0, 3], .l [2, 0, 1, 0, 0, 2, 0, 0, 3, 0, 0], .b 2, .b 1, .c [2, 0, 1, 0, 0, 3], .l [2, 0, 1, 0, 0], .b 0, .c [3]] [(0, .slice a hs.length c), (4, .P b21 0), (6, .P b56 0), (10, .slice a hs.length c), (11, .I ((hs.length : Nat) : Int)), (12, .I i), (54, .slice a36 (hs.take i).length c), (55, .I (((hs.take i).length : Nat) : Int)), (56, .I k)] ?_
      refine WK.joinV (α := Bool) (fun x_ w_ => match x_ with | g2 => Hp w S [] [(b56, .cells #[.int .u64 (((hs.take i)[k]).client), .int .u64 (((hs.take i)[k]).seq), .I (((hs.take i)[k]).kind), .string (((hs.take i)[k]).key), .slice a4q45 (((hs.take i)[k]).data.length) k4q45, .I (((hs.take i)[k]).code), .slice a6q45 (((hs.take i)[k]).answer.length) k6q45, .slice a7q45 (((hs.take i)[k]).names.length) k7q45, .I (((hs.take i)[k]).beg), .I (((hs.take i)[k]).fin)] 33 (0, 0)), (b21, .cells #[.int .u64 ((hs[i]).client), .int .u64 ((hs[i]).seq), .I ((hs[i]).kind), .string ((hs[i]).key), .slice a4q10 ((hs[i]).data.length) k4q10, .I ((hs[i]).code), .slice a6q10 ((hs[i]).answer.length) k6q10, .slice a7q10 ((hs[i]).names.length) k7q10, .I ((hs[i]).beg), .I ((hs[i]).fin)] 33 (0, 0))] [] [Rp (Shape.slice Shape.str) [.slice a7q45 (((hs.take i)[k]).names.length) k7q45] (((hs.take i)[k]).names), Rp SB [.slice a6q45 (((hs.take i)[k]).answer.length) k6q45] (((hs.take i)[k]).answer), Rp SB [.slice a4q45 (((hs.take i)[k]).data.length) k4q45] (((hs.take i)[k]).data), Fc b41 o42 [.int .u64 (((hs.take i)[k]).client), .int .u64 (((hs.take i)[k]).seq), .I (((hs.take i)[k]).kind), .string (((hs.take i)[k]).key), .slice a4q45 (((hs.take i)[k]).data.length) k4q45, .I (((hs.take i)[k]).code), .slice a6q45 (((hs.take i)[k]).answer.length) k6q45, .slice a7q45 (((hs.take i)[k]).names.length) k7q45, .I (((hs.take i)[k]).beg), .I (((hs.take i)[k]).fin)], Rp (Shape.slice wopS) [.slice a36 (hs.take i).length c] (hs.take i), Rp (Shape.slice Shape.str) [.slice a7q10 ((hs[i]).names.length) k7q10] ((hs[i]).names), Rp SB [.slice a6q10 ((hs[i]).answer.length) k6q10] ((hs[i]).answer), Rp SB [.slice a4q10 ((hs[i]).data.length) k4q10] ((hs[i]).data), Fc b6 o7 [.int .u64 ((hs[i]).client), .int .u64 ((hs[i]).seq), .I ((hs[i]).kind), .string ((hs[i]).key), .slice a4q10 ((hs[i]).data.length) k4q10, .I ((hs[i]).code), .slice a6q10 ((hs[i]).answer.length) k6q10, .slice a7q10 ((hs[i]).names.length) k7q10, .I ((hs[i]).beg), .I ((hs[i]).fin)], Rp (Shape.slice wopS) [.slice a hs.length c] hs] w_ ∧ (g2 = true ↔ clash hs[i] (hs.take i)[k])) (fun x_ => match x_ with | g2 => [(0, .slice a hs.length c), (4, .P b21 0), (10, .slice a hs.length c), (11, .I ((hs.length : Nat) : Int)), (12, .I i), (54, .slice a36 (hs.take i).length c), (55, .I (((hs.take i).length : Nat) : Int)), (56, .I k), (88, .bool g2)]) [Cq Tryd.prog 13 [2, 0, 1, 0, 0, 2, 0, 0, 3, 0, 0, 2, 0, 0, 2], .inBlock 3, Cq Tryd.prog 13 [2, 0, 1, 0, 0, 2, 0, 0, 3, 0, 0, 3], Lq Tryd.prog 13 [2, 0, 1, 0, 0, 2, 0, 0, 3, 0, 0], .inBlock 2, .inBlock 1, Cq Tryd.prog 13 [2, 0, 1, 0, 0, 3], Lq Tryd.prog 13 [2, 0, 1, 0, 0], .inBlock 0, Cq Tryd.prog 13 [3]] (fun hJ59 => ?_) ?_
      ·
       refine qG (sq 0 29) ?_
       refine qP 1 (sq 1 29) [(0, .slice a hs.length c), (4, .P b21 0), (6, .P b56 0), (10, .slice a hs.length c), (11, .I ((hs.length : Nat) : Int)), (12, .I i), (54, .slice a36 (hs.take i).length c), (55, .I (((hs.take i).length : Nat) : Int)), (56, .I k), (60, .P b21 0)] ?_
       refine qL .seq 61 (sq 2 29) 27 b21 0 0 (.int .u64 ((hs[i]).client)) (H.cells 1 rfl) ?_
       refine qP 1 (sq 3 29) [(0, .slice a hs.length c), (4, .P b21 0), (6, .P b56 0), (10, .slice a hs.length c), (11, .I ((hs.length : Nat) : Int)), (12, .I i), (54, .slice a36 (hs.take i).length c), (55, .I (((hs.take i).length : Nat) : Int)), (56, .I k), (61, .int .u64 ((hs[i]).client)), (62, .P b56 0)] ?_
       refine qL .seq 63 (sq 4 29) 27 b56 0 0 (.int .u64 (((hs.take i)[k]).client)) (H.cells 0 rfl) ?_
       refine qP 2 (sq 6 29) [(0, .slice a hs.length c), (4, .P b21 0), (6, .P b56 0), (10, .slice a hs.length c), (11, .I ((hs.length : Nat) : Int)), (12, .I i), (54, .slice a36 (hs.take i).length c), (55, .I (((hs.take i).length : Nat) : Int)), (56, .I k), (65, .bool (((hs[i]).client) == (((hs.take i)[k]).client)))] ?_
       refine tE (fun b_ => [(0, .slice a hs.length c), (4, .P b21 0), (6, .P b56 0), (10, .slice a hs.length c), (11, .I ((hs.length : Nat) : Int)), (12, .I i), (54, .slice a36 (hs.take i).length c), (55, .I (((hs.take i).length : Nat) : Int)), (56, .I k), (65, .bool b_)]) ((hs[i]).client) (((hs.take i)[k]).client) (fun h61 => ?_) (fun h61 => ?_)
       ·
        refine qL .seq 66 (sq 7 29) 33 b21 0 0 (.agg #[.int .u64 ((hs[i]).client), .int .u64 ((hs[i]).seq), .I ((hs[i]).kind), .string ((hs[i]).key), .slice a4q10 ((hs[i]).data.length) k4q10, .I ((hs[i]).code), .slice a6q10 ((hs[i]).answer.length) k6q10, .slice a7q10 ((hs[i]).names.length) k7q10, .I ((hs[i]).beg), .I ((hs[i]).fin)]) (H.cells 1 rfl) ?_
        refine qK .seq (some 67) (sq 8 29) 17 #[.agg #[.int .u64 ((hs[i]).client), .int .u64 ((hs[i]).seq), .I ((hs[i]).kind), .string ((hs[i]).key), .slice a4q10 ((hs[i]).data.length) k4q10, .I ((hs[i]).code), .slice a6q10 ((hs[i]).answer.length) k6q10, .slice a7q10 ((hs[i]).names.length) k7q10, .I ((hs[i]).beg), .I ((hs[i]).fin)]] (open_spec (x := (hs[i])) (wop_mk (l0 := [.int .u64 ((hs[i]).client)]) (y0 := (hs[i]).client) (l1 := [.int .u64 ((hs[i]).seq)]) (y1 := (hs[i]).seq) (l2 := [.I ((hs[i]).kind)]) (y2 := (hs[i]).kind) (l3 := [.string ((hs[i]).key)]) (y3 := (hs[i]).key) (l4 := [.slice a4q10 ((hs[i]).data.length) k4q10]) (y4 := (hs[i]).data) (l5 := [.I ((hs[i]).code)]) (y5 := (hs[i]).code) (l6 := [.slice a6q10 ((hs[i]).answer.length) k6q10]) (y6 := (hs[i]).answer) (l7 := [.slice a7q10 ((hs[i]).names.length) k7q10]) (y7 := (hs[i]).names) (l8 := [.I ((hs[i]).beg)]) (y8 := (hs[i]).beg) (l9 := [.I ((hs[i]).fin)]) (y9 := (hs[i]).fin) u64a u64a i64a ⟨rfl, by first | assumption | (simp [maxLen]; done) | decide⟩ (H.rp 7 rfl) i64a (H.rp 6 rfl) (H.rp 5 rfl) i64a i64a)) ?_
        rintro _ w62 hE63 rfl
        have H := H.ext hE63
        refine qP 3 (sq 11 29) [(0, .slice a hs.length c), (4, .P b21 0), (6, .P b56 0), (10, .slice a hs.length c), (11, .I ((hs.length : Nat) : Int)), (12, .I i), (54, .slice a36 (hs.take i).length c), (55, .I (((hs.take i).length : Nat) : Int)), (56, .I k), (70, .bool (!(opn (hs[i]))))] ?_
        refine RW.test (fun b_ => [(0, .slice a hs.length c), (4, .P b21 0), (6, .P b56 0), (10, .slice a hs.length c), (11, .I ((hs.length : Nat) : Int)), (12, .I i), (54, .slice a36 (hs.take i).length c), (55, .I (((hs.take i).length : Nat) : Int)), (56, .I k), (70, .bool b_)]) (!(opn (hs[i]))) (fun h64 => ?_) (fun h64 => ?_)
        ·
         replace h64 : (opn (hs[i])) = false := by revert h64; cases (opn (hs[i])) <;> simp
         refine qL .seq 71 (sq 12 29) 33 b56 0 0 (.agg #[.int .u64 (((hs.take i)[k]).client), .int .u64 (((hs.take i)[k]).seq), .I (((hs.take i)[k]).kind), .string (((hs.take i)[k]).key), .slice a4q45 (((hs.take i)[k]).data.length) k4q45, .I (((hs.take i)[k]).code), .slice a6q45 (((hs.take i)[k]).answer.length) k6q45, .slice a7q45 (((hs.take i)[k]).names.length) k7q45, .I (((hs.take i)[k]).beg), .I (((hs.take i)[k]).fin)]) (H.cells 0 rfl) ?_
         refine qK .seq (some 72) (sq 13 29) 17 #[.agg #[.int .u64 (((hs.take i)[k]).client), .int .u64 (((hs.take i)[k]).seq), .I (((hs.take i)[k]).kind), .string (((hs.take i)[k]).key), .slice a4q45 (((hs.take i)[k]).data.length) k4q45, .I (((hs.take i)[k]).code), .slice a6q45 (((hs.take i)[k]).answer.length) k6q45, .slice a7q45 (((hs.take i)[k]).names.length) k7q45, .I (((hs.take i)[k]).beg), .I (((hs.take i)[k]).fin)]] (open_spec (x := ((hs.take i)[k])) (wop_mk (l0 := [.int .u64 (((hs.take i)[k]).client)]) (y0 := ((hs.take i)[k]).client) (l1 := [.int .u64 (((hs.take i)[k]).seq)]) (y1 := ((hs.take i)[k]).seq) (l2 := [.I (((hs.take i)[k]).kind)]) (y2 := ((hs.take i)[k]).kind) (l3 := [.string (((hs.take i)[k]).key)]) (y3 := ((hs.take i)[k]).key) (l4 := [.slice a4q45 (((hs.take i)[k]).data.length) k4q45]) (y4 := ((hs.take i)[k]).data) (l5 := [.I (((hs.take i)[k]).code)]) (y5 := ((hs.take i)[k]).code) (l6 := [.slice a6q45 (((hs.take i)[k]).answer.length) k6q45]) (y6 := ((hs.take i)[k]).answer) (l7 := [.slice a7q45 (((hs.take i)[k]).names.length) k7q45]) (y7 := ((hs.take i)[k]).names) (l8 := [.I (((hs.take i)[k]).beg)]) (y8 := ((hs.take i)[k]).beg) (l9 := [.I (((hs.take i)[k]).fin)]) (y9 := ((hs.take i)[k]).fin) u64a u64a i64a ⟨rfl, by first | assumption | (simp [maxLen]; done) | decide⟩ (H.rp 2 rfl) i64a (H.rp 1 rfl) (H.rp 0 rfl) i64a i64a)) ?_
         rintro _ w65 hE66 rfl
         have H := H.ext hE66
         refine qP 3 (sq 16 29) [(0, .slice a hs.length c), (4, .P b21 0), (6, .P b56 0), (10, .slice a hs.length c), (11, .I ((hs.length : Nat) : Int)), (12, .I i), (54, .slice a36 (hs.take i).length c), (55, .I (((hs.take i).length : Nat) : Int)), (56, .I k), (75, .bool (!(opn ((hs.take i)[k]))))] ?_
         refine RW.test (fun b_ => [(0, .slice a hs.length c), (4, .P b21 0), (6, .P b56 0), (10, .slice a hs.length c), (11, .I ((hs.length : Nat) : Int)), (12, .I i), (54, .slice a36 (hs.take i).length c), (55, .I (((hs.take i).length : Nat) : Int)), (56, .I k), (75, .bool b_)]) (!(opn ((hs.take i)[k]))) (fun h67 => ?_) (fun h67 => ?_)
         ·
          replace h67 : (opn ((hs.take i)[k])) = false := by revert h67; cases (opn ((hs.take i)[k])) <;> simp
          refine qP 1 (sq 17 29) [(0, .slice a hs.length c), (4, .P b21 0), (6, .P b56 0), (10, .slice a hs.length c), (11, .I ((hs.length : Nat) : Int)), (12, .I i), (54, .slice a36 (hs.take i).length c), (55, .I (((hs.take i).length : Nat) : Int)), (56, .I k), (75, .bool true), (76, .P b21 9)] ?_
          refine qL .seq 77 (sq 18 29) 3 b21 9 9 (.I ((hs[i]).fin)) (H.cells 1 rfl) ?_
          refine qP 1 (sq 19 29) [(0, .slice a hs.length c), (4, .P b21 0), (6, .P b56 0), (10, .slice a hs.length c), (11, .I ((hs.length : Nat) : Int)), (12, .I i), (54, .slice a36 (hs.take i).length c), (55, .I (((hs.take i).length : Nat) : Int)), (56, .I k), (75, .bool true), (77, .I ((hs[i]).fin)), (78, .P b56 8)] ?_
          refine qL .seq 79 (sq 20 29) 3 b56 8 8 (.I (((hs.take i)[k]).beg)) (H.cells 0 rfl) ?_
          refine qP 3 (sq 23 29) [(0, .slice a hs.length c), (4, .P b21 0), (6, .P b56 0), (10, .slice a hs.length c), (11, .I ((hs.length : Nat) : Int)), (12, .I i), (54, .slice a36 (hs.take i).length c), (55, .I (((hs.take i).length : Nat) : Int)), (56, .I k), (82, .bool (decide (((hs[i]).fin : Int) ≥ ((hs.take i)[k]).beg)))] ?_
          refine tD (fun b_ => [(0, .slice a hs.length c), (4, .P b21 0), (6, .P b56 0), (10, .slice a hs.length c), (11, .I ((hs.length : Nat) : Int)), (12, .I i), (54, .slice a36 (hs.take i).length c), (55, .I (((hs.take i).length : Nat) : Int)), (56, .I k), (82, .bool b_)]) (((hs[i]).fin : Int) ≥ ((hs.take i)[k]).beg) (fun h68 => ?_) (fun h68 => ?_)
          ·
           refine qP 1 (sq 24 29) [(0, .slice a hs.length c), (4, .P b21 0), (10, .slice a hs.length c), (11, .I ((hs.length : Nat) : Int)), (12, .I i), (54, .slice a36 (hs.take i).length c), (55, .I (((hs.take i).length : Nat) : Int)), (56, .I k), (82, .bool true), (83, .P b56 9)] ?_
           refine qL .seq 84 (sq 25 29) 3 b56 9 9 (.I (((hs.take i)[k]).fin)) (H.cells 0 rfl) ?_
           refine qP 1 (sq 26 29) [(0, .slice a hs.length c), (4, .P b21 0), (10, .slice a hs.length c), (11, .I ((hs.length : Nat) : Int)), (12, .I i), (54, .slice a36 (hs.take i).length c), (55, .I (((hs.take i).length : Nat) : Int)), (56, .I k), (82, .bool true), (84, .I (((hs.take i)[k]).fin)), (85, .P b21 8)] ?_
           refine qL .seq 86 (sq 27 29) 3 b21 8 8 (.I ((hs[i]).beg)) (H.cells 1 rfl) ?_
           refine qF 2 [(0, .slice a hs.length c), (4, .P b21 0), (10, .slice a hs.length c), (11, .I ((hs.length : Nat) : Int)), (12, .I i), (54, .slice a36 (hs.take i).length c), (55, .I (((hs.take i).length : Nat) : Int)), (56, .I k), (88, .bool (decide ((((hs.take i)[k]).fin : Int) ≥ (hs[i]).beg)))] ?_
           exact hJ59 (decide ((((hs.take i)[k]).fin : Int) ≥ (hs[i]).beg)) _ ⟨H, by unfold clash at *; first | (simp only [decide_eq_true_iff, Bool.not_eq_true', decide_eq_false_iff_not, Bool.not_eq_true, bne_iff_ne, beq_iff_eq, ne_eq]; omega) | (simp_all; done) | (simp_all; omega)⟩
          ·
           refine qF 6 [(0, .slice a hs.length c), (4, .P b21 0), (10, .slice a hs.length c), (11, .I ((hs.length : Nat) : Int)), (12, .I i), (54, .slice a36 (hs.take i).length c), (55, .I (((hs.take i).length : Nat) : Int)), (56, .I k), (88, .bool false)] ?_
           exact hJ59 (false) _ ⟨H, ⟨fun h => (by cases h), fun h => by unfold clash at *; first | omega | (simp_all; done)⟩⟩
         ·
          replace h67 : (opn ((hs.take i)[k])) = true := by revert h67; cases (opn ((hs.take i)[k])) <;> simp
          refine qF 13 [(0, .slice a hs.length c), (4, .P b21 0), (10, .slice a hs.length c), (11, .I ((hs.length : Nat) : Int)), (12, .I i), (54, .slice a36 (hs.take i).length c), (55, .I (((hs.take i).length : Nat) : Int)), (56, .I k), (88, .bool false)] ?_
          exact hJ59 (false) _ ⟨H, ⟨fun h => (by cases h), fun h => by unfold clash at *; first | omega | (simp_all; done)⟩⟩
        ·
         replace h64 : (opn (hs[i])) = true := by revert h64; cases (opn (hs[i])) <;> simp
         refine qF 18 [(0, .slice a hs.length c), (4, .P b21 0), (10, .slice a hs.length c), (11, .I ((hs.length : Nat) : Int)), (12, .I i), (54, .slice a36 (hs.take i).length c), (55, .I (((hs.take i).length : Nat) : Int)), (56, .I k), (88, .bool false)] ?_
         exact hJ59 (false) _ ⟨H, ⟨fun h => (by cases h), fun h => by unfold clash at *; first | omega | (simp_all; done)⟩⟩
       ·
        refine qF 23 [(0, .slice a hs.length c), (4, .P b21 0), (10, .slice a hs.length c), (11, .I ((hs.length : Nat) : Int)), (12, .I i), (54, .slice a36 (hs.take i).length c), (55, .I (((hs.take i).length : Nat) : Int)), (56, .I k), (88, .bool false)] ?_
        exact hJ59 (false) _ ⟨H, ⟨fun h => (by cases h), fun h => by unfold clash at *; first | omega | (simp_all; done)⟩⟩
      ·
       rintro g2 w60 ⟨H, hg2⟩
       refine qC g2 (fun h69 => ?_) (fun h69 => ?_)
       ·
        have hc2 := hg2.1 h69
        refine qR 2 [.c [2, 0, 1, 0, 0, 2, 0, 0, 3, 0, 0, 2, 0, 0, 2, 0, 1], .b 3, .c [2, 0, 1, 0, 0, 2, 0, 0, 3, 0, 0, 3], .l [2, 0, 1, 0, 0, 2, 0, 0, 3, 0, 0], .b 2, .b 1, .c [2, 0, 1, 0, 0, 3], .l [2, 0, 1, 0, 0], .b 0, .c [3]] [(2, .I 240)] ?_
        refine qT (.I 240) Tryd.func13 ?_
        refine ⟨_, rfl, H.done, _, rfl, by decide, ?_⟩
        exact ⟨fun q => absurd q (by decide), fun q => absurd q (not_ok_clash (by omega) (by omega) hc2)⟩
       ·
        have hc2 : ¬ clash hs[i] (hs.take i)[k] := fun q => absurd (hg2.2 q) (by rw [h69]; decide)
        refine qR 2 [.c [2, 0, 1, 0, 0, 2, 0, 0, 3, 0, 0, 3], .l [2, 0, 1, 0, 0, 2, 0, 0, 3, 0, 0], .b 2, .b 1, .c [2, 0, 1, 0, 0, 3], .l [2, 0, 1, 0, 0], .b 0, .c [3]] [(0, .slice a hs.length c), (4, .P b21 0), (10, .slice a hs.length c), (11, .I ((hs.length : Nat) : Int)), (12, .I i), (54, .slice a36 (hs.take i).length c), (55, .I (((hs.take i).length : Nat) : Int)), (56, .I k)] ?_
        refine qG (sq 0 2) ?_
        refine qI .seq 89 (sq 1 2) ((k : Int) + 1) ?_
        refine qF 1 [(0, .slice a hs.length c), (4, .P b21 0), (10, .slice a hs.length c), (11, .I ((hs.length : Nat) : Int)), (12, .I i), (54, .slice a36 (hs.take i).length c), (55, .I (((hs.take i).length : Nat) : Int)), (56, .I ((k : Int) + 1))] ?_
        have H := H.pick [4, 5, 6, 7, 8, 9] rfl
        have H := H.frontM 1 (M' := [(b21, .cells #[.int .u64 ((hs[i]).client), .int .u64 ((hs[i]).seq), .I ((hs[i]).kind), .string ((hs[i]).key), .slice a4q10 ((hs[i]).data.length) k4q10, .I ((hs[i]).code), .slice a6q10 ((hs[i]).answer.length) k6q10, .slice a7q10 ((hs[i]).names.length) k7q10, .I ((hs[i]).beg), .I ((hs[i]).fin)] 33 (0, 0)), (b56, .cells #[.int .u64 (((hs.take i)[k]).client), .int .u64 (((hs.take i)[k]).seq), .I (((hs.take i)[k]).kind), .string (((hs.take i)[k]).key), .slice a4q45 (((hs.take i)[k]).data.length) k4q45, .I (((hs.take i)[k]).code), .slice a6q45 (((hs.take i)[k]).answer.length) k6q45, .slice a7q45 (((hs.take i)[k]).names.length) k7q45, .I (((hs.take i)[k]).beg), .I (((hs.take i)[k]).fin)] 33 (0, 0))]) rfl
        have H := H.drop (M' := [(b21, .cells #[.int .u64 ((hs[i]).client), .int .u64 ((hs[i]).seq), .I ((hs[i]).kind), .string ((hs[i]).key), .slice a4q10 ((hs[i]).data.length) k4q10, .I ((hs[i]).code), .slice a6q10 ((hs[i]).answer.length) k6q10, .slice a7q10 ((hs[i]).names.length) k7q10, .I ((hs[i]).beg), .I ((hs[i]).fin)] 33 (0, 0))]) (W' := []) (by repeat (first | exact List.Sublist.refl _ | apply List.Sublist.cons_cons | apply List.Sublist.cons)) (by repeat (first | exact List.Sublist.refl _ | apply List.Sublist.cons_cons | apply List.Sublist.cons))
        exact WK.back (hback37 (k + 1) _ ⟨H, by omega, clash_step (by omega) hinv1.2 (by assumption)⟩ (by first | omega | (simp only []; omega))) (by as_aux_lemma => kernel_rfl)
     ·
      have hc3 : ∀ y ∈ hs.take i, ¬ clash hs[i] y := fun y hy => hinv1.2 y (by rw [List.take_of_length_le (by omega)]; exact hy)
      refine qR 2 [.c [2, 0, 1, 0, 0, 3], .l [2, 0, 1, 0, 0], .b 0, .c [3]] [(0, .slice a hs.length c), (10, .slice a hs.length c), (11, .I ((hs.length : Nat) : Int)), (12, .I i)] ?_
      refine qG (sq 0 2) ?_
      refine qI .seq 90 (sq 1 2) ((i : Int) + 1) ?_
      refine qF 1 [(0, .slice a hs.length c), (10, .slice a hs.length c), (11, .I ((hs.length : Nat) : Int)), (12, .I ((i : Int) + 1))] ?_
      have H := H.pick [5] rfl
      have H := H.drop (M' := []) (W' := []) (by repeat (first | exact List.Sublist.refl _ | apply List.Sublist.cons_cons | apply List.Sublist.cons)) (by repeat (first | exact List.Sublist.refl _ | apply List.Sublist.cons_cons | apply List.Sublist.cons))
      exact WK.back (hback2 (i + 1) _ ⟨H, by omega, upOk_step (by omega) hinv0.2 hc1 hc3⟩ (by first | omega | (simp only []; omega))) (by as_aux_lemma => kernel_rfl)
  ·
   refine qR 3 [.c [4]] [(2, .I 0)] ?_
   refine qT (.I 0) Tryd.func13 ?_
   refine ⟨_, rfl, H.done, _, rfl, by decide, ?_⟩
   exact ⟨fun _ => upOk_end hinv0.2 (by omega) (by omega), fun _ => rfl⟩
end Go.Proofs.YtcodkepdolmmbaaDoor
