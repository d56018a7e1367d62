import Derived.Test.YtdnibpclkhenmaaGreatDoorSJD
namespace Go.Proofs.YtdnibpclkhenmaaGreatDoor
open Go.BX
theorem plain_spec {S : Nat → Prop} {w : World} {x : ByteArray} (hx : x.size ≤ 140737488355328) :
 Calls Tryz.prog 50 #[.string x] w (Ret fun v w' => Ext w w' ∧ ∃ bb : Bool, v = .bool bb ∧ (bb = true ↔ PlainN x)) := by
 have hbl := bytesOf_len x
 refine qS (fn := Tryz.f50) (n := 26) (σ := [(0, .string x)]) Tryz.func50 ?_
 have H := Hp.startF (w := w) (S := S) (G := []) .nil
 refine qR 4 [.c [1, 0, 0], .c [1, 0, 1], .c [2]] [(0, .string x)] ?_
 refine qG (sq 0 4) ?_
 refine qP 1 (sq 1 4) [(0, .string x), (5, .string x)] ?_
 refine RW.ofStr (κ := .seq) (d := some 6) (r := (sq 2 4)) (Ts := 9) (Td := 23) 5 (s := x) (by as_aux_lemma => kernel_rfl) (nofun) (by as_aux_lemma => kernel_rfl) (by unfold maxLen; omega) H ?_
 intro a1 c2 w3 H
 refine qF 2 [(0, .string x), (6, .slice a1 (bytesOf x).length c2), (7, .I (((bytesOf x).length : Nat) : Int)), (8, .I 0)] ?_
 refine qR 1 [.c [1, 0, 1, 0], .b 0, .c [2]] [(0, .string x), (6, .slice a1 (bytesOf x).length c2), (7, .I (((bytesOf x).length : Nat) : Int)), (8, .I 0)] ?_
 refine WK.loop (α := Nat) (b := cd Tryz.prog 50 [1, 0, 1, 0, 0]) (by as_aux_lemma => kernel_rfl) (fun i => [(0, .string x), (6, .slice a1 (bytesOf x).length c2), (7, .I (((bytesOf x).length : Nat) : Int)), (8, .I i)]) (fun i w' => Hp w S [] [] [] [Rp SB [.slice a1 (bytesOf x).length c2] (bytesOf x)] w' ∧ i ≤ (bytesOf x).length ∧ ∀ j (h : j < (bytesOf x).length), j < i → 97 ≤ ((bytesOf x)[j]).toNat ∧ ((bytesOf x)[j]).toNat ≤ 122) (fun i => (bytesOf x).length - i) 0 ⟨H, Nat.zero_le _, fun j _ h => absurd h (Nat.not_lt_zero j)⟩ (rfl) ?_
 rintro i w5 ⟨H, ⟨hi, hall⟩⟩ hback4
 refine qR 3 [.c [1, 0, 1, 0, 0, 1, 0], .c [1, 0, 1, 0, 0, 2], .l [1, 0, 1, 0, 0], .b 0, .c [2]] [(0, .string x), (6, .slice a1 (bytesOf x).length c2), (7, .I (((bytesOf x).length : Nat) : Int)), (8, .I i), (9, .bool (decide (((i : Int) : Int) < (((bytesOf x).length : Nat) : Int))))] ?_
 refine qD (((i : Int) : Int) < (((bytesOf x).length : Nat) : Int)) (fun h6 => ?_) (fun h6 => ?_)
 ·
  refine qR 4 [.c [1, 0, 1, 0, 0, 2, 0, 0, 0], .c [1, 0, 1, 0, 0, 2, 0, 0, 1], .b 1, .c [1, 0, 1, 0, 0, 3], .l [1, 0, 1, 0, 0], .b 0, .c [2]] [(0, .string x), (6, .slice a1 (bytesOf x).length c2), (7, .I (((bytesOf x).length : Nat) : Int)), (8, .I i)] ?_
  refine qG (sq 0 3) ?_
  have hx7 : i < (bytesOf x).length := by omega
  refine qX .seq 10 (sq 1 3) 23 5 (i : Int) Sb ((bytesOf x)[i]) H 0 rfl i (by omega) (List.getElem?_eq_getElem hx7) ?_
  intro b8 o9 es10 hr11 H
  obtain rfl := hr11
  refine qL .seq 11 (sq 2 3) 5 b8 o9 0 (.int .u8 ((((bytesOf x)[i]).toNat : Nat) : Int)) (H.fc 0 rfl) ?_
  refine qF 1 [(0, .string x), (4, .int .u8 ((((bytesOf x)[i]).toNat : Nat) : Int)), (6, .slice a1 (bytesOf x).length c2), (7, .I (((bytesOf x).length : Nat) : Int)), (8, .I i)] ?_
  refine qR 1 [.c [1, 0, 1, 0, 0, 2, 0, 0, 1, 0], .c [1, 0, 1, 0, 0, 2, 0, 0, 2], .b 1, .c [1, 0, 1, 0, 0, 3], .l [1, 0, 1, 0, 0], .b 0, .c [2]] [(0, .string x), (4, .int .u8 ((((bytesOf x)[i]).toNat : Nat) : Int)), (6, .slice a1 (bytesOf x).length c2), (7, .I (((bytesOf x).length : Nat) : Int)), (8, .I i)] ?_
  refine qG (sq 0 6) ?_
  refine qP 3 (sq 3 6) [(0, .string x), (4, .int .u8 ((((bytesOf x)[i]).toNat : Nat) : Int)), (6, .slice a1 (bytesOf x).length c2), (7, .I (((bytesOf x).length : Nat) : Int)), (8, .I i), (14, .bool (decide ((((((bytesOf x)[i]).toNat : Nat) : Int) : Int) < 97)))] ?_
  refine tD (fun b_ => [(0, .string x), (4, .int .u8 ((((bytesOf x)[i]).toNat : Nat) : Int)), (6, .slice a1 (bytesOf x).length c2), (7, .I (((bytesOf x).length : Nat) : Int)), (8, .I i), (14, .bool b_)]) ((((((bytesOf x)[i]).toNat : Nat) : Int) : Int) < 97) (fun h12 => ?_) (fun h12 => ?_)
  ·
   refine qF 3 [(0, .string x), (6, .slice a1 (bytesOf x).length c2), (7, .I (((bytesOf x).length : Nat) : Int)), (8, .I i), (17, .bool true)] ?_
   refine qR 3 [.c [1, 0, 1, 0, 0, 2, 0, 0, 2, 0, 1], .b 1, .c [1, 0, 1, 0, 0, 3], .l [1, 0, 1, 0, 0], .b 0, .c [2]] [(2, .bool false)] ?_
   refine qT (.bool false) Tryz.func50 ?_
   exact ⟨_, rfl, H.done, false, rfl, plain_bad (i := i) (by omega) (by omega)⟩
  ·
   refine qF 3 [(0, .string x), (6, .slice a1 (bytesOf x).length c2), (7, .I (((bytesOf x).length : Nat) : Int)), (8, .I i), (17, .bool (decide ((((((bytesOf x)[i]).toNat : Nat) : Int) : Int) > 122)))] ?_
   refine qD ((((((bytesOf x)[i]).toNat : Nat) : Int) : Int) > 122) (fun h13 => ?_) (fun h13 => ?_)
   ·
    refine qR 2 [.c [1, 0, 1, 0, 0, 2, 0, 0, 2, 0, 1], .b 1, .c [1, 0, 1, 0, 0, 3], .l [1, 0, 1, 0, 0], .b 0, .c [2]] [(2, .bool false)] ?_
    refine qT (.bool false) Tryz.func50 ?_
    exact ⟨_, rfl, H.done, false, rfl, plain_bad (i := i) (by omega) (by omega)⟩
   ·
    refine qR 2 [.c [1, 0, 1, 0, 0, 3], .l [1, 0, 1, 0, 0], .b 0, .c [2]] [(0, .string x), (6, .slice a1 (bytesOf x).length c2), (7, .I (((bytesOf x).length : Nat) : Int)), (8, .I i)] ?_
    refine qG (sq 0 2) ?_
    refine qI .seq 18 (sq 1 2) ((i : Int) + 1) ?_
    refine qF 1 [(0, .string x), (6, .slice a1 (bytesOf x).length c2), (7, .I (((bytesOf x).length : Nat) : Int)), (8, .I ((i : Int) + 1))] ?_
    have H := H.pick [1] rfl
    exact WK.back (hback4 (i + 1) _ ⟨H, by omega, fun j hj h => (Nat.lt_succ_iff_lt_or_eq.1 h).elim (hall j hj) (fun e => by subst e; omega)⟩ (by first | omega | (simp only []; omega))) (by as_aux_lemma => kernel_rfl)
 ·
  refine qR 2 [.c [2, 0], .c [3]] [(0, .string x)] ?_
  refine qG (sq 0 8) ?_
  refine qP 3 (sq 3 8) [(0, .string x), (21, .bool (!(x.toList == (⟨#[]⟩ : ByteArray).toList)))] ?_
  refine RW.test (fun b_ => [(0, .string x), (21, .bool b_)]) (!(x.toList == (⟨#[]⟩ : ByteArray).toList)) (fun h14 => ?_) (fun h14 => ?_)
  ·
   replace h14 : (x.toList == (⟨#[]⟩ : ByteArray).toList) = false := by revert h14; cases (x.toList == (⟨#[]⟩ : ByteArray).toList) <;> simp
   replace h14 := ne_of_beq_false h14
   refine qF 5 [(2, .bool (decide ((((x.size : Nat) : Int) : Int) ≤ 16)))] ?_
   refine qT (.bool (decide ((((x.size : Nat) : Int) : Int) ≤ 16))) Tryz.func50 ?_
   exact ⟨_, rfl, H.done, _, rfl, plain_fin h14 fun j hj => hall j hj (by omega)⟩
  ·
   replace h14 : (x.toList == (⟨#[]⟩ : ByteArray).toList) = true := by revert h14; cases (x.toList == (⟨#[]⟩ : ByteArray).toList) <;> simp
   replace h14 := eq_of_beq h14
   refine qF 5 [(2, .bool false)] ?_
   refine qT (.bool false) Tryz.func50 ?_
   exact ⟨_, rfl, H.done, false, rfl, plain_emp h14⟩
end Go.Proofs.YtdnibpclkhenmaaGreatDoor
