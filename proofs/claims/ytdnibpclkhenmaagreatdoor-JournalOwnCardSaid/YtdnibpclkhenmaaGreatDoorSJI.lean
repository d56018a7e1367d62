import Derived.Test.YtdnibpclkhenmaaGreatDoorSBxA
import Derived.Test.YtdnibpclkhenmaaGreatDoorSJD
namespace Go.Proofs.YtdnibpclkhenmaaGreatDoor
open Go.BX
theorem plain_spec {S : Nat → Prop} {w : World} {x : ByteArray} (hx : x.size ≤ 140737488355328) :
 Calls Tryz.prog 50 #[.string x] w (Ret fun v w' => Ext w w' ∧ ∃ bb : Bool, v = .bool bb ∧ (bb = true ↔ PlainN x)) := by
 have hbl := bytesOf_len x
 refine uS1 Tryz.func50 ?_
 have H := Hp.startF (w := w) (S := S) (G := []) .nil
 refine uR 4 [.c [1, 0, 0], .c [1, 0, 1], .c [2]] ?_
 refine qG (sq 0 4) ?_
 refine uP 1 ?_
 refine RW.ofStr (κ := .seq) (d := some 6) (r := (sq 2 4)) (Ts := 9) (Td := 23) 5 (s := x) (by as_aux_lemma => kernel_rfl) (nofun) (by as_aux_lemma => kernel_rfl) (by unfold maxLen; omega) H ?_
 intro k m _ H
 refine uF 2 ?_
 refine uR 1 [.c [1, 0, 1, 0], .b 0, .c [2]] ?_
 refine uL (α := Nat) (g := 50) (p := [1, 0, 1, 0, 0]) (fun i => [(0, .string x), (6, .slice k (bytesOf x).length m), (7, .I (((bytesOf x).length : Nat) : Int)), (8, .I i)]) (fun i w' => Hp w S [] [] [] [Rp SB [.slice k (bytesOf x).length m] (bytesOf x)] w' ∧ i ≤ (bytesOf x).length ∧ ∀ j (h : j < (bytesOf x).length), j < i → 97 ≤ ((bytesOf x)[j]).toNat ∧ ((bytesOf x)[j]).toNat ≤ 122) (fun i => (bytesOf x).length - i) 0 ⟨H, Nat.zero_le _, fun j _ h => absurd h (Nat.not_lt_zero j)⟩ ?_
 rintro i _ ⟨H, ⟨hi, hall⟩⟩ f
 refine uR 3 [.c [1, 0, 1, 0, 0, 1, 0], .c [1, 0, 1, 0, 0, 2], .l [1, 0, 1, 0, 0], .b 0, .c [2]] ?_
 refine qD (((i : Int) : Int) < (((bytesOf x).length : Nat) : Int)) (fun u => ?_) (fun u => ?_)
 ·
  refine uR 4 [.c [1, 0, 1, 0, 0, 2, 0, 0, 0], .c [1, 0, 1, 0, 0, 2, 0, 0, 1], .b 1, .c [1, 0, 1, 0, 0, 3], .l [1, 0, 1, 0, 0], .b 0, .c [2]] ?_
  refine qG (sq 0 3) ?_
  have o : i < (bytesOf x).length := by omega
  refine uX 23 (i : Int) H 0 rfl i (by omega) (List.getElem?_eq_getElem o) ?_
  intro _ _ _ n H
  obtain rfl := n
  refine uV 5 0 (H.fc 0 rfl) ?_
  refine uF 1 ?_
  refine uR 1 [.c [1, 0, 1, 0, 0, 2, 0, 0, 1, 0], .c [1, 0, 1, 0, 0, 2, 0, 0, 2], .b 1, .c [1, 0, 1, 0, 0, 3], .l [1, 0, 1, 0, 0], .b 0, .c [2]] ?_
  refine qG (sq 0 6) ?_
  refine uP 3 ?_
  refine uD 14 ((((((bytesOf x)[i]).toNat : Nat) : Int) : Int) < 97) (fun q => ?_) (fun q => ?_)
  ·
   refine uF 3 ?_
   refine uR 3 [.c [1, 0, 1, 0, 0, 2, 0, 0, 2, 0, 1], .b 1, .c [1, 0, 1, 0, 0, 3], .l [1, 0, 1, 0, 0], .b 0, .c [2]] ?_
   refine qT (.bool false) Tryz.func50 ?_
   exact ⟨_, rfl, H.done, false, rfl, plain_bad (i := i) (by omega) (by omega)⟩
  ·
   refine uF 3 ?_
   refine qD ((((((bytesOf x)[i]).toNat : Nat) : Int) : Int) > 122) (fun t => ?_) (fun t => ?_)
   ·
    refine uR 2 [.c [1, 0, 1, 0, 0, 2, 0, 0, 2, 0, 1], .b 1, .c [1, 0, 1, 0, 0, 3], .l [1, 0, 1, 0, 0], .b 0, .c [2]] ?_
    refine qT (.bool false) Tryz.func50 ?_
    exact ⟨_, rfl, H.done, false, rfl, plain_bad (i := i) (by omega) (by omega)⟩
   ·
    refine uR 2 [.c [1, 0, 1, 0, 0, 3], .l [1, 0, 1, 0, 0], .b 0, .c [2]] ?_
    refine qG (sq 0 2) ?_
    refine uI ((i : Int) + 1) ?_
    refine qF 1 [(0, .string x), (6, .slice k (bytesOf x).length m), (7, .I (((bytesOf x).length : Nat) : Int)), (8, .I ((i : Int) + 1))] ?_
    have H := H.pick [1] rfl
    exact uB (f (i + 1) _ ⟨H, by omega, fun j hj h => (Nat.lt_succ_iff_lt_or_eq.1 h).elim (hall j hj) (fun e => by subst e; omega)⟩ (by first | omega | (simp only []; omega)))
 ·
  refine uR 2 [.c [2, 0], .c [3]] ?_
  refine qG (sq 0 8) ?_
  refine uP 3 ?_
  refine uT 21 (!(x.toList == (⟨#[]⟩ : ByteArray).toList)) (fun a => ?_) (fun a => ?_)
  ·
   replace a : (x.toList == (⟨#[]⟩ : ByteArray).toList) = false := by revert a; cases (x.toList == (⟨#[]⟩ : ByteArray).toList) <;> simp
   replace a := ne_of_beq_false a
   refine uF 5 ?_
   refine qT (.bool (decide ((((x.size : Nat) : Int) : Int) ≤ 16))) Tryz.func50 ?_
   exact ⟨_, rfl, H.done, _, rfl, plain_fin a fun j hj => hall j hj (by omega)⟩
  ·
   replace a : (x.toList == (⟨#[]⟩ : ByteArray).toList) = true := by revert a; cases (x.toList == (⟨#[]⟩ : ByteArray).toList) <;> simp
   replace a := eq_of_beq a
   refine uF 5 ?_
   refine qT (.bool false) Tryz.func50 ?_
   exact ⟨_, rfl, H.done, false, rfl, plain_emp a⟩
end Go.Proofs.YtdnibpclkhenmaaGreatDoor
