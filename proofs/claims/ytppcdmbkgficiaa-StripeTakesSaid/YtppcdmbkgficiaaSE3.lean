import Derived.Test.YtppcdmbkgficiaaSBxA
import Derived.Test.YtppcdmbkgficiaaSE2
import Derived.Test.YtppcdmbkgficiaaSBxB
namespace Go.Proofs.Ytppcdmbkgficiaa
open Go.BX
theorem r4len_ok {S : Nat → Prop} {w : World} (size k : Nat) (hs : size ≤ 65536) (hk : 1 ≤ k) (hk2 : k ≤ 255) :
 Calls Try.prog 36 #[.I size, .I k] w (Ret fun v w' => Ext w w' ∧ v = .tuple #[.I ((lenOf size k : Nat) : Int), .I 0]) := by
 refine uS1 Try.func36 ?_
 have H := Hp.startF (w := w) (S := S) (G := []) .nil
 refine uR 4 [.c [1, 0, 0], .c [1, 0, 1], .c [2]] ?_
 refine qG (sq 0 14) ?_
 refine uP 3 ?_
 refine uD 8 (((size : Int) : Int) < 0) (fun a => ?_) (fun a => ?_)
 ·
  omega
 ·
  refine uP 4 ?_
  refine uD 12 (((size : Int) : Int) > 65536) (fun b => ?_) (fun b => ?_)
  ·
   omega
  ·
   refine uP 4 ?_
   refine uD 16 (((k : Int) : Int) < 1) (fun e => ?_) (fun e => ?_)
   ·
    omega
   ·
    refine uF 3 ?_
    refine qD (((k : Int) : Int) > 255) (fun f => ?_) (fun f => ?_)
    ·
     omega
    ·
     refine uR 2 [.c [2, 0], .c [3]] ?_
     refine qG (sq 0 8) ?_
     refine uP 2 ?_
     refine uI ((size : Int) + (k : Int)) ?_
     refine uI (((size : Int) + (k : Int)) - 1) ?_
     refine uP 1 ?_
     refine RW.readS (κ := .seq) (d := some 25) (r := (sq 6 8)) (s := semV (Op.intDiv .quo .i64 (((size : Int) + (k : Int)) - 1) (k : Int))) (v := .I ((lenOf size k : Nat) : Int)) (by as_aux_lemma => kernel_rfl) (fun w' _ => semV_run (quo_nat (r := lenOf size k) (by omega) (by omega) (by rw [show ((size : Int) + (k : Int) - 1) = ((size + k - 1 : Nat) : Int) by omega]; rfl))) ?_
     refine uF 2 ?_
     refine qT (.tuple #[.I ((lenOf size k : Nat) : Int), .I 0]) Try.func36 ?_
     exact ⟨_, rfl, H.done, rfl⟩
theorem r4len_bad {S : Nat → Prop} {w : World} (size k : Int) (hb : ¬ (0 ≤ size ∧ size ≤ 65536 ∧ 1 ≤ k ∧ k ≤ 255)) :
 Calls Try.prog 36 #[.I size, .I k] w (Ret fun v w' => Ext w w' ∧ v = .tuple #[.I 0, .I 2]) := by
 refine uS1 Try.func36 ?_
 have H := Hp.startF (w := w) (S := S) (G := []) .nil
 refine uR 4 [.c [1, 0, 0], .c [1, 0, 1], .c [2]] ?_
 refine WK.join (fun b_ : Bool => b_ = decide (size < 0 ∨ size > 65536 ∨ k < 1 ∨ k > 255)) (fun b_ => [(0, .I size), (1, .I k), (19, .bool b_)]) [Cq Try.prog 36 [1, 0, 1], Cq Try.prog 36 [2]] (fun b => ?_) (fun e d => ?_)
 ·
  refine qG (sq 0 14) ?_
  refine uP 3 ?_
  refine uD 8 ((size : Int) < 0) (fun f => ?_) (fun f => ?_)
  ·
   refine uF 11 ?_
   exact uB (b true ((decide_eq_true (by omega)).symm))
  ·
   refine uP 4 ?_
   refine uD 12 ((size : Int) > 65536) (fun g => ?_) (fun g => ?_)
   ·
    refine uF 7 ?_
    exact uB (b true ((decide_eq_true (by omega)).symm))
   ·
    refine uP 4 ?_
    refine uD 16 ((k : Int) < 1) (fun h => ?_) (fun h => ?_)
    ·
     refine uF 3 ?_
     exact uB (b true ((decide_eq_true (by omega)).symm))
    ·
     refine uF 3 ?_
     exact uB (b (decide ((k : Int) > 255)) (decide_eq_decide.2 (by constructor <;> intro _ <;> omega)))
 ·
  refine qC e (fun a => ?_) (fun a => ?_)
  ·
   rw [d] at a
   replace a := of_decide_eq_true a
   refine uR 2 [.c [1, 0, 1, 0, 1], .c [2]] ?_
   refine qT (.tuple #[.I 0, .I 2]) Try.func36 ?_
   exact ⟨_, rfl, H.done, rfl⟩
  ·
   rw [d] at a
   replace a := of_decide_eq_false a
   exact absurd (by omega) hb
theorem mixAll_take : ∀ {row : List (BitVec 8)} {ds : List (List (BitVec 8))} {acc : List (BitVec 8)} {j : Nat} {c : BitVec 8} {d : List (BitVec 8)}, row[j]? = some c → ds[j]? = some d → mixAll (row.take (j + 1)) ds acc = mixL (mixAll (row.take j) ds acc) d c
 | [], _, _, _, _, _, h, _ => by simp at h
 | _ :: _, [], _, _, _, _, _, h => by simp at h
 | x :: row, y :: ds, acc, 0, c, d, h1, h2 => by
  simp only [List.getElem?_cons_zero, Option.some.injEq] at h1 h2
  subst h1
  subst h2
  rw [List.take_succ_cons, List.take_zero, List.take_zero, mixAll_nil]
  show mixAll [] ds (mixL acc y x) = _
  rw [mixAll_nil]
 | x :: row, y :: ds, acc, j + 1, c, d, h1, h2 => by
  rw [List.take_succ_cons, List.take_succ_cons]
  exact mixAll_take (row := row) (ds := ds) (acc := mixL acc y x) (by simpa using h1) (by simpa using h2)
end Go.Proofs.Ytppcdmbkgficiaa
