import Derived.Test.YtppcdmbkgficiaaSBxA
import Derived.Test.YtppcdmbkgficiaaSP5
namespace Go.Proofs.Ytppcdmbkgficiaa
open Go.BX
theorem same01_spec {S : Nat → Prop} {w : World} {xs ys : List (BitVec 8)} {a b : Option Addr} {c d : Nat} (h1 : SB.rep S w [.slice a xs.length c] xs) (h2 : SB.rep S w [.slice b ys.length d] ys) (he : xs = ys) :
 Calls Try.prog 30 #[.slice a xs.length c, .slice b ys.length d] w (Ret fun v w' => Ext w w' ∧ v = .bool true) := by
 refine uS1 Try.func30 ?_
 have H := Hp.startF (.rp h1 (.rp h2 .nil))
 refine uR 3 [.c [1, 0], .c [2]] ?_
 refine qG (sq 0 6) ?_
 refine uP 1 ?_
 refine RW.toStr (κ := .seq) (d := some 6) (r := (sq 2 6)) (Ts := 23) (Td := 9) 5 (a := a) (len := xs.length) (cap := c) (xs := xs) (by as_aux_lemma => kernel_rfl) (by as_aux_lemma => kernel_rfl) (H.rp 0 rfl) ?_
 refine uP 1 ?_
 refine RW.toStr (κ := .seq) (d := some 8) (r := (sq 4 6)) (Ts := 23) (Td := 9) 5 (a := b) (len := ys.length) (cap := d) (xs := ys) (by as_aux_lemma => kernel_rfl) (by as_aux_lemma => kernel_rfl) (H.rp 1 rfl) ?_
 refine uF 2 ?_
 refine qT (.bool ((strOf xs).toList == (strOf ys).toList)) Try.func30 ?_
 refine ⟨_, rfl, H.done, ?_⟩
 rw [he]
 simp
end Go.Proofs.Ytppcdmbkgficiaa
