import Derived.Test.YtppcdmbkgficiaaSBxA
import Derived.Test.YtppcdmbkgficiaaSE4
namespace Go.Proofs.Ytppcdmbkgficiaa
open Go.BX
theorem r4enc_len {S : Nat → Prop} {w : World} {xs : List (BitVec 8)} {a : Option Addr} {c : Nat} (k n : Int) (h : SB.rep S w [.slice a xs.length c] xs) (hb : ¬ (0 ≤ (xs.length : Int) ∧ (xs.length : Int) ≤ 65536 ∧ 1 ≤ k ∧ k ≤ 255)) :
 Calls Try.prog 34 #[.slice a xs.length c, .I k, .I n] w (Ret fun v w' => Ext w w' ∧ v = .tuple #[.slice none 0 0, .I 2]) := by
 refine uS1 Try.func34 ?_
 have H := Hp.startF (.rp h .nil)
 refine uR 3 [.c [1, 0], .c [2]] ?_
 refine qG (sq 0 9) ?_
 refine uP 3 ?_
 refine uK (r4len_bad (S := fun _ => True) (xs.length : Int) k hb) ?_
 rintro _ _ b rfl
 have H := H.ext b
 refine uF 5 ?_
 refine uR 6 [.c [2, 0, 1, 0, 1], .c [3]] ?_
 refine qT (.tuple #[.slice none 0 0, .I 2]) Try.func34 ?_
 exact ⟨_, rfl, H.done, rfl⟩
theorem r4enc_n {S : Nat → Prop} {w : World} {xs : List (BitVec 8)} {a : Option Addr} {c : Nat} (k : Nat) (n : Int) (h : SB.rep S w [.slice a xs.length c] xs) (hs : xs.length ≤ 65536) (hk : 1 ≤ k) (hk2 : k ≤ 255) (hb : ¬ ((k : Int) ≤ n ∧ n ≤ 255)) :
 Calls Try.prog 34 #[.slice a xs.length c, .I k, .I n] w (Ret fun v w' => Ext w w' ∧ v = .tuple #[.slice none 0 0, .I 2]) := by
 refine uS1 Try.func34 ?_
 have H := Hp.startF (.rp h .nil)
 refine uR 3 [.c [1, 0], .c [2]] ?_
 refine qG (sq 0 9) ?_
 refine uP 3 ?_
 refine uK (r4len_ok (S := fun _ => True) xs.length k hs hk hk2) ?_
 rintro _ _ b rfl
 have H := H.ext b
 refine uF 5 ?_
 refine uR 2 [.c [2, 0, 0], .c [2, 0, 1], .c [3]] ?_
 refine qG (sq 0 11) ?_
 refine uP 8 ?_
 refine uD 31 ((n : Int) < (k : Int)) (fun d => ?_) (fun d => ?_)
 ·
  refine uF 3 ?_
  refine uR 3 [.c [2, 0, 1, 0, 1], .c [3]] ?_
  refine qT (.tuple #[.slice none 0 0, .I 2]) Try.func34 ?_
  exact ⟨_, rfl, H.done, rfl⟩
 ·
  refine uF 3 ?_
  refine qD ((n : Int) > 255) (fun e => ?_) (fun e => ?_)
  ·
   refine uR 2 [.c [2, 0, 1, 0, 1], .c [3]] ?_
   refine qT (.tuple #[.slice none 0 0, .I 2]) Try.func34 ?_
   exact ⟨_, rfl, H.done, rfl⟩
  ·
   exact absurd (by omega) hb
end Go.Proofs.Ytppcdmbkgficiaa
