import Derived.Test.YtppcdmbkgficiaaGreatSBxB
import Derived.Test.YtppcdmbkgficiaaGreatSA1
namespace Go.Proofs.YtppcdmbkgficiaaGreat
open Go.BX
def confE (C : Conf) : List (BitVec 8) := num C.voters.length ++ intsE C.voters ++ (num C.learners.length ++ intsE C.learners)
theorem pconf_spec {S : Nat → Prop} {w : World} {O : List Nat} {bp : Nat} {xs : List (BitVec 8)} {a : Option Addr} {c : Nat} {C : Conf} {av al : Option Addr} {kv kl : Nat} (H0 : Hp w S O [(bp, .cells #[.slice a xs.length c, .I 0, .bool true, .bool false] 136 (0, 0))] [⟨Sb, 5, .slice a xs.length c, xs⟩] [Rp (Shape.slice (Shape.int .i64)) [.slice av C.voters.length kv] C.voters, Rp (Shape.slice (Shape.int .i64)) [.slice al C.learners.length kl] C.learners] w) (hby : xs.length + 10 * (C.voters.length + C.learners.length + 4) ≤ 1099511627776) :
 Calls Tryz.prog 80 #[.P bp 0, .agg #[.slice av C.voters.length kv, .slice al C.learners.length kl]] w (Ret fun v w' => ∃ (a' : Option Addr) (c' : Nat), (∃ (a1 : Option Addr) (c1 : Nat) (a2 : Option Addr) (c2 : Nat), v = .agg #[.slice a1 C.voters.length c1, .slice a2 C.learners.length c2]) ∧ Hp w S O [(bp, .cells #[.slice a' (xs ++ confE C).length c', .I 0, .bool true, .bool false] 136 (0, 0))] [⟨Sb, 5, .slice a' (xs ++ confE C).length c', (xs ++ confE C)⟩] [] w') := by
 have m := Shape.slice_len (H0.rp 0 rfl)
 have n := Shape.slice_len (H0.rp 1 rfl)
 have o : (num C.voters.length).length ≤ 10 := num_ten (by omega)
 have p : (num C.learners.length).length ≤ 10 := num_ten (by omega)
 have q := intsE_len (rep_ints (H0.rp 0 rfl))
 have r := intsE_len (rep_ints (H0.rp 1 rfl))
 refine uS1 Tryz.func80 ?_
 have H := H0
 refine uR 1 [.c [0], .c [1]] ?_
 refine qG (sq 0 2) ?_
 refine uC #[.slice av C.voters.length kv, .slice al C.learners.length kl] 80 H ?_
 intro k _ H
 refine uC #[.slice none 0 0, .slice none 0 0] 80 H ?_
 intro l _ H
 refine uF 0 ?_
 refine uR 1 [.c [1, 0], .c [2]] ?_
 refine qG (sq 0 6) ?_
 refine uP 2 ?_
 refine uV 24 0 (H.cells 1 rfl) ?_
 have H := H.frontM 2 (M' := [(bp, .cells #[.slice a xs.length c, .I 0, .bool true, .bool false] 136 (0, 0)), (l, .cells #[.slice none 0 0, .slice none 0 0] 80 (0, 0)), (k, .cells #[.slice av C.voters.length kv, .slice al C.learners.length kl] 80 (0, 0))]) rfl
 refine uKS (ints_spec  ((H.lend (M1 := [(bp, .cells #[.slice a xs.length c, .I 0, .bool true, .bool false] 136 (0, 0))]) (W1 := [⟨Sb, 5, .slice a xs.length c, xs⟩])).pick [0] rfl) (by first | omega | (simp only [List.length_append, List.length_nil]; omega))) ?_
 rintro _ _ ⟨i, j, ⟨b, d, rfl⟩, H'⟩
 have H := H.back (M1 := [(bp, .cells #[.slice a xs.length c, .I 0, .bool true, .bool false] 136 (0, 0))]) (W1 := [⟨Sb, 5, .slice a xs.length c, xs⟩]) H'
 have H : Hp w S O [(bp, .cells #[.slice i ((xs ++ (num C.voters.length ++ intsE C.voters)).length) j, .I 0, .bool true, .bool false] 136 (0, 0)), _, _] [⟨Sb, 5, .slice i ((xs ++ (num C.voters.length ++ intsE C.voters)).length) j, (xs ++ (num C.voters.length ++ intsE C.voters))⟩] [_, _] _ := H
 refine uP 1 ?_
 refine uW 24 0 #[.slice b C.voters.length d, .slice al C.learners.length kl] H 2 rfl ?_
 intro _ H
 refine uF 0 ?_
 refine uR 1 [.c [2, 0], .c [3]] ?_
 refine qG (sq 0 6) ?_
 refine uP 2 ?_
 refine uV 24 1 (H.cells 2 rfl) ?_
 refine uKS (ints_spec  ((H.lend (M1 := [(bp, .cells #[.slice i ((xs ++ (num C.voters.length ++ intsE C.voters)).length) j, .I 0, .bool true, .bool false] 136 (0, 0))]) (W1 := [⟨Sb, 5, .slice i ((xs ++ (num C.voters.length ++ intsE C.voters)).length) j, (xs ++ (num C.voters.length ++ intsE C.voters))⟩])).pick [1] rfl) (by first | omega | (simp only [List.length_append, List.length_nil]; omega))) ?_
 rintro _ _ ⟨g, h, ⟨e, f, rfl⟩, H'⟩
 have H := H.back (M1 := [(bp, .cells #[.slice i ((xs ++ (num C.voters.length ++ intsE C.voters)).length) j, .I 0, .bool true, .bool false] 136 (0, 0))]) (W1 := [⟨Sb, 5, .slice i ((xs ++ (num C.voters.length ++ intsE C.voters)).length) j, (xs ++ (num C.voters.length ++ intsE C.voters))⟩]) H'
 have H : Hp w S O [(bp, .cells #[.slice g (((xs ++ (num C.voters.length ++ intsE C.voters)) ++ (num C.learners.length ++ intsE C.learners)).length) h, .I 0, .bool true, .bool false] 136 (0, 0)), _, _] [⟨Sb, 5, .slice g (((xs ++ (num C.voters.length ++ intsE C.voters)) ++ (num C.learners.length ++ intsE C.learners)).length) h, ((xs ++ (num C.voters.length ++ intsE C.voters)) ++ (num C.learners.length ++ intsE C.learners))⟩] [_, _] _ := H
 refine uP 1 ?_
 refine uW 24 1 #[.slice b C.voters.length d, .slice e C.learners.length f] H 2 rfl ?_
 intro _ H
 refine uF 0 ?_
 refine qR 1 [.c [3, 0], .c [4]] [(3, .P k 0), (4, .P l 0)] ?_
 refine qG (sq 0 2) ?_
 refine uV 80 0 (H.cells 2 rfl) ?_
 refine uW 80 0 #[.slice b C.voters.length d, .slice e C.learners.length f] H 1 rfl ?_
 intro _ H
 refine uF 0 ?_
 refine qRB (.agg #[.slice b C.voters.length d, .slice e C.learners.length f]) Tryz.func80 (v1 (.cell 4 80) (vC (H.cells 1 rfl))) ?_
 have hcf : ((xs ++ (num C.voters.length ++ intsE C.voters)) ++ (num C.learners.length ++ intsE C.learners)) = xs ++ confE C := by simp [confE]
 rw [hcf] at H
 have H := H.drop (M' := [(bp, .cells #[.slice g (xs ++ confE C).length h, .I 0, .bool true, .bool false] 136 (0, 0))]) (W' := [⟨Sb, 5, .slice g (xs ++ confE C).length h, xs ++ confE C⟩]) (by repeat (first | exact List.Sublist.refl _ | apply List.Sublist.cons_cons | apply List.Sublist.cons)) (by repeat (first | exact List.Sublist.refl _ | apply List.Sublist.cons_cons | apply List.Sublist.cons))
 exact ⟨_, rfl, _, _, ⟨_, _, _, _, rfl⟩, H.pick [] rfl⟩
theorem pentries_spec {S : Nat → Prop} {w : World} {O : List Nat} {bp : Nat} {xs : List (BitVec 8)} {a : Option Addr} {c : Nat} {ae : Option Addr} {n ke : Nat} (hn0 : n = 0) (H0 : Hp w S O [(bp, .cells #[.slice a xs.length c, .I 0, .bool true, .bool false] 136 (0, 0))] [⟨Sb, 5, .slice a xs.length c, xs⟩] [] w) (hby : xs.length + 10 ≤ 1099511627776) :
 Calls Tryz.prog 79 #[.P bp 0, .slice ae n ke] w (Ret fun v w' => ∃ (a' : Option Addr) (c' : Nat), (v = .slice none 0 0) ∧ Hp w S O [(bp, .cells #[.slice a' (xs ++ num n).length c', .I 0, .bool true, .bool false] 136 (0, 0))] [⟨Sb, 5, .slice a' (xs ++ num n).length c', (xs ++ num n)⟩] [] w') := by
 have hten : (num n).length ≤ 10 := num_ten (by omega)
 refine uS1 Tryz.func79 ?_
 have H := H0
 refine uR 3 [.c [1, 0], .c [2]] ?_
 refine qG (sq 0 5) ?_
 refine uP 3 ?_
 refine uKS (len_spec (k := n) (by omega) ((H.lend (M1 := [(bp, .cells #[.slice a xs.length c, .I 0, .bool true, .bool false] 136 (0, 0))]) (W1 := [⟨Sb, 5, .slice a xs.length c, xs⟩])).pick [] rfl) (by first | omega | (simp only [List.length_append, List.length_nil]; omega))) ?_
 rintro _ _ ⟨d, e, rfl, H'⟩
 have H := H.back (M1 := [(bp, .cells #[.slice a xs.length c, .I 0, .bool true, .bool false] 136 (0, 0))]) (W1 := [⟨Sb, 5, .slice a xs.length c, xs⟩]) H'
 have H : Hp w S O [(bp, .cells #[.slice d (xs ++ num n).length e, .I 0, .bool true, .bool false] 136 (0, 0))] [⟨Sb, 5, .slice d (xs ++ num n).length e, (xs ++ num n)⟩] [] _ := H
 refine uF 1 ?_
 refine uR 6 [.c [3, 0, 1, 0], .b 0, .c [4]] ?_
 refine uL (α := Unit) (g := 79) (p := [3, 0, 1, 0, 0]) (fun _ => [(0, .P bp 0), (1, .slice ae n ke), (5, .I ((n : Nat) : Int)), (6, .slice none 0 0), (7, .I 0)]) (fun _ w' => Hp w S O [(bp, .cells #[.slice d (xs ++ num n).length e, .I 0, .bool true, .bool false] 136 (0, 0))] [⟨Sb, 5, .slice d (xs ++ num n).length e, (xs ++ num n)⟩] [] w' ∧ True) (fun _ => 0) (()) ⟨H, trivial⟩ ?_
 rintro _ _ ⟨H, _⟩ _
 refine uR 2 [.c [3, 0, 1, 0, 0, 0, 0], .c [3, 0, 1, 0, 0, 0, 1], .c [3, 0, 1, 0, 0, 1], .l [3, 0, 1, 0, 0], .b 0, .c [4]] ?_
 refine qG (sq 0 10) ?_
 refine uP 4 ?_
 refine uD 16 ((0 : Int) < ((n : Nat) : Int)) (fun f => ?_) (fun f => ?_)
 ·
  omega
 ·
  refine uF 6 ?_
  refine uR 4 [.c [5]] ?_
  refine qT (.slice none 0 0) Tryz.func79 ?_
  exact ⟨_, rfl, _, _, by first | rfl | trivial, H.pick [] rfl⟩
end Go.Proofs.YtppcdmbkgficiaaGreat
