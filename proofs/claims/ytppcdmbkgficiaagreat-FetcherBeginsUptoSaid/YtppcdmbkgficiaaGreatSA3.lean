import Derived.Test.YtppcdmbkgficiaaGreatSA1
namespace Go.Proofs.YtppcdmbkgficiaaGreat
open Go.BX
def confE (C : Conf) : List (BitVec 8) := num C.voters.length ++ intsE C.voters ++ (num C.learners.length ++ intsE C.learners)
theorem pconf_spec {S : Nat → Prop} {w : World} {O : List Nat} {bp : Nat} {xs : List (BitVec 8)} {a : Option Addr} {c : Nat} {C : Conf} {av al : Option Addr} {kv kl : Nat} (H0 : Hp w S O [(bp, .cells #[.slice a xs.length c, .I 0, .bool true, .bool false] 136 (0, 0))] [⟨Sb, 5, .slice a xs.length c, xs⟩] [Rp Li [.slice av C.voters.length kv] C.voters, Rp Li [.slice al C.learners.length kl] C.learners] w) (hby : xs.length + 10 * (C.voters.length + C.learners.length + 4) ≤ 1099511627776) :
 Calls Tryz.prog 80 #[.P bp 0, .agg #[.slice av C.voters.length kv, .slice al C.learners.length kl]] w (Ret fun v w' => ∃ (a' : Option Addr) (c' : Nat), (∃ (a1 : Option Addr) (c1 : Nat) (a2 : Option Addr) (c2 : Nat), v = .agg #[.slice a1 C.voters.length c1, .slice a2 C.learners.length c2]) ∧ Hp w S O [(bp, .cells #[.slice a' (xs ++ confE C).length c', .I 0, .bool true, .bool false] 136 (0, 0))] [⟨Sb, 5, .slice a' (xs ++ confE C).length c', (xs ++ confE C)⟩] [] w') := by
 have hl1 := Shape.slice_len (H0.rp 0 rfl)
 have hl2 := Shape.slice_len (H0.rp 1 rfl)
 have hv1 : (num C.voters.length).length ≤ 10 := num_ten (by omega)
 have hv2 : (num C.learners.length).length ≤ 10 := num_ten (by omega)
 have hv3 := intsE_len (rep_ints (H0.rp 0 rfl))
 have hv4 := intsE_len (rep_ints (H0.rp 1 rfl))
 refine qS (fn := Tryz.f80) (n := 16) (σ := [(0, .P bp 0), (1, .agg #[.slice av C.voters.length kv, .slice al C.learners.length kl])]) Tryz.func80 ?_
 have H := H0
 refine qR 1 [.c [0], .c [1]] [(0, .P bp 0), (1, .agg #[.slice av C.voters.length kv, .slice al C.learners.length kl])] ?_
 refine qG (sq 0 2) ?_
 refine qB .seq 3 (sq 1 2) #[.slice av C.voters.length kv, .slice al C.learners.length kl] 80 H ?_
 intro b1 w2 H
 refine qB .seq 4 (sq 2 2) #[.slice none 0 0, .slice none 0 0] 80 H ?_
 intro b3 w4 H
 refine qF 0 [(0, .P bp 0), (3, .P b1 0), (4, .P b3 0)] ?_
 refine qR 1 [.c [1, 0], .c [2]] [(0, .P bp 0), (3, .P b1 0), (4, .P b3 0)] ?_
 refine qG (sq 0 6) ?_
 refine qP 2 (sq 2 6) [(0, .P bp 0), (3, .P b1 0), (4, .P b3 0), (5, .P bp 0), (6, .P b1 0)] ?_
 refine qL .seq 7 (sq 3 6) 24 b1 0 0 (.slice av C.voters.length kv) (H.cells 1 rfl) ?_
 have H := H.frontM 2 (M' := [(bp, .cells #[.slice a xs.length c, .I 0, .bool true, .bool false] 136 (0, 0)), (b3, .cells #[.slice none 0 0, .slice none 0 0] 80 (0, 0)), (b1, .cells #[.slice av C.voters.length kv, .slice al C.learners.length kl] 80 (0, 0))]) rfl
 refine RW.callS (d := some 8) (r := (sq 4 6)) (g := 72) (args := #[.P bp 0, .slice av C.voters.length kv]) (by as_aux_lemma => kernel_rfl) (ints_spec  ((H.lend (M1 := [(bp, .cells #[.slice a xs.length c, .I 0, .bool true, .bool false] 136 (0, 0))]) (W1 := [⟨Sb, 5, .slice a xs.length c, xs⟩])).pick [0] rfl) (by first | omega | (simp only [List.length_append, List.length_nil]; omega))) ?_
 rintro v6 w5 ⟨a7, c8, ⟨ar10, cr11, rfl⟩, H'⟩
 have H := H.back (M1 := [(bp, .cells #[.slice a xs.length c, .I 0, .bool true, .bool false] 136 (0, 0))]) (W1 := [⟨Sb, 5, .slice a xs.length c, xs⟩]) H'
 have H : Hp w S O [(bp, .cells #[.slice a7 ((xs ++ (num C.voters.length ++ intsE C.voters)).length) c8, .I 0, .bool true, .bool false] 136 (0, 0)), (b3, .cells #[.slice none 0 0, .slice none 0 0] 80 (0, 0)), (b1, .cells #[.slice av C.voters.length kv, .slice al C.learners.length kl] 80 (0, 0))] [⟨Sb, 5, .slice a7 ((xs ++ (num C.voters.length ++ intsE C.voters)).length) c8, (xs ++ (num C.voters.length ++ intsE C.voters))⟩] [Rp Li [.slice av C.voters.length kv] C.voters, Rp Li [.slice al C.learners.length kl] C.learners] _ := H
 refine qP 1 (sq 5 6) [(0, .P bp 0), (3, .P b1 0), (4, .P b3 0), (8, .slice ar10 C.voters.length cr11), (9, .P b1 0)] ?_
 refine qW 24 b1 0 (sq 6 6) (.slice ar10 C.voters.length cr11) [(bp, .cells #[.slice a7 ((xs ++ (num C.voters.length ++ intsE C.voters)).length) c8, .I 0, .bool true, .bool false] 136 (0, 0)), (b3, .cells #[.slice none 0 0, .slice none 0 0] 80 (0, 0)), (b1, .cells #[.slice ar10 C.voters.length cr11, .slice al C.learners.length kl] 80 (0, 0))] H 2 rfl rfl ?_
 intro w12 H
 refine qF 0 [(0, .P bp 0), (3, .P b1 0), (4, .P b3 0)] ?_
 refine qR 1 [.c [2, 0], .c [3]] [(0, .P bp 0), (3, .P b1 0), (4, .P b3 0)] ?_
 refine qG (sq 0 6) ?_
 refine qP 2 (sq 2 6) [(3, .P b1 0), (4, .P b3 0), (10, .P bp 0), (11, .P b1 1)] ?_
 refine qL .seq 12 (sq 3 6) 24 b1 1 1 (.slice al C.learners.length kl) (H.cells 2 rfl) ?_
 refine RW.callS (d := some 13) (r := (sq 4 6)) (g := 72) (args := #[.P bp 0, .slice al C.learners.length kl]) (by as_aux_lemma => kernel_rfl) (ints_spec  ((H.lend (M1 := [(bp, .cells #[.slice a7 ((xs ++ (num C.voters.length ++ intsE C.voters)).length) c8, .I 0, .bool true, .bool false] 136 (0, 0))]) (W1 := [⟨Sb, 5, .slice a7 ((xs ++ (num C.voters.length ++ intsE C.voters)).length) c8, (xs ++ (num C.voters.length ++ intsE C.voters))⟩])).pick [1] rfl) (by first | omega | (simp only [List.length_append, List.length_nil]; omega))) ?_
 rintro v14 w13 ⟨a15, c16, ⟨ar18, cr19, rfl⟩, H'⟩
 have H := H.back (M1 := [(bp, .cells #[.slice a7 ((xs ++ (num C.voters.length ++ intsE C.voters)).length) c8, .I 0, .bool true, .bool false] 136 (0, 0))]) (W1 := [⟨Sb, 5, .slice a7 ((xs ++ (num C.voters.length ++ intsE C.voters)).length) c8, (xs ++ (num C.voters.length ++ intsE C.voters))⟩]) H'
 have H : Hp w S O [(bp, .cells #[.slice a15 (((xs ++ (num C.voters.length ++ intsE C.voters)) ++ (num C.learners.length ++ intsE C.learners)).length) c16, .I 0, .bool true, .bool false] 136 (0, 0)), (b3, .cells #[.slice none 0 0, .slice none 0 0] 80 (0, 0)), (b1, .cells #[.slice ar10 C.voters.length cr11, .slice al C.learners.length kl] 80 (0, 0))] [⟨Sb, 5, .slice a15 (((xs ++ (num C.voters.length ++ intsE C.voters)) ++ (num C.learners.length ++ intsE C.learners)).length) c16, ((xs ++ (num C.voters.length ++ intsE C.voters)) ++ (num C.learners.length ++ intsE C.learners))⟩] [Rp Li [.slice av C.voters.length kv] C.voters, Rp Li [.slice al C.learners.length kl] C.learners] _ := H
 refine qP 1 (sq 5 6) [(3, .P b1 0), (4, .P b3 0), (13, .slice ar18 C.learners.length cr19), (14, .P b1 1)] ?_
 refine qW 24 b1 1 (sq 6 6) (.slice ar18 C.learners.length cr19) [(bp, .cells #[.slice a15 (((xs ++ (num C.voters.length ++ intsE C.voters)) ++ (num C.learners.length ++ intsE C.learners)).length) c16, .I 0, .bool true, .bool false] 136 (0, 0)), (b3, .cells #[.slice none 0 0, .slice none 0 0] 80 (0, 0)), (b1, .cells #[.slice ar10 C.voters.length cr11, .slice ar18 C.learners.length cr19] 80 (0, 0))] H 2 rfl rfl ?_
 intro w20 H
 refine qF 0 [(3, .P b1 0), (4, .P b3 0)] ?_
 refine qR 1 [.c [3, 0], .c [4]] [(3, .P b1 0), (4, .P b3 0)] ?_
 refine qG (sq 0 2) ?_
 refine qL .seq 15 (sq 1 2) 80 b1 0 0 (.agg #[.slice ar10 C.voters.length cr11, .slice ar18 C.learners.length cr19]) (H.cells 2 rfl) ?_
 refine qW 80 b3 0 (sq 2 2) (.agg #[.slice ar10 C.voters.length cr11, .slice ar18 C.learners.length cr19]) [(bp, .cells #[.slice a15 (((xs ++ (num C.voters.length ++ intsE C.voters)) ++ (num C.learners.length ++ intsE C.learners)).length) c16, .I 0, .bool true, .bool false] 136 (0, 0)), (b3, .cells #[.slice ar10 C.voters.length cr11, .slice ar18 C.learners.length cr19] 80 (0, 0)), (b1, .cells #[.slice ar10 C.voters.length cr11, .slice ar18 C.learners.length cr19] 80 (0, 0))] H 1 rfl rfl ?_
 intro w21 H
 refine qF 0 [(4, .P b3 0)] ?_
 refine qRB (.agg #[.slice ar10 C.voters.length cr11, .slice ar18 C.learners.length cr19]) Tryz.func80 (v1 (.cell 4 80) (vC (H.cells 1 rfl))) ?_
 have hcf : ((xs ++ (num C.voters.length ++ intsE C.voters)) ++ (num C.learners.length ++ intsE C.learners)) = xs ++ confE C := by simp [confE]
 rw [hcf] at H
 have H := H.drop (M' := [(bp, .cells #[.slice a15 (xs ++ confE C).length c16, .I 0, .bool true, .bool false] 136 (0, 0))]) (W' := [⟨Sb, 5, .slice a15 (xs ++ confE C).length c16, xs ++ confE C⟩]) (by repeat (first | exact List.Sublist.refl _ | apply List.Sublist.cons_cons | apply List.Sublist.cons)) (by repeat (first | exact List.Sublist.refl _ | apply List.Sublist.cons_cons | apply List.Sublist.cons))
 exact ⟨_, rfl, _, _, ⟨_, _, _, _, rfl⟩, H.pick [] rfl⟩
theorem pentries_spec {S : Nat → Prop} {w : World} {O : List Nat} {bp : Nat} {xs : List (BitVec 8)} {a : Option Addr} {c : Nat} {ae : Option Addr} {n ke : Nat} (hn0 : n = 0) (H0 : Hp w S O [(bp, .cells #[.slice a xs.length c, .I 0, .bool true, .bool false] 136 (0, 0))] [⟨Sb, 5, .slice a xs.length c, xs⟩] [] w) (hby : xs.length + 10 ≤ 1099511627776) :
 Calls Tryz.prog 79 #[.P bp 0, .slice ae n ke] w (Ret fun v w' => ∃ (a' : Option Addr) (c' : Nat), (v = .slice none 0 0) ∧ Hp w S O [(bp, .cells #[.slice a' (xs ++ num n).length c', .I 0, .bool true, .bool false] 136 (0, 0))] [⟨Sb, 5, .slice a' (xs ++ num n).length c', (xs ++ num n)⟩] [] w') := by
 have hten : (num n).length ≤ 10 := num_ten (by omega)
 refine qS (fn := Tryz.f79) (n := 41) (σ := [(0, .P bp 0), (1, .slice ae n ke)]) Tryz.func79 ?_
 have H := H0
 refine qR 3 [.c [1, 0], .c [2]] [(0, .P bp 0), (1, .slice ae n ke)] ?_
 refine qG (sq 0 5) ?_
 refine qP 3 (sq 3 5) [(0, .P bp 0), (1, .slice ae n ke), (9, .P bp 0), (11, .I ((n : Nat) : Int))] ?_
 refine RW.callS (d := some 12) (r := (sq 4 5)) (g := 84) (args := #[.P bp 0, .I ((n : Nat) : Int)]) (by as_aux_lemma => kernel_rfl) (len_spec (k := n) (by omega) ((H.lend (M1 := [(bp, .cells #[.slice a xs.length c, .I 0, .bool true, .bool false] 136 (0, 0))]) (W1 := [⟨Sb, 5, .slice a xs.length c, xs⟩])).pick [] rfl) (by first | omega | (simp only [List.length_append, List.length_nil]; omega))) ?_
 rintro _ w1 ⟨a3, c4, rfl, H'⟩
 have H := H.back (M1 := [(bp, .cells #[.slice a xs.length c, .I 0, .bool true, .bool false] 136 (0, 0))]) (W1 := [⟨Sb, 5, .slice a xs.length c, xs⟩]) H'
 have H : Hp w S O [(bp, .cells #[.slice a3 (xs ++ num n).length c4, .I 0, .bool true, .bool false] 136 (0, 0))] [⟨Sb, 5, .slice a3 (xs ++ num n).length c4, (xs ++ num n)⟩] [] _ := H
 refine qF 1 [(0, .P bp 0), (1, .slice ae n ke), (5, .I ((n : Nat) : Int))] ?_
 refine qR 6 [.c [3, 0, 1, 0], .b 0, .c [4]] [(0, .P bp 0), (1, .slice ae n ke), (5, .I ((n : Nat) : Int)), (6, .slice none 0 0), (7, .I 0)] ?_
 refine WK.loop (α := Unit) (b := cd Tryz.prog 79 [3, 0, 1, 0, 0]) (by as_aux_lemma => kernel_rfl) (fun _ => [(0, .P bp 0), (1, .slice ae n ke), (5, .I ((n : Nat) : Int)), (6, .slice none 0 0), (7, .I 0)]) (fun _ w' => Hp w S O [(bp, .cells #[.slice a3 (xs ++ num n).length c4, .I 0, .bool true, .bool false] 136 (0, 0))] [⟨Sb, 5, .slice a3 (xs ++ num n).length c4, (xs ++ num n)⟩] [] w' ∧ True) (fun _ => 0) (()) ⟨H, trivial⟩ (rfl) ?_
 rintro _ w7 ⟨H, hinv0⟩ hback6
 refine qR 2 [.c [3, 0, 1, 0, 0, 0, 0], .c [3, 0, 1, 0, 0, 0, 1], .c [3, 0, 1, 0, 0, 1], .l [3, 0, 1, 0, 0], .b 0, .c [4]] [(0, .P bp 0), (1, .slice ae n ke), (5, .I ((n : Nat) : Int)), (6, .slice none 0 0), (7, .I 0)] ?_
 refine qG (sq 0 10) ?_
 refine qP 4 (sq 4 10) [(0, .P bp 0), (1, .slice ae n ke), (5, .I ((n : Nat) : Int)), (6, .slice none 0 0), (7, .I 0), (16, .bool (decide ((0 : Int) < ((n : Nat) : Int))))] ?_
 refine tD (fun b_ => [(0, .P bp 0), (1, .slice ae n ke), (5, .I ((n : Nat) : Int)), (6, .slice none 0 0), (7, .I 0), (16, .bool b_)]) ((0 : Int) < ((n : Nat) : Int)) (fun h8 => ?_) (fun h8 => ?_)
 ·
  omega
 ·
  refine qF 6 [(0, .P bp 0), (1, .slice ae n ke), (5, .I ((n : Nat) : Int)), (6, .slice none 0 0), (7, .I 0), (22, .bool false)] ?_
  refine qR 4 [.c [5]] [(4, .slice none 0 0)] ?_
  refine qT (.slice none 0 0) Tryz.func79 ?_
  exact ⟨_, rfl, _, _, by first | rfl | trivial, H.pick [] rfl⟩
end Go.Proofs.YtppcdmbkgficiaaGreat
