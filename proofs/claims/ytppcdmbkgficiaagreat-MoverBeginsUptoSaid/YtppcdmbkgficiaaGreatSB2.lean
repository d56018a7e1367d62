import Derived.Test.YtppcdmbkgficiaaGreatSBxB
import Derived.Test.YtppcdmbkgficiaaGreatSA4
namespace Go.Proofs.YtppcdmbkgficiaaGreat
open Go.BX
def Shape.junk (m : Nat) (h : 0 < m) : Shape Unit where
 size := m
 rep _ _ cs _ := cs.length = m ∧ cs.all (fun v => v.oneCell') = true
 pos := h
 len := fun h => h.1
 ones := fun h => List.all_eq_true.1 h.2
 step := fun h _ => h
def objE (D : ObjD) : List (BitVec 8) := textE D.key ++ (num D.version.toNat ++ (intE D.size ++ (num D.sum.toNat ++ (intE D.group ++ (num D.epoch.toNat ++ (num D.nodes.length ++ intsE D.nodes))))))
def ObjOk (D : ObjD) : Prop := (0 ≤ D.version ∧ D.version ≤ 18446744073709551615) ∧ (-9223372036854775808 ≤ D.size ∧ D.size ≤ 9223372036854775807) ∧ (-9223372036854775808 ≤ D.group ∧ D.group ≤ 9223372036854775807) ∧ (0 ≤ D.epoch ∧ D.epoch ≤ 18446744073709551615) ∧ D.key.size ≤ 1000000000 ∧ D.nodes.length ≤ 1000000000 ∧ ∀ x ∈ D.nodes, -9223372036854775808 ≤ x ∧ x ≤ 9223372036854775807
theorem objE_len {D : ObjD} (hD : ObjOk D) : (objE D).length ≤ D.key.size + 10 * D.nodes.length + 90 := by
 obtain ⟨_, a, b, _, _, _, c⟩ := hD
 have d : (num D.version.toNat).length ≤ 10 := num_ten (by omega)
 have e := intE_ten a
 have f : (num D.sum.toNat).length ≤ 10 := num_ten (by have := D.sum.isLt; omega)
 have g := intE_ten b
 have h : (num D.epoch.toNat).length ≤ 10 := num_ten (by omega)
 have i : (num D.nodes.length).length ≤ 10 := num_ten (by omega)
 have j : (num D.key.size).length ≤ 10 := num_ten (by omega)
 have k := intsE_len c
 have l : (textE D.key).length ≤ D.key.size + 10 := by
  unfold textE bytesE
  rw [List.length_append, bytesOf_len]
  omega
 unfold objE
 simp only [List.length_append]
 omega
theorem pobj_spec {S : Nat → Prop} {w : World} {O : List Nat} {bp : Nat} {xs : List (BitVec 8)} {a : Option Addr} {c : Nat} {D : ObjD} {an : Option Addr} {kn : Nat} (hD : ObjOk D) (H0 : Hp w S O [(bp, .cells #[.slice a xs.length c, .I 0, .bool true, .bool false] 136 (0, 0))] [⟨Sb, 5, .slice a xs.length c, xs⟩] [Rp (Shape.slice (Shape.int .i64)) [.slice an D.nodes.length kn] D.nodes] w) (hby : xs.length + (D.key.size + 10 * D.nodes.length + 100) ≤ 1099511627776) :
 Calls Tryz.prog 96 #[.P bp 0, .agg (objV D an kn).toArray] w (Ret fun v w' => ∃ (a' : Option Addr) (c' : Nat), (∃ (t1 : ByteArray) (a1 : Option Addr) (c1 : Nat), v = .agg #[.string t1, .int .u64 D.version, .I D.size, .int .u32 ((D.sum.toNat : Nat) : Int), .I D.group, .int .u64 D.epoch, .slice a1 D.nodes.length c1]) ∧ Hp w S O [(bp, .cells #[.slice a' (xs ++ objE D).length c', .I 0, .bool true, .bool false] 136 (0, 0))] [⟨Sb, 5, .slice a' (xs ++ objE D).length c', (xs ++ objE D)⟩] [] w') := by
 obtain ⟨_, _, _, _, _, _, _⟩ := hD
 have hkey : D.key.size ≤ maxLen := by unfold maxLen; omega
 have d0 : (num D.version.toNat).length ≤ 10 := num_ten (by omega)
 have e0 : (intE D.size).length ≤ 10 := intE_ten (by omega)
 have f0 : (num D.sum.toNat).length ≤ 10 := num_ten (by have := D.sum.isLt; omega)
 have g0 : (intE D.group).length ≤ 10 := intE_ten (by omega)
 have h0 : (num D.epoch.toNat).length ≤ 10 := num_ten (by omega)
 have i0 : (num D.nodes.length).length ≤ 10 := num_ten (by omega)
 have j0 : (num D.key.size).length ≤ 10 := num_ten (by omega)
 have b0 : (textE D.key).length ≤ D.key.size + 10 := by unfold textE bytesE; rw [List.length_append, bytesOf_len]; omega
 have c0 : (intsE D.nodes).length ≤ 10 * D.nodes.length := intsE_len (rep_ints (H0.rp 0 rfl))
 refine uS1 Tryz.func96 ?_
 have H := H0
 refine uR 1 [.c [0], .c [1]] ?_
 refine qG (sq 0 2) ?_
 refine uC ((objV D an kn).toArray) 26 H ?_
 intro Y _ H
 refine uC #[.string (⟨#[]⟩), .int .u64 0, .I 0, .int .u32 0, .I 0, .int .u64 0, .slice none 0 0] 26 H ?_
 intro Z _ H
 refine uF 0 ?_
 refine uR 1 [.c [1, 0], .c [2]] ?_
 refine qG (sq 0 6) ?_
 refine uP 2 ?_
 refine uV 9 0 (H.cells 1 rfl) ?_
 have H := H.frontM 2 (M' := [(bp, .cells #[.slice a xs.length c, .I 0, .bool true, .bool false] 136 (0, 0)), (Z, .cells #[.string (⟨#[]⟩), .int .u64 0, .I 0, .int .u32 0, .I 0, .int .u64 0, .slice none 0 0] 26 (0, 0)), (Y, .cells (objV D an kn).toArray 26 (0, 0))]) rfl
 refine uKS (text_spec (s := D.key) hkey ((H.lend (M1 := [(bp, .cells #[.slice a xs.length c, .I 0, .bool true, .bool false] 136 (0, 0))]) (W1 := [⟨Sb, 5, .slice a xs.length c, xs⟩])).pick [] rfl) (by first | omega | (simp only [List.length_append, List.length_nil]; omega))) ?_
 rintro _ _ ⟨M, N, ⟨i, rfl⟩, H'⟩
 have H := H.back (M1 := [(bp, .cells #[.slice a xs.length c, .I 0, .bool true, .bool false] 136 (0, 0))]) (W1 := [⟨Sb, 5, .slice a xs.length c, xs⟩]) H'
 have H : Hp w S O [(bp, .cells #[.slice M (xs ++ textE D.key).length N, .I 0, .bool true, .bool false] 136 (0, 0)), _, _] [⟨Sb, 5, .slice M (xs ++ textE D.key).length N, (xs ++ textE D.key)⟩] [_] _ := H
 obtain ⟨b, u⟩ : ∃ z, z = (xs ++ textE D.key) := ⟨_, rfl⟩
 rw [← u] at H
 have Q := congrArg List.length u
 rw [List.length_append] at Q
 refine uP 1 ?_
 refine uW 9 0 #[.string i, .int .u64 D.version, .I D.size, .int .u32 ((D.sum.toNat : Nat) : Int), .I D.group, .int .u64 D.epoch, .slice an D.nodes.length kn] H 2 rfl ?_
 intro _ H
 refine uF 0 ?_
 refine uR 1 [.c [2, 0], .c [3]] ?_
 refine qG (sq 0 6) ?_
 refine uP 2 ?_
 refine uV 22 1 (H.cells 2 rfl) ?_
 refine uKS (u64_spec (x := D.version) (by omega) ((H.lend (M1 := [(bp, .cells #[.slice M b.length N, .I 0, .bool true, .bool false] 136 (0, 0))]) (W1 := [⟨Sb, 5, .slice M b.length N, b⟩])).pick [] rfl) (by first | omega | (simp only [List.length_append, List.length_nil]; omega))) ?_
 rintro _ _ ⟨j, k, rfl, H'⟩
 have H := H.back (M1 := [(bp, .cells #[.slice M b.length N, .I 0, .bool true, .bool false] 136 (0, 0))]) (W1 := [⟨Sb, 5, .slice M b.length N, b⟩]) H'
 have H : Hp w S O [(bp, .cells #[.slice j (b ++ num D.version.toNat).length k, .I 0, .bool true, .bool false] 136 (0, 0)), _, _] [⟨Sb, 5, .slice j (b ++ num D.version.toNat).length k, (b ++ num D.version.toNat)⟩] [_] _ := H
 obtain ⟨d, y⟩ : ∃ z, z = (b ++ num D.version.toNat) := ⟨_, rfl⟩
 rw [← y] at H
 have R := congrArg List.length y
 rw [List.length_append] at R
 refine uP 1 ?_
 refine uW 22 1 #[.string i, .int .u64 D.version, .I D.size, .int .u32 ((D.sum.toNat : Nat) : Int), .I D.group, .int .u64 D.epoch, .slice an D.nodes.length kn] H 2 rfl ?_
 intro _ H
 refine uF 0 ?_
 refine qR 1 [.c [3, 0], .c [4]] [(0, .P bp 0), (3, .P Y 0), (4, .P Z 0)] ?_
 refine qG (sq 0 6) ?_
 refine uP 2 ?_
 refine uV 3 2 (H.cells 2 rfl) ?_
 refine uKS (int_spec (x := D.size) (by omega) ((H.lend (M1 := [(bp, .cells #[.slice j d.length k, .I 0, .bool true, .bool false] 136 (0, 0))]) (W1 := [⟨Sb, 5, .slice j d.length k, d⟩])).pick [] rfl) (by first | omega | (simp only [List.length_append, List.length_nil]; omega))) ?_
 rintro _ _ ⟨l, m, rfl, H'⟩
 have H := H.back (M1 := [(bp, .cells #[.slice j d.length k, .I 0, .bool true, .bool false] 136 (0, 0))]) (W1 := [⟨Sb, 5, .slice j d.length k, d⟩]) H'
 have H : Hp w S O [(bp, .cells #[.slice l (d ++ intE D.size).length m, .I 0, .bool true, .bool false] 136 (0, 0)), _, _] [⟨Sb, 5, .slice l (d ++ intE D.size).length m, (d ++ intE D.size)⟩] [_] _ := H
 obtain ⟨e, A⟩ : ∃ z, z = (d ++ intE D.size) := ⟨_, rfl⟩
 rw [← A] at H
 have T := congrArg List.length A
 rw [List.length_append] at T
 refine uP 1 ?_
 refine uW 3 2 #[.string i, .int .u64 D.version, .I D.size, .int .u32 ((D.sum.toNat : Nat) : Int), .I D.group, .int .u64 D.epoch, .slice an D.nodes.length kn] H 2 rfl ?_
 intro _ H
 refine uF 0 ?_
 refine uR 1 [.c [4, 0], .c [5]] ?_
 refine qG (sq 0 6) ?_
 refine uP 2 ?_
 refine uV 23 3 (H.cells 2 rfl) ?_
 refine uKS (pu32_spec (x := D.sum) ((H.lend (M1 := [(bp, .cells #[.slice l e.length m, .I 0, .bool true, .bool false] 136 (0, 0))]) (W1 := [⟨Sb, 5, .slice l e.length m, e⟩])).pick [] rfl) (by first | omega | (simp only [List.length_append, List.length_nil]; omega))) ?_
 rintro _ _ ⟨n, o, rfl, H'⟩
 have H := H.back (M1 := [(bp, .cells #[.slice l e.length m, .I 0, .bool true, .bool false] 136 (0, 0))]) (W1 := [⟨Sb, 5, .slice l e.length m, e⟩]) H'
 have H : Hp w S O [(bp, .cells #[.slice n (e ++ num D.sum.toNat).length o, .I 0, .bool true, .bool false] 136 (0, 0)), _, _] [⟨Sb, 5, .slice n (e ++ num D.sum.toNat).length o, (e ++ num D.sum.toNat)⟩] [_] _ := H
 obtain ⟨f, B⟩ : ∃ z, z = (e ++ num D.sum.toNat) := ⟨_, rfl⟩
 rw [← B] at H
 have U := congrArg List.length B
 rw [List.length_append] at U
 refine uP 1 ?_
 refine uW 23 3 #[.string i, .int .u64 D.version, .I D.size, .int .u32 ((D.sum.toNat : Nat) : Int), .I D.group, .int .u64 D.epoch, .slice an D.nodes.length kn] H 2 rfl ?_
 intro _ H
 refine uF 0 ?_
 refine uR 1 [.c [5, 0], .c [6]] ?_
 refine qG (sq 0 6) ?_
 refine uP 2 ?_
 refine uV 3 4 (H.cells 2 rfl) ?_
 refine uKS (int_spec (x := D.group) (by omega) ((H.lend (M1 := [(bp, .cells #[.slice n f.length o, .I 0, .bool true, .bool false] 136 (0, 0))]) (W1 := [⟨Sb, 5, .slice n f.length o, f⟩])).pick [] rfl) (by first | omega | (simp only [List.length_append, List.length_nil]; omega))) ?_
 rintro _ _ ⟨p, q, rfl, H'⟩
 have H := H.back (M1 := [(bp, .cells #[.slice n f.length o, .I 0, .bool true, .bool false] 136 (0, 0))]) (W1 := [⟨Sb, 5, .slice n f.length o, f⟩]) H'
 have H : Hp w S O [(bp, .cells #[.slice p (f ++ intE D.group).length q, .I 0, .bool true, .bool false] 136 (0, 0)), _, _] [⟨Sb, 5, .slice p (f ++ intE D.group).length q, (f ++ intE D.group)⟩] [_] _ := H
 obtain ⟨g, C⟩ : ∃ z, z = (f ++ intE D.group) := ⟨_, rfl⟩
 rw [← C] at H
 have V := congrArg List.length C
 rw [List.length_append] at V
 refine uP 1 ?_
 refine uW 3 4 #[.string i, .int .u64 D.version, .I D.size, .int .u32 ((D.sum.toNat : Nat) : Int), .I D.group, .int .u64 D.epoch, .slice an D.nodes.length kn] H 2 rfl ?_
 intro _ H
 refine qF 0 [(0, .P bp 0), (3, .P Y 0), (4, .P Z 0)] ?_
 refine uR 1 [.c [6, 0], .c [7]] ?_
 refine qG (sq 0 6) ?_
 refine uP 2 ?_
 refine uV 22 5 (H.cells 2 rfl) ?_
 refine uKS (u64_spec (x := D.epoch) (by omega) ((H.lend (M1 := [(bp, .cells #[.slice p g.length q, .I 0, .bool true, .bool false] 136 (0, 0))]) (W1 := [⟨Sb, 5, .slice p g.length q, g⟩])).pick [] rfl) (by first | omega | (simp only [List.length_append, List.length_nil]; omega))) ?_
 rintro _ _ ⟨r, t, rfl, H'⟩
 have H := H.back (M1 := [(bp, .cells #[.slice p g.length q, .I 0, .bool true, .bool false] 136 (0, 0))]) (W1 := [⟨Sb, 5, .slice p g.length q, g⟩]) H'
 have H : Hp w S O [(bp, .cells #[.slice r (g ++ num D.epoch.toNat).length t, .I 0, .bool true, .bool false] 136 (0, 0)), _, _] [⟨Sb, 5, .slice r (g ++ num D.epoch.toNat).length t, (g ++ num D.epoch.toNat)⟩] [_] _ := H
 obtain ⟨h, E⟩ : ∃ z, z = (g ++ num D.epoch.toNat) := ⟨_, rfl⟩
 rw [← E] at H
 have W := congrArg List.length E
 rw [List.length_append] at W
 refine uP 1 ?_
 refine uW 22 5 #[.string i, .int .u64 D.version, .I D.size, .int .u32 ((D.sum.toNat : Nat) : Int), .I D.group, .int .u64 D.epoch, .slice an D.nodes.length kn] H 2 rfl ?_
 intro _ H
 refine uF 0 ?_
 refine uR 1 [.c [7, 0], .c [8]] ?_
 refine qG (sq 0 6) ?_
 refine uP 2 ?_
 refine uV 24 6 (H.cells 2 rfl) ?_
 refine uKS (ints_spec  ((H.lend (M1 := [(bp, .cells #[.slice r h.length t, .I 0, .bool true, .bool false] 136 (0, 0))]) (W1 := [⟨Sb, 5, .slice r h.length t, h⟩])).pick [0] rfl) (by first | omega | (simp only [List.length_append, List.length_nil]; omega))) ?_
 rintro _ _ ⟨K, L, ⟨F, G, rfl⟩, H'⟩
 have H := H.back (M1 := [(bp, .cells #[.slice r h.length t, .I 0, .bool true, .bool false] 136 (0, 0))]) (W1 := [⟨Sb, 5, .slice r h.length t, h⟩]) H'
 have H : Hp w S O [(bp, .cells #[.slice K ((h ++ (num D.nodes.length ++ intsE D.nodes)).length) L, .I 0, .bool true, .bool false] 136 (0, 0)), _, _] [⟨Sb, 5, .slice K ((h ++ (num D.nodes.length ++ intsE D.nodes)).length) L, (h ++ (num D.nodes.length ++ intsE D.nodes))⟩] [_] _ := H
 obtain ⟨a0, J⟩ : ∃ z, z = (h ++ (num D.nodes.length ++ intsE D.nodes)) := ⟨_, rfl⟩
 rw [← J] at H
 have X := congrArg List.length J
 rw [List.length_append] at X
 refine uP 1 ?_
 refine uW 24 6 #[.string i, .int .u64 D.version, .I D.size, .int .u32 ((D.sum.toNat : Nat) : Int), .I D.group, .int .u64 D.epoch, .slice F D.nodes.length G] H 2 rfl ?_
 intro _ H
 refine uF 0 ?_
 refine uR 1 [.c [8, 0], .c [9]] ?_
 refine qG (sq 0 2) ?_
 refine uV 26 0 (H.cells 2 rfl) ?_
 refine uW 26 0 #[.string i, .int .u64 D.version, .I D.size, .int .u32 ((D.sum.toNat : Nat) : Int), .I D.group, .int .u64 D.epoch, .slice F D.nodes.length G] H 1 rfl ?_
 intro _ H
 refine uF 0 ?_
 refine qRB (.agg #[.string i, .int .u64 D.version, .I D.size, .int .u32 ((D.sum.toNat : Nat) : Int), .I D.group, .int .u64 D.epoch, .slice F D.nodes.length G]) Tryz.func96 (v1 (.cell 4 26) (vC (H.cells 1 rfl))) ?_
 have hcf : a0 = xs ++ objE D := by simp [objE, u, y, A, B, C, E, J]
 rw [hcf] at H
 have H := H.drop (M' := [(bp, .cells #[.slice K (xs ++ objE D).length L, .I 0, .bool true, .bool false] 136 (0, 0))]) (W' := [⟨Sb, 5, .slice K (xs ++ objE D).length L, xs ++ objE D⟩]) (by repeat (first | exact List.Sublist.refl _ | apply List.Sublist.cons_cons | apply List.Sublist.cons)) (by repeat (first | exact List.Sublist.refl _ | apply List.Sublist.cons_cons | apply List.Sublist.cons))
 exact ⟨_, rfl, _, _, ⟨_, _, _, rfl⟩, H.pick [] rfl⟩
theorem pintents_nil {S : Nat → Prop} {w : World} {O : List Nat} {bp : Nat} {xs : List (BitVec 8)} {a : Option Addr} {c : Nat} {ae : Option Addr} {n ke : Nat} (hn0 : n = 0) (H0 : Hp w S O [(bp, .cells #[.slice a xs.length c, .I 0, .bool true, .bool false] 136 (0, 0))] [⟨Sb, 5, .slice a xs.length c, xs⟩] [] w) (hby : xs.length + 10 ≤ 1099511627776) :
 Calls Tryz.prog 74 #[.P bp 0, .slice ae n ke] w (Ret fun v w' => ∃ (a' : Option Addr) (c' : Nat), (v = .slice none 0 0) ∧ Hp w S O [(bp, .cells #[.slice a' (xs ++ num n).length c', .I 0, .bool true, .bool false] 136 (0, 0))] [⟨Sb, 5, .slice a' (xs ++ num n).length c', (xs ++ num n)⟩] [] w') := by
 have hten : (num n).length ≤ 10 := num_ten (by omega)
 refine uS1 Tryz.func74 ?_
 have H := H0
 refine uR 3 [.c [1, 0], .c [2]] ?_
 refine qG (sq 0 5) ?_
 refine uP 3 ?_
 refine uKS (len_spec (k := n) (by omega) ((H.lend (M1 := [(bp, .cells #[.slice a xs.length c, .I 0, .bool true, .bool false] 136 (0, 0))]) (W1 := [⟨Sb, 5, .slice a xs.length c, xs⟩])).pick [] rfl) (by first | omega | (simp only [List.length_append, List.length_nil]; omega))) ?_
 rintro _ _ ⟨d, e, rfl, H'⟩
 have H := H.back (M1 := [(bp, .cells #[.slice a xs.length c, .I 0, .bool true, .bool false] 136 (0, 0))]) (W1 := [⟨Sb, 5, .slice a xs.length c, xs⟩]) H'
 have H : Hp w S O [(bp, .cells #[.slice d (xs ++ num n).length e, .I 0, .bool true, .bool false] 136 (0, 0))] [⟨Sb, 5, .slice d (xs ++ num n).length e, (xs ++ num n)⟩] [] _ := H
 refine uF 1 ?_
 refine uR 6 [.c [3, 0, 1, 0], .b 0, .c [4]] ?_
 refine uL (α := Unit) (g := 74) (p := [3, 0, 1, 0, 0]) (fun _ => [(0, .P bp 0), (1, .slice ae n ke), (5, .I ((n : Nat) : Int)), (6, .slice none 0 0), (7, .I 0)]) (fun _ w' => Hp w S O [(bp, .cells #[.slice d (xs ++ num n).length e, .I 0, .bool true, .bool false] 136 (0, 0))] [⟨Sb, 5, .slice d (xs ++ num n).length e, (xs ++ num n)⟩] [] w' ∧ True) (fun _ => 0) (()) ⟨H, trivial⟩ ?_
 rintro _ _ ⟨H, _⟩ _
 refine uR 2 [.c [3, 0, 1, 0, 0, 0, 0], .c [3, 0, 1, 0, 0, 0, 1], .c [3, 0, 1, 0, 0, 1], .l [3, 0, 1, 0, 0], .b 0, .c [4]] ?_
 refine qG (sq 0 10) ?_
 refine uP 4 ?_
 refine uD 16 ((0 : Int) < ((n : Nat) : Int)) (fun f => ?_) (fun f => ?_)
 ·
  omega
 ·
  refine uF 6 ?_
  refine uR 4 [.c [5]] ?_
  refine qT (.slice none 0 0) Tryz.func74 ?_
  exact ⟨_, rfl, _, _, by first | rfl | trivial, H.pick [] rfl⟩
theorem psessions_nil {S : Nat → Prop} {w : World} {O : List Nat} {bp : Nat} {xs : List (BitVec 8)} {a : Option Addr} {c : Nat} {ae : Option Addr} {n ke : Nat} (hn0 : n = 0) (H0 : Hp w S O [(bp, .cells #[.slice a xs.length c, .I 0, .bool true, .bool false] 136 (0, 0))] [⟨Sb, 5, .slice a xs.length c, xs⟩] [] w) (hby : xs.length + 10 ≤ 1099511627776) :
 Calls Tryz.prog 75 #[.P bp 0, .slice ae n ke] w (Ret fun v w' => ∃ (a' : Option Addr) (c' : Nat), (v = .slice none 0 0) ∧ Hp w S O [(bp, .cells #[.slice a' (xs ++ num n).length c', .I 0, .bool true, .bool false] 136 (0, 0))] [⟨Sb, 5, .slice a' (xs ++ num n).length c', (xs ++ num n)⟩] [] w') := by
 have hten : (num n).length ≤ 10 := num_ten (by omega)
 refine uS1 Tryz.func75 ?_
 have H := H0
 refine uR 3 [.c [1, 0], .c [2]] ?_
 refine qG (sq 0 5) ?_
 refine uP 3 ?_
 refine uKS (len_spec (k := n) (by omega) ((H.lend (M1 := [(bp, .cells #[.slice a xs.length c, .I 0, .bool true, .bool false] 136 (0, 0))]) (W1 := [⟨Sb, 5, .slice a xs.length c, xs⟩])).pick [] rfl) (by first | omega | (simp only [List.length_append, List.length_nil]; omega))) ?_
 rintro _ _ ⟨d, e, rfl, H'⟩
 have H := H.back (M1 := [(bp, .cells #[.slice a xs.length c, .I 0, .bool true, .bool false] 136 (0, 0))]) (W1 := [⟨Sb, 5, .slice a xs.length c, xs⟩]) H'
 have H : Hp w S O [(bp, .cells #[.slice d (xs ++ num n).length e, .I 0, .bool true, .bool false] 136 (0, 0))] [⟨Sb, 5, .slice d (xs ++ num n).length e, (xs ++ num n)⟩] [] _ := H
 refine uF 1 ?_
 refine uR 6 [.c [3, 0, 1, 0], .b 0, .c [4]] ?_
 refine uL (α := Unit) (g := 75) (p := [3, 0, 1, 0, 0]) (fun _ => [(0, .P bp 0), (1, .slice ae n ke), (5, .I ((n : Nat) : Int)), (6, .slice none 0 0), (7, .I 0)]) (fun _ w' => Hp w S O [(bp, .cells #[.slice d (xs ++ num n).length e, .I 0, .bool true, .bool false] 136 (0, 0))] [⟨Sb, 5, .slice d (xs ++ num n).length e, (xs ++ num n)⟩] [] w' ∧ True) (fun _ => 0) (()) ⟨H, trivial⟩ ?_
 rintro _ _ ⟨H, _⟩ _
 refine uR 2 [.c [3, 0, 1, 0, 0, 0, 0], .c [3, 0, 1, 0, 0, 0, 1], .c [3, 0, 1, 0, 0, 1], .l [3, 0, 1, 0, 0], .b 0, .c [4]] ?_
 refine qG (sq 0 10) ?_
 refine uP 4 ?_
 refine uD 16 ((0 : Int) < ((n : Nat) : Int)) (fun f => ?_) (fun f => ?_)
 ·
  omega
 ·
  refine uF 6 ?_
  refine uR 4 [.c [5]] ?_
  refine qT (.slice none 0 0) Tryz.func75 ?_
  exact ⟨_, rfl, _, _, by first | rfl | trivial, H.pick [] rfl⟩
theorem pwastes_nil {S : Nat → Prop} {w : World} {O : List Nat} {bp : Nat} {xs : List (BitVec 8)} {a : Option Addr} {c : Nat} {ae : Option Addr} {n ke : Nat} (hn0 : n = 0) (H0 : Hp w S O [(bp, .cells #[.slice a xs.length c, .I 0, .bool true, .bool false] 136 (0, 0))] [⟨Sb, 5, .slice a xs.length c, xs⟩] [] w) (hby : xs.length + 10 ≤ 1099511627776) :
 Calls Tryz.prog 76 #[.P bp 0, .slice ae n ke] w (Ret fun v w' => ∃ (a' : Option Addr) (c' : Nat), (v = .slice none 0 0) ∧ Hp w S O [(bp, .cells #[.slice a' (xs ++ num n).length c', .I 0, .bool true, .bool false] 136 (0, 0))] [⟨Sb, 5, .slice a' (xs ++ num n).length c', (xs ++ num n)⟩] [] w') := by
 have hten : (num n).length ≤ 10 := num_ten (by omega)
 refine uS1 Tryz.func76 ?_
 have H := H0
 refine uR 3 [.c [1, 0], .c [2]] ?_
 refine qG (sq 0 5) ?_
 refine uP 3 ?_
 refine uKS (len_spec (k := n) (by omega) ((H.lend (M1 := [(bp, .cells #[.slice a xs.length c, .I 0, .bool true, .bool false] 136 (0, 0))]) (W1 := [⟨Sb, 5, .slice a xs.length c, xs⟩])).pick [] rfl) (by first | omega | (simp only [List.length_append, List.length_nil]; omega))) ?_
 rintro _ _ ⟨d, e, rfl, H'⟩
 have H := H.back (M1 := [(bp, .cells #[.slice a xs.length c, .I 0, .bool true, .bool false] 136 (0, 0))]) (W1 := [⟨Sb, 5, .slice a xs.length c, xs⟩]) H'
 have H : Hp w S O [(bp, .cells #[.slice d (xs ++ num n).length e, .I 0, .bool true, .bool false] 136 (0, 0))] [⟨Sb, 5, .slice d (xs ++ num n).length e, (xs ++ num n)⟩] [] _ := H
 refine uF 1 ?_
 refine uR 6 [.c [3, 0, 1, 0], .b 0, .c [4]] ?_
 refine uL (α := Unit) (g := 76) (p := [3, 0, 1, 0, 0]) (fun _ => [(0, .P bp 0), (1, .slice ae n ke), (5, .I ((n : Nat) : Int)), (6, .slice none 0 0), (7, .I 0)]) (fun _ w' => Hp w S O [(bp, .cells #[.slice d (xs ++ num n).length e, .I 0, .bool true, .bool false] 136 (0, 0))] [⟨Sb, 5, .slice d (xs ++ num n).length e, (xs ++ num n)⟩] [] w' ∧ True) (fun _ => 0) (()) ⟨H, trivial⟩ ?_
 rintro _ _ ⟨H, _⟩ _
 refine uR 2 [.c [3, 0, 1, 0, 0, 0, 0], .c [3, 0, 1, 0, 0, 0, 1], .c [3, 0, 1, 0, 0, 1], .l [3, 0, 1, 0, 0], .b 0, .c [4]] ?_
 refine qG (sq 0 10) ?_
 refine uP 4 ?_
 refine uD 16 ((0 : Int) < ((n : Nat) : Int)) (fun f => ?_) (fun f => ?_)
 ·
  omega
 ·
  refine uF 6 ?_
  refine uR 4 [.c [5]] ?_
  refine qT (.slice none 0 0) Tryz.func76 ?_
  exact ⟨_, rfl, _, _, by first | rfl | trivial, H.pick [] rfl⟩
theorem pints_nil {S : Nat → Prop} {w : World} {O : List Nat} {bp : Nat} {xs : List (BitVec 8)} {a : Option Addr} {c : Nat} {ae : Option Addr} {n ke : Nat} (hn0 : n = 0) (H0 : Hp w S O [(bp, .cells #[.slice a xs.length c, .I 0, .bool true, .bool false] 136 (0, 0))] [⟨Sb, 5, .slice a xs.length c, xs⟩] [] w) (hby : xs.length + 10 ≤ 1099511627776) :
 Calls Tryz.prog 72 #[.P bp 0, .slice ae n ke] w (Ret fun v w' => ∃ (a' : Option Addr) (c' : Nat), (v = .slice none 0 0) ∧ Hp w S O [(bp, .cells #[.slice a' (xs ++ num n).length c', .I 0, .bool true, .bool false] 136 (0, 0))] [⟨Sb, 5, .slice a' (xs ++ num n).length c', (xs ++ num n)⟩] [] w') := by
 have hten : (num n).length ≤ 10 := num_ten (by omega)
 refine uS1 Tryz.func72 ?_
 have H := H0
 refine uR 3 [.c [1, 0], .c [2]] ?_
 refine qG (sq 0 5) ?_
 refine uP 3 ?_
 refine uKS (len_spec (k := n) (by omega) ((H.lend (M1 := [(bp, .cells #[.slice a xs.length c, .I 0, .bool true, .bool false] 136 (0, 0))]) (W1 := [⟨Sb, 5, .slice a xs.length c, xs⟩])).pick [] rfl) (by first | omega | (simp only [List.length_append, List.length_nil]; omega))) ?_
 rintro _ _ ⟨d, e, rfl, H'⟩
 have H := H.back (M1 := [(bp, .cells #[.slice a xs.length c, .I 0, .bool true, .bool false] 136 (0, 0))]) (W1 := [⟨Sb, 5, .slice a xs.length c, xs⟩]) H'
 have H : Hp w S O [(bp, .cells #[.slice d (xs ++ num n).length e, .I 0, .bool true, .bool false] 136 (0, 0))] [⟨Sb, 5, .slice d (xs ++ num n).length e, (xs ++ num n)⟩] [] _ := H
 refine uF 1 ?_
 refine uR 6 [.c [3, 0, 1, 0], .b 0, .c [4]] ?_
 refine uL (α := Unit) (g := 72) (p := [3, 0, 1, 0, 0]) (fun _ => [(0, .P bp 0), (1, .slice ae n ke), (5, .I ((n : Nat) : Int)), (6, .slice none 0 0), (7, .I 0)]) (fun _ w' => Hp w S O [(bp, .cells #[.slice d (xs ++ num n).length e, .I 0, .bool true, .bool false] 136 (0, 0))] [⟨Sb, 5, .slice d (xs ++ num n).length e, (xs ++ num n)⟩] [] w' ∧ True) (fun _ => 0) (()) ⟨H, trivial⟩ ?_
 rintro _ _ ⟨H, _⟩ _
 refine uR 2 [.c [3, 0, 1, 0, 0, 0, 0], .c [3, 0, 1, 0, 0, 0, 1], .c [3, 0, 1, 0, 0, 1], .l [3, 0, 1, 0, 0], .b 0, .c [4]] ?_
 refine qG (sq 0 10) ?_
 refine uP 4 ?_
 refine uD 16 ((0 : Int) < ((n : Nat) : Int)) (fun f => ?_) (fun f => ?_)
 ·
  omega
 ·
  refine uF 6 ?_
  refine uR 4 [.c [5]] ?_
  refine qT (.slice none 0 0) Tryz.func72 ?_
  exact ⟨_, rfl, _, _, by first | rfl | trivial, H.pick [] rfl⟩
theorem pmap_nil {S : Nat → Prop} {w : World} {O : List Nat} {bp : Nat} {xs : List (BitVec 8)} {a : Option Addr} {c : Nat}  (H0 : Hp w S O [(bp, .cells #[.slice a xs.length c, .I 0, .bool true, .bool false] 136 (0, 0))] [⟨Sb, 5, .slice a xs.length c, xs⟩] [] w) (hby : xs.length + 20 ≤ 1099511627776) :
 Calls Tryz.prog 71 #[.P bp 0, .agg #[.int .u64 0, .slice none 0 0]] w (Ret fun v w' => ∃ (a' : Option Addr) (c' : Nat), (v = .agg #[.int .u64 0, .slice none 0 0]) ∧ Hp w S O [(bp, .cells #[.slice a' ((xs ++ (num 0 ++ num 0)).length) c', .I 0, .bool true, .bool false] 136 (0, 0))] [⟨Sb, 5, .slice a' ((xs ++ (num 0 ++ num 0)).length) c', (xs ++ (num 0 ++ num 0))⟩] [] w') := by
 have hten : (num 0).length ≤ 10 := num_ten (by omega)
 have n : (num (0 : Int).toNat).length ≤ 10 := hten
 refine uS1 Tryz.func71 ?_
 have H := H0
 refine uR 1 [.c [0], .c [1]] ?_
 refine qG (sq 0 2) ?_
 refine uC #[.int .u64 0, .slice none 0 0] 70 H ?_
 intro i _ H
 refine uC #[.int .u64 0, .slice none 0 0] 70 H ?_
 intro j _ H
 refine uF 0 ?_
 refine uR 1 [.c [1, 0], .c [2]] ?_
 refine qG (sq 0 6) ?_
 refine uP 2 ?_
 refine uV 22 0 (H.cells 1 rfl) ?_
 have H := H.frontM 2 (M' := [(bp, .cells #[.slice a xs.length c, .I 0, .bool true, .bool false] 136 (0, 0)), (j, .cells #[.int .u64 0, .slice none 0 0] 70 (0, 0)), (i, .cells #[.int .u64 0, .slice none 0 0] 70 (0, 0))]) rfl
 refine uKS (u64_spec (x := 0) (by omega) ((H.lend (M1 := [(bp, .cells #[.slice a xs.length c, .I 0, .bool true, .bool false] 136 (0, 0))]) (W1 := [⟨Sb, 5, .slice a xs.length c, xs⟩])).pick [] rfl) (by first | omega | (simp only [List.length_append, List.length_nil]; omega))) ?_
 rintro _ _ ⟨f, h, rfl, H'⟩
 have H := H.back (M1 := [(bp, .cells #[.slice a xs.length c, .I 0, .bool true, .bool false] 136 (0, 0))]) (W1 := [⟨Sb, 5, .slice a xs.length c, xs⟩]) H'
 have H : Hp w S O [(bp, .cells #[.slice f ((xs ++ num (0 : Int).toNat).length) h, .I 0, .bool true, .bool false] 136 (0, 0)), _, _] [⟨Sb, 5, .slice f ((xs ++ num (0 : Int).toNat).length) h, (xs ++ num (0 : Int).toNat)⟩] [] _ := H
 refine uP 1 ?_
 refine uW 22 0 #[.int .u64 0, .slice none 0 0] H 2 rfl ?_
 intro _ H
 refine uF 0 ?_
 refine uR 1 [.c [2, 0], .c [3]] ?_
 refine qG (sq 0 6) ?_
 refine uP 2 ?_
 refine uV 68 1 (H.cells 2 rfl) ?_
 refine uP 1 ?_
 refine uKS (len_spec (k := 0) (by omega) ((H.lend (M1 := [(bp, .cells #[.slice f ((xs ++ num (0 : Int).toNat).length) h, .I 0, .bool true, .bool false] 136 (0, 0))]) (W1 := [⟨Sb, 5, .slice f ((xs ++ num (0 : Int).toNat).length) h, (xs ++ num (0 : Int).toNat)⟩])).pick [] rfl) (by first | omega | (simp only [List.length_append, List.length_nil]; omega))) ?_
 rintro _ _ ⟨d, e, rfl, H'⟩
 have H := H.back (M1 := [(bp, .cells #[.slice f ((xs ++ num (0 : Int).toNat).length) h, .I 0, .bool true, .bool false] 136 (0, 0))]) (W1 := [⟨Sb, 5, .slice f ((xs ++ num (0 : Int).toNat).length) h, (xs ++ num (0 : Int).toNat)⟩]) H'
 have H : Hp w S O [(bp, .cells #[.slice d (((xs ++ num (0 : Int).toNat) ++ num 0).length) e, .I 0, .bool true, .bool false] 136 (0, 0)), _, _] [⟨Sb, 5, .slice d (((xs ++ num (0 : Int).toNat) ++ num 0).length) e, ((xs ++ num (0 : Int).toNat) ++ num 0)⟩] [] _ := H
 refine uF 1 ?_
 refine qR 6 [.c [4, 0, 1, 0], .b 0, .c [5]] [(0, .P bp 0), (3, .P i 0), (4, .P j 0), (5, .I ((0 : Nat) : Int)), (6, .slice none 0 0), (7, .I 0)] ?_
 refine uL (α := Unit) (g := 71) (p := [4, 0, 1, 0, 0]) (fun _ => [(0, .P bp 0), (3, .P i 0), (4, .P j 0), (5, .I ((0 : Nat) : Int)), (6, .slice none 0 0), (7, .I 0)]) (fun _ w' => Hp w S O [(bp, .cells #[.slice d (((xs ++ num (0 : Int).toNat) ++ num 0).length) e, .I 0, .bool true, .bool false] 136 (0, 0)), (j, .cells #[.int .u64 0, .slice none 0 0] 70 (0, 0)), (i, .cells #[.int .u64 0, .slice none 0 0] 70 (0, 0))] [⟨Sb, 5, .slice d (((xs ++ num (0 : Int).toNat) ++ num 0).length) e, ((xs ++ num (0 : Int).toNat) ++ num 0)⟩] [] w' ∧ True) (fun _ => 0) (()) ⟨H, trivial⟩ ?_
 rintro _ _ ⟨H, _⟩ _
 refine uR 2 [.c [4, 0, 1, 0, 0, 0, 0], .c [4, 0, 1, 0, 0, 0, 1], .c [4, 0, 1, 0, 0, 1], .l [4, 0, 1, 0, 0], .b 0, .c [5]] ?_
 refine qG (sq 0 10) ?_
 refine uP 4 ?_
 refine uD 22 ((0 : Int) < ((0 : Nat) : Int)) (fun m => ?_) (fun m => ?_)
 ·
  omega
 ·
  refine uF 6 ?_
  refine uR 3 [.c [5, 0], .c [6]] ?_
  refine qG (sq 0 3) ?_
  refine uP 2 ?_
  refine uW 68 1 #[.int .u64 0, .slice none 0 0] H 2 rfl ?_
  intro _ H
  refine uF 0 ?_
  refine uR 1 [.c [6, 0], .c [7]] ?_
  refine qG (sq 0 2) ?_
  refine uV 70 0 (H.cells 2 rfl) ?_
  refine uW 70 0 #[.int .u64 0, .slice none 0 0] H 1 rfl ?_
  intro _ H
  refine uF 0 ?_
  refine qRB (.agg #[.int .u64 0, .slice none 0 0]) Tryz.func71 (v1 (.cell 4 70) (vC (H.cells 1 rfl))) ?_
  have hcf : ((xs ++ num (0 : Int).toNat) ++ num 0) = xs ++ (num 0 ++ num 0) := by simp [Int.toNat_zero]
  rw [hcf] at H
  have H := H.drop (M' := [(bp, .cells #[.slice d ((xs ++ (num 0 ++ num 0)).length) e, .I 0, .bool true, .bool false] 136 (0, 0))]) (W' := [⟨Sb, 5, .slice d ((xs ++ (num 0 ++ num 0)).length) e, xs ++ (num 0 ++ num 0)⟩]) (by repeat (first | exact List.Sublist.refl _ | apply List.Sublist.cons_cons | apply List.Sublist.cons)) (by repeat (first | exact List.Sublist.refl _ | apply List.Sublist.cons_cons | apply List.Sublist.cons))
  exact ⟨_, rfl, _, _, by first | rfl | trivial, H.pick [] rfl⟩
theorem pobjs_spec {S : Nat → Prop} {w : World} {O : List Nat} {bp : Nat} {xs : List (BitVec 8)} {a : Option Addr} {c : Nat} {D : ObjD} {al : Option Addr} {cl : Nat} (hD : ObjOk D) (H0 : Hp w S O [(bp, .cells #[.slice a xs.length c, .I 0, .bool true, .bool false] 136 (0, 0))] [⟨Sb, 5, .slice a xs.length c, xs⟩] [Rp (Shape.slice objS) [.slice al 1 cl] [D]] w) (hby : xs.length + (D.key.size + 10 * D.nodes.length + 200) ≤ 1099511627776) :
 Calls Tryz.prog 73 #[.P bp 0, .slice al 1 cl] w (Ret fun v w' => ∃ (a' : Option Addr) (c' : Nat), (∃ (ar : Option Addr) (cr : Nat), v = .slice ar 1 cr) ∧ Hp w S O [(bp, .cells #[.slice a' ((xs ++ (num 1 ++ objE D)).length) c', .I 0, .bool true, .bool false] 136 (0, 0))] [⟨Sb, 5, .slice a' ((xs ++ (num 1 ++ objE D)).length) c', (xs ++ (num 1 ++ objE D))⟩] [] w') := by
 obtain ⟨_, _, _, _, _, _, _⟩ := id hD
 have hkey : D.key.size ≤ maxLen := by unfold maxLen; omega
 have T : (num D.version.toNat).length ≤ 10 := num_ten (by omega)
 have U : (intE D.size).length ≤ 10 := intE_ten (by omega)
 have V : (num D.sum.toNat).length ≤ 10 := num_ten (by have := D.sum.isLt; omega)
 have W : (intE D.group).length ≤ 10 := intE_ten (by omega)
 have X : (num D.epoch.toNat).length ≤ 10 := num_ten (by omega)
 have Y : (num D.nodes.length).length ≤ 10 := num_ten (by omega)
 have Z : (num D.key.size).length ≤ 10 := num_ten (by omega)
 have N : (textE D.key).length ≤ D.key.size + 10 := by unfold textE bytesE; rw [List.length_append, bytesOf_len]; omega
 have hol := objE_len hD
 have hten : (num 1).length ≤ 10 := num_ten (by omega)
 refine uS1 Tryz.func73 ?_
 have H := H0
 refine uR 3 [.c [1, 0], .c [2]] ?_
 refine qG (sq 0 5) ?_
 refine uP 3 ?_
 refine uKS (len_spec (k := 1) (by omega) ((H.lend (M1 := [(bp, .cells #[.slice a xs.length c, .I 0, .bool true, .bool false] 136 (0, 0))]) (W1 := [⟨Sb, 5, .slice a xs.length c, xs⟩])).pick [] rfl) (by first | omega | (simp only [List.length_append, List.length_nil]; omega))) ?_
 rintro _ _ ⟨B, C, rfl, H'⟩
 have H := H.back (M1 := [(bp, .cells #[.slice a xs.length c, .I 0, .bool true, .bool false] 136 (0, 0))]) (W1 := [⟨Sb, 5, .slice a xs.length c, xs⟩]) H'
 have H : Hp w S O [(bp, .cells #[.slice B (xs ++ num 1).length C, .I 0, .bool true, .bool false] 136 (0, 0))] [⟨Sb, 5, .slice B (xs ++ num 1).length C, (xs ++ num 1)⟩] [_] _ := H
 refine uF 1 ?_
 refine uR 6 [.c [3, 0, 1, 0], .b 0, .c [4]] ?_
 have H := H.ownNil (Shape.junk 7 (by decide)) 26
 refine uL (α := Nat × List (BitVec 8) × Option Addr × Nat × Option Addr × Nat) (g := 73) (p := [3, 0, 1, 0, 0]) (fun (i, ys, e, f, ao, co) => [(0, .P bp 0), (1, .slice al 1 cl), (5, .I ((1 : Nat) : Int)), (6, .slice ao ((List.replicate i ()).length) co), (7, .I i)]) (fun (i, ys, e, f, ao, co) w' => Hp w S O [(bp, .cells #[.slice e ys.length f, .I 0, .bool true, .bool false] 136 (0, 0))] [⟨Shape.junk 7 (by decide), 26, .slice ao ((List.replicate i ()).length) co, List.replicate i ()⟩, ⟨Sb, 5, .slice e ys.length f, ys⟩] [Rp (Shape.slice objS) [.slice al 1 cl] [D]] w' ∧ i ≤ 1 ∧ ys = xs ++ num 1 ++ (if i = 0 then [] else objE D) ∧ (¬ i = 0 ∨ ys.length ≤ xs.length + 10)) (fun (i, ys, e, f, ao, co) => 1 - i) (0, (xs ++ num 1), B, C, none, 0) ⟨H, by omega, by rw [if_pos rfl, List.append_nil], .inr (by simp only [List.length_append]; omega)⟩ ?_
 rintro ⟨i, ys, e, f, ao, co⟩ _ ⟨H, t⟩ u
 have hil : (List.replicate i ()).length = i := List.length_replicate
 refine uR 2 [.c [3, 0, 1, 0, 0, 0, 0], .c [3, 0, 1, 0, 0, 0, 1], .c [3, 0, 1, 0, 0, 1], .l [3, 0, 1, 0, 0], .b 0, .c [4]] ?_
 refine qG (sq 0 10) ?_
 refine uP 4 ?_
 refine uD 16 (((i : Int) : Int) < ((1 : Nat) : Int)) (fun Q => ?_) (fun Q => ?_)
 ·
  refine uP 3 ?_
  refine uV 4 3 (H.cells 0 rfl) ?_
  refine uF 2 ?_
  refine uR 5 [.c [3, 0, 1, 0, 0, 1, 0, 0, 0], .c [3, 0, 1, 0, 0, 1, 0, 0, 1], .b 1, .c [3, 0, 1, 0, 0, 2], .l [3, 0, 1, 0, 0], .b 0, .c [4]] ?_
  refine qG (sq 0 3) ?_
  refine uP 1 ?_
  refine uC #[.string (⟨#[]⟩), .int .u64 0, .I 0, .int .u32 0, .I 0, .int .u64 0, .slice none 0 0] 26 H ?_
  intro G _ H
  refine uW 26 0 #[.string (⟨#[]⟩), .int .u64 0, .I 0, .int .u32 0, .I 0, .int .u64 0, .slice none 0 0] H 0 rfl ?_
  intro _ H
  refine uF 0 ?_
  refine uR 2 [.c [3, 0, 1, 0, 0, 1, 0, 0, 1, 0, 0], .c [3, 0, 1, 0, 0, 1, 0, 0, 1, 0, 1], .c [3, 0, 1, 0, 0, 1, 0, 0, 2], .b 1, .c [3, 0, 1, 0, 0, 2], .l [3, 0, 1, 0, 0], .b 0, .c [4]] ?_
  refine qG (sq 0 4) ?_
  refine uP 3 ?_
  refine uV 4 2 (H.cells 1 rfl) ?_
  refine uF 0 ?_
  refine qR 1 [.c [3, 0, 1, 0, 0, 1, 0, 0, 1, 0, 1, 0], .c [3, 0, 1, 0, 0, 1, 0, 0, 2], .b 1, .c [3, 0, 1, 0, 0, 2], .l [3, 0, 1, 0, 0], .b 0, .c [4]] [(0, .P bp 0), (1, .slice al 1 cl), (5, .I ((1 : Nat) : Int)), (6, .slice ao ((List.replicate i ()).length) co), (7, .I i), (8, .P G 0)] ?_
  refine qG (sq 0 5) ?_
  refine uP 2 ?_
  have R : i < [D].length := by show i < 1; omega
  refine uX 67 (i : Int) H 0 rfl i (by omega) (by (have hi0 : i = 0 := by omega); subst hi0; rfl) ?_
  intro J K _ E H
  obtain ⟨m, n, rfl, _, _, _, _, _, F⟩ := obj_open E
  have H := H.addR F
  refine uV 26 0 (H.fc 1 rfl) ?_
  refine uW 26 0 (objV D m n).toArray H 0 rfl ?_
  intro _ H
  refine uF 0 ?_
  refine qG (sq 0 7) ?_
  refine uP 2 ?_
  refine uV 26 0 (H.cells 0 rfl) ?_
  have H := H.frontM 1 (M' := [(bp, .cells #[.slice e ys.length f, .I 0, .bool true, .bool false] 136 (0, 0)), (G, .cells (objV D m n).toArray 26 (0, 0))]) rfl
  have H := H.frontW 1 (W' := [⟨Sb, 5, .slice e ys.length f, ys⟩, ⟨Shape.junk 7 (by decide), 26, .slice ao ((List.replicate i ()).length) co, List.replicate i ()⟩]) rfl
  refine uKS (pobj_spec (D := D) (by assumption) ((H.lend (M1 := [(bp, .cells #[.slice e ys.length f, .I 0, .bool true, .bool false] 136 (0, 0))]) (W1 := [⟨Sb, 5, .slice e ys.length f, ys⟩])).pick [0] rfl) (by first | omega | (simp only [List.length_append, List.length_nil]; omega))) ?_
  rintro _ _ ⟨h, j, ⟨x, y, z, rfl⟩, H'⟩
  have H := H.back (M1 := [(bp, .cells #[.slice e ys.length f, .I 0, .bool true, .bool false] 136 (0, 0))]) (W1 := [⟨Sb, 5, .slice e ys.length f, ys⟩]) H'
  have H : Hp w S O [(bp, .cells #[.slice h (ys ++ objE D).length j, .I 0, .bool true, .bool false] 136 (0, 0)), _] [⟨Sb, 5, .slice h (ys ++ objE D).length j, (ys ++ objE D)⟩, _] [_, Fc J K (objV D m n), _] _ := H
  refine RW.new (κ := .seq) (d := some 38) (r := (sq 5 7)) (o := .cells #[.string x, .int .u64 D.version, .I D.size, .int .u32 ((D.sum.toNat : Nat) : Int), .I D.group, .int .u64 D.epoch, .slice y D.nodes.length z] 26 (0, 0)) (v := fun b => .slice (some ⟨b, 0, none⟩) 1 1) (fun b => by as_aux_lemma => kernel_rfl) (nofun) H ?_
  intro L _ H
  have H := H.freeze 0 rfl (Shape.junk 7 (by decide)) [()] 1 (by simp [maxLen]) (Nat.le_refl _) (EsP.cons (c := [.string x, .int .u64 D.version, .I D.size, .int .u32 ((D.sum.toNat : Nat) : Int), .I D.group, .int .u64 D.epoch, .slice y D.nodes.length z]) ⟨rfl, rfl⟩ EsP.nil)
  have H : Hp w S O [_, _] [_, _] [Rp (Shape.slice (Shape.junk 7 (by decide))) [.slice (some ⟨L, 0, none⟩) 1 1] [()], _, _, _] _ := H
  refine uA 67 67 80 (List.replicate (i + 1) ()) H 1 rfl 0 rfl (by rw [List.replicate_succ']) (by rw [List.length_replicate]; omega) ?_
  intro q s _ H _
  have H : Hp w S O [_, _] [_, ⟨Shape.junk 7 (by decide), 26, .slice q ((List.replicate (i + 1) ()).length) s, List.replicate (i + 1) ()⟩] [_, _, _, _] _ := H
  refine uF 1 ?_
  refine uR 1 [.c [3, 0, 1, 0, 0, 2], .l [3, 0, 1, 0, 0], .b 0, .c [4]] ?_
  refine qG (sq 0 3) ?_
  refine uP 1 ?_
  refine uI ((i : Int) + 1) ?_
  refine qF 1 [(0, .P bp 0), (1, .slice al 1 cl), (5, .I ((1 : Nat) : Int)), (6, .slice q ((List.replicate (i + 1) ()).length) s), (7, .I ((i : Int) + 1))] ?_
  have H := H.pick [3] rfl
  have H := H.frontW 1 (W' := [⟨Shape.junk 7 (by decide), 26, .slice q ((List.replicate (i + 1) ()).length) s, List.replicate (i + 1) ()⟩, ⟨Sb, 5, .slice h (ys ++ objE D).length j, (ys ++ objE D)⟩]) rfl
  have H := H.drop (M' := [(bp, .cells #[.slice h (ys ++ objE D).length j, .I 0, .bool true, .bool false] 136 (0, 0))]) (W' := [⟨Shape.junk 7 (by decide), 26, .slice q ((List.replicate (i + 1) ()).length) s, List.replicate (i + 1) ()⟩, ⟨Sb, 5, .slice h (ys ++ objE D).length j, (ys ++ objE D)⟩]) (by repeat (first | exact List.Sublist.refl _ | apply List.Sublist.cons_cons | apply List.Sublist.cons)) (by repeat (first | exact List.Sublist.refl _ | apply List.Sublist.cons_cons | apply List.Sublist.cons))
  exact WK.back (u (i + 1, (ys ++ objE D), h, j, q, s) _ ⟨H, by omega, by (have hi0 : i = 0 := by omega); subst hi0; rw [t.2.1]; simp, by omega⟩ (by first | omega | (simp only []; omega))) (by rfl)
 ·
  refine uF 6 ?_
  refine uR 4 [.c [5]] ?_
  refine qT (.slice ao ((List.replicate i ()).length) co) Tryz.func73 ?_
  have H := H.frontW 1 (W' := [⟨Sb, 5, .slice e ys.length f, ys⟩, ⟨Shape.junk 7 (by decide), 26, .slice ao ((List.replicate i ()).length) co, List.replicate i ()⟩]) rfl
  have M : i = 1 := by omega
  subst M
  obtain ⟨-, A, -⟩ := t
  rw [if_neg (by omega), List.append_assoc] at A
  subst A
  have H := H.drop (M' := [_]) (W' := [_]) (List.Sublist.refl _) (List.Sublist.cons_cons _ (List.nil_sublist _))
  exact ⟨_, rfl, _, _, ⟨_, _, rfl⟩, H.pick [] rfl⟩
def metaE (D : ObjD) : List (BitVec 8) := intE 0 ++ (intE 0 ++ (intE 0 ++ ((num 0 ++ num 0) ++ ((num 0 ++ num 0) ++ (num 0 ++ ((num 1 ++ objE D) ++ (num 0 ++ (num 0 ++ (num 0 ++ (num 0 ++ (num (0 : Int).toNat)))))))))))
theorem pmeta_spec {S : Nat → Prop} {w : World} {O : List Nat} {bp : Nat} {xs : List (BitVec 8)} {a : Option Addr} {c : Nat} {D : ObjD} {al : Option Addr} {cl : Nat} (hD : ObjOk D) (H0 : Hp w S O [(bp, .cells #[.slice a xs.length c, .I 0, .bool true, .bool false] 136 (0, 0))] [⟨Sb, 5, .slice a xs.length c, xs⟩] [Rp (Shape.slice objS) [.slice al 1 cl] [D]] w) (hby : xs.length + (D.key.size + 10 * D.nodes.length + 400) ≤ 1099511627776) :
 Calls Tryz.prog 59 #[.P bp 0, .agg #[.I 0, .I 0, .I 0, .int .u64 0, .slice none 0 0, .int .u64 0, .slice none 0 0, .slice none 0 0, .slice al 1 cl, .slice none 0 0, .slice none 0 0, .slice none 0 0, .slice none 0 0, .int .u64 0]] w (Ret fun v w' => ∃ (a' : Option Addr) (c' : Nat), (True) ∧ Hp w S O [(bp, .cells #[.slice a' (xs ++ metaE D).length c', .I 0, .bool true, .bool false] 136 (0, 0))] [⟨Sb, 5, .slice a' (xs ++ metaE D).length c', (xs ++ metaE D)⟩] [] w') := by
 have hol := objE_len hD
 have ht0 : (num 0).length ≤ 10 := num_ten (by omega)
 have ht1 : (num 1).length ≤ 10 := num_ten (by omega)
 have ht2 : (intE 0).length ≤ 10 := intE_ten (by omega)
 have ht3 : (num (0 : Int).toNat).length ≤ 10 := ht0
 have ht4 : (num 0 ++ num 0).length ≤ 20 := by rw [List.length_append]; omega
 have ht5 : (num 1 ++ objE D).length ≤ D.key.size + 10 * D.nodes.length + 100 := by rw [List.length_append]; omega
 refine uS1 Tryz.func59 ?_
 have H := H0
 refine uR 1 [.c [0], .c [1]] ?_
 refine qG (sq 0 2) ?_
 refine uC #[.I 0, .I 0, .I 0, .int .u64 0, .slice none 0 0, .int .u64 0, .slice none 0 0, .slice none 0 0, .slice al 1 cl, .slice none 0 0, .slice none 0 0, .slice none 0 0, .slice none 0 0, .int .u64 0] 75 H ?_
 intro b1 w2 H
 refine uC #[.I 0, .I 0, .I 0, .int .u64 0, .slice none 0 0, .int .u64 0, .slice none 0 0, .slice none 0 0, .slice none 0 0, .slice none 0 0, .slice none 0 0, .slice none 0 0, .slice none 0 0, .int .u64 0] 75 H ?_
 intro b3 w4 H
 refine uF 0 ?_
 refine uR 1 [.c [1, 0], .c [2]] ?_
 refine qG (sq 0 6) ?_
 refine uP 2 ?_
 refine uV 3 0 (H.cells 1 rfl) ?_
 have H := H.frontM 2 (M' := [(bp, .cells #[.slice a xs.length c, .I 0, .bool true, .bool false] 136 (0, 0)), (b3, .cells #[.I 0, .I 0, .I 0, .int .u64 0, .slice none 0 0, .int .u64 0, .slice none 0 0, .slice none 0 0, .slice none 0 0, .slice none 0 0, .slice none 0 0, .slice none 0 0, .slice none 0 0, .int .u64 0] 75 (0, 0)), (b1, .cells #[.I 0, .I 0, .I 0, .int .u64 0, .slice none 0 0, .int .u64 0, .slice none 0 0, .slice none 0 0, .slice al 1 cl, .slice none 0 0, .slice none 0 0, .slice none 0 0, .slice none 0 0, .int .u64 0] 75 (0, 0))]) rfl
 refine uKS (int_spec (x := 0) (by omega) ((H.lend (M1 := [(bp, .cells #[.slice a xs.length c, .I 0, .bool true, .bool false] 136 (0, 0))]) (W1 := [⟨Sb, 5, .slice a xs.length c, xs⟩])).pick [] rfl) (by first | omega | (simp only [List.length_append, List.length_nil]; omega))) ?_
 rintro _ w5 ⟨a7, c8, rfl, H'⟩
 have H := H.back (M1 := [(bp, .cells #[.slice a xs.length c, .I 0, .bool true, .bool false] 136 (0, 0))]) (W1 := [⟨Sb, 5, .slice a xs.length c, xs⟩]) H'
 have H : Hp w S O [(bp, .cells #[.slice a7 (xs ++ intE 0).length c8, .I 0, .bool true, .bool false] 136 (0, 0)), _, _] [⟨Sb, 5, .slice a7 (xs ++ intE 0).length c8, (xs ++ intE 0)⟩] [_] _ := H
 obtain ⟨z10, hz10⟩ : ∃ z, z = (xs ++ intE 0) := ⟨_, rfl⟩
 rw [← hz10] at H
 have hlz10 := congrArg List.length hz10
 rw [List.length_append] at hlz10
 refine uP 1 ?_
 refine uW 3 0 #[.I 0, .I 0, .I 0, .int .u64 0, .slice none 0 0, .int .u64 0, .slice none 0 0, .slice none 0 0, .slice al 1 cl, .slice none 0 0, .slice none 0 0, .slice none 0 0, .slice none 0 0, .int .u64 0] H 2 rfl ?_
 intro w11 H
 refine uF 0 ?_
 refine uR 1 [.c [2, 0], .c [3]] ?_
 refine qG (sq 0 6) ?_
 refine uP 2 ?_
 refine uV 3 1 (H.cells 2 rfl) ?_
 refine uKS (int_spec (x := 0) (by omega) ((H.lend (M1 := [(bp, .cells #[.slice a7 z10.length c8, .I 0, .bool true, .bool false] 136 (0, 0))]) (W1 := [⟨Sb, 5, .slice a7 z10.length c8, z10⟩])).pick [] rfl) (by first | omega | (simp only [List.length_append, List.length_nil]; omega))) ?_
 rintro _ w12 ⟨a14, c15, rfl, H'⟩
 have H := H.back (M1 := [(bp, .cells #[.slice a7 z10.length c8, .I 0, .bool true, .bool false] 136 (0, 0))]) (W1 := [⟨Sb, 5, .slice a7 z10.length c8, z10⟩]) H'
 have H : Hp w S O [(bp, .cells #[.slice a14 (z10 ++ intE 0).length c15, .I 0, .bool true, .bool false] 136 (0, 0)), _, _] [⟨Sb, 5, .slice a14 (z10 ++ intE 0).length c15, (z10 ++ intE 0)⟩] [_] _ := H
 obtain ⟨z17, hz17⟩ : ∃ z, z = (z10 ++ intE 0) := ⟨_, rfl⟩
 rw [← hz17] at H
 have hlz17 := congrArg List.length hz17
 rw [List.length_append] at hlz17
 refine uP 1 ?_
 refine uW 3 1 #[.I 0, .I 0, .I 0, .int .u64 0, .slice none 0 0, .int .u64 0, .slice none 0 0, .slice none 0 0, .slice al 1 cl, .slice none 0 0, .slice none 0 0, .slice none 0 0, .slice none 0 0, .int .u64 0] H 2 rfl ?_
 intro w18 H
 refine uF 0 ?_
 refine qR 1 [.c [3, 0], .c [4]] [(0, .P bp 0), (3, .P b1 0), (4, .P b3 0)] ?_
 refine qG (sq 0 6) ?_
 refine uP 2 ?_
 refine uV 3 2 (H.cells 2 rfl) ?_
 refine uKS (int_spec (x := 0) (by omega) ((H.lend (M1 := [(bp, .cells #[.slice a14 z17.length c15, .I 0, .bool true, .bool false] 136 (0, 0))]) (W1 := [⟨Sb, 5, .slice a14 z17.length c15, z17⟩])).pick [] rfl) (by first | omega | (simp only [List.length_append, List.length_nil]; omega))) ?_
 rintro _ w19 ⟨a21, c22, rfl, H'⟩
 have H := H.back (M1 := [(bp, .cells #[.slice a14 z17.length c15, .I 0, .bool true, .bool false] 136 (0, 0))]) (W1 := [⟨Sb, 5, .slice a14 z17.length c15, z17⟩]) H'
 have H : Hp w S O [(bp, .cells #[.slice a21 (z17 ++ intE 0).length c22, .I 0, .bool true, .bool false] 136 (0, 0)), _, _] [⟨Sb, 5, .slice a21 (z17 ++ intE 0).length c22, (z17 ++ intE 0)⟩] [_] _ := H
 obtain ⟨z24, hz24⟩ : ∃ z, z = (z17 ++ intE 0) := ⟨_, rfl⟩
 rw [← hz24] at H
 have hlz24 := congrArg List.length hz24
 rw [List.length_append] at hlz24
 refine uP 1 ?_
 refine uW 3 2 #[.I 0, .I 0, .I 0, .int .u64 0, .slice none 0 0, .int .u64 0, .slice none 0 0, .slice none 0 0, .slice al 1 cl, .slice none 0 0, .slice none 0 0, .slice none 0 0, .slice none 0 0, .int .u64 0] H 2 rfl ?_
 intro w25 H
 refine uF 0 ?_
 refine uR 1 [.c [4, 0], .c [5]] ?_
 refine qG (sq 0 6) ?_
 refine uP 2 ?_
 refine uV 70 3 (H.cells 2 rfl) ?_
 refine uKS (pmap_nil  ((H.lend (M1 := [(bp, .cells #[.slice a21 z24.length c22, .I 0, .bool true, .bool false] 136 (0, 0))]) (W1 := [⟨Sb, 5, .slice a21 z24.length c22, z24⟩])).pick [] rfl) (by first | omega | (simp only [List.length_append, List.length_nil]; omega))) ?_
 rintro _ w26 ⟨a28, c29, rfl, H'⟩
 have H := H.back (M1 := [(bp, .cells #[.slice a21 z24.length c22, .I 0, .bool true, .bool false] 136 (0, 0))]) (W1 := [⟨Sb, 5, .slice a21 z24.length c22, z24⟩]) H'
 have H : Hp w S O [(bp, .cells #[.slice a28 ((z24 ++ (num 0 ++ num 0)).length) c29, .I 0, .bool true, .bool false] 136 (0, 0)), _, _] [⟨Sb, 5, .slice a28 ((z24 ++ (num 0 ++ num 0)).length) c29, (z24 ++ (num 0 ++ num 0))⟩] [_] _ := H
 obtain ⟨z31, hz31⟩ : ∃ z, z = (z24 ++ (num 0 ++ num 0)) := ⟨_, rfl⟩
 rw [← hz31] at H
 have hlz31 := congrArg List.length hz31
 rw [List.length_append] at hlz31
 refine uP 1 ?_
 refine uW 70 3 #[.I 0, .I 0, .I 0, .int .u64 0, .slice none 0 0, .int .u64 0, .slice none 0 0, .slice none 0 0, .slice al 1 cl, .slice none 0 0, .slice none 0 0, .slice none 0 0, .slice none 0 0, .int .u64 0] H 2 rfl ?_
 intro w32 H
 refine uF 0 ?_
 refine uR 1 [.c [5, 0], .c [6]] ?_
 refine qG (sq 0 6) ?_
 refine uP 2 ?_
 refine uV 70 5 (H.cells 2 rfl) ?_
 refine uKS (pmap_nil  ((H.lend (M1 := [(bp, .cells #[.slice a28 z31.length c29, .I 0, .bool true, .bool false] 136 (0, 0))]) (W1 := [⟨Sb, 5, .slice a28 z31.length c29, z31⟩])).pick [] rfl) (by first | omega | (simp only [List.length_append, List.length_nil]; omega))) ?_
 rintro _ w33 ⟨a35, c36, rfl, H'⟩
 have H := H.back (M1 := [(bp, .cells #[.slice a28 z31.length c29, .I 0, .bool true, .bool false] 136 (0, 0))]) (W1 := [⟨Sb, 5, .slice a28 z31.length c29, z31⟩]) H'
 have H : Hp w S O [(bp, .cells #[.slice a35 ((z31 ++ (num 0 ++ num 0)).length) c36, .I 0, .bool true, .bool false] 136 (0, 0)), _, _] [⟨Sb, 5, .slice a35 ((z31 ++ (num 0 ++ num 0)).length) c36, (z31 ++ (num 0 ++ num 0))⟩] [_] _ := H
 obtain ⟨z38, hz38⟩ : ∃ z, z = (z31 ++ (num 0 ++ num 0)) := ⟨_, rfl⟩
 rw [← hz38] at H
 have hlz38 := congrArg List.length hz38
 rw [List.length_append] at hlz38
 refine uP 1 ?_
 refine uW 70 5 #[.I 0, .I 0, .I 0, .int .u64 0, .slice none 0 0, .int .u64 0, .slice none 0 0, .slice none 0 0, .slice al 1 cl, .slice none 0 0, .slice none 0 0, .slice none 0 0, .slice none 0 0, .int .u64 0] H 2 rfl ?_
 intro w39 H
 refine qF 0 [(0, .P bp 0), (3, .P b1 0), (4, .P b3 0)] ?_
 refine uR 1 [.c [6, 0], .c [7]] ?_
 refine qG (sq 0 6) ?_
 refine uP 2 ?_
 refine uV 24 7 (H.cells 2 rfl) ?_
 refine RW.callS (d := some 33) (r := (sq 4 6)) (g := 72) (args := #[.P bp 0, .slice none 0 0]) (by as_aux_lemma => kernel_rfl) (pints_nil (by omega) ((H.lend (M1 := [(bp, .cells #[.slice a35 z38.length c36, .I 0, .bool true, .bool false] 136 (0, 0))]) (W1 := [⟨Sb, 5, .slice a35 z38.length c36, z38⟩])).pick [] rfl) (by first | omega | (simp only [List.length_append, List.length_nil]; omega))) ?_
 rintro _ w40 ⟨a42, c43, rfl, H'⟩
 have H := H.back (M1 := [(bp, .cells #[.slice a35 z38.length c36, .I 0, .bool true, .bool false] 136 (0, 0))]) (W1 := [⟨Sb, 5, .slice a35 z38.length c36, z38⟩]) H'
 have H : Hp w S O [(bp, .cells #[.slice a42 (z38 ++ num 0).length c43, .I 0, .bool true, .bool false] 136 (0, 0)), _, _] [⟨Sb, 5, .slice a42 (z38 ++ num 0).length c43, (z38 ++ num 0)⟩] [_] _ := H
 obtain ⟨z45, hz45⟩ : ∃ z, z = (z38 ++ num 0) := ⟨_, rfl⟩
 rw [← hz45] at H
 have hlz45 := congrArg List.length hz45
 rw [List.length_append] at hlz45
 refine uP 1 ?_
 refine uW 24 7 #[.I 0, .I 0, .I 0, .int .u64 0, .slice none 0 0, .int .u64 0, .slice none 0 0, .slice none 0 0, .slice al 1 cl, .slice none 0 0, .slice none 0 0, .slice none 0 0, .slice none 0 0, .int .u64 0] H 2 rfl ?_
 intro w46 H
 refine uF 0 ?_
 refine uR 1 [.c [7, 0], .c [8]] ?_
 refine qG (sq 0 6) ?_
 refine uP 2 ?_
 refine uV 67 8 (H.cells 2 rfl) ?_
 refine uKS (pobjs_spec (D := D) (by assumption) ((H.lend (M1 := [(bp, .cells #[.slice a42 z45.length c43, .I 0, .bool true, .bool false] 136 (0, 0))]) (W1 := [⟨Sb, 5, .slice a42 z45.length c43, z45⟩])).pick [0] rfl) (by first | omega | (simp only [List.length_append, List.length_nil]; omega))) ?_
 rintro v48 w47 ⟨a49, c50, ⟨a52, c53, rfl⟩, H'⟩
 have H := H.back (M1 := [(bp, .cells #[.slice a42 z45.length c43, .I 0, .bool true, .bool false] 136 (0, 0))]) (W1 := [⟨Sb, 5, .slice a42 z45.length c43, z45⟩]) H'
 have H : Hp w S O [(bp, .cells #[.slice a49 ((z45 ++ (num 1 ++ objE D)).length) c50, .I 0, .bool true, .bool false] 136 (0, 0)), _, _] [⟨Sb, 5, .slice a49 ((z45 ++ (num 1 ++ objE D)).length) c50, (z45 ++ (num 1 ++ objE D))⟩] [_] _ := H
 obtain ⟨z54, hz54⟩ : ∃ z, z = (z45 ++ (num 1 ++ objE D)) := ⟨_, rfl⟩
 rw [← hz54] at H
 have hlz54 := congrArg List.length hz54
 rw [List.length_append] at hlz54
 refine uP 1 ?_
 refine uW 67 8 #[.I 0, .I 0, .I 0, .int .u64 0, .slice none 0 0, .int .u64 0, .slice none 0 0, .slice none 0 0, .slice a52 1 c53, .slice none 0 0, .slice none 0 0, .slice none 0 0, .slice none 0 0, .int .u64 0] H 2 rfl ?_
 intro w55 H
 refine uF 0 ?_
 refine uR 1 [.c [8, 0], .c [9]] ?_
 refine qG (sq 0 6) ?_
 refine uP 2 ?_
 refine uV 71 9 (H.cells 2 rfl) ?_
 refine RW.callS (d := some 43) (r := (sq 4 6)) (g := 74) (args := #[.P bp 0, .slice none 0 0]) (by as_aux_lemma => kernel_rfl) (pintents_nil (by omega) ((H.lend (M1 := [(bp, .cells #[.slice a49 z54.length c50, .I 0, .bool true, .bool false] 136 (0, 0))]) (W1 := [⟨Sb, 5, .slice a49 z54.length c50, z54⟩])).pick [] rfl) (by first | omega | (simp only [List.length_append, List.length_nil]; omega))) ?_
 rintro _ w56 ⟨a58, c59, rfl, H'⟩
 have H := H.back (M1 := [(bp, .cells #[.slice a49 z54.length c50, .I 0, .bool true, .bool false] 136 (0, 0))]) (W1 := [⟨Sb, 5, .slice a49 z54.length c50, z54⟩]) H'
 have H : Hp w S O [(bp, .cells #[.slice a58 (z54 ++ num 0).length c59, .I 0, .bool true, .bool false] 136 (0, 0)), _, _] [⟨Sb, 5, .slice a58 (z54 ++ num 0).length c59, (z54 ++ num 0)⟩] [_] _ := H
 obtain ⟨z61, hz61⟩ : ∃ z, z = (z54 ++ num 0) := ⟨_, rfl⟩
 rw [← hz61] at H
 have hlz61 := congrArg List.length hz61
 rw [List.length_append] at hlz61
 refine uP 1 ?_
 refine uW 71 9 #[.I 0, .I 0, .I 0, .int .u64 0, .slice none 0 0, .int .u64 0, .slice none 0 0, .slice none 0 0, .slice a52 1 c53, .slice none 0 0, .slice none 0 0, .slice none 0 0, .slice none 0 0, .int .u64 0] H 2 rfl ?_
 intro w62 H
 refine uF 0 ?_
 refine uR 1 [.c [9, 0], .c [10]] ?_
 refine qG (sq 0 6) ?_
 refine uP 2 ?_
 refine uV 72 10 (H.cells 2 rfl) ?_
 refine RW.callS (d := some 48) (r := (sq 4 6)) (g := 75) (args := #[.P bp 0, .slice none 0 0]) (by as_aux_lemma => kernel_rfl) (psessions_nil (by omega) ((H.lend (M1 := [(bp, .cells #[.slice a58 z61.length c59, .I 0, .bool true, .bool false] 136 (0, 0))]) (W1 := [⟨Sb, 5, .slice a58 z61.length c59, z61⟩])).pick [] rfl) (by first | omega | (simp only [List.length_append, List.length_nil]; omega))) ?_
 rintro _ w63 ⟨a65, c66, rfl, H'⟩
 have H := H.back (M1 := [(bp, .cells #[.slice a58 z61.length c59, .I 0, .bool true, .bool false] 136 (0, 0))]) (W1 := [⟨Sb, 5, .slice a58 z61.length c59, z61⟩]) H'
 have H : Hp w S O [(bp, .cells #[.slice a65 (z61 ++ num 0).length c66, .I 0, .bool true, .bool false] 136 (0, 0)), _, _] [⟨Sb, 5, .slice a65 (z61 ++ num 0).length c66, (z61 ++ num 0)⟩] [_] _ := H
 obtain ⟨z68, hz68⟩ : ∃ z, z = (z61 ++ num 0) := ⟨_, rfl⟩
 rw [← hz68] at H
 have hlz68 := congrArg List.length hz68
 rw [List.length_append] at hlz68
 refine uP 1 ?_
 refine uW 72 10 #[.I 0, .I 0, .I 0, .int .u64 0, .slice none 0 0, .int .u64 0, .slice none 0 0, .slice none 0 0, .slice a52 1 c53, .slice none 0 0, .slice none 0 0, .slice none 0 0, .slice none 0 0, .int .u64 0] H 2 rfl ?_
 intro w69 H
 refine uF 0 ?_
 refine uR 1 [.c [10, 0], .c [11]] ?_
 refine qG (sq 0 6) ?_
 refine uP 2 ?_
 refine uV 73 11 (H.cells 2 rfl) ?_
 refine RW.callS (d := some 53) (r := (sq 4 6)) (g := 76) (args := #[.P bp 0, .slice none 0 0]) (by as_aux_lemma => kernel_rfl) (pwastes_nil (by omega) ((H.lend (M1 := [(bp, .cells #[.slice a65 z68.length c66, .I 0, .bool true, .bool false] 136 (0, 0))]) (W1 := [⟨Sb, 5, .slice a65 z68.length c66, z68⟩])).pick [] rfl) (by first | omega | (simp only [List.length_append, List.length_nil]; omega))) ?_
 rintro _ w70 ⟨a72, c73, rfl, H'⟩
 have H := H.back (M1 := [(bp, .cells #[.slice a65 z68.length c66, .I 0, .bool true, .bool false] 136 (0, 0))]) (W1 := [⟨Sb, 5, .slice a65 z68.length c66, z68⟩]) H'
 have H : Hp w S O [(bp, .cells #[.slice a72 (z68 ++ num 0).length c73, .I 0, .bool true, .bool false] 136 (0, 0)), _, _] [⟨Sb, 5, .slice a72 (z68 ++ num 0).length c73, (z68 ++ num 0)⟩] [_] _ := H
 obtain ⟨z75, hz75⟩ : ∃ z, z = (z68 ++ num 0) := ⟨_, rfl⟩
 rw [← hz75] at H
 have hlz75 := congrArg List.length hz75
 rw [List.length_append] at hlz75
 refine uP 1 ?_
 refine uW 73 11 #[.I 0, .I 0, .I 0, .int .u64 0, .slice none 0 0, .int .u64 0, .slice none 0 0, .slice none 0 0, .slice a52 1 c53, .slice none 0 0, .slice none 0 0, .slice none 0 0, .slice none 0 0, .int .u64 0] H 2 rfl ?_
 intro w76 H
 refine uF 0 ?_
 refine uR 1 [.c [11, 0], .c [12]] ?_
 refine qG (sq 0 6) ?_
 refine uP 2 ?_
 refine uV 24 12 (H.cells 2 rfl) ?_
 refine RW.callS (d := some 58) (r := (sq 4 6)) (g := 72) (args := #[.P bp 0, .slice none 0 0]) (by as_aux_lemma => kernel_rfl) (pints_nil (by omega) ((H.lend (M1 := [(bp, .cells #[.slice a72 z75.length c73, .I 0, .bool true, .bool false] 136 (0, 0))]) (W1 := [⟨Sb, 5, .slice a72 z75.length c73, z75⟩])).pick [] rfl) (by first | omega | (simp only [List.length_append, List.length_nil]; omega))) ?_
 rintro _ w77 ⟨a79, c80, rfl, H'⟩
 have H := H.back (M1 := [(bp, .cells #[.slice a72 z75.length c73, .I 0, .bool true, .bool false] 136 (0, 0))]) (W1 := [⟨Sb, 5, .slice a72 z75.length c73, z75⟩]) H'
 have H : Hp w S O [(bp, .cells #[.slice a79 (z75 ++ num 0).length c80, .I 0, .bool true, .bool false] 136 (0, 0)), _, _] [⟨Sb, 5, .slice a79 (z75 ++ num 0).length c80, (z75 ++ num 0)⟩] [_] _ := H
 obtain ⟨z82, hz82⟩ : ∃ z, z = (z75 ++ num 0) := ⟨_, rfl⟩
 rw [← hz82] at H
 have hlz82 := congrArg List.length hz82
 rw [List.length_append] at hlz82
 refine uP 1 ?_
 refine uW 24 12 #[.I 0, .I 0, .I 0, .int .u64 0, .slice none 0 0, .int .u64 0, .slice none 0 0, .slice none 0 0, .slice a52 1 c53, .slice none 0 0, .slice none 0 0, .slice none 0 0, .slice none 0 0, .int .u64 0] H 2 rfl ?_
 intro w83 H
 refine uF 0 ?_
 refine uR 1 [.c [12, 0], .c [13]] ?_
 refine qG (sq 0 6) ?_
 refine uP 2 ?_
 refine uV 22 13 (H.cells 2 rfl) ?_
 refine uKS (u64_spec (x := 0) (by omega) ((H.lend (M1 := [(bp, .cells #[.slice a79 z82.length c80, .I 0, .bool true, .bool false] 136 (0, 0))]) (W1 := [⟨Sb, 5, .slice a79 z82.length c80, z82⟩])).pick [] rfl) (by first | omega | (simp only [List.length_append, List.length_nil]; omega))) ?_
 rintro _ w84 ⟨a86, c87, rfl, H'⟩
 have H := H.back (M1 := [(bp, .cells #[.slice a79 z82.length c80, .I 0, .bool true, .bool false] 136 (0, 0))]) (W1 := [⟨Sb, 5, .slice a79 z82.length c80, z82⟩]) H'
 have H : Hp w S O [(bp, .cells #[.slice a86 ((z82 ++ num (0 : Int).toNat).length) c87, .I 0, .bool true, .bool false] 136 (0, 0)), _, _] [⟨Sb, 5, .slice a86 ((z82 ++ num (0 : Int).toNat).length) c87, (z82 ++ num (0 : Int).toNat)⟩] [_] _ := H
 obtain ⟨z89, hz89⟩ : ∃ z, z = (z82 ++ num (0 : Int).toNat) := ⟨_, rfl⟩
 rw [← hz89] at H
 have hlz89 := congrArg List.length hz89
 rw [List.length_append] at hlz89
 refine uP 1 ?_
 refine uW 22 13 #[.I 0, .I 0, .I 0, .int .u64 0, .slice none 0 0, .int .u64 0, .slice none 0 0, .slice none 0 0, .slice a52 1 c53, .slice none 0 0, .slice none 0 0, .slice none 0 0, .slice none 0 0, .int .u64 0] H 2 rfl ?_
 intro w90 H
 refine uF 0 ?_
 refine uR 1 [.c [13, 0], .c [14]] ?_
 refine qG (sq 0 2) ?_
 refine uV 75 0 (H.cells 2 rfl) ?_
 refine uW 75 0 #[.I 0, .I 0, .I 0, .int .u64 0, .slice none 0 0, .int .u64 0, .slice none 0 0, .slice none 0 0, .slice a52 1 c53, .slice none 0 0, .slice none 0 0, .slice none 0 0, .slice none 0 0, .int .u64 0] H 1 rfl ?_
 intro w91 H
 refine uF 0 ?_
 refine qRB (.agg #[.I 0, .I 0, .I 0, .int .u64 0, .slice none 0 0, .int .u64 0, .slice none 0 0, .slice none 0 0, .slice a52 1 c53, .slice none 0 0, .slice none 0 0, .slice none 0 0, .slice none 0 0, .int .u64 0]) Tryz.func59 (v1 (.cell 4 75) (vC (H.cells 1 rfl))) ?_
 have hcf : z89 = xs ++ metaE D := by simp [metaE, hz10, hz17, hz24, hz31, hz38, hz45, hz54, hz61, hz68, hz75, hz82, hz89]
 rw [hcf] at H
 have H := H.drop (M' := [(bp, .cells #[.slice a86 (xs ++ metaE D).length c87, .I 0, .bool true, .bool false] 136 (0, 0))]) (W' := [⟨Sb, 5, .slice a86 (xs ++ metaE D).length c87, xs ++ metaE D⟩]) (by repeat (first | exact List.Sublist.refl _ | apply List.Sublist.cons_cons | apply List.Sublist.cons)) (by repeat (first | exact List.Sublist.refl _ | apply List.Sublist.cons_cons | apply List.Sublist.cons))
 exact ⟨_, rfl, _, _, trivial, H.pick [] rfl⟩
theorem putmeta_spec {S : Nat → Prop} {w : World} {D : ObjD} {al : Option Addr} {cl : Nat} (hD : ObjOk D) (h : (Shape.slice objS).rep S w [.slice al 1 cl] [D]) :
 Calls Tryz.prog 39 #[.slice none 0 0, .agg #[.I 0, .I 0, .I 0, .int .u64 0, .slice none 0 0, .int .u64 0, .slice none 0 0, .slice none 0 0, .slice al 1 cl, .slice none 0 0, .slice none 0 0, .slice none 0 0, .slice none 0 0, .int .u64 0]] w (Ret fun v w' => Ext w w' ∧ Hp w S [] [] [⟨Sb, 5, v, metaE D⟩] [] w') := by
 have hdk : D.key.size ≤ 1000000000 := hD.2.2.2.2.1
 have hdn : D.nodes.length ≤ 1000000000 := hD.2.2.2.2.2.1
 refine uS1 Tryz.func39 ?_
 have H := Hp.startF (.rp h .nil)
 refine uR 1 [.c [0], .c [1]] ?_
 refine qG (sq 0 2) ?_
 refine uC #[.I 0, .I 0, .I 0, .int .u64 0, .slice none 0 0, .int .u64 0, .slice none 0 0, .slice none 0 0, .slice al 1 cl, .slice none 0 0, .slice none 0 0, .slice none 0 0, .slice none 0 0, .int .u64 0] 75 H ?_
 intro g _ H
 refine uF 1 ?_
 refine uR 1 [.c [1, 0], .c [2]] ?_
 refine qG (sq 0 3) ?_
 refine uP 1 ?_
 have H := H.addRp SB [.slice none 0 0] [] Shape.slice_nil
 refine uK (writer_spec (ys := ([] : List (BitVec 8))) (H.rp 0 rfl) (by first | omega | simp)) ?_
 rintro _ _ - ⟨f, b, d, rfl, H'⟩
 have H := H.back (M1 := []) (W1 := []) H'
 have H : Hp w S [] [(f, .cells #[.slice b (([] : List (BitVec 8)).length) d, .I 0, .bool true, .bool false] 136 (0, 0)), (g, .cells #[.I 0, .I 0, .I 0, .int .u64 0, .slice none 0 0, .int .u64 0, .slice none 0 0, .slice none 0 0, .slice al 1 cl, .slice none 0 0, .slice none 0 0, .slice none 0 0, .slice none 0 0, .int .u64 0] 75 (0, 0))] [⟨Sb, 5, .slice b (([] : List (BitVec 8)).length) d, ([] : List (BitVec 8))⟩] [_, _] _ := H
 refine uF 1 ?_
 refine uR 1 [.c [2, 0], .c [3]] ?_
 refine qG (sq 0 3) ?_
 refine uP 1 ?_
 refine uV 75 0 (H.cells 1 rfl) ?_
 refine uKS (pmeta_spec (D := D) (by assumption) ((H.lend (M1 := [(f, .cells #[.slice b (([] : List (BitVec 8)).length) d, .I 0, .bool true, .bool false] 136 (0, 0))]) (W1 := [⟨Sb, 5, .slice b (([] : List (BitVec 8)).length) d, ([] : List (BitVec 8))⟩])).pick [1] rfl) (by first | omega | (simp only [List.length_append, List.length_nil]; omega))) ?_
 rintro _ _ ⟨e, a, -, H'⟩
 have H := H.back (M1 := [(f, .cells #[.slice b (([] : List (BitVec 8)).length) d, .I 0, .bool true, .bool false] 136 (0, 0))]) (W1 := [⟨Sb, 5, .slice b (([] : List (BitVec 8)).length) d, ([] : List (BitVec 8))⟩]) H'
 have H : Hp w S [] [(f, .cells #[.slice e ((([] : List (BitVec 8)) ++ metaE D).length) a, .I 0, .bool true, .bool false] 136 (0, 0)), _] [⟨Sb, 5, .slice e ((([] : List (BitVec 8)) ++ metaE D).length) a, (([] : List (BitVec 8)) ++ metaE D)⟩] [_, _] _ := H
 refine uF 0 ?_
 refine uR 1 [.c [3, 0], .c [4]] ?_
 refine qG (sq 0 5) ?_
 refine uP 3 ?_
 refine uV 62 0 (H.cells 0 rfl) ?_
 refine qF 1 [(4, .slice e ((([] : List (BitVec 8)) ++ metaE D).length) a)] ?_
 refine qT (.slice e ((([] : List (BitVec 8)) ++ metaE D).length) a) Tryz.func39 ?_
 have H := H.drop (M' := []) (W' := [⟨Sb, 5, .slice e ((([] : List (BitVec 8)) ++ metaE D).length) a, (([] : List (BitVec 8)) ++ metaE D)⟩]) (List.nil_sublist _) (List.Sublist.refl _)
 exact ⟨_, rfl, H.done, H.pick [] rfl⟩
theorem samemeta_spec {S : Nat → Prop} {w : World} {D : ObjD} {al bl : Option Addr} {cl dl : Nat} (hD : ObjOk D) (h : (Shape.slice objS).rep S w [.slice al 1 cl] [D]) (h2 : (Shape.slice objS).rep S w [.slice bl 1 dl] [D]) :
 Calls Tryz.prog 22 #[.agg #[.I 0, .I 0, .I 0, .int .u64 0, .slice none 0 0, .int .u64 0, .slice none 0 0, .slice none 0 0, .slice al 1 cl, .slice none 0 0, .slice none 0 0, .slice none 0 0, .slice none 0 0, .int .u64 0], .agg #[.I 0, .I 0, .I 0, .int .u64 0, .slice none 0 0, .int .u64 0, .slice none 0 0, .slice none 0 0, .slice bl 1 dl, .slice none 0 0, .slice none 0 0, .slice none 0 0, .slice none 0 0, .int .u64 0]] w (Ret fun v w' => Ext w w' ∧ v = .bool true) := by
 refine uS1 Tryz.func22 ?_
 have H := Hp.startF (.rp h (.rp h2 .nil))
 refine uR 1 [.c [0], .c [1]] ?_
 refine qG (sq 0 3) ?_
 refine uC #[.I 0, .I 0, .I 0, .int .u64 0, .slice none 0 0, .int .u64 0, .slice none 0 0, .slice none 0 0, .slice al 1 cl, .slice none 0 0, .slice none 0 0, .slice none 0 0, .slice none 0 0, .int .u64 0] 75 H ?_
 intro j _ H
 refine uC #[.I 0, .I 0, .I 0, .int .u64 0, .slice none 0 0, .int .u64 0, .slice none 0 0, .slice none 0 0, .slice bl 1 dl, .slice none 0 0, .slice none 0 0, .slice none 0 0, .slice none 0 0, .int .u64 0] 75 H ?_
 intro k f H
 refine uF 1 ?_
 refine uR 1 [.c [1, 0], .c [2]] ?_
 refine WK.draw1 8 [(0, .qui), (3, .qui), (1, .chn), (2, .qui), (4, .chn), (5, .qui), (6, .qui), (7, .qui)] [(0, .qui), (3, .qui), (1, .chn), (2, .qui), (4, .chn), (5, .qui), (6, .qui), (7, .qui)] Try_mixed (by as_aux_lemma => kernel_rfl) (by as_aux_lemma => kernel_rfl) (by as_aux_lemma => kernel_rfl) ?_
 have H := H.draw
 generalize ({ f with drawn := f.drawn + 1 } : World) = l at H ⊢
 refine uV 75 0 (H.cells 1 rfl) ?_
 refine uV 75 0 (H.cells 0 rfl) ?_
 refine uK (putmeta_spec (D := D) hD (H.rp 0 rfl)) ?_
 rintro _ _ - H'
 have H := H.back (M1 := []) (W1 := []) H'
 obtain ⟨g, i, rfl, _, _⟩ := H.ownForm 0 rfl
 have H : Hp w S [] [(k, .cells #[.I 0, .I 0, .I 0, .int .u64 0, .slice none 0 0, .int .u64 0, .slice none 0 0, .slice none 0 0, .slice bl 1 dl, .slice none 0 0, .slice none 0 0, .slice none 0 0, .slice none 0 0, .int .u64 0] 75 (0, 0)), (j, .cells #[.I 0, .I 0, .I 0, .int .u64 0, .slice none 0 0, .int .u64 0, .slice none 0 0, .slice none 0 0, .slice al 1 cl, .slice none 0 0, .slice none 0 0, .slice none 0 0, .slice none 0 0, .int .u64 0] 75 (0, 0))] [⟨Sb, 5, .slice g (metaE D).length i, metaE D⟩] [_, _] _ := H
 refine RW.toStr (κ := .qui) (d := some 7) (r := [(4, .chn), (5, .qui), (6, .qui), (7, .qui)]) (Ts := 62) (Td := 9) 5 (a := g) (len := (metaE D).length) (cap := i) (xs := metaE D) (by as_aux_lemma => kernel_rfl) (by as_aux_lemma => kernel_rfl) (H.view 0 rfl) ?_
 refine uK (putmeta_spec (D := D) hD (H.rp 1 rfl)) ?_
 rintro _ _ - H'
 have H := H.back (M1 := []) (W1 := []) H'
 obtain ⟨b, e, rfl, _, _⟩ := H.ownForm 0 rfl
 have H : Hp w S [] [_, _] [⟨Sb, 5, .slice b (metaE D).length e, metaE D⟩, _] [_, _] _ := H
 refine RW.toStr (κ := .qui) (d := some 10) (r := (qs [6, 7])) (Ts := 62) (Td := 9) 5 (a := b) (len := (metaE D).length) (cap := e) (xs := metaE D) (by as_aux_lemma => kernel_rfl) (by as_aux_lemma => kernel_rfl) (H.view 0 rfl) ?_
 refine uF 2 ?_
 refine qT (.bool ((strOf (metaE D)).toList == (strOf (metaE D)).toList)) Tryz.func22 ?_
 refine ⟨_, rfl, H.done, ?_⟩
 simp
end Go.Proofs.YtppcdmbkgficiaaGreat
