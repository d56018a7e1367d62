import Derived.Test.YtppcdmbkgficiaaGreatSA4
namespace Go.Proofs.YtppcdmbkgficiaaGreat
open Go.BX
def Shape.junk (m : Nat) (h : 0 < m) : Shape Unit where
 size := m
 rep _ _ cs _ := cs.length = m ∧ cs.all (fun v => v.oneCell') = true
 pos := h
 len := fun h => h.1
 ones := fun h => List.all_eq_true.1 h.2
 step := fun h _ => h
def objE (D : ObjD) : List (BitVec 8) := textE D.key ++ (num D.version.toNat ++ (intE D.size ++ (num D.sum.toNat ++ (intE D.group ++ (num D.epoch.toNat ++ (num D.nodes.length ++ intsE D.nodes))))))
def ObjOk (D : ObjD) : Prop := (0 ≤ D.version ∧ D.version ≤ 18446744073709551615) ∧ (-9223372036854775808 ≤ D.size ∧ D.size ≤ 9223372036854775807) ∧ (-9223372036854775808 ≤ D.group ∧ D.group ≤ 9223372036854775807) ∧ (0 ≤ D.epoch ∧ D.epoch ≤ 18446744073709551615) ∧ D.key.size ≤ 1000000000 ∧ D.nodes.length ≤ 1000000000 ∧ ∀ x ∈ D.nodes, -9223372036854775808 ≤ x ∧ x ≤ 9223372036854775807
theorem objE_len {D : ObjD} (hD : ObjOk D) : (objE D).length ≤ D.key.size + 10 * D.nodes.length + 90 := by
 obtain ⟨hb0, hb1, hb2, hb3, hb4, hb5, hb6⟩ := hD
 have ht0 : (num D.version.toNat).length ≤ 10 := num_ten (by omega)
 have ht1 := intE_ten hb1
 have ht2 : (num D.sum.toNat).length ≤ 10 := num_ten (by have := D.sum.isLt; omega)
 have ht3 := intE_ten hb2
 have ht4 : (num D.epoch.toNat).length ≤ 10 := num_ten (by omega)
 have ht5 : (num D.nodes.length).length ≤ 10 := num_ten (by omega)
 have ht6 : (num D.key.size).length ≤ 10 := num_ten (by omega)
 have ht7 := intsE_len hb6
 have ht8 : (textE D.key).length ≤ D.key.size + 10 := by
  unfold textE bytesE
  rw [List.length_append, bytesOf_len]
  omega
 unfold objE
 simp only [List.length_append]
 omega
theorem pobj_spec {S : Nat → Prop} {w : World} {O : List Nat} {bp : Nat} {xs : List (BitVec 8)} {a : Option Addr} {c : Nat} {D : ObjD} {an : Option Addr} {kn : Nat} (hD : ObjOk D) (H0 : Hp w S O [(bp, .cells #[.slice a xs.length c, .I 0, .bool true, .bool false] 136 (0, 0))] [⟨Sb, 5, .slice a xs.length c, xs⟩] [Rp Li [.slice an D.nodes.length kn] D.nodes] w) (hby : xs.length + (D.key.size + 10 * D.nodes.length + 100) ≤ 1099511627776) :
 Calls Tryz.prog 96 #[.P bp 0, .agg (objV D an kn).toArray] w (Ret fun v w' => ∃ (a' : Option Addr) (c' : Nat), (∃ (t1 : ByteArray) (a1 : Option Addr) (c1 : Nat), v = .agg #[.string t1, .int .u64 D.version, .I D.size, .int .u32 ((D.sum.toNat : Nat) : Int), .I D.group, .int .u64 D.epoch, .slice a1 D.nodes.length c1]) ∧ Hp w S O [(bp, .cells #[.slice a' (xs ++ objE D).length c', .I 0, .bool true, .bool false] 136 (0, 0))] [⟨Sb, 5, .slice a' (xs ++ objE D).length c', (xs ++ objE D)⟩] [] w') := by
 obtain ⟨hb0, hb1, hb2, hb3, hb4, hb5, hb6⟩ := hD
 have hkey : D.key.size ≤ maxLen := by unfold maxLen; omega
 have ht0 : (num D.version.toNat).length ≤ 10 := num_ten (by omega)
 have ht1 : (intE D.size).length ≤ 10 := intE_ten (by omega)
 have ht2 : (num D.sum.toNat).length ≤ 10 := num_ten (by have := D.sum.isLt; omega)
 have ht3 : (intE D.group).length ≤ 10 := intE_ten (by omega)
 have ht4 : (num D.epoch.toNat).length ≤ 10 := num_ten (by omega)
 have ht5 : (num D.nodes.length).length ≤ 10 := num_ten (by omega)
 have ht6 : (num D.key.size).length ≤ 10 := num_ten (by omega)
 have ht17 : (textE D.key).length ≤ D.key.size + 10 := by unfold textE bytesE; rw [List.length_append, bytesOf_len]; omega
 have ht18 : (intsE D.nodes).length ≤ 10 * D.nodes.length := intsE_len (rep_ints (H0.rp 0 rfl))
 refine qS (fn := Tryz.f96) (n := 41) (σ := [(0, .P bp 0), (1, .agg (objV D an kn).toArray)]) Tryz.func96 ?_
 have H := H0
 refine qR 1 [.c [0], .c [1]] [(0, .P bp 0), (1, .agg (objV D an kn).toArray)] ?_
 refine qG (sq 0 2) ?_
 refine qB .seq 3 (sq 1 2) ((objV D an kn).toArray) 26 H ?_
 intro b1 w2 H
 refine qB .seq 4 (sq 2 2) #[.string (⟨#[]⟩), .int .u64 0, .I 0, .int .u32 0, .I 0, .int .u64 0, .slice none 0 0] 26 H ?_
 intro b3 w4 H
 refine qF 0 [(0, .P bp 0), (3, .P b1 0), (4, .P b3 0)] ?_
 refine qR 1 [.c [1, 0], .c [2]] [(0, .P bp 0), (3, .P b1 0), (4, .P b3 0)] ?_
 refine qG (sq 0 6) ?_
 refine qP 2 (sq 2 6) [(0, .P bp 0), (3, .P b1 0), (4, .P b3 0), (5, .P bp 0), (6, .P b1 0)] ?_
 refine qL .seq 7 (sq 3 6) 9 b1 0 0 (.string D.key) (H.cells 1 rfl) ?_
 have H := H.frontM 2 (M' := [(bp, .cells #[.slice a xs.length c, .I 0, .bool true, .bool false] 136 (0, 0)), (b3, .cells #[.string (⟨#[]⟩), .int .u64 0, .I 0, .int .u32 0, .I 0, .int .u64 0, .slice none 0 0] 26 (0, 0)), (b1, .cells (objV D an kn).toArray 26 (0, 0))]) rfl
 refine RW.callS (d := some 8) (r := (sq 4 6)) (g := 83) (args := #[.P bp 0, .string D.key]) (by as_aux_lemma => kernel_rfl) (text_spec (s := D.key) hkey ((H.lend (M1 := [(bp, .cells #[.slice a xs.length c, .I 0, .bool true, .bool false] 136 (0, 0))]) (W1 := [⟨Sb, 5, .slice a xs.length c, xs⟩])).pick [] rfl) (by first | omega | (simp only [List.length_append, List.length_nil]; omega))) ?_
 rintro v6 w5 ⟨a7, c8, ⟨t10, rfl⟩, H'⟩
 have H := H.back (M1 := [(bp, .cells #[.slice a xs.length c, .I 0, .bool true, .bool false] 136 (0, 0))]) (W1 := [⟨Sb, 5, .slice a xs.length c, xs⟩]) H'
 have H : Hp w S O [(bp, .cells #[.slice a7 (xs ++ textE D.key).length c8, .I 0, .bool true, .bool false] 136 (0, 0)), (b3, .cells #[.string (⟨#[]⟩), .int .u64 0, .I 0, .int .u32 0, .I 0, .int .u64 0, .slice none 0 0] 26 (0, 0)), (b1, .cells (objV D an kn).toArray 26 (0, 0))] [⟨Sb, 5, .slice a7 (xs ++ textE D.key).length c8, (xs ++ textE D.key)⟩] [Rp Li [.slice an D.nodes.length kn] D.nodes] _ := H
 obtain ⟨z11, hz11⟩ : ∃ z, z = (xs ++ textE D.key) := ⟨_, rfl⟩
 rw [← hz11] at H
 have hlz11 := congrArg List.length hz11
 rw [List.length_append] at hlz11
 refine qP 1 (sq 5 6) [(0, .P bp 0), (3, .P b1 0), (4, .P b3 0), (8, .string t10), (9, .P b1 0)] ?_
 refine qW 9 b1 0 (sq 6 6) (.string t10) [(bp, .cells #[.slice a7 z11.length c8, .I 0, .bool true, .bool false] 136 (0, 0)), (b3, .cells #[.string (⟨#[]⟩), .int .u64 0, .I 0, .int .u32 0, .I 0, .int .u64 0, .slice none 0 0] 26 (0, 0)), (b1, .cells #[.string t10, .int .u64 D.version, .I D.size, .int .u32 ((D.sum.toNat : Nat) : Int), .I D.group, .int .u64 D.epoch, .slice an D.nodes.length kn] 26 (0, 0))] H 2 rfl rfl ?_
 intro w12 H
 refine qF 0 [(0, .P bp 0), (3, .P b1 0), (4, .P b3 0)] ?_
 refine qR 1 [.c [2, 0], .c [3]] [(0, .P bp 0), (3, .P b1 0), (4, .P b3 0)] ?_
 refine qG (sq 0 6) ?_
 refine qP 2 (sq 2 6) [(0, .P bp 0), (3, .P b1 0), (4, .P b3 0), (10, .P bp 0), (11, .P b1 1)] ?_
 refine qL .seq 12 (sq 3 6) 22 b1 1 1 (.int .u64 D.version) (H.cells 2 rfl) ?_
 refine RW.callS (d := some 13) (r := (sq 4 6)) (g := 77) (args := #[.P bp 0, .int .u64 D.version]) (by as_aux_lemma => kernel_rfl) (u64_spec (x := D.version) (by omega) ((H.lend (M1 := [(bp, .cells #[.slice a7 z11.length c8, .I 0, .bool true, .bool false] 136 (0, 0))]) (W1 := [⟨Sb, 5, .slice a7 z11.length c8, z11⟩])).pick [] rfl) (by first | omega | (simp only [List.length_append, List.length_nil]; omega))) ?_
 rintro _ w13 ⟨a15, c16, rfl, H'⟩
 have H := H.back (M1 := [(bp, .cells #[.slice a7 z11.length c8, .I 0, .bool true, .bool false] 136 (0, 0))]) (W1 := [⟨Sb, 5, .slice a7 z11.length c8, z11⟩]) H'
 have H : Hp w S O [(bp, .cells #[.slice a15 (z11 ++ num D.version.toNat).length c16, .I 0, .bool true, .bool false] 136 (0, 0)), (b3, .cells #[.string (⟨#[]⟩), .int .u64 0, .I 0, .int .u32 0, .I 0, .int .u64 0, .slice none 0 0] 26 (0, 0)), (b1, .cells #[.string t10, .int .u64 D.version, .I D.size, .int .u32 ((D.sum.toNat : Nat) : Int), .I D.group, .int .u64 D.epoch, .slice an D.nodes.length kn] 26 (0, 0))] [⟨Sb, 5, .slice a15 (z11 ++ num D.version.toNat).length c16, (z11 ++ num D.version.toNat)⟩] [Rp Li [.slice an D.nodes.length kn] D.nodes] _ := H
 obtain ⟨z18, hz18⟩ : ∃ z, z = (z11 ++ num D.version.toNat) := ⟨_, rfl⟩
 rw [← hz18] at H
 have hlz18 := congrArg List.length hz18
 rw [List.length_append] at hlz18
 refine qP 1 (sq 5 6) [(0, .P bp 0), (3, .P b1 0), (4, .P b3 0), (13, .int .u64 D.version), (14, .P b1 1)] ?_
 refine qW 22 b1 1 (sq 6 6) (.int .u64 D.version) [(bp, .cells #[.slice a15 z18.length c16, .I 0, .bool true, .bool false] 136 (0, 0)), (b3, .cells #[.string (⟨#[]⟩), .int .u64 0, .I 0, .int .u32 0, .I 0, .int .u64 0, .slice none 0 0] 26 (0, 0)), (b1, .cells #[.string t10, .int .u64 D.version, .I D.size, .int .u32 ((D.sum.toNat : Nat) : Int), .I D.group, .int .u64 D.epoch, .slice an D.nodes.length kn] 26 (0, 0))] H 2 rfl rfl ?_
 intro w19 H
 refine qF 0 [(0, .P bp 0), (3, .P b1 0), (4, .P b3 0)] ?_
 refine qR 1 [.c [3, 0], .c [4]] [(0, .P bp 0), (3, .P b1 0), (4, .P b3 0)] ?_
 refine qG (sq 0 6) ?_
 refine qP 2 (sq 2 6) [(0, .P bp 0), (3, .P b1 0), (4, .P b3 0), (15, .P bp 0), (16, .P b1 2)] ?_
 refine qL .seq 17 (sq 3 6) 3 b1 2 2 (.I D.size) (H.cells 2 rfl) ?_
 refine RW.callS (d := some 18) (r := (sq 4 6)) (g := 70) (args := #[.P bp 0, .I D.size]) (by as_aux_lemma => kernel_rfl) (int_spec (x := D.size) (by omega) ((H.lend (M1 := [(bp, .cells #[.slice a15 z18.length c16, .I 0, .bool true, .bool false] 136 (0, 0))]) (W1 := [⟨Sb, 5, .slice a15 z18.length c16, z18⟩])).pick [] rfl) (by first | omega | (simp only [List.length_append, List.length_nil]; omega))) ?_
 rintro _ w20 ⟨a22, c23, rfl, H'⟩
 have H := H.back (M1 := [(bp, .cells #[.slice a15 z18.length c16, .I 0, .bool true, .bool false] 136 (0, 0))]) (W1 := [⟨Sb, 5, .slice a15 z18.length c16, z18⟩]) H'
 have H : Hp w S O [(bp, .cells #[.slice a22 (z18 ++ intE D.size).length c23, .I 0, .bool true, .bool false] 136 (0, 0)), (b3, .cells #[.string (⟨#[]⟩), .int .u64 0, .I 0, .int .u32 0, .I 0, .int .u64 0, .slice none 0 0] 26 (0, 0)), (b1, .cells #[.string t10, .int .u64 D.version, .I D.size, .int .u32 ((D.sum.toNat : Nat) : Int), .I D.group, .int .u64 D.epoch, .slice an D.nodes.length kn] 26 (0, 0))] [⟨Sb, 5, .slice a22 (z18 ++ intE D.size).length c23, (z18 ++ intE D.size)⟩] [Rp Li [.slice an D.nodes.length kn] D.nodes] _ := H
 obtain ⟨z25, hz25⟩ : ∃ z, z = (z18 ++ intE D.size) := ⟨_, rfl⟩
 rw [← hz25] at H
 have hlz25 := congrArg List.length hz25
 rw [List.length_append] at hlz25
 refine qP 1 (sq 5 6) [(0, .P bp 0), (3, .P b1 0), (4, .P b3 0), (18, .I D.size), (19, .P b1 2)] ?_
 refine qW 3 b1 2 (sq 6 6) (.I D.size) [(bp, .cells #[.slice a22 z25.length c23, .I 0, .bool true, .bool false] 136 (0, 0)), (b3, .cells #[.string (⟨#[]⟩), .int .u64 0, .I 0, .int .u32 0, .I 0, .int .u64 0, .slice none 0 0] 26 (0, 0)), (b1, .cells #[.string t10, .int .u64 D.version, .I D.size, .int .u32 ((D.sum.toNat : Nat) : Int), .I D.group, .int .u64 D.epoch, .slice an D.nodes.length kn] 26 (0, 0))] H 2 rfl rfl ?_
 intro w26 H
 refine qF 0 [(0, .P bp 0), (3, .P b1 0), (4, .P b3 0)] ?_
 refine qR 1 [.c [4, 0], .c [5]] [(0, .P bp 0), (3, .P b1 0), (4, .P b3 0)] ?_
 refine qG (sq 0 6) ?_
 refine qP 2 (sq 2 6) [(0, .P bp 0), (3, .P b1 0), (4, .P b3 0), (20, .P bp 0), (21, .P b1 3)] ?_
 refine qL .seq 22 (sq 3 6) 23 b1 3 3 (.int .u32 ((D.sum.toNat : Nat) : Int)) (H.cells 2 rfl) ?_
 refine RW.callS (d := some 23) (r := (sq 4 6)) (g := 103) (args := #[.P bp 0, .int .u32 ((D.sum.toNat : Nat) : Int)]) (by as_aux_lemma => kernel_rfl) (pu32_spec (x := D.sum) ((H.lend (M1 := [(bp, .cells #[.slice a22 z25.length c23, .I 0, .bool true, .bool false] 136 (0, 0))]) (W1 := [⟨Sb, 5, .slice a22 z25.length c23, z25⟩])).pick [] rfl) (by first | omega | (simp only [List.length_append, List.length_nil]; omega))) ?_
 rintro _ w27 ⟨a29, c30, rfl, H'⟩
 have H := H.back (M1 := [(bp, .cells #[.slice a22 z25.length c23, .I 0, .bool true, .bool false] 136 (0, 0))]) (W1 := [⟨Sb, 5, .slice a22 z25.length c23, z25⟩]) H'
 have H : Hp w S O [(bp, .cells #[.slice a29 (z25 ++ num D.sum.toNat).length c30, .I 0, .bool true, .bool false] 136 (0, 0)), (b3, .cells #[.string (⟨#[]⟩), .int .u64 0, .I 0, .int .u32 0, .I 0, .int .u64 0, .slice none 0 0] 26 (0, 0)), (b1, .cells #[.string t10, .int .u64 D.version, .I D.size, .int .u32 ((D.sum.toNat : Nat) : Int), .I D.group, .int .u64 D.epoch, .slice an D.nodes.length kn] 26 (0, 0))] [⟨Sb, 5, .slice a29 (z25 ++ num D.sum.toNat).length c30, (z25 ++ num D.sum.toNat)⟩] [Rp Li [.slice an D.nodes.length kn] D.nodes] _ := H
 obtain ⟨z32, hz32⟩ : ∃ z, z = (z25 ++ num D.sum.toNat) := ⟨_, rfl⟩
 rw [← hz32] at H
 have hlz32 := congrArg List.length hz32
 rw [List.length_append] at hlz32
 refine qP 1 (sq 5 6) [(0, .P bp 0), (3, .P b1 0), (4, .P b3 0), (23, .int .u32 ((D.sum.toNat : Nat) : Int)), (24, .P b1 3)] ?_
 refine qW 23 b1 3 (sq 6 6) (.int .u32 ((D.sum.toNat : Nat) : Int)) [(bp, .cells #[.slice a29 z32.length c30, .I 0, .bool true, .bool false] 136 (0, 0)), (b3, .cells #[.string (⟨#[]⟩), .int .u64 0, .I 0, .int .u32 0, .I 0, .int .u64 0, .slice none 0 0] 26 (0, 0)), (b1, .cells #[.string t10, .int .u64 D.version, .I D.size, .int .u32 ((D.sum.toNat : Nat) : Int), .I D.group, .int .u64 D.epoch, .slice an D.nodes.length kn] 26 (0, 0))] H 2 rfl rfl ?_
 intro w33 H
 refine qF 0 [(0, .P bp 0), (3, .P b1 0), (4, .P b3 0)] ?_
 refine qR 1 [.c [5, 0], .c [6]] [(0, .P bp 0), (3, .P b1 0), (4, .P b3 0)] ?_
 refine qG (sq 0 6) ?_
 refine qP 2 (sq 2 6) [(0, .P bp 0), (3, .P b1 0), (4, .P b3 0), (25, .P bp 0), (26, .P b1 4)] ?_
 refine qL .seq 27 (sq 3 6) 3 b1 4 4 (.I D.group) (H.cells 2 rfl) ?_
 refine RW.callS (d := some 28) (r := (sq 4 6)) (g := 70) (args := #[.P bp 0, .I D.group]) (by as_aux_lemma => kernel_rfl) (int_spec (x := D.group) (by omega) ((H.lend (M1 := [(bp, .cells #[.slice a29 z32.length c30, .I 0, .bool true, .bool false] 136 (0, 0))]) (W1 := [⟨Sb, 5, .slice a29 z32.length c30, z32⟩])).pick [] rfl) (by first | omega | (simp only [List.length_append, List.length_nil]; omega))) ?_
 rintro _ w34 ⟨a36, c37, rfl, H'⟩
 have H := H.back (M1 := [(bp, .cells #[.slice a29 z32.length c30, .I 0, .bool true, .bool false] 136 (0, 0))]) (W1 := [⟨Sb, 5, .slice a29 z32.length c30, z32⟩]) H'
 have H : Hp w S O [(bp, .cells #[.slice a36 (z32 ++ intE D.group).length c37, .I 0, .bool true, .bool false] 136 (0, 0)), (b3, .cells #[.string (⟨#[]⟩), .int .u64 0, .I 0, .int .u32 0, .I 0, .int .u64 0, .slice none 0 0] 26 (0, 0)), (b1, .cells #[.string t10, .int .u64 D.version, .I D.size, .int .u32 ((D.sum.toNat : Nat) : Int), .I D.group, .int .u64 D.epoch, .slice an D.nodes.length kn] 26 (0, 0))] [⟨Sb, 5, .slice a36 (z32 ++ intE D.group).length c37, (z32 ++ intE D.group)⟩] [Rp Li [.slice an D.nodes.length kn] D.nodes] _ := H
 obtain ⟨z39, hz39⟩ : ∃ z, z = (z32 ++ intE D.group) := ⟨_, rfl⟩
 rw [← hz39] at H
 have hlz39 := congrArg List.length hz39
 rw [List.length_append] at hlz39
 refine qP 1 (sq 5 6) [(0, .P bp 0), (3, .P b1 0), (4, .P b3 0), (28, .I D.group), (29, .P b1 4)] ?_
 refine qW 3 b1 4 (sq 6 6) (.I D.group) [(bp, .cells #[.slice a36 z39.length c37, .I 0, .bool true, .bool false] 136 (0, 0)), (b3, .cells #[.string (⟨#[]⟩), .int .u64 0, .I 0, .int .u32 0, .I 0, .int .u64 0, .slice none 0 0] 26 (0, 0)), (b1, .cells #[.string t10, .int .u64 D.version, .I D.size, .int .u32 ((D.sum.toNat : Nat) : Int), .I D.group, .int .u64 D.epoch, .slice an D.nodes.length kn] 26 (0, 0))] H 2 rfl rfl ?_
 intro w40 H
 refine qF 0 [(0, .P bp 0), (3, .P b1 0), (4, .P b3 0)] ?_
 refine qR 1 [.c [6, 0], .c [7]] [(0, .P bp 0), (3, .P b1 0), (4, .P b3 0)] ?_
 refine qG (sq 0 6) ?_
 refine qP 2 (sq 2 6) [(0, .P bp 0), (3, .P b1 0), (4, .P b3 0), (30, .P bp 0), (31, .P b1 5)] ?_
 refine qL .seq 32 (sq 3 6) 22 b1 5 5 (.int .u64 D.epoch) (H.cells 2 rfl) ?_
 refine RW.callS (d := some 33) (r := (sq 4 6)) (g := 77) (args := #[.P bp 0, .int .u64 D.epoch]) (by as_aux_lemma => kernel_rfl) (u64_spec (x := D.epoch) (by omega) ((H.lend (M1 := [(bp, .cells #[.slice a36 z39.length c37, .I 0, .bool true, .bool false] 136 (0, 0))]) (W1 := [⟨Sb, 5, .slice a36 z39.length c37, z39⟩])).pick [] rfl) (by first | omega | (simp only [List.length_append, List.length_nil]; omega))) ?_
 rintro _ w41 ⟨a43, c44, rfl, H'⟩
 have H := H.back (M1 := [(bp, .cells #[.slice a36 z39.length c37, .I 0, .bool true, .bool false] 136 (0, 0))]) (W1 := [⟨Sb, 5, .slice a36 z39.length c37, z39⟩]) H'
 have H : Hp w S O [(bp, .cells #[.slice a43 (z39 ++ num D.epoch.toNat).length c44, .I 0, .bool true, .bool false] 136 (0, 0)), (b3, .cells #[.string (⟨#[]⟩), .int .u64 0, .I 0, .int .u32 0, .I 0, .int .u64 0, .slice none 0 0] 26 (0, 0)), (b1, .cells #[.string t10, .int .u64 D.version, .I D.size, .int .u32 ((D.sum.toNat : Nat) : Int), .I D.group, .int .u64 D.epoch, .slice an D.nodes.length kn] 26 (0, 0))] [⟨Sb, 5, .slice a43 (z39 ++ num D.epoch.toNat).length c44, (z39 ++ num D.epoch.toNat)⟩] [Rp Li [.slice an D.nodes.length kn] D.nodes] _ := H
 obtain ⟨z46, hz46⟩ : ∃ z, z = (z39 ++ num D.epoch.toNat) := ⟨_, rfl⟩
 rw [← hz46] at H
 have hlz46 := congrArg List.length hz46
 rw [List.length_append] at hlz46
 refine qP 1 (sq 5 6) [(0, .P bp 0), (3, .P b1 0), (4, .P b3 0), (33, .int .u64 D.epoch), (34, .P b1 5)] ?_
 refine qW 22 b1 5 (sq 6 6) (.int .u64 D.epoch) [(bp, .cells #[.slice a43 z46.length c44, .I 0, .bool true, .bool false] 136 (0, 0)), (b3, .cells #[.string (⟨#[]⟩), .int .u64 0, .I 0, .int .u32 0, .I 0, .int .u64 0, .slice none 0 0] 26 (0, 0)), (b1, .cells #[.string t10, .int .u64 D.version, .I D.size, .int .u32 ((D.sum.toNat : Nat) : Int), .I D.group, .int .u64 D.epoch, .slice an D.nodes.length kn] 26 (0, 0))] H 2 rfl rfl ?_
 intro w47 H
 refine qF 0 [(0, .P bp 0), (3, .P b1 0), (4, .P b3 0)] ?_
 refine qR 1 [.c [7, 0], .c [8]] [(0, .P bp 0), (3, .P b1 0), (4, .P b3 0)] ?_
 refine qG (sq 0 6) ?_
 refine qP 2 (sq 2 6) [(3, .P b1 0), (4, .P b3 0), (35, .P bp 0), (36, .P b1 6)] ?_
 refine qL .seq 37 (sq 3 6) 24 b1 6 6 (.slice an D.nodes.length kn) (H.cells 2 rfl) ?_
 refine RW.callS (d := some 38) (r := (sq 4 6)) (g := 72) (args := #[.P bp 0, .slice an D.nodes.length kn]) (by as_aux_lemma => kernel_rfl) (ints_spec  ((H.lend (M1 := [(bp, .cells #[.slice a43 z46.length c44, .I 0, .bool true, .bool false] 136 (0, 0))]) (W1 := [⟨Sb, 5, .slice a43 z46.length c44, z46⟩])).pick [0] rfl) (by first | omega | (simp only [List.length_append, List.length_nil]; omega))) ?_
 rintro v49 w48 ⟨a50, c51, ⟨ar53, cr54, rfl⟩, H'⟩
 have H := H.back (M1 := [(bp, .cells #[.slice a43 z46.length c44, .I 0, .bool true, .bool false] 136 (0, 0))]) (W1 := [⟨Sb, 5, .slice a43 z46.length c44, z46⟩]) H'
 have H : Hp w S O [(bp, .cells #[.slice a50 ((z46 ++ (num D.nodes.length ++ intsE D.nodes)).length) c51, .I 0, .bool true, .bool false] 136 (0, 0)), (b3, .cells #[.string (⟨#[]⟩), .int .u64 0, .I 0, .int .u32 0, .I 0, .int .u64 0, .slice none 0 0] 26 (0, 0)), (b1, .cells #[.string t10, .int .u64 D.version, .I D.size, .int .u32 ((D.sum.toNat : Nat) : Int), .I D.group, .int .u64 D.epoch, .slice an D.nodes.length kn] 26 (0, 0))] [⟨Sb, 5, .slice a50 ((z46 ++ (num D.nodes.length ++ intsE D.nodes)).length) c51, (z46 ++ (num D.nodes.length ++ intsE D.nodes))⟩] [Rp Li [.slice an D.nodes.length kn] D.nodes] _ := H
 obtain ⟨z55, hz55⟩ : ∃ z, z = (z46 ++ (num D.nodes.length ++ intsE D.nodes)) := ⟨_, rfl⟩
 rw [← hz55] at H
 have hlz55 := congrArg List.length hz55
 rw [List.length_append] at hlz55
 refine qP 1 (sq 5 6) [(3, .P b1 0), (4, .P b3 0), (38, .slice ar53 D.nodes.length cr54), (39, .P b1 6)] ?_
 refine qW 24 b1 6 (sq 6 6) (.slice ar53 D.nodes.length cr54) [(bp, .cells #[.slice a50 z55.length c51, .I 0, .bool true, .bool false] 136 (0, 0)), (b3, .cells #[.string (⟨#[]⟩), .int .u64 0, .I 0, .int .u32 0, .I 0, .int .u64 0, .slice none 0 0] 26 (0, 0)), (b1, .cells #[.string t10, .int .u64 D.version, .I D.size, .int .u32 ((D.sum.toNat : Nat) : Int), .I D.group, .int .u64 D.epoch, .slice ar53 D.nodes.length cr54] 26 (0, 0))] H 2 rfl rfl ?_
 intro w56 H
 refine qF 0 [(3, .P b1 0), (4, .P b3 0)] ?_
 refine qR 1 [.c [8, 0], .c [9]] [(3, .P b1 0), (4, .P b3 0)] ?_
 refine qG (sq 0 2) ?_
 refine qL .seq 40 (sq 1 2) 26 b1 0 0 (.agg #[.string t10, .int .u64 D.version, .I D.size, .int .u32 ((D.sum.toNat : Nat) : Int), .I D.group, .int .u64 D.epoch, .slice ar53 D.nodes.length cr54]) (H.cells 2 rfl) ?_
 refine qW 26 b3 0 (sq 2 2) (.agg #[.string t10, .int .u64 D.version, .I D.size, .int .u32 ((D.sum.toNat : Nat) : Int), .I D.group, .int .u64 D.epoch, .slice ar53 D.nodes.length cr54]) [(bp, .cells #[.slice a50 z55.length c51, .I 0, .bool true, .bool false] 136 (0, 0)), (b3, .cells #[.string t10, .int .u64 D.version, .I D.size, .int .u32 ((D.sum.toNat : Nat) : Int), .I D.group, .int .u64 D.epoch, .slice ar53 D.nodes.length cr54] 26 (0, 0)), (b1, .cells #[.string t10, .int .u64 D.version, .I D.size, .int .u32 ((D.sum.toNat : Nat) : Int), .I D.group, .int .u64 D.epoch, .slice ar53 D.nodes.length cr54] 26 (0, 0))] H 1 rfl rfl ?_
 intro w57 H
 refine qF 0 [(4, .P b3 0)] ?_
 refine qRB (.agg #[.string t10, .int .u64 D.version, .I D.size, .int .u32 ((D.sum.toNat : Nat) : Int), .I D.group, .int .u64 D.epoch, .slice ar53 D.nodes.length cr54]) Tryz.func96 (v1 (.cell 4 26) (vC (H.cells 1 rfl))) ?_
 have hcf : z55 = xs ++ objE D := by simp [objE, hz11, hz18, hz25, hz32, hz39, hz46, hz55]
 rw [hcf] at H
 have H := H.drop (M' := [(bp, .cells #[.slice a50 (xs ++ objE D).length c51, .I 0, .bool true, .bool false] 136 (0, 0))]) (W' := [⟨Sb, 5, .slice a50 (xs ++ objE D).length c51, xs ++ objE D⟩]) (by repeat (first | exact List.Sublist.refl _ | apply List.Sublist.cons_cons | apply List.Sublist.cons)) (by repeat (first | exact List.Sublist.refl _ | apply List.Sublist.cons_cons | apply List.Sublist.cons))
 exact ⟨_, rfl, _, _, ⟨_, _, _, rfl⟩, H.pick [] rfl⟩
theorem pintents_nil {S : Nat → Prop} {w : World} {O : List Nat} {bp : Nat} {xs : List (BitVec 8)} {a : Option Addr} {c : Nat} {ae : Option Addr} {n ke : Nat} (hn0 : n = 0) (H0 : Hp w S O [(bp, .cells #[.slice a xs.length c, .I 0, .bool true, .bool false] 136 (0, 0))] [⟨Sb, 5, .slice a xs.length c, xs⟩] [] w) (hby : xs.length + 10 ≤ 1099511627776) :
 Calls Tryz.prog 74 #[.P bp 0, .slice ae n ke] w (Ret fun v w' => ∃ (a' : Option Addr) (c' : Nat), (v = .slice none 0 0) ∧ Hp w S O [(bp, .cells #[.slice a' (xs ++ num n).length c', .I 0, .bool true, .bool false] 136 (0, 0))] [⟨Sb, 5, .slice a' (xs ++ num n).length c', (xs ++ num n)⟩] [] w') := by
 have hten : (num n).length ≤ 10 := num_ten (by omega)
 refine qS (fn := Tryz.f74) (n := 54) (σ := [(0, .P bp 0), (1, .slice ae n ke)]) Tryz.func74 ?_
 have H := H0
 refine qR 3 [.c [1, 0], .c [2]] [(0, .P bp 0), (1, .slice ae n ke)] ?_
 refine qG (sq 0 5) ?_
 refine qP 3 (sq 3 5) [(0, .P bp 0), (1, .slice ae n ke), (9, .P bp 0), (11, .I ((n : Nat) : Int))] ?_
 refine RW.callS (d := some 12) (r := (sq 4 5)) (g := 84) (args := #[.P bp 0, .I ((n : Nat) : Int)]) (by as_aux_lemma => kernel_rfl) (len_spec (k := n) (by omega) ((H.lend (M1 := [(bp, .cells #[.slice a xs.length c, .I 0, .bool true, .bool false] 136 (0, 0))]) (W1 := [⟨Sb, 5, .slice a xs.length c, xs⟩])).pick [] rfl) (by first | omega | (simp only [List.length_append, List.length_nil]; omega))) ?_
 rintro _ w1 ⟨a3, c4, rfl, H'⟩
 have H := H.back (M1 := [(bp, .cells #[.slice a xs.length c, .I 0, .bool true, .bool false] 136 (0, 0))]) (W1 := [⟨Sb, 5, .slice a xs.length c, xs⟩]) H'
 have H : Hp w S O [(bp, .cells #[.slice a3 (xs ++ num n).length c4, .I 0, .bool true, .bool false] 136 (0, 0))] [⟨Sb, 5, .slice a3 (xs ++ num n).length c4, (xs ++ num n)⟩] [] _ := H
 refine qF 1 [(0, .P bp 0), (1, .slice ae n ke), (5, .I ((n : Nat) : Int))] ?_
 refine qR 6 [.c [3, 0, 1, 0], .b 0, .c [4]] [(0, .P bp 0), (1, .slice ae n ke), (5, .I ((n : Nat) : Int)), (6, .slice none 0 0), (7, .I 0)] ?_
 refine WK.loop (α := Unit) (b := cd Tryz.prog 74 [3, 0, 1, 0, 0]) (by as_aux_lemma => kernel_rfl) (fun _ => [(0, .P bp 0), (1, .slice ae n ke), (5, .I ((n : Nat) : Int)), (6, .slice none 0 0), (7, .I 0)]) (fun _ w' => Hp w S O [(bp, .cells #[.slice a3 (xs ++ num n).length c4, .I 0, .bool true, .bool false] 136 (0, 0))] [⟨Sb, 5, .slice a3 (xs ++ num n).length c4, (xs ++ num n)⟩] [] w' ∧ True) (fun _ => 0) (()) ⟨H, trivial⟩ (rfl) ?_
 rintro _ w7 ⟨H, hinv0⟩ hback6
 refine qR 2 [.c [3, 0, 1, 0, 0, 0, 0], .c [3, 0, 1, 0, 0, 0, 1], .c [3, 0, 1, 0, 0, 1], .l [3, 0, 1, 0, 0], .b 0, .c [4]] [(0, .P bp 0), (1, .slice ae n ke), (5, .I ((n : Nat) : Int)), (6, .slice none 0 0), (7, .I 0)] ?_
 refine qG (sq 0 10) ?_
 refine qP 4 (sq 4 10) [(0, .P bp 0), (1, .slice ae n ke), (5, .I ((n : Nat) : Int)), (6, .slice none 0 0), (7, .I 0), (16, .bool (decide ((0 : Int) < ((n : Nat) : Int))))] ?_
 refine tD (fun b_ => [(0, .P bp 0), (1, .slice ae n ke), (5, .I ((n : Nat) : Int)), (6, .slice none 0 0), (7, .I 0), (16, .bool b_)]) ((0 : Int) < ((n : Nat) : Int)) (fun h8 => ?_) (fun h8 => ?_)
 ·
  omega
 ·
  refine qF 6 [(0, .P bp 0), (1, .slice ae n ke), (5, .I ((n : Nat) : Int)), (6, .slice none 0 0), (7, .I 0), (22, .bool false)] ?_
  refine qR 4 [.c [5]] [(4, .slice none 0 0)] ?_
  refine qT (.slice none 0 0) Tryz.func74 ?_
  exact ⟨_, rfl, _, _, by first | rfl | trivial, H.pick [] rfl⟩
theorem psessions_nil {S : Nat → Prop} {w : World} {O : List Nat} {bp : Nat} {xs : List (BitVec 8)} {a : Option Addr} {c : Nat} {ae : Option Addr} {n ke : Nat} (hn0 : n = 0) (H0 : Hp w S O [(bp, .cells #[.slice a xs.length c, .I 0, .bool true, .bool false] 136 (0, 0))] [⟨Sb, 5, .slice a xs.length c, xs⟩] [] w) (hby : xs.length + 10 ≤ 1099511627776) :
 Calls Tryz.prog 75 #[.P bp 0, .slice ae n ke] w (Ret fun v w' => ∃ (a' : Option Addr) (c' : Nat), (v = .slice none 0 0) ∧ Hp w S O [(bp, .cells #[.slice a' (xs ++ num n).length c', .I 0, .bool true, .bool false] 136 (0, 0))] [⟨Sb, 5, .slice a' (xs ++ num n).length c', (xs ++ num n)⟩] [] w') := by
 have hten : (num n).length ≤ 10 := num_ten (by omega)
 refine qS (fn := Tryz.f75) (n := 64) (σ := [(0, .P bp 0), (1, .slice ae n ke)]) Tryz.func75 ?_
 have H := H0
 refine qR 3 [.c [1, 0], .c [2]] [(0, .P bp 0), (1, .slice ae n ke)] ?_
 refine qG (sq 0 5) ?_
 refine qP 3 (sq 3 5) [(0, .P bp 0), (1, .slice ae n ke), (9, .P bp 0), (11, .I ((n : Nat) : Int))] ?_
 refine RW.callS (d := some 12) (r := (sq 4 5)) (g := 84) (args := #[.P bp 0, .I ((n : Nat) : Int)]) (by as_aux_lemma => kernel_rfl) (len_spec (k := n) (by omega) ((H.lend (M1 := [(bp, .cells #[.slice a xs.length c, .I 0, .bool true, .bool false] 136 (0, 0))]) (W1 := [⟨Sb, 5, .slice a xs.length c, xs⟩])).pick [] rfl) (by first | omega | (simp only [List.length_append, List.length_nil]; omega))) ?_
 rintro _ w1 ⟨a3, c4, rfl, H'⟩
 have H := H.back (M1 := [(bp, .cells #[.slice a xs.length c, .I 0, .bool true, .bool false] 136 (0, 0))]) (W1 := [⟨Sb, 5, .slice a xs.length c, xs⟩]) H'
 have H : Hp w S O [(bp, .cells #[.slice a3 (xs ++ num n).length c4, .I 0, .bool true, .bool false] 136 (0, 0))] [⟨Sb, 5, .slice a3 (xs ++ num n).length c4, (xs ++ num n)⟩] [] _ := H
 refine qF 1 [(0, .P bp 0), (1, .slice ae n ke), (5, .I ((n : Nat) : Int))] ?_
 refine qR 6 [.c [3, 0, 1, 0], .b 0, .c [4]] [(0, .P bp 0), (1, .slice ae n ke), (5, .I ((n : Nat) : Int)), (6, .slice none 0 0), (7, .I 0)] ?_
 refine WK.loop (α := Unit) (b := cd Tryz.prog 75 [3, 0, 1, 0, 0]) (by as_aux_lemma => kernel_rfl) (fun _ => [(0, .P bp 0), (1, .slice ae n ke), (5, .I ((n : Nat) : Int)), (6, .slice none 0 0), (7, .I 0)]) (fun _ w' => Hp w S O [(bp, .cells #[.slice a3 (xs ++ num n).length c4, .I 0, .bool true, .bool false] 136 (0, 0))] [⟨Sb, 5, .slice a3 (xs ++ num n).length c4, (xs ++ num n)⟩] [] w' ∧ True) (fun _ => 0) (()) ⟨H, trivial⟩ (rfl) ?_
 rintro _ w7 ⟨H, hinv0⟩ hback6
 refine qR 2 [.c [3, 0, 1, 0, 0, 0, 0], .c [3, 0, 1, 0, 0, 0, 1], .c [3, 0, 1, 0, 0, 1], .l [3, 0, 1, 0, 0], .b 0, .c [4]] [(0, .P bp 0), (1, .slice ae n ke), (5, .I ((n : Nat) : Int)), (6, .slice none 0 0), (7, .I 0)] ?_
 refine qG (sq 0 10) ?_
 refine qP 4 (sq 4 10) [(0, .P bp 0), (1, .slice ae n ke), (5, .I ((n : Nat) : Int)), (6, .slice none 0 0), (7, .I 0), (16, .bool (decide ((0 : Int) < ((n : Nat) : Int))))] ?_
 refine tD (fun b_ => [(0, .P bp 0), (1, .slice ae n ke), (5, .I ((n : Nat) : Int)), (6, .slice none 0 0), (7, .I 0), (16, .bool b_)]) ((0 : Int) < ((n : Nat) : Int)) (fun h8 => ?_) (fun h8 => ?_)
 ·
  omega
 ·
  refine qF 6 [(0, .P bp 0), (1, .slice ae n ke), (5, .I ((n : Nat) : Int)), (6, .slice none 0 0), (7, .I 0), (22, .bool false)] ?_
  refine qR 4 [.c [5]] [(4, .slice none 0 0)] ?_
  refine qT (.slice none 0 0) Tryz.func75 ?_
  exact ⟨_, rfl, _, _, by first | rfl | trivial, H.pick [] rfl⟩
theorem pwastes_nil {S : Nat → Prop} {w : World} {O : List Nat} {bp : Nat} {xs : List (BitVec 8)} {a : Option Addr} {c : Nat} {ae : Option Addr} {n ke : Nat} (hn0 : n = 0) (H0 : Hp w S O [(bp, .cells #[.slice a xs.length c, .I 0, .bool true, .bool false] 136 (0, 0))] [⟨Sb, 5, .slice a xs.length c, xs⟩] [] w) (hby : xs.length + 10 ≤ 1099511627776) :
 Calls Tryz.prog 76 #[.P bp 0, .slice ae n ke] w (Ret fun v w' => ∃ (a' : Option Addr) (c' : Nat), (v = .slice none 0 0) ∧ Hp w S O [(bp, .cells #[.slice a' (xs ++ num n).length c', .I 0, .bool true, .bool false] 136 (0, 0))] [⟨Sb, 5, .slice a' (xs ++ num n).length c', (xs ++ num n)⟩] [] w') := by
 have hten : (num n).length ≤ 10 := num_ten (by omega)
 refine qS (fn := Tryz.f76) (n := 49) (σ := [(0, .P bp 0), (1, .slice ae n ke)]) Tryz.func76 ?_
 have H := H0
 refine qR 3 [.c [1, 0], .c [2]] [(0, .P bp 0), (1, .slice ae n ke)] ?_
 refine qG (sq 0 5) ?_
 refine qP 3 (sq 3 5) [(0, .P bp 0), (1, .slice ae n ke), (9, .P bp 0), (11, .I ((n : Nat) : Int))] ?_
 refine RW.callS (d := some 12) (r := (sq 4 5)) (g := 84) (args := #[.P bp 0, .I ((n : Nat) : Int)]) (by as_aux_lemma => kernel_rfl) (len_spec (k := n) (by omega) ((H.lend (M1 := [(bp, .cells #[.slice a xs.length c, .I 0, .bool true, .bool false] 136 (0, 0))]) (W1 := [⟨Sb, 5, .slice a xs.length c, xs⟩])).pick [] rfl) (by first | omega | (simp only [List.length_append, List.length_nil]; omega))) ?_
 rintro _ w1 ⟨a3, c4, rfl, H'⟩
 have H := H.back (M1 := [(bp, .cells #[.slice a xs.length c, .I 0, .bool true, .bool false] 136 (0, 0))]) (W1 := [⟨Sb, 5, .slice a xs.length c, xs⟩]) H'
 have H : Hp w S O [(bp, .cells #[.slice a3 (xs ++ num n).length c4, .I 0, .bool true, .bool false] 136 (0, 0))] [⟨Sb, 5, .slice a3 (xs ++ num n).length c4, (xs ++ num n)⟩] [] _ := H
 refine qF 1 [(0, .P bp 0), (1, .slice ae n ke), (5, .I ((n : Nat) : Int))] ?_
 refine qR 6 [.c [3, 0, 1, 0], .b 0, .c [4]] [(0, .P bp 0), (1, .slice ae n ke), (5, .I ((n : Nat) : Int)), (6, .slice none 0 0), (7, .I 0)] ?_
 refine WK.loop (α := Unit) (b := cd Tryz.prog 76 [3, 0, 1, 0, 0]) (by as_aux_lemma => kernel_rfl) (fun _ => [(0, .P bp 0), (1, .slice ae n ke), (5, .I ((n : Nat) : Int)), (6, .slice none 0 0), (7, .I 0)]) (fun _ w' => Hp w S O [(bp, .cells #[.slice a3 (xs ++ num n).length c4, .I 0, .bool true, .bool false] 136 (0, 0))] [⟨Sb, 5, .slice a3 (xs ++ num n).length c4, (xs ++ num n)⟩] [] w' ∧ True) (fun _ => 0) (()) ⟨H, trivial⟩ (rfl) ?_
 rintro _ w7 ⟨H, hinv0⟩ hback6
 refine qR 2 [.c [3, 0, 1, 0, 0, 0, 0], .c [3, 0, 1, 0, 0, 0, 1], .c [3, 0, 1, 0, 0, 1], .l [3, 0, 1, 0, 0], .b 0, .c [4]] [(0, .P bp 0), (1, .slice ae n ke), (5, .I ((n : Nat) : Int)), (6, .slice none 0 0), (7, .I 0)] ?_
 refine qG (sq 0 10) ?_
 refine qP 4 (sq 4 10) [(0, .P bp 0), (1, .slice ae n ke), (5, .I ((n : Nat) : Int)), (6, .slice none 0 0), (7, .I 0), (16, .bool (decide ((0 : Int) < ((n : Nat) : Int))))] ?_
 refine tD (fun b_ => [(0, .P bp 0), (1, .slice ae n ke), (5, .I ((n : Nat) : Int)), (6, .slice none 0 0), (7, .I 0), (16, .bool b_)]) ((0 : Int) < ((n : Nat) : Int)) (fun h8 => ?_) (fun h8 => ?_)
 ·
  omega
 ·
  refine qF 6 [(0, .P bp 0), (1, .slice ae n ke), (5, .I ((n : Nat) : Int)), (6, .slice none 0 0), (7, .I 0), (22, .bool false)] ?_
  refine qR 4 [.c [5]] [(4, .slice none 0 0)] ?_
  refine qT (.slice none 0 0) Tryz.func76 ?_
  exact ⟨_, rfl, _, _, by first | rfl | trivial, H.pick [] rfl⟩
theorem pints_nil {S : Nat → Prop} {w : World} {O : List Nat} {bp : Nat} {xs : List (BitVec 8)} {a : Option Addr} {c : Nat} {ae : Option Addr} {n ke : Nat} (hn0 : n = 0) (H0 : Hp w S O [(bp, .cells #[.slice a xs.length c, .I 0, .bool true, .bool false] 136 (0, 0))] [⟨Sb, 5, .slice a xs.length c, xs⟩] [] w) (hby : xs.length + 10 ≤ 1099511627776) :
 Calls Tryz.prog 72 #[.P bp 0, .slice ae n ke] w (Ret fun v w' => ∃ (a' : Option Addr) (c' : Nat), (v = .slice none 0 0) ∧ Hp w S O [(bp, .cells #[.slice a' (xs ++ num n).length c', .I 0, .bool true, .bool false] 136 (0, 0))] [⟨Sb, 5, .slice a' (xs ++ num n).length c', (xs ++ num n)⟩] [] w') := by
 have hten : (num n).length ≤ 10 := num_ten (by omega)
 refine qS (fn := Tryz.f72) (n := 40) (σ := [(0, .P bp 0), (1, .slice ae n ke)]) Tryz.func72 ?_
 have H := H0
 refine qR 3 [.c [1, 0], .c [2]] [(0, .P bp 0), (1, .slice ae n ke)] ?_
 refine qG (sq 0 5) ?_
 refine qP 3 (sq 3 5) [(0, .P bp 0), (1, .slice ae n ke), (9, .P bp 0), (11, .I ((n : Nat) : Int))] ?_
 refine RW.callS (d := some 12) (r := (sq 4 5)) (g := 84) (args := #[.P bp 0, .I ((n : Nat) : Int)]) (by as_aux_lemma => kernel_rfl) (len_spec (k := n) (by omega) ((H.lend (M1 := [(bp, .cells #[.slice a xs.length c, .I 0, .bool true, .bool false] 136 (0, 0))]) (W1 := [⟨Sb, 5, .slice a xs.length c, xs⟩])).pick [] rfl) (by first | omega | (simp only [List.length_append, List.length_nil]; omega))) ?_
 rintro _ w1 ⟨a3, c4, rfl, H'⟩
 have H := H.back (M1 := [(bp, .cells #[.slice a xs.length c, .I 0, .bool true, .bool false] 136 (0, 0))]) (W1 := [⟨Sb, 5, .slice a xs.length c, xs⟩]) H'
 have H : Hp w S O [(bp, .cells #[.slice a3 (xs ++ num n).length c4, .I 0, .bool true, .bool false] 136 (0, 0))] [⟨Sb, 5, .slice a3 (xs ++ num n).length c4, (xs ++ num n)⟩] [] _ := H
 refine qF 1 [(0, .P bp 0), (1, .slice ae n ke), (5, .I ((n : Nat) : Int))] ?_
 refine qR 6 [.c [3, 0, 1, 0], .b 0, .c [4]] [(0, .P bp 0), (1, .slice ae n ke), (5, .I ((n : Nat) : Int)), (6, .slice none 0 0), (7, .I 0)] ?_
 refine WK.loop (α := Unit) (b := cd Tryz.prog 72 [3, 0, 1, 0, 0]) (by as_aux_lemma => kernel_rfl) (fun _ => [(0, .P bp 0), (1, .slice ae n ke), (5, .I ((n : Nat) : Int)), (6, .slice none 0 0), (7, .I 0)]) (fun _ w' => Hp w S O [(bp, .cells #[.slice a3 (xs ++ num n).length c4, .I 0, .bool true, .bool false] 136 (0, 0))] [⟨Sb, 5, .slice a3 (xs ++ num n).length c4, (xs ++ num n)⟩] [] w' ∧ True) (fun _ => 0) (()) ⟨H, trivial⟩ (rfl) ?_
 rintro _ w7 ⟨H, hinv0⟩ hback6
 refine qR 2 [.c [3, 0, 1, 0, 0, 0, 0], .c [3, 0, 1, 0, 0, 0, 1], .c [3, 0, 1, 0, 0, 1], .l [3, 0, 1, 0, 0], .b 0, .c [4]] [(0, .P bp 0), (1, .slice ae n ke), (5, .I ((n : Nat) : Int)), (6, .slice none 0 0), (7, .I 0)] ?_
 refine qG (sq 0 10) ?_
 refine qP 4 (sq 4 10) [(0, .P bp 0), (1, .slice ae n ke), (5, .I ((n : Nat) : Int)), (6, .slice none 0 0), (7, .I 0), (16, .bool (decide ((0 : Int) < ((n : Nat) : Int))))] ?_
 refine tD (fun b_ => [(0, .P bp 0), (1, .slice ae n ke), (5, .I ((n : Nat) : Int)), (6, .slice none 0 0), (7, .I 0), (16, .bool b_)]) ((0 : Int) < ((n : Nat) : Int)) (fun h8 => ?_) (fun h8 => ?_)
 ·
  omega
 ·
  refine qF 6 [(0, .P bp 0), (1, .slice ae n ke), (5, .I ((n : Nat) : Int)), (6, .slice none 0 0), (7, .I 0), (22, .bool false)] ?_
  refine qR 4 [.c [5]] [(4, .slice none 0 0)] ?_
  refine qT (.slice none 0 0) Tryz.func72 ?_
  exact ⟨_, rfl, _, _, by first | rfl | trivial, H.pick [] rfl⟩
theorem pmap_nil {S : Nat → Prop} {w : World} {O : List Nat} {bp : Nat} {xs : List (BitVec 8)} {a : Option Addr} {c : Nat}  (H0 : Hp w S O [(bp, .cells #[.slice a xs.length c, .I 0, .bool true, .bool false] 136 (0, 0))] [⟨Sb, 5, .slice a xs.length c, xs⟩] [] w) (hby : xs.length + 20 ≤ 1099511627776) :
 Calls Tryz.prog 71 #[.P bp 0, .agg #[.int .u64 0, .slice none 0 0]] w (Ret fun v w' => ∃ (a' : Option Addr) (c' : Nat), (v = .agg #[.int .u64 0, .slice none 0 0]) ∧ Hp w S O [(bp, .cells #[.slice a' ((xs ++ (num 0 ++ num 0)).length) c', .I 0, .bool true, .bool false] 136 (0, 0))] [⟨Sb, 5, .slice a' ((xs ++ (num 0 ++ num 0)).length) c', (xs ++ (num 0 ++ num 0))⟩] [] w') := by
 have hten : (num 0).length ≤ 10 := num_ten (by omega)
 have hten2 : (num (0 : Int).toNat).length ≤ 10 := hten
 refine qS (fn := Tryz.f71) (n := 58) (σ := [(0, .P bp 0), (1, .agg #[.int .u64 0, .slice none 0 0])]) Tryz.func71 ?_
 have H := H0
 refine qR 1 [.c [0], .c [1]] [(0, .P bp 0), (1, .agg #[.int .u64 0, .slice none 0 0])] ?_
 refine qG (sq 0 2) ?_
 refine qB .seq 3 (sq 1 2) #[.int .u64 0, .slice none 0 0] 70 H ?_
 intro b1 w2 H
 refine qB .seq 4 (sq 2 2) #[.int .u64 0, .slice none 0 0] 70 H ?_
 intro b3 w4 H
 refine qF 0 [(0, .P bp 0), (3, .P b1 0), (4, .P b3 0)] ?_
 refine qR 1 [.c [1, 0], .c [2]] [(0, .P bp 0), (3, .P b1 0), (4, .P b3 0)] ?_
 refine qG (sq 0 6) ?_
 refine qP 2 (sq 2 6) [(0, .P bp 0), (3, .P b1 0), (4, .P b3 0), (9, .P bp 0), (10, .P b1 0)] ?_
 refine qL .seq 11 (sq 3 6) 22 b1 0 0 (.int .u64 0) (H.cells 1 rfl) ?_
 have H := H.frontM 2 (M' := [(bp, .cells #[.slice a xs.length c, .I 0, .bool true, .bool false] 136 (0, 0)), (b3, .cells #[.int .u64 0, .slice none 0 0] 70 (0, 0)), (b1, .cells #[.int .u64 0, .slice none 0 0] 70 (0, 0))]) rfl
 refine RW.callS (d := some 12) (r := (sq 4 6)) (g := 77) (args := #[.P bp 0, .int .u64 0]) (by as_aux_lemma => kernel_rfl) (u64_spec (x := 0) (by omega) ((H.lend (M1 := [(bp, .cells #[.slice a xs.length c, .I 0, .bool true, .bool false] 136 (0, 0))]) (W1 := [⟨Sb, 5, .slice a xs.length c, xs⟩])).pick [] rfl) (by first | omega | (simp only [List.length_append, List.length_nil]; omega))) ?_
 rintro _ w5 ⟨a7, c8, rfl, H'⟩
 have H := H.back (M1 := [(bp, .cells #[.slice a xs.length c, .I 0, .bool true, .bool false] 136 (0, 0))]) (W1 := [⟨Sb, 5, .slice a xs.length c, xs⟩]) H'
 have H : Hp w S O [(bp, .cells #[.slice a7 ((xs ++ num (0 : Int).toNat).length) c8, .I 0, .bool true, .bool false] 136 (0, 0)), (b3, .cells #[.int .u64 0, .slice none 0 0] 70 (0, 0)), (b1, .cells #[.int .u64 0, .slice none 0 0] 70 (0, 0))] [⟨Sb, 5, .slice a7 ((xs ++ num (0 : Int).toNat).length) c8, (xs ++ num (0 : Int).toNat)⟩] [] _ := H
 refine qP 1 (sq 5 6) [(0, .P bp 0), (3, .P b1 0), (4, .P b3 0), (12, .int .u64 0), (13, .P b1 0)] ?_
 refine qW 22 b1 0 (sq 6 6) (.int .u64 0) [(bp, .cells #[.slice a7 ((xs ++ num (0 : Int).toNat).length) c8, .I 0, .bool true, .bool false] 136 (0, 0)), (b3, .cells #[.int .u64 0, .slice none 0 0] 70 (0, 0)), (b1, .cells #[.int .u64 0, .slice none 0 0] 70 (0, 0))] H 2 rfl rfl ?_
 intro w10 H
 refine qF 0 [(0, .P bp 0), (3, .P b1 0), (4, .P b3 0)] ?_
 refine qR 1 [.c [2, 0], .c [3]] [(0, .P bp 0), (3, .P b1 0), (4, .P b3 0)] ?_
 refine qG (sq 0 6) ?_
 refine qP 2 (sq 2 6) [(0, .P bp 0), (3, .P b1 0), (4, .P b3 0), (14, .P bp 0), (15, .P b1 1)] ?_
 refine qL .seq 16 (sq 3 6) 68 b1 1 1 (.slice none 0 0) (H.cells 2 rfl) ?_
 refine qP 1 (sq 4 6) [(0, .P bp 0), (3, .P b1 0), (4, .P b3 0), (14, .P bp 0), (17, .I 0)] ?_
 refine RW.callS (d := some 18) (r := (sq 5 6)) (g := 84) (args := #[.P bp 0, .I 0]) (by as_aux_lemma => kernel_rfl) (len_spec (k := 0) (by omega) ((H.lend (M1 := [(bp, .cells #[.slice a7 ((xs ++ num (0 : Int).toNat).length) c8, .I 0, .bool true, .bool false] 136 (0, 0))]) (W1 := [⟨Sb, 5, .slice a7 ((xs ++ num (0 : Int).toNat).length) c8, (xs ++ num (0 : Int).toNat)⟩])).pick [] rfl) (by first | omega | (simp only [List.length_append, List.length_nil]; omega))) ?_
 rintro _ w11 ⟨a13, c14, rfl, H'⟩
 have H := H.back (M1 := [(bp, .cells #[.slice a7 ((xs ++ num (0 : Int).toNat).length) c8, .I 0, .bool true, .bool false] 136 (0, 0))]) (W1 := [⟨Sb, 5, .slice a7 ((xs ++ num (0 : Int).toNat).length) c8, (xs ++ num (0 : Int).toNat)⟩]) H'
 have H : Hp w S O [(bp, .cells #[.slice a13 (((xs ++ num (0 : Int).toNat) ++ num 0).length) c14, .I 0, .bool true, .bool false] 136 (0, 0)), (b3, .cells #[.int .u64 0, .slice none 0 0] 70 (0, 0)), (b1, .cells #[.int .u64 0, .slice none 0 0] 70 (0, 0))] [⟨Sb, 5, .slice a13 (((xs ++ num (0 : Int).toNat) ++ num 0).length) c14, ((xs ++ num (0 : Int).toNat) ++ num 0)⟩] [] _ := H
 refine qF 1 [(0, .P bp 0), (3, .P b1 0), (4, .P b3 0), (5, .I ((0 : Nat) : Int))] ?_
 refine qR 6 [.c [4, 0, 1, 0], .b 0, .c [5]] [(0, .P bp 0), (3, .P b1 0), (4, .P b3 0), (5, .I ((0 : Nat) : Int)), (6, .slice none 0 0), (7, .I 0)] ?_
 refine WK.loop (α := Unit) (b := cd Tryz.prog 71 [4, 0, 1, 0, 0]) (by as_aux_lemma => kernel_rfl) (fun _ => [(0, .P bp 0), (3, .P b1 0), (4, .P b3 0), (5, .I ((0 : Nat) : Int)), (6, .slice none 0 0), (7, .I 0)]) (fun _ w' => Hp w S O [(bp, .cells #[.slice a13 (((xs ++ num (0 : Int).toNat) ++ num 0).length) c14, .I 0, .bool true, .bool false] 136 (0, 0)), (b3, .cells #[.int .u64 0, .slice none 0 0] 70 (0, 0)), (b1, .cells #[.int .u64 0, .slice none 0 0] 70 (0, 0))] [⟨Sb, 5, .slice a13 (((xs ++ num (0 : Int).toNat) ++ num 0).length) c14, ((xs ++ num (0 : Int).toNat) ++ num 0)⟩] [] w' ∧ True) (fun _ => 0) (()) ⟨H, trivial⟩ (rfl) ?_
 rintro _ w17 ⟨H, hinv0⟩ hback16
 refine qR 2 [.c [4, 0, 1, 0, 0, 0, 0], .c [4, 0, 1, 0, 0, 0, 1], .c [4, 0, 1, 0, 0, 1], .l [4, 0, 1, 0, 0], .b 0, .c [5]] [(0, .P bp 0), (3, .P b1 0), (4, .P b3 0), (5, .I ((0 : Nat) : Int)), (6, .slice none 0 0), (7, .I 0)] ?_
 refine qG (sq 0 10) ?_
 refine qP 4 (sq 4 10) [(0, .P bp 0), (3, .P b1 0), (4, .P b3 0), (5, .I ((0 : Nat) : Int)), (6, .slice none 0 0), (7, .I 0), (22, .bool (decide ((0 : Int) < ((0 : Nat) : Int))))] ?_
 refine tD (fun b_ => [(0, .P bp 0), (3, .P b1 0), (4, .P b3 0), (5, .I ((0 : Nat) : Int)), (6, .slice none 0 0), (7, .I 0), (22, .bool b_)]) ((0 : Int) < ((0 : Nat) : Int)) (fun h18 => ?_) (fun h18 => ?_)
 ·
  omega
 ·
  refine qF 6 [(0, .P bp 0), (3, .P b1 0), (4, .P b3 0), (5, .I ((0 : Nat) : Int)), (6, .slice none 0 0), (7, .I 0), (28, .bool false)] ?_
  refine qR 3 [.c [5, 0], .c [6]] [(3, .P b1 0), (4, .P b3 0), (6, .slice none 0 0)] ?_
  refine qG (sq 0 3) ?_
  refine qP 2 (sq 2 3) [(3, .P b1 0), (4, .P b3 0), (55, .slice none 0 0), (56, .P b1 1)] ?_
  refine qW 68 b1 1 (sq 3 3) (.slice none 0 0) [(bp, .cells #[.slice a13 (((xs ++ num (0 : Int).toNat) ++ num 0).length) c14, .I 0, .bool true, .bool false] 136 (0, 0)), (b3, .cells #[.int .u64 0, .slice none 0 0] 70 (0, 0)), (b1, .cells #[.int .u64 0, .slice none 0 0] 70 (0, 0))] H 2 rfl rfl ?_
  intro w19 H
  refine qF 0 [(3, .P b1 0), (4, .P b3 0)] ?_
  refine qR 1 [.c [6, 0], .c [7]] [(3, .P b1 0), (4, .P b3 0)] ?_
  refine qG (sq 0 2) ?_
  refine qL .seq 57 (sq 1 2) 70 b1 0 0 (.agg #[.int .u64 0, .slice none 0 0]) (H.cells 2 rfl) ?_
  refine qW 70 b3 0 (sq 2 2) (.agg #[.int .u64 0, .slice none 0 0]) [(bp, .cells #[.slice a13 (((xs ++ num (0 : Int).toNat) ++ num 0).length) c14, .I 0, .bool true, .bool false] 136 (0, 0)), (b3, .cells #[.int .u64 0, .slice none 0 0] 70 (0, 0)), (b1, .cells #[.int .u64 0, .slice none 0 0] 70 (0, 0))] H 1 rfl rfl ?_
  intro w20 H
  refine qF 0 [(4, .P b3 0)] ?_
  refine qRB (.agg #[.int .u64 0, .slice none 0 0]) Tryz.func71 (v1 (.cell 4 70) (vC (H.cells 1 rfl))) ?_
  have hcf : ((xs ++ num (0 : Int).toNat) ++ num 0) = xs ++ (num 0 ++ num 0) := by simp [Int.toNat_zero]
  rw [hcf] at H
  have H := H.drop (M' := [(bp, .cells #[.slice a13 ((xs ++ (num 0 ++ num 0)).length) c14, .I 0, .bool true, .bool false] 136 (0, 0))]) (W' := [⟨Sb, 5, .slice a13 ((xs ++ (num 0 ++ num 0)).length) c14, xs ++ (num 0 ++ num 0)⟩]) (by repeat (first | exact List.Sublist.refl _ | apply List.Sublist.cons_cons | apply List.Sublist.cons)) (by repeat (first | exact List.Sublist.refl _ | apply List.Sublist.cons_cons | apply List.Sublist.cons))
  exact ⟨_, rfl, _, _, by first | rfl | trivial, H.pick [] rfl⟩
theorem pobjs_spec {S : Nat → Prop} {w : World} {O : List Nat} {bp : Nat} {xs : List (BitVec 8)} {a : Option Addr} {c : Nat} {D : ObjD} {al : Option Addr} {cl : Nat} (hD : ObjOk D) (H0 : Hp w S O [(bp, .cells #[.slice a xs.length c, .I 0, .bool true, .bool false] 136 (0, 0))] [⟨Sb, 5, .slice a xs.length c, xs⟩] [Rp (Shape.slice objS) [.slice al 1 cl] [D]] w) (hby : xs.length + (D.key.size + 10 * D.nodes.length + 200) ≤ 1099511627776) :
 Calls Tryz.prog 73 #[.P bp 0, .slice al 1 cl] w (Ret fun v w' => ∃ (a' : Option Addr) (c' : Nat), (∃ (ar : Option Addr) (cr : Nat), v = .slice ar 1 cr) ∧ Hp w S O [(bp, .cells #[.slice a' ((xs ++ (num 1 ++ objE D)).length) c', .I 0, .bool true, .bool false] 136 (0, 0))] [⟨Sb, 5, .slice a' ((xs ++ (num 1 ++ objE D)).length) c', (xs ++ (num 1 ++ objE D))⟩] [] w') := by
 obtain ⟨hb0, hb1, hb2, hb3, hb4, hb5, hb6⟩ := id hD
 have hkey : D.key.size ≤ maxLen := by unfold maxLen; omega
 have ht0 : (num D.version.toNat).length ≤ 10 := num_ten (by omega)
 have ht1 : (intE D.size).length ≤ 10 := intE_ten (by omega)
 have ht2 : (num D.sum.toNat).length ≤ 10 := num_ten (by have := D.sum.isLt; omega)
 have ht3 : (intE D.group).length ≤ 10 := intE_ten (by omega)
 have ht4 : (num D.epoch.toNat).length ≤ 10 := num_ten (by omega)
 have ht5 : (num D.nodes.length).length ≤ 10 := num_ten (by omega)
 have ht6 : (num D.key.size).length ≤ 10 := num_ten (by omega)
 have ht17 : (textE D.key).length ≤ D.key.size + 10 := by unfold textE bytesE; rw [List.length_append, bytesOf_len]; omega
 have hol := objE_len hD
 have hten : (num 1).length ≤ 10 := num_ten (by omega)
 refine qS (fn := Tryz.f73) (n := 41) (σ := [(0, .P bp 0), (1, .slice al 1 cl)]) Tryz.func73 ?_
 have H := H0
 refine qR 3 [.c [1, 0], .c [2]] [(0, .P bp 0), (1, .slice al 1 cl)] ?_
 refine qG (sq 0 5) ?_
 refine qP 3 (sq 3 5) [(0, .P bp 0), (1, .slice al 1 cl), (9, .P bp 0), (11, .I 1)] ?_
 refine RW.callS (d := some 12) (r := (sq 4 5)) (g := 84) (args := #[.P bp 0, .I 1]) (by as_aux_lemma => kernel_rfl) (len_spec (k := 1) (by omega) ((H.lend (M1 := [(bp, .cells #[.slice a xs.length c, .I 0, .bool true, .bool false] 136 (0, 0))]) (W1 := [⟨Sb, 5, .slice a xs.length c, xs⟩])).pick [] rfl) (by first | omega | (simp only [List.length_append, List.length_nil]; omega))) ?_
 rintro _ w1 ⟨a3, c4, rfl, H'⟩
 have H := H.back (M1 := [(bp, .cells #[.slice a xs.length c, .I 0, .bool true, .bool false] 136 (0, 0))]) (W1 := [⟨Sb, 5, .slice a xs.length c, xs⟩]) H'
 have H : Hp w S O [(bp, .cells #[.slice a3 (xs ++ num 1).length c4, .I 0, .bool true, .bool false] 136 (0, 0))] [⟨Sb, 5, .slice a3 (xs ++ num 1).length c4, (xs ++ num 1)⟩] [Rp (Shape.slice objS) [.slice al 1 cl] [D]] _ := H
 refine qF 1 [(0, .P bp 0), (1, .slice al 1 cl), (5, .I ((1 : Nat) : Int))] ?_
 refine qR 6 [.c [3, 0, 1, 0], .b 0, .c [4]] [(0, .P bp 0), (1, .slice al 1 cl), (5, .I ((1 : Nat) : Int)), (6, .slice none 0 0), (7, .I 0)] ?_
 have H := H.ownNil (Shape.junk 7 (by decide)) 26
 refine WK.loop (α := Nat × List (BitVec 8) × Option Addr × Nat × Option Addr × Nat) (b := cd Tryz.prog 73 [3, 0, 1, 0, 0]) (by as_aux_lemma => kernel_rfl) (fun st_ => match st_ with | (i, ys, a9, c9, ao, co) => [(0, .P bp 0), (1, .slice al 1 cl), (5, .I ((1 : Nat) : Int)), (6, .slice ao ((List.replicate i ()).length) co), (7, .I i)]) (fun st_ w' => match st_ with | (i, ys, a9, c9, ao, co) => Hp w S O [(bp, .cells #[.slice a9 ys.length c9, .I 0, .bool true, .bool false] 136 (0, 0))] [⟨Shape.junk 7 (by decide), 26, .slice ao ((List.replicate i ()).length) co, List.replicate i ()⟩, ⟨Sb, 5, .slice a9 ys.length c9, ys⟩] [Rp (Shape.slice objS) [.slice al 1 cl] [D]] w' ∧ i ≤ 1 ∧ ys = xs ++ num 1 ++ (if i = 0 then [] else objE D) ∧ (¬ i = 0 ∨ ys.length ≤ xs.length + 10)) (fun st_ => match st_ with | (i, ys, a9, c9, ao, co) => 1 - i) (0, (xs ++ num 1), a3, c4, none, 0) ⟨H, by omega, by rw [if_pos rfl, List.append_nil], .inr (by simp only [List.length_append]; omega)⟩ (rfl) ?_
 rintro ⟨i, ys, a9, c9, ao, co⟩ w7 ⟨H, hinv0⟩ hback6
 have hil : (List.replicate i ()).length = i := List.length_replicate
 refine qR 2 [.c [3, 0, 1, 0, 0, 0, 0], .c [3, 0, 1, 0, 0, 0, 1], .c [3, 0, 1, 0, 0, 1], .l [3, 0, 1, 0, 0], .b 0, .c [4]] [(0, .P bp 0), (1, .slice al 1 cl), (5, .I ((1 : Nat) : Int)), (6, .slice ao ((List.replicate i ()).length) co), (7, .I i)] ?_
 refine qG (sq 0 10) ?_
 refine qP 4 (sq 4 10) [(0, .P bp 0), (1, .slice al 1 cl), (5, .I ((1 : Nat) : Int)), (6, .slice ao ((List.replicate i ()).length) co), (7, .I i), (16, .bool (decide (((i : Int) : Int) < ((1 : Nat) : Int))))] ?_
 refine tD (fun b_ => [(0, .P bp 0), (1, .slice al 1 cl), (5, .I ((1 : Nat) : Int)), (6, .slice ao ((List.replicate i ()).length) co), (7, .I i), (16, .bool b_)]) (((i : Int) : Int) < ((1 : Nat) : Int)) (fun h8 => ?_) (fun h8 => ?_)
 ·
  refine qP 3 (sq 7 10) [(0, .P bp 0), (1, .slice al 1 cl), (5, .I ((1 : Nat) : Int)), (6, .slice ao ((List.replicate i ()).length) co), (7, .I i), (16, .bool true), (19, .P bp 3)] ?_
  refine qL .seq 20 (sq 8 10) 4 bp 3 3 (.bool false) (H.cells 0 rfl) ?_
  refine qF 2 [(0, .P bp 0), (1, .slice al 1 cl), (5, .I ((1 : Nat) : Int)), (6, .slice ao ((List.replicate i ()).length) co), (7, .I i), (22, .bool true)] ?_
  refine qR 5 [.c [3, 0, 1, 0, 0, 1, 0, 0, 0], .c [3, 0, 1, 0, 0, 1, 0, 0, 1], .b 1, .c [3, 0, 1, 0, 0, 2], .l [3, 0, 1, 0, 0], .b 0, .c [4]] [(0, .P bp 0), (1, .slice al 1 cl), (5, .I ((1 : Nat) : Int)), (6, .slice ao ((List.replicate i ()).length) co), (7, .I i)] ?_
  refine qG (sq 0 3) ?_
  refine qP 1 (sq 1 3) [(0, .P bp 0), (1, .slice al 1 cl), (5, .I ((1 : Nat) : Int)), (6, .slice ao ((List.replicate i ()).length) co), (7, .I i), (25, .agg #[.string (⟨#[]⟩), .int .u64 0, .I 0, .int .u32 0, .I 0, .int .u64 0, .slice none 0 0])] ?_
  refine qB .seq 8 (sq 2 3) #[.string (⟨#[]⟩), .int .u64 0, .I 0, .int .u32 0, .I 0, .int .u64 0, .slice none 0 0] 26 H ?_
  intro b9 w10 H
  refine qW 26 b9 0 (sq 3 3) (.agg #[.string (⟨#[]⟩), .int .u64 0, .I 0, .int .u32 0, .I 0, .int .u64 0, .slice none 0 0]) [(b9, .cells #[.string (⟨#[]⟩), .int .u64 0, .I 0, .int .u32 0, .I 0, .int .u64 0, .slice none 0 0] 26 (0, 0)), (bp, .cells #[.slice a9 ys.length c9, .I 0, .bool true, .bool false] 136 (0, 0))] H 0 rfl rfl ?_
  intro w11 H
  refine qF 0 [(0, .P bp 0), (1, .slice al 1 cl), (5, .I ((1 : Nat) : Int)), (6, .slice ao ((List.replicate i ()).length) co), (7, .I i), (8, .P b9 0)] ?_
  refine qR 2 [.c [3, 0, 1, 0, 0, 1, 0, 0, 1, 0, 0], .c [3, 0, 1, 0, 0, 1, 0, 0, 1, 0, 1], .c [3, 0, 1, 0, 0, 1, 0, 0, 2], .b 1, .c [3, 0, 1, 0, 0, 2], .l [3, 0, 1, 0, 0], .b 0, .c [4]] [(0, .P bp 0), (1, .slice al 1 cl), (5, .I ((1 : Nat) : Int)), (6, .slice ao ((List.replicate i ()).length) co), (7, .I i), (8, .P b9 0)] ?_
  refine qG (sq 0 4) ?_
  refine qP 3 (sq 3 4) [(0, .P bp 0), (1, .slice al 1 cl), (5, .I ((1 : Nat) : Int)), (6, .slice ao ((List.replicate i ()).length) co), (7, .I i), (8, .P b9 0), (28, .P bp 2)] ?_
  refine qL .seq 29 (sq 4 4) 4 bp 2 2 (.bool true) (H.cells 1 rfl) ?_
  refine qF 0 [(0, .P bp 0), (1, .slice al 1 cl), (5, .I ((1 : Nat) : Int)), (6, .slice ao ((List.replicate i ()).length) co), (7, .I i), (8, .P b9 0), (29, .bool true)] ?_
  refine qR 1 [.c [3, 0, 1, 0, 0, 1, 0, 0, 1, 0, 1, 0], .c [3, 0, 1, 0, 0, 1, 0, 0, 2], .b 1, .c [3, 0, 1, 0, 0, 2], .l [3, 0, 1, 0, 0], .b 0, .c [4]] [(0, .P bp 0), (1, .slice al 1 cl), (5, .I ((1 : Nat) : Int)), (6, .slice ao ((List.replicate i ()).length) co), (7, .I i), (8, .P b9 0)] ?_
  refine qG (sq 0 5) ?_
  refine qP 2 (sq 2 5) [(0, .P bp 0), (1, .slice al 1 cl), (5, .I ((1 : Nat) : Int)), (6, .slice ao ((List.replicate i ()).length) co), (7, .I i), (8, .P b9 0), (30, .slice al 1 cl), (31, .I i)] ?_
  have hx12 : i < [D].length := by show i < 1; omega
  refine qX .seq 32 (sq 3 5) 67 26 (i : Int) objS D H 0 rfl i (by omega) (by (have hi0 : i = 0 := by omega); subst hi0; rfl) ?_
  intro b13 o14 es15 hr16 H
  obtain ⟨a6q17, k6q17, rfl, hf18, hf19, hf20, hf21, hf22, hf23⟩ := obj_open hr16
  have H := H.add (F := Rp Li [.slice a6q17 D.nodes.length k6q17] D.nodes) hf23
  refine qL .seq 33 (sq 4 5) 26 b13 o14 0 (.agg (objV D a6q17 k6q17).toArray) (H.fc 1 rfl) ?_
  refine qW 26 b9 0 (sq 5 5) (.agg (objV D a6q17 k6q17).toArray) [(b9, .cells (objV D a6q17 k6q17).toArray 26 (0, 0)), (bp, .cells #[.slice a9 ys.length c9, .I 0, .bool true, .bool false] 136 (0, 0))] H 0 rfl rfl ?_
  intro w24 H
  refine qF 0 [(0, .P bp 0), (1, .slice al 1 cl), (5, .I ((1 : Nat) : Int)), (6, .slice ao ((List.replicate i ()).length) co), (7, .I i), (8, .P b9 0)] ?_
  refine qG (sq 0 7) ?_
  refine qP 2 (sq 2 7) [(0, .P bp 0), (1, .slice al 1 cl), (5, .I ((1 : Nat) : Int)), (6, .slice ao ((List.replicate i ()).length) co), (7, .I i), (8, .P b9 0), (34, .slice ao ((List.replicate i ()).length) co), (35, .P bp 0)] ?_
  refine qL .seq 36 (sq 3 7) 26 b9 0 0 (.agg (objV D a6q17 k6q17).toArray) (H.cells 0 rfl) ?_
  have H := H.frontM 1 (M' := [(bp, .cells #[.slice a9 ys.length c9, .I 0, .bool true, .bool false] 136 (0, 0)), (b9, .cells (objV D a6q17 k6q17).toArray 26 (0, 0))]) rfl
  have H := H.frontW 1 (W' := [⟨Sb, 5, .slice a9 ys.length c9, ys⟩, ⟨Shape.junk 7 (by decide), 26, .slice ao ((List.replicate i ()).length) co, List.replicate i ()⟩]) rfl
  refine RW.callS (d := some 37) (r := (sq 4 7)) (g := 96) (args := #[.P bp 0, .agg (objV D a6q17 k6q17).toArray]) (by as_aux_lemma => kernel_rfl) (pobj_spec (D := D) (by assumption) ((H.lend (M1 := [(bp, .cells #[.slice a9 ys.length c9, .I 0, .bool true, .bool false] 136 (0, 0))]) (W1 := [⟨Sb, 5, .slice a9 ys.length c9, ys⟩])).pick [0] rfl) (by first | omega | (simp only [List.length_append, List.length_nil]; omega))) ?_
  rintro v26 w25 ⟨a27, c28, ⟨t30, a31, c32, rfl⟩, H'⟩
  have H := H.back (M1 := [(bp, .cells #[.slice a9 ys.length c9, .I 0, .bool true, .bool false] 136 (0, 0))]) (W1 := [⟨Sb, 5, .slice a9 ys.length c9, ys⟩]) H'
  have H : Hp w S O [(bp, .cells #[.slice a27 (ys ++ objE D).length c28, .I 0, .bool true, .bool false] 136 (0, 0)), (b9, .cells (objV D a6q17 k6q17).toArray 26 (0, 0))] [⟨Sb, 5, .slice a27 (ys ++ objE D).length c28, (ys ++ objE D)⟩, ⟨Shape.junk 7 (by decide), 26, .slice ao ((List.replicate i ()).length) co, List.replicate i ()⟩] [Rp Li [.slice a6q17 D.nodes.length k6q17] D.nodes, Fc b13 o14 (objV D a6q17 k6q17), Rp (Shape.slice objS) [.slice al 1 cl] [D]] _ := H
  refine RW.new (κ := .seq) (d := some 38) (r := (sq 5 7)) (o := .cells #[.string t30, .int .u64 D.version, .I D.size, .int .u32 ((D.sum.toNat : Nat) : Int), .I D.group, .int .u64 D.epoch, .slice a31 D.nodes.length c32] 26 (0, 0)) (v := fun b => .slice (some ⟨b, 0, none⟩) 1 1) (fun b => by as_aux_lemma => kernel_rfl) (nofun) H ?_
  intro b33 w34 H
  have H := H.freeze 0 rfl (Shape.junk 7 (by decide)) [()] 1 (by simp [maxLen]) (Nat.le_refl _) (EsP.cons (c := [.string t30, .int .u64 D.version, .I D.size, .int .u32 ((D.sum.toNat : Nat) : Int), .I D.group, .int .u64 D.epoch, .slice a31 D.nodes.length c32]) ⟨rfl, rfl⟩ EsP.nil)
  have H : Hp w S O [(bp, .cells #[.slice a27 (ys ++ objE D).length c28, .I 0, .bool true, .bool false] 136 (0, 0)), (b9, .cells (objV D a6q17 k6q17).toArray 26 (0, 0))] [⟨Sb, 5, .slice a27 (ys ++ objE D).length c28, (ys ++ objE D)⟩, ⟨Shape.junk 7 (by decide), 26, .slice ao ((List.replicate i ()).length) co, List.replicate i ()⟩] [Rp (Shape.slice (Shape.junk 7 (by decide))) [.slice (some ⟨b33, 0, none⟩) 1 1] [()], Rp Li [.slice a6q17 D.nodes.length k6q17] D.nodes, Fc b13 o14 (objV D a6q17 k6q17), Rp (Shape.slice objS) [.slice al 1 cl] [D]] _ := H
  refine RW.appendW (d := some 39) (r := (sq 6 7)) (T := 67) (ty := 67) (e := 26) (m := 7) (by_ := 80) (v := .slice ao ((List.replicate i ()).length) co) (a2 := (some ⟨b33, 0, none⟩)) (l2 := 1) (c2 := 1) (zs := List.replicate (i + 1) ()) (by as_aux_lemma => kernel_rfl) (by as_aux_lemma => kernel_rfl) rfl H 1 rfl 0 rfl (by rw [List.replicate_succ']) (by rw [List.length_replicate]; omega) ?_
  intro a35 c36 w38 H hc37
  have H : Hp w S O [(bp, .cells #[.slice a27 (ys ++ objE D).length c28, .I 0, .bool true, .bool false] 136 (0, 0)), (b9, .cells (objV D a6q17 k6q17).toArray 26 (0, 0))] [⟨Sb, 5, .slice a27 (ys ++ objE D).length c28, (ys ++ objE D)⟩, ⟨Shape.junk 7 (by decide), 26, .slice a35 ((List.replicate (i + 1) ()).length) c36, List.replicate (i + 1) ()⟩] [Rp (Shape.slice (Shape.junk 7 (by decide))) [.slice (some ⟨b33, 0, none⟩) 1 1] [()], Rp Li [.slice a6q17 D.nodes.length k6q17] D.nodes, Fc b13 o14 (objV D a6q17 k6q17), Rp (Shape.slice objS) [.slice al 1 cl] [D]] _ := H
  refine qF 1 [(0, .P bp 0), (1, .slice al 1 cl), (5, .I ((1 : Nat) : Int)), (6, .slice a35 ((List.replicate (i + 1) ()).length) c36), (7, .I i)] ?_
  refine qR 1 [.c [3, 0, 1, 0, 0, 2], .l [3, 0, 1, 0, 0], .b 0, .c [4]] [(0, .P bp 0), (1, .slice al 1 cl), (5, .I ((1 : Nat) : Int)), (6, .slice a35 ((List.replicate (i + 1) ()).length) c36), (7, .I i)] ?_
  refine qG (sq 0 3) ?_
  refine qP 1 (sq 1 3) [(0, .P bp 0), (1, .slice al 1 cl), (5, .I ((1 : Nat) : Int)), (6, .slice a35 ((List.replicate (i + 1) ()).length) c36), (7, .I i), (23, .I i)] ?_
  refine qI .seq 24 (sq 2 3) ((i : Int) + 1) ?_
  refine qF 1 [(0, .P bp 0), (1, .slice al 1 cl), (5, .I ((1 : Nat) : Int)), (6, .slice a35 ((List.replicate (i + 1) ()).length) c36), (7, .I ((i : Int) + 1))] ?_
  have H := H.pick [3] rfl
  have H := H.frontW 1 (W' := [⟨Shape.junk 7 (by decide), 26, .slice a35 ((List.replicate (i + 1) ()).length) c36, List.replicate (i + 1) ()⟩, ⟨Sb, 5, .slice a27 (ys ++ objE D).length c28, (ys ++ objE D)⟩]) rfl
  have H := H.drop (M' := [(bp, .cells #[.slice a27 (ys ++ objE D).length c28, .I 0, .bool true, .bool false] 136 (0, 0))]) (W' := [⟨Shape.junk 7 (by decide), 26, .slice a35 ((List.replicate (i + 1) ()).length) c36, List.replicate (i + 1) ()⟩, ⟨Sb, 5, .slice a27 (ys ++ objE D).length c28, (ys ++ objE D)⟩]) (by repeat (first | exact List.Sublist.refl _ | apply List.Sublist.cons_cons | apply List.Sublist.cons)) (by repeat (first | exact List.Sublist.refl _ | apply List.Sublist.cons_cons | apply List.Sublist.cons))
  exact WK.back (hback6 (i + 1, (ys ++ objE D), a27, c28, a35, c36) _ ⟨H, by omega, by (have hi0 : i = 0 := by omega); subst hi0; rw [hinv0.2.1]; simp, by omega⟩ (by first | omega | (simp only []; omega))) (by rfl)
 ·
  refine qF 6 [(0, .P bp 0), (1, .slice al 1 cl), (5, .I ((1 : Nat) : Int)), (6, .slice ao ((List.replicate i ()).length) co), (7, .I i), (22, .bool false)] ?_
  refine qR 4 [.c [5]] [(4, .slice ao ((List.replicate i ()).length) co)] ?_
  refine qT (.slice ao ((List.replicate i ()).length) co) Tryz.func73 ?_
  have H := H.frontW 1 (W' := [⟨Sb, 5, .slice a9 ys.length c9, ys⟩, ⟨Shape.junk 7 (by decide), 26, .slice ao ((List.replicate i ()).length) co, List.replicate i ()⟩]) rfl
  have hi9 : i = 1 := by omega
  subst hi9
  obtain ⟨-, hy9, -⟩ := hinv0
  rw [if_neg (by omega), List.append_assoc] at hy9
  subst hy9
  have H := H.drop (M' := [_]) (W' := [_]) (List.Sublist.refl _) (List.Sublist.cons_cons _ (List.nil_sublist _))
  exact ⟨_, rfl, _, _, ⟨_, _, rfl⟩, H.pick [] rfl⟩
def metaE (D : ObjD) : List (BitVec 8) := intE 0 ++ (intE 0 ++ (intE 0 ++ ((num 0 ++ num 0) ++ ((num 0 ++ num 0) ++ (num 0 ++ ((num 1 ++ objE D) ++ (num 0 ++ (num 0 ++ (num 0 ++ (num 0 ++ (num (0 : Int).toNat)))))))))))
theorem pmeta_spec {S : Nat → Prop} {w : World} {O : List Nat} {bp : Nat} {xs : List (BitVec 8)} {a : Option Addr} {c : Nat} {D : ObjD} {al : Option Addr} {cl : Nat} (hD : ObjOk D) (H0 : Hp w S O [(bp, .cells #[.slice a xs.length c, .I 0, .bool true, .bool false] 136 (0, 0))] [⟨Sb, 5, .slice a xs.length c, xs⟩] [Rp (Shape.slice objS) [.slice al 1 cl] [D]] w) (hby : xs.length + (D.key.size + 10 * D.nodes.length + 400) ≤ 1099511627776) :
 Calls Tryz.prog 59 #[.P bp 0, .agg #[.I 0, .I 0, .I 0, .int .u64 0, .slice none 0 0, .int .u64 0, .slice none 0 0, .slice none 0 0, .slice al 1 cl, .slice none 0 0, .slice none 0 0, .slice none 0 0, .slice none 0 0, .int .u64 0]] w (Ret fun v w' => ∃ (a' : Option Addr) (c' : Nat), (True) ∧ Hp w S O [(bp, .cells #[.slice a' (xs ++ metaE D).length c', .I 0, .bool true, .bool false] 136 (0, 0))] [⟨Sb, 5, .slice a' (xs ++ metaE D).length c', (xs ++ metaE D)⟩] [] w') := by
 have hol := objE_len hD
 have ht0 : (num 0).length ≤ 10 := num_ten (by omega)
 have ht1 : (num 1).length ≤ 10 := num_ten (by omega)
 have ht2 : (intE 0).length ≤ 10 := intE_ten (by omega)
 have ht3 : (num (0 : Int).toNat).length ≤ 10 := ht0
 have ht4 : (num 0 ++ num 0).length ≤ 20 := by rw [List.length_append]; omega
 have ht5 : (num 1 ++ objE D).length ≤ D.key.size + 10 * D.nodes.length + 100 := by rw [List.length_append]; omega
 refine qS (fn := Tryz.f59) (n := 66) (σ := [(0, .P bp 0), (1, .agg #[.I 0, .I 0, .I 0, .int .u64 0, .slice none 0 0, .int .u64 0, .slice none 0 0, .slice none 0 0, .slice al 1 cl, .slice none 0 0, .slice none 0 0, .slice none 0 0, .slice none 0 0, .int .u64 0])]) Tryz.func59 ?_
 have H := H0
 refine qR 1 [.c [0], .c [1]] [(0, .P bp 0), (1, .agg #[.I 0, .I 0, .I 0, .int .u64 0, .slice none 0 0, .int .u64 0, .slice none 0 0, .slice none 0 0, .slice al 1 cl, .slice none 0 0, .slice none 0 0, .slice none 0 0, .slice none 0 0, .int .u64 0])] ?_
 refine qG (sq 0 2) ?_
 refine qB .seq 3 (sq 1 2) #[.I 0, .I 0, .I 0, .int .u64 0, .slice none 0 0, .int .u64 0, .slice none 0 0, .slice none 0 0, .slice al 1 cl, .slice none 0 0, .slice none 0 0, .slice none 0 0, .slice none 0 0, .int .u64 0] 75 H ?_
 intro b1 w2 H
 refine qB .seq 4 (sq 2 2) #[.I 0, .I 0, .I 0, .int .u64 0, .slice none 0 0, .int .u64 0, .slice none 0 0, .slice none 0 0, .slice none 0 0, .slice none 0 0, .slice none 0 0, .slice none 0 0, .slice none 0 0, .int .u64 0] 75 H ?_
 intro b3 w4 H
 refine qF 0 [(0, .P bp 0), (3, .P b1 0), (4, .P b3 0)] ?_
 refine qR 1 [.c [1, 0], .c [2]] [(0, .P bp 0), (3, .P b1 0), (4, .P b3 0)] ?_
 refine qG (sq 0 6) ?_
 refine qP 2 (sq 2 6) [(0, .P bp 0), (3, .P b1 0), (4, .P b3 0), (5, .P bp 0), (6, .P b1 0)] ?_
 refine qL .seq 7 (sq 3 6) 3 b1 0 0 (.I 0) (H.cells 1 rfl) ?_
 have H := H.frontM 2 (M' := [(bp, .cells #[.slice a xs.length c, .I 0, .bool true, .bool false] 136 (0, 0)), (b3, .cells #[.I 0, .I 0, .I 0, .int .u64 0, .slice none 0 0, .int .u64 0, .slice none 0 0, .slice none 0 0, .slice none 0 0, .slice none 0 0, .slice none 0 0, .slice none 0 0, .slice none 0 0, .int .u64 0] 75 (0, 0)), (b1, .cells #[.I 0, .I 0, .I 0, .int .u64 0, .slice none 0 0, .int .u64 0, .slice none 0 0, .slice none 0 0, .slice al 1 cl, .slice none 0 0, .slice none 0 0, .slice none 0 0, .slice none 0 0, .int .u64 0] 75 (0, 0))]) rfl
 refine RW.callS (d := some 8) (r := (sq 4 6)) (g := 70) (args := #[.P bp 0, .I 0]) (by as_aux_lemma => kernel_rfl) (int_spec (x := 0) (by omega) ((H.lend (M1 := [(bp, .cells #[.slice a xs.length c, .I 0, .bool true, .bool false] 136 (0, 0))]) (W1 := [⟨Sb, 5, .slice a xs.length c, xs⟩])).pick [] rfl) (by first | omega | (simp only [List.length_append, List.length_nil]; omega))) ?_
 rintro _ w5 ⟨a7, c8, rfl, H'⟩
 have H := H.back (M1 := [(bp, .cells #[.slice a xs.length c, .I 0, .bool true, .bool false] 136 (0, 0))]) (W1 := [⟨Sb, 5, .slice a xs.length c, xs⟩]) H'
 have H : Hp w S O [(bp, .cells #[.slice a7 (xs ++ intE 0).length c8, .I 0, .bool true, .bool false] 136 (0, 0)), (b3, .cells #[.I 0, .I 0, .I 0, .int .u64 0, .slice none 0 0, .int .u64 0, .slice none 0 0, .slice none 0 0, .slice none 0 0, .slice none 0 0, .slice none 0 0, .slice none 0 0, .slice none 0 0, .int .u64 0] 75 (0, 0)), (b1, .cells #[.I 0, .I 0, .I 0, .int .u64 0, .slice none 0 0, .int .u64 0, .slice none 0 0, .slice none 0 0, .slice al 1 cl, .slice none 0 0, .slice none 0 0, .slice none 0 0, .slice none 0 0, .int .u64 0] 75 (0, 0))] [⟨Sb, 5, .slice a7 (xs ++ intE 0).length c8, (xs ++ intE 0)⟩] [Rp (Shape.slice objS) [.slice al 1 cl] [D]] _ := H
 obtain ⟨z10, hz10⟩ : ∃ z, z = (xs ++ intE 0) := ⟨_, rfl⟩
 rw [← hz10] at H
 have hlz10 := congrArg List.length hz10
 rw [List.length_append] at hlz10
 refine qP 1 (sq 5 6) [(0, .P bp 0), (3, .P b1 0), (4, .P b3 0), (8, .I 0), (9, .P b1 0)] ?_
 refine qW 3 b1 0 (sq 6 6) (.I 0) [(bp, .cells #[.slice a7 z10.length c8, .I 0, .bool true, .bool false] 136 (0, 0)), (b3, .cells #[.I 0, .I 0, .I 0, .int .u64 0, .slice none 0 0, .int .u64 0, .slice none 0 0, .slice none 0 0, .slice none 0 0, .slice none 0 0, .slice none 0 0, .slice none 0 0, .slice none 0 0, .int .u64 0] 75 (0, 0)), (b1, .cells #[.I 0, .I 0, .I 0, .int .u64 0, .slice none 0 0, .int .u64 0, .slice none 0 0, .slice none 0 0, .slice al 1 cl, .slice none 0 0, .slice none 0 0, .slice none 0 0, .slice none 0 0, .int .u64 0] 75 (0, 0))] H 2 rfl rfl ?_
 intro w11 H
 refine qF 0 [(0, .P bp 0), (3, .P b1 0), (4, .P b3 0)] ?_
 refine qR 1 [.c [2, 0], .c [3]] [(0, .P bp 0), (3, .P b1 0), (4, .P b3 0)] ?_
 refine qG (sq 0 6) ?_
 refine qP 2 (sq 2 6) [(0, .P bp 0), (3, .P b1 0), (4, .P b3 0), (10, .P bp 0), (11, .P b1 1)] ?_
 refine qL .seq 12 (sq 3 6) 3 b1 1 1 (.I 0) (H.cells 2 rfl) ?_
 refine RW.callS (d := some 13) (r := (sq 4 6)) (g := 70) (args := #[.P bp 0, .I 0]) (by as_aux_lemma => kernel_rfl) (int_spec (x := 0) (by omega) ((H.lend (M1 := [(bp, .cells #[.slice a7 z10.length c8, .I 0, .bool true, .bool false] 136 (0, 0))]) (W1 := [⟨Sb, 5, .slice a7 z10.length c8, z10⟩])).pick [] rfl) (by first | omega | (simp only [List.length_append, List.length_nil]; omega))) ?_
 rintro _ w12 ⟨a14, c15, rfl, H'⟩
 have H := H.back (M1 := [(bp, .cells #[.slice a7 z10.length c8, .I 0, .bool true, .bool false] 136 (0, 0))]) (W1 := [⟨Sb, 5, .slice a7 z10.length c8, z10⟩]) H'
 have H : Hp w S O [(bp, .cells #[.slice a14 (z10 ++ intE 0).length c15, .I 0, .bool true, .bool false] 136 (0, 0)), (b3, .cells #[.I 0, .I 0, .I 0, .int .u64 0, .slice none 0 0, .int .u64 0, .slice none 0 0, .slice none 0 0, .slice none 0 0, .slice none 0 0, .slice none 0 0, .slice none 0 0, .slice none 0 0, .int .u64 0] 75 (0, 0)), (b1, .cells #[.I 0, .I 0, .I 0, .int .u64 0, .slice none 0 0, .int .u64 0, .slice none 0 0, .slice none 0 0, .slice al 1 cl, .slice none 0 0, .slice none 0 0, .slice none 0 0, .slice none 0 0, .int .u64 0] 75 (0, 0))] [⟨Sb, 5, .slice a14 (z10 ++ intE 0).length c15, (z10 ++ intE 0)⟩] [Rp (Shape.slice objS) [.slice al 1 cl] [D]] _ := H
 obtain ⟨z17, hz17⟩ : ∃ z, z = (z10 ++ intE 0) := ⟨_, rfl⟩
 rw [← hz17] at H
 have hlz17 := congrArg List.length hz17
 rw [List.length_append] at hlz17
 refine qP 1 (sq 5 6) [(0, .P bp 0), (3, .P b1 0), (4, .P b3 0), (13, .I 0), (14, .P b1 1)] ?_
 refine qW 3 b1 1 (sq 6 6) (.I 0) [(bp, .cells #[.slice a14 z17.length c15, .I 0, .bool true, .bool false] 136 (0, 0)), (b3, .cells #[.I 0, .I 0, .I 0, .int .u64 0, .slice none 0 0, .int .u64 0, .slice none 0 0, .slice none 0 0, .slice none 0 0, .slice none 0 0, .slice none 0 0, .slice none 0 0, .slice none 0 0, .int .u64 0] 75 (0, 0)), (b1, .cells #[.I 0, .I 0, .I 0, .int .u64 0, .slice none 0 0, .int .u64 0, .slice none 0 0, .slice none 0 0, .slice al 1 cl, .slice none 0 0, .slice none 0 0, .slice none 0 0, .slice none 0 0, .int .u64 0] 75 (0, 0))] H 2 rfl rfl ?_
 intro w18 H
 refine qF 0 [(0, .P bp 0), (3, .P b1 0), (4, .P b3 0)] ?_
 refine qR 1 [.c [3, 0], .c [4]] [(0, .P bp 0), (3, .P b1 0), (4, .P b3 0)] ?_
 refine qG (sq 0 6) ?_
 refine qP 2 (sq 2 6) [(0, .P bp 0), (3, .P b1 0), (4, .P b3 0), (15, .P bp 0), (16, .P b1 2)] ?_
 refine qL .seq 17 (sq 3 6) 3 b1 2 2 (.I 0) (H.cells 2 rfl) ?_
 refine RW.callS (d := some 18) (r := (sq 4 6)) (g := 70) (args := #[.P bp 0, .I 0]) (by as_aux_lemma => kernel_rfl) (int_spec (x := 0) (by omega) ((H.lend (M1 := [(bp, .cells #[.slice a14 z17.length c15, .I 0, .bool true, .bool false] 136 (0, 0))]) (W1 := [⟨Sb, 5, .slice a14 z17.length c15, z17⟩])).pick [] rfl) (by first | omega | (simp only [List.length_append, List.length_nil]; omega))) ?_
 rintro _ w19 ⟨a21, c22, rfl, H'⟩
 have H := H.back (M1 := [(bp, .cells #[.slice a14 z17.length c15, .I 0, .bool true, .bool false] 136 (0, 0))]) (W1 := [⟨Sb, 5, .slice a14 z17.length c15, z17⟩]) H'
 have H : Hp w S O [(bp, .cells #[.slice a21 (z17 ++ intE 0).length c22, .I 0, .bool true, .bool false] 136 (0, 0)), (b3, .cells #[.I 0, .I 0, .I 0, .int .u64 0, .slice none 0 0, .int .u64 0, .slice none 0 0, .slice none 0 0, .slice none 0 0, .slice none 0 0, .slice none 0 0, .slice none 0 0, .slice none 0 0, .int .u64 0] 75 (0, 0)), (b1, .cells #[.I 0, .I 0, .I 0, .int .u64 0, .slice none 0 0, .int .u64 0, .slice none 0 0, .slice none 0 0, .slice al 1 cl, .slice none 0 0, .slice none 0 0, .slice none 0 0, .slice none 0 0, .int .u64 0] 75 (0, 0))] [⟨Sb, 5, .slice a21 (z17 ++ intE 0).length c22, (z17 ++ intE 0)⟩] [Rp (Shape.slice objS) [.slice al 1 cl] [D]] _ := H
 obtain ⟨z24, hz24⟩ : ∃ z, z = (z17 ++ intE 0) := ⟨_, rfl⟩
 rw [← hz24] at H
 have hlz24 := congrArg List.length hz24
 rw [List.length_append] at hlz24
 refine qP 1 (sq 5 6) [(0, .P bp 0), (3, .P b1 0), (4, .P b3 0), (18, .I 0), (19, .P b1 2)] ?_
 refine qW 3 b1 2 (sq 6 6) (.I 0) [(bp, .cells #[.slice a21 z24.length c22, .I 0, .bool true, .bool false] 136 (0, 0)), (b3, .cells #[.I 0, .I 0, .I 0, .int .u64 0, .slice none 0 0, .int .u64 0, .slice none 0 0, .slice none 0 0, .slice none 0 0, .slice none 0 0, .slice none 0 0, .slice none 0 0, .slice none 0 0, .int .u64 0] 75 (0, 0)), (b1, .cells #[.I 0, .I 0, .I 0, .int .u64 0, .slice none 0 0, .int .u64 0, .slice none 0 0, .slice none 0 0, .slice al 1 cl, .slice none 0 0, .slice none 0 0, .slice none 0 0, .slice none 0 0, .int .u64 0] 75 (0, 0))] H 2 rfl rfl ?_
 intro w25 H
 refine qF 0 [(0, .P bp 0), (3, .P b1 0), (4, .P b3 0)] ?_
 refine qR 1 [.c [4, 0], .c [5]] [(0, .P bp 0), (3, .P b1 0), (4, .P b3 0)] ?_
 refine qG (sq 0 6) ?_
 refine qP 2 (sq 2 6) [(0, .P bp 0), (3, .P b1 0), (4, .P b3 0), (20, .P bp 0), (21, .P b1 3)] ?_
 refine qL .seq 22 (sq 3 6) 70 b1 3 3 (.agg #[.int .u64 0, .slice none 0 0]) (H.cells 2 rfl) ?_
 refine RW.callS (d := some 23) (r := (sq 4 6)) (g := 71) (args := #[.P bp 0, .agg #[.int .u64 0, .slice none 0 0]]) (by as_aux_lemma => kernel_rfl) (pmap_nil  ((H.lend (M1 := [(bp, .cells #[.slice a21 z24.length c22, .I 0, .bool true, .bool false] 136 (0, 0))]) (W1 := [⟨Sb, 5, .slice a21 z24.length c22, z24⟩])).pick [] rfl) (by first | omega | (simp only [List.length_append, List.length_nil]; omega))) ?_
 rintro _ w26 ⟨a28, c29, rfl, H'⟩
 have H := H.back (M1 := [(bp, .cells #[.slice a21 z24.length c22, .I 0, .bool true, .bool false] 136 (0, 0))]) (W1 := [⟨Sb, 5, .slice a21 z24.length c22, z24⟩]) H'
 have H : Hp w S O [(bp, .cells #[.slice a28 ((z24 ++ (num 0 ++ num 0)).length) c29, .I 0, .bool true, .bool false] 136 (0, 0)), (b3, .cells #[.I 0, .I 0, .I 0, .int .u64 0, .slice none 0 0, .int .u64 0, .slice none 0 0, .slice none 0 0, .slice none 0 0, .slice none 0 0, .slice none 0 0, .slice none 0 0, .slice none 0 0, .int .u64 0] 75 (0, 0)), (b1, .cells #[.I 0, .I 0, .I 0, .int .u64 0, .slice none 0 0, .int .u64 0, .slice none 0 0, .slice none 0 0, .slice al 1 cl, .slice none 0 0, .slice none 0 0, .slice none 0 0, .slice none 0 0, .int .u64 0] 75 (0, 0))] [⟨Sb, 5, .slice a28 ((z24 ++ (num 0 ++ num 0)).length) c29, (z24 ++ (num 0 ++ num 0))⟩] [Rp (Shape.slice objS) [.slice al 1 cl] [D]] _ := H
 obtain ⟨z31, hz31⟩ : ∃ z, z = (z24 ++ (num 0 ++ num 0)) := ⟨_, rfl⟩
 rw [← hz31] at H
 have hlz31 := congrArg List.length hz31
 rw [List.length_append] at hlz31
 refine qP 1 (sq 5 6) [(0, .P bp 0), (3, .P b1 0), (4, .P b3 0), (23, .agg #[.int .u64 0, .slice none 0 0]), (24, .P b1 3)] ?_
 refine qW 70 b1 3 (sq 6 6) (.agg #[.int .u64 0, .slice none 0 0]) [(bp, .cells #[.slice a28 z31.length c29, .I 0, .bool true, .bool false] 136 (0, 0)), (b3, .cells #[.I 0, .I 0, .I 0, .int .u64 0, .slice none 0 0, .int .u64 0, .slice none 0 0, .slice none 0 0, .slice none 0 0, .slice none 0 0, .slice none 0 0, .slice none 0 0, .slice none 0 0, .int .u64 0] 75 (0, 0)), (b1, .cells #[.I 0, .I 0, .I 0, .int .u64 0, .slice none 0 0, .int .u64 0, .slice none 0 0, .slice none 0 0, .slice al 1 cl, .slice none 0 0, .slice none 0 0, .slice none 0 0, .slice none 0 0, .int .u64 0] 75 (0, 0))] H 2 rfl rfl ?_
 intro w32 H
 refine qF 0 [(0, .P bp 0), (3, .P b1 0), (4, .P b3 0)] ?_
 refine qR 1 [.c [5, 0], .c [6]] [(0, .P bp 0), (3, .P b1 0), (4, .P b3 0)] ?_
 refine qG (sq 0 6) ?_
 refine qP 2 (sq 2 6) [(0, .P bp 0), (3, .P b1 0), (4, .P b3 0), (25, .P bp 0), (26, .P b1 5)] ?_
 refine qL .seq 27 (sq 3 6) 70 b1 5 5 (.agg #[.int .u64 0, .slice none 0 0]) (H.cells 2 rfl) ?_
 refine RW.callS (d := some 28) (r := (sq 4 6)) (g := 71) (args := #[.P bp 0, .agg #[.int .u64 0, .slice none 0 0]]) (by as_aux_lemma => kernel_rfl) (pmap_nil  ((H.lend (M1 := [(bp, .cells #[.slice a28 z31.length c29, .I 0, .bool true, .bool false] 136 (0, 0))]) (W1 := [⟨Sb, 5, .slice a28 z31.length c29, z31⟩])).pick [] rfl) (by first | omega | (simp only [List.length_append, List.length_nil]; omega))) ?_
 rintro _ w33 ⟨a35, c36, rfl, H'⟩
 have H := H.back (M1 := [(bp, .cells #[.slice a28 z31.length c29, .I 0, .bool true, .bool false] 136 (0, 0))]) (W1 := [⟨Sb, 5, .slice a28 z31.length c29, z31⟩]) H'
 have H : Hp w S O [(bp, .cells #[.slice a35 ((z31 ++ (num 0 ++ num 0)).length) c36, .I 0, .bool true, .bool false] 136 (0, 0)), (b3, .cells #[.I 0, .I 0, .I 0, .int .u64 0, .slice none 0 0, .int .u64 0, .slice none 0 0, .slice none 0 0, .slice none 0 0, .slice none 0 0, .slice none 0 0, .slice none 0 0, .slice none 0 0, .int .u64 0] 75 (0, 0)), (b1, .cells #[.I 0, .I 0, .I 0, .int .u64 0, .slice none 0 0, .int .u64 0, .slice none 0 0, .slice none 0 0, .slice al 1 cl, .slice none 0 0, .slice none 0 0, .slice none 0 0, .slice none 0 0, .int .u64 0] 75 (0, 0))] [⟨Sb, 5, .slice a35 ((z31 ++ (num 0 ++ num 0)).length) c36, (z31 ++ (num 0 ++ num 0))⟩] [Rp (Shape.slice objS) [.slice al 1 cl] [D]] _ := H
 obtain ⟨z38, hz38⟩ : ∃ z, z = (z31 ++ (num 0 ++ num 0)) := ⟨_, rfl⟩
 rw [← hz38] at H
 have hlz38 := congrArg List.length hz38
 rw [List.length_append] at hlz38
 refine qP 1 (sq 5 6) [(0, .P bp 0), (3, .P b1 0), (4, .P b3 0), (28, .agg #[.int .u64 0, .slice none 0 0]), (29, .P b1 5)] ?_
 refine qW 70 b1 5 (sq 6 6) (.agg #[.int .u64 0, .slice none 0 0]) [(bp, .cells #[.slice a35 z38.length c36, .I 0, .bool true, .bool false] 136 (0, 0)), (b3, .cells #[.I 0, .I 0, .I 0, .int .u64 0, .slice none 0 0, .int .u64 0, .slice none 0 0, .slice none 0 0, .slice none 0 0, .slice none 0 0, .slice none 0 0, .slice none 0 0, .slice none 0 0, .int .u64 0] 75 (0, 0)), (b1, .cells #[.I 0, .I 0, .I 0, .int .u64 0, .slice none 0 0, .int .u64 0, .slice none 0 0, .slice none 0 0, .slice al 1 cl, .slice none 0 0, .slice none 0 0, .slice none 0 0, .slice none 0 0, .int .u64 0] 75 (0, 0))] H 2 rfl rfl ?_
 intro w39 H
 refine qF 0 [(0, .P bp 0), (3, .P b1 0), (4, .P b3 0)] ?_
 refine qR 1 [.c [6, 0], .c [7]] [(0, .P bp 0), (3, .P b1 0), (4, .P b3 0)] ?_
 refine qG (sq 0 6) ?_
 refine qP 2 (sq 2 6) [(0, .P bp 0), (3, .P b1 0), (4, .P b3 0), (30, .P bp 0), (31, .P b1 7)] ?_
 refine qL .seq 32 (sq 3 6) 24 b1 7 7 (.slice none 0 0) (H.cells 2 rfl) ?_
 refine RW.callS (d := some 33) (r := (sq 4 6)) (g := 72) (args := #[.P bp 0, .slice none 0 0]) (by as_aux_lemma => kernel_rfl) (pints_nil (by omega) ((H.lend (M1 := [(bp, .cells #[.slice a35 z38.length c36, .I 0, .bool true, .bool false] 136 (0, 0))]) (W1 := [⟨Sb, 5, .slice a35 z38.length c36, z38⟩])).pick [] rfl) (by first | omega | (simp only [List.length_append, List.length_nil]; omega))) ?_
 rintro _ w40 ⟨a42, c43, rfl, H'⟩
 have H := H.back (M1 := [(bp, .cells #[.slice a35 z38.length c36, .I 0, .bool true, .bool false] 136 (0, 0))]) (W1 := [⟨Sb, 5, .slice a35 z38.length c36, z38⟩]) H'
 have H : Hp w S O [(bp, .cells #[.slice a42 (z38 ++ num 0).length c43, .I 0, .bool true, .bool false] 136 (0, 0)), (b3, .cells #[.I 0, .I 0, .I 0, .int .u64 0, .slice none 0 0, .int .u64 0, .slice none 0 0, .slice none 0 0, .slice none 0 0, .slice none 0 0, .slice none 0 0, .slice none 0 0, .slice none 0 0, .int .u64 0] 75 (0, 0)), (b1, .cells #[.I 0, .I 0, .I 0, .int .u64 0, .slice none 0 0, .int .u64 0, .slice none 0 0, .slice none 0 0, .slice al 1 cl, .slice none 0 0, .slice none 0 0, .slice none 0 0, .slice none 0 0, .int .u64 0] 75 (0, 0))] [⟨Sb, 5, .slice a42 (z38 ++ num 0).length c43, (z38 ++ num 0)⟩] [Rp (Shape.slice objS) [.slice al 1 cl] [D]] _ := H
 obtain ⟨z45, hz45⟩ : ∃ z, z = (z38 ++ num 0) := ⟨_, rfl⟩
 rw [← hz45] at H
 have hlz45 := congrArg List.length hz45
 rw [List.length_append] at hlz45
 refine qP 1 (sq 5 6) [(0, .P bp 0), (3, .P b1 0), (4, .P b3 0), (33, .slice none 0 0), (34, .P b1 7)] ?_
 refine qW 24 b1 7 (sq 6 6) (.slice none 0 0) [(bp, .cells #[.slice a42 z45.length c43, .I 0, .bool true, .bool false] 136 (0, 0)), (b3, .cells #[.I 0, .I 0, .I 0, .int .u64 0, .slice none 0 0, .int .u64 0, .slice none 0 0, .slice none 0 0, .slice none 0 0, .slice none 0 0, .slice none 0 0, .slice none 0 0, .slice none 0 0, .int .u64 0] 75 (0, 0)), (b1, .cells #[.I 0, .I 0, .I 0, .int .u64 0, .slice none 0 0, .int .u64 0, .slice none 0 0, .slice none 0 0, .slice al 1 cl, .slice none 0 0, .slice none 0 0, .slice none 0 0, .slice none 0 0, .int .u64 0] 75 (0, 0))] H 2 rfl rfl ?_
 intro w46 H
 refine qF 0 [(0, .P bp 0), (3, .P b1 0), (4, .P b3 0)] ?_
 refine qR 1 [.c [7, 0], .c [8]] [(0, .P bp 0), (3, .P b1 0), (4, .P b3 0)] ?_
 refine qG (sq 0 6) ?_
 refine qP 2 (sq 2 6) [(0, .P bp 0), (3, .P b1 0), (4, .P b3 0), (35, .P bp 0), (36, .P b1 8)] ?_
 refine qL .seq 37 (sq 3 6) 67 b1 8 8 (.slice al 1 cl) (H.cells 2 rfl) ?_
 refine RW.callS (d := some 38) (r := (sq 4 6)) (g := 73) (args := #[.P bp 0, .slice al 1 cl]) (by as_aux_lemma => kernel_rfl) (pobjs_spec (D := D) (by assumption) ((H.lend (M1 := [(bp, .cells #[.slice a42 z45.length c43, .I 0, .bool true, .bool false] 136 (0, 0))]) (W1 := [⟨Sb, 5, .slice a42 z45.length c43, z45⟩])).pick [0] rfl) (by first | omega | (simp only [List.length_append, List.length_nil]; omega))) ?_
 rintro v48 w47 ⟨a49, c50, ⟨a52, c53, rfl⟩, H'⟩
 have H := H.back (M1 := [(bp, .cells #[.slice a42 z45.length c43, .I 0, .bool true, .bool false] 136 (0, 0))]) (W1 := [⟨Sb, 5, .slice a42 z45.length c43, z45⟩]) H'
 have H : Hp w S O [(bp, .cells #[.slice a49 ((z45 ++ (num 1 ++ objE D)).length) c50, .I 0, .bool true, .bool false] 136 (0, 0)), (b3, .cells #[.I 0, .I 0, .I 0, .int .u64 0, .slice none 0 0, .int .u64 0, .slice none 0 0, .slice none 0 0, .slice none 0 0, .slice none 0 0, .slice none 0 0, .slice none 0 0, .slice none 0 0, .int .u64 0] 75 (0, 0)), (b1, .cells #[.I 0, .I 0, .I 0, .int .u64 0, .slice none 0 0, .int .u64 0, .slice none 0 0, .slice none 0 0, .slice al 1 cl, .slice none 0 0, .slice none 0 0, .slice none 0 0, .slice none 0 0, .int .u64 0] 75 (0, 0))] [⟨Sb, 5, .slice a49 ((z45 ++ (num 1 ++ objE D)).length) c50, (z45 ++ (num 1 ++ objE D))⟩] [Rp (Shape.slice objS) [.slice al 1 cl] [D]] _ := H
 obtain ⟨z54, hz54⟩ : ∃ z, z = (z45 ++ (num 1 ++ objE D)) := ⟨_, rfl⟩
 rw [← hz54] at H
 have hlz54 := congrArg List.length hz54
 rw [List.length_append] at hlz54
 refine qP 1 (sq 5 6) [(0, .P bp 0), (3, .P b1 0), (4, .P b3 0), (38, .slice a52 1 c53), (39, .P b1 8)] ?_
 refine qW 67 b1 8 (sq 6 6) (.slice a52 1 c53) [(bp, .cells #[.slice a49 z54.length c50, .I 0, .bool true, .bool false] 136 (0, 0)), (b3, .cells #[.I 0, .I 0, .I 0, .int .u64 0, .slice none 0 0, .int .u64 0, .slice none 0 0, .slice none 0 0, .slice none 0 0, .slice none 0 0, .slice none 0 0, .slice none 0 0, .slice none 0 0, .int .u64 0] 75 (0, 0)), (b1, .cells #[.I 0, .I 0, .I 0, .int .u64 0, .slice none 0 0, .int .u64 0, .slice none 0 0, .slice none 0 0, .slice a52 1 c53, .slice none 0 0, .slice none 0 0, .slice none 0 0, .slice none 0 0, .int .u64 0] 75 (0, 0))] H 2 rfl rfl ?_
 intro w55 H
 refine qF 0 [(0, .P bp 0), (3, .P b1 0), (4, .P b3 0)] ?_
 refine qR 1 [.c [8, 0], .c [9]] [(0, .P bp 0), (3, .P b1 0), (4, .P b3 0)] ?_
 refine qG (sq 0 6) ?_
 refine qP 2 (sq 2 6) [(0, .P bp 0), (3, .P b1 0), (4, .P b3 0), (40, .P bp 0), (41, .P b1 9)] ?_
 refine qL .seq 42 (sq 3 6) 71 b1 9 9 (.slice none 0 0) (H.cells 2 rfl) ?_
 refine RW.callS (d := some 43) (r := (sq 4 6)) (g := 74) (args := #[.P bp 0, .slice none 0 0]) (by as_aux_lemma => kernel_rfl) (pintents_nil (by omega) ((H.lend (M1 := [(bp, .cells #[.slice a49 z54.length c50, .I 0, .bool true, .bool false] 136 (0, 0))]) (W1 := [⟨Sb, 5, .slice a49 z54.length c50, z54⟩])).pick [] rfl) (by first | omega | (simp only [List.length_append, List.length_nil]; omega))) ?_
 rintro _ w56 ⟨a58, c59, rfl, H'⟩
 have H := H.back (M1 := [(bp, .cells #[.slice a49 z54.length c50, .I 0, .bool true, .bool false] 136 (0, 0))]) (W1 := [⟨Sb, 5, .slice a49 z54.length c50, z54⟩]) H'
 have H : Hp w S O [(bp, .cells #[.slice a58 (z54 ++ num 0).length c59, .I 0, .bool true, .bool false] 136 (0, 0)), (b3, .cells #[.I 0, .I 0, .I 0, .int .u64 0, .slice none 0 0, .int .u64 0, .slice none 0 0, .slice none 0 0, .slice none 0 0, .slice none 0 0, .slice none 0 0, .slice none 0 0, .slice none 0 0, .int .u64 0] 75 (0, 0)), (b1, .cells #[.I 0, .I 0, .I 0, .int .u64 0, .slice none 0 0, .int .u64 0, .slice none 0 0, .slice none 0 0, .slice a52 1 c53, .slice none 0 0, .slice none 0 0, .slice none 0 0, .slice none 0 0, .int .u64 0] 75 (0, 0))] [⟨Sb, 5, .slice a58 (z54 ++ num 0).length c59, (z54 ++ num 0)⟩] [Rp (Shape.slice objS) [.slice al 1 cl] [D]] _ := H
 obtain ⟨z61, hz61⟩ : ∃ z, z = (z54 ++ num 0) := ⟨_, rfl⟩
 rw [← hz61] at H
 have hlz61 := congrArg List.length hz61
 rw [List.length_append] at hlz61
 refine qP 1 (sq 5 6) [(0, .P bp 0), (3, .P b1 0), (4, .P b3 0), (43, .slice none 0 0), (44, .P b1 9)] ?_
 refine qW 71 b1 9 (sq 6 6) (.slice none 0 0) [(bp, .cells #[.slice a58 z61.length c59, .I 0, .bool true, .bool false] 136 (0, 0)), (b3, .cells #[.I 0, .I 0, .I 0, .int .u64 0, .slice none 0 0, .int .u64 0, .slice none 0 0, .slice none 0 0, .slice none 0 0, .slice none 0 0, .slice none 0 0, .slice none 0 0, .slice none 0 0, .int .u64 0] 75 (0, 0)), (b1, .cells #[.I 0, .I 0, .I 0, .int .u64 0, .slice none 0 0, .int .u64 0, .slice none 0 0, .slice none 0 0, .slice a52 1 c53, .slice none 0 0, .slice none 0 0, .slice none 0 0, .slice none 0 0, .int .u64 0] 75 (0, 0))] H 2 rfl rfl ?_
 intro w62 H
 refine qF 0 [(0, .P bp 0), (3, .P b1 0), (4, .P b3 0)] ?_
 refine qR 1 [.c [9, 0], .c [10]] [(0, .P bp 0), (3, .P b1 0), (4, .P b3 0)] ?_
 refine qG (sq 0 6) ?_
 refine qP 2 (sq 2 6) [(0, .P bp 0), (3, .P b1 0), (4, .P b3 0), (45, .P bp 0), (46, .P b1 10)] ?_
 refine qL .seq 47 (sq 3 6) 72 b1 10 10 (.slice none 0 0) (H.cells 2 rfl) ?_
 refine RW.callS (d := some 48) (r := (sq 4 6)) (g := 75) (args := #[.P bp 0, .slice none 0 0]) (by as_aux_lemma => kernel_rfl) (psessions_nil (by omega) ((H.lend (M1 := [(bp, .cells #[.slice a58 z61.length c59, .I 0, .bool true, .bool false] 136 (0, 0))]) (W1 := [⟨Sb, 5, .slice a58 z61.length c59, z61⟩])).pick [] rfl) (by first | omega | (simp only [List.length_append, List.length_nil]; omega))) ?_
 rintro _ w63 ⟨a65, c66, rfl, H'⟩
 have H := H.back (M1 := [(bp, .cells #[.slice a58 z61.length c59, .I 0, .bool true, .bool false] 136 (0, 0))]) (W1 := [⟨Sb, 5, .slice a58 z61.length c59, z61⟩]) H'
 have H : Hp w S O [(bp, .cells #[.slice a65 (z61 ++ num 0).length c66, .I 0, .bool true, .bool false] 136 (0, 0)), (b3, .cells #[.I 0, .I 0, .I 0, .int .u64 0, .slice none 0 0, .int .u64 0, .slice none 0 0, .slice none 0 0, .slice none 0 0, .slice none 0 0, .slice none 0 0, .slice none 0 0, .slice none 0 0, .int .u64 0] 75 (0, 0)), (b1, .cells #[.I 0, .I 0, .I 0, .int .u64 0, .slice none 0 0, .int .u64 0, .slice none 0 0, .slice none 0 0, .slice a52 1 c53, .slice none 0 0, .slice none 0 0, .slice none 0 0, .slice none 0 0, .int .u64 0] 75 (0, 0))] [⟨Sb, 5, .slice a65 (z61 ++ num 0).length c66, (z61 ++ num 0)⟩] [Rp (Shape.slice objS) [.slice al 1 cl] [D]] _ := H
 obtain ⟨z68, hz68⟩ : ∃ z, z = (z61 ++ num 0) := ⟨_, rfl⟩
 rw [← hz68] at H
 have hlz68 := congrArg List.length hz68
 rw [List.length_append] at hlz68
 refine qP 1 (sq 5 6) [(0, .P bp 0), (3, .P b1 0), (4, .P b3 0), (48, .slice none 0 0), (49, .P b1 10)] ?_
 refine qW 72 b1 10 (sq 6 6) (.slice none 0 0) [(bp, .cells #[.slice a65 z68.length c66, .I 0, .bool true, .bool false] 136 (0, 0)), (b3, .cells #[.I 0, .I 0, .I 0, .int .u64 0, .slice none 0 0, .int .u64 0, .slice none 0 0, .slice none 0 0, .slice none 0 0, .slice none 0 0, .slice none 0 0, .slice none 0 0, .slice none 0 0, .int .u64 0] 75 (0, 0)), (b1, .cells #[.I 0, .I 0, .I 0, .int .u64 0, .slice none 0 0, .int .u64 0, .slice none 0 0, .slice none 0 0, .slice a52 1 c53, .slice none 0 0, .slice none 0 0, .slice none 0 0, .slice none 0 0, .int .u64 0] 75 (0, 0))] H 2 rfl rfl ?_
 intro w69 H
 refine qF 0 [(0, .P bp 0), (3, .P b1 0), (4, .P b3 0)] ?_
 refine qR 1 [.c [10, 0], .c [11]] [(0, .P bp 0), (3, .P b1 0), (4, .P b3 0)] ?_
 refine qG (sq 0 6) ?_
 refine qP 2 (sq 2 6) [(0, .P bp 0), (3, .P b1 0), (4, .P b3 0), (50, .P bp 0), (51, .P b1 11)] ?_
 refine qL .seq 52 (sq 3 6) 73 b1 11 11 (.slice none 0 0) (H.cells 2 rfl) ?_
 refine RW.callS (d := some 53) (r := (sq 4 6)) (g := 76) (args := #[.P bp 0, .slice none 0 0]) (by as_aux_lemma => kernel_rfl) (pwastes_nil (by omega) ((H.lend (M1 := [(bp, .cells #[.slice a65 z68.length c66, .I 0, .bool true, .bool false] 136 (0, 0))]) (W1 := [⟨Sb, 5, .slice a65 z68.length c66, z68⟩])).pick [] rfl) (by first | omega | (simp only [List.length_append, List.length_nil]; omega))) ?_
 rintro _ w70 ⟨a72, c73, rfl, H'⟩
 have H := H.back (M1 := [(bp, .cells #[.slice a65 z68.length c66, .I 0, .bool true, .bool false] 136 (0, 0))]) (W1 := [⟨Sb, 5, .slice a65 z68.length c66, z68⟩]) H'
 have H : Hp w S O [(bp, .cells #[.slice a72 (z68 ++ num 0).length c73, .I 0, .bool true, .bool false] 136 (0, 0)), (b3, .cells #[.I 0, .I 0, .I 0, .int .u64 0, .slice none 0 0, .int .u64 0, .slice none 0 0, .slice none 0 0, .slice none 0 0, .slice none 0 0, .slice none 0 0, .slice none 0 0, .slice none 0 0, .int .u64 0] 75 (0, 0)), (b1, .cells #[.I 0, .I 0, .I 0, .int .u64 0, .slice none 0 0, .int .u64 0, .slice none 0 0, .slice none 0 0, .slice a52 1 c53, .slice none 0 0, .slice none 0 0, .slice none 0 0, .slice none 0 0, .int .u64 0] 75 (0, 0))] [⟨Sb, 5, .slice a72 (z68 ++ num 0).length c73, (z68 ++ num 0)⟩] [Rp (Shape.slice objS) [.slice al 1 cl] [D]] _ := H
 obtain ⟨z75, hz75⟩ : ∃ z, z = (z68 ++ num 0) := ⟨_, rfl⟩
 rw [← hz75] at H
 have hlz75 := congrArg List.length hz75
 rw [List.length_append] at hlz75
 refine qP 1 (sq 5 6) [(0, .P bp 0), (3, .P b1 0), (4, .P b3 0), (53, .slice none 0 0), (54, .P b1 11)] ?_
 refine qW 73 b1 11 (sq 6 6) (.slice none 0 0) [(bp, .cells #[.slice a72 z75.length c73, .I 0, .bool true, .bool false] 136 (0, 0)), (b3, .cells #[.I 0, .I 0, .I 0, .int .u64 0, .slice none 0 0, .int .u64 0, .slice none 0 0, .slice none 0 0, .slice none 0 0, .slice none 0 0, .slice none 0 0, .slice none 0 0, .slice none 0 0, .int .u64 0] 75 (0, 0)), (b1, .cells #[.I 0, .I 0, .I 0, .int .u64 0, .slice none 0 0, .int .u64 0, .slice none 0 0, .slice none 0 0, .slice a52 1 c53, .slice none 0 0, .slice none 0 0, .slice none 0 0, .slice none 0 0, .int .u64 0] 75 (0, 0))] H 2 rfl rfl ?_
 intro w76 H
 refine qF 0 [(0, .P bp 0), (3, .P b1 0), (4, .P b3 0)] ?_
 refine qR 1 [.c [11, 0], .c [12]] [(0, .P bp 0), (3, .P b1 0), (4, .P b3 0)] ?_
 refine qG (sq 0 6) ?_
 refine qP 2 (sq 2 6) [(0, .P bp 0), (3, .P b1 0), (4, .P b3 0), (55, .P bp 0), (56, .P b1 12)] ?_
 refine qL .seq 57 (sq 3 6) 24 b1 12 12 (.slice none 0 0) (H.cells 2 rfl) ?_
 refine RW.callS (d := some 58) (r := (sq 4 6)) (g := 72) (args := #[.P bp 0, .slice none 0 0]) (by as_aux_lemma => kernel_rfl) (pints_nil (by omega) ((H.lend (M1 := [(bp, .cells #[.slice a72 z75.length c73, .I 0, .bool true, .bool false] 136 (0, 0))]) (W1 := [⟨Sb, 5, .slice a72 z75.length c73, z75⟩])).pick [] rfl) (by first | omega | (simp only [List.length_append, List.length_nil]; omega))) ?_
 rintro _ w77 ⟨a79, c80, rfl, H'⟩
 have H := H.back (M1 := [(bp, .cells #[.slice a72 z75.length c73, .I 0, .bool true, .bool false] 136 (0, 0))]) (W1 := [⟨Sb, 5, .slice a72 z75.length c73, z75⟩]) H'
 have H : Hp w S O [(bp, .cells #[.slice a79 (z75 ++ num 0).length c80, .I 0, .bool true, .bool false] 136 (0, 0)), (b3, .cells #[.I 0, .I 0, .I 0, .int .u64 0, .slice none 0 0, .int .u64 0, .slice none 0 0, .slice none 0 0, .slice none 0 0, .slice none 0 0, .slice none 0 0, .slice none 0 0, .slice none 0 0, .int .u64 0] 75 (0, 0)), (b1, .cells #[.I 0, .I 0, .I 0, .int .u64 0, .slice none 0 0, .int .u64 0, .slice none 0 0, .slice none 0 0, .slice a52 1 c53, .slice none 0 0, .slice none 0 0, .slice none 0 0, .slice none 0 0, .int .u64 0] 75 (0, 0))] [⟨Sb, 5, .slice a79 (z75 ++ num 0).length c80, (z75 ++ num 0)⟩] [Rp (Shape.slice objS) [.slice al 1 cl] [D]] _ := H
 obtain ⟨z82, hz82⟩ : ∃ z, z = (z75 ++ num 0) := ⟨_, rfl⟩
 rw [← hz82] at H
 have hlz82 := congrArg List.length hz82
 rw [List.length_append] at hlz82
 refine qP 1 (sq 5 6) [(0, .P bp 0), (3, .P b1 0), (4, .P b3 0), (58, .slice none 0 0), (59, .P b1 12)] ?_
 refine qW 24 b1 12 (sq 6 6) (.slice none 0 0) [(bp, .cells #[.slice a79 z82.length c80, .I 0, .bool true, .bool false] 136 (0, 0)), (b3, .cells #[.I 0, .I 0, .I 0, .int .u64 0, .slice none 0 0, .int .u64 0, .slice none 0 0, .slice none 0 0, .slice none 0 0, .slice none 0 0, .slice none 0 0, .slice none 0 0, .slice none 0 0, .int .u64 0] 75 (0, 0)), (b1, .cells #[.I 0, .I 0, .I 0, .int .u64 0, .slice none 0 0, .int .u64 0, .slice none 0 0, .slice none 0 0, .slice a52 1 c53, .slice none 0 0, .slice none 0 0, .slice none 0 0, .slice none 0 0, .int .u64 0] 75 (0, 0))] H 2 rfl rfl ?_
 intro w83 H
 refine qF 0 [(0, .P bp 0), (3, .P b1 0), (4, .P b3 0)] ?_
 refine qR 1 [.c [12, 0], .c [13]] [(0, .P bp 0), (3, .P b1 0), (4, .P b3 0)] ?_
 refine qG (sq 0 6) ?_
 refine qP 2 (sq 2 6) [(3, .P b1 0), (4, .P b3 0), (60, .P bp 0), (61, .P b1 13)] ?_
 refine qL .seq 62 (sq 3 6) 22 b1 13 13 (.int .u64 0) (H.cells 2 rfl) ?_
 refine RW.callS (d := some 63) (r := (sq 4 6)) (g := 77) (args := #[.P bp 0, .int .u64 0]) (by as_aux_lemma => kernel_rfl) (u64_spec (x := 0) (by omega) ((H.lend (M1 := [(bp, .cells #[.slice a79 z82.length c80, .I 0, .bool true, .bool false] 136 (0, 0))]) (W1 := [⟨Sb, 5, .slice a79 z82.length c80, z82⟩])).pick [] rfl) (by first | omega | (simp only [List.length_append, List.length_nil]; omega))) ?_
 rintro _ w84 ⟨a86, c87, rfl, H'⟩
 have H := H.back (M1 := [(bp, .cells #[.slice a79 z82.length c80, .I 0, .bool true, .bool false] 136 (0, 0))]) (W1 := [⟨Sb, 5, .slice a79 z82.length c80, z82⟩]) H'
 have H : Hp w S O [(bp, .cells #[.slice a86 ((z82 ++ num (0 : Int).toNat).length) c87, .I 0, .bool true, .bool false] 136 (0, 0)), (b3, .cells #[.I 0, .I 0, .I 0, .int .u64 0, .slice none 0 0, .int .u64 0, .slice none 0 0, .slice none 0 0, .slice none 0 0, .slice none 0 0, .slice none 0 0, .slice none 0 0, .slice none 0 0, .int .u64 0] 75 (0, 0)), (b1, .cells #[.I 0, .I 0, .I 0, .int .u64 0, .slice none 0 0, .int .u64 0, .slice none 0 0, .slice none 0 0, .slice a52 1 c53, .slice none 0 0, .slice none 0 0, .slice none 0 0, .slice none 0 0, .int .u64 0] 75 (0, 0))] [⟨Sb, 5, .slice a86 ((z82 ++ num (0 : Int).toNat).length) c87, (z82 ++ num (0 : Int).toNat)⟩] [Rp (Shape.slice objS) [.slice al 1 cl] [D]] _ := H
 obtain ⟨z89, hz89⟩ : ∃ z, z = (z82 ++ num (0 : Int).toNat) := ⟨_, rfl⟩
 rw [← hz89] at H
 have hlz89 := congrArg List.length hz89
 rw [List.length_append] at hlz89
 refine qP 1 (sq 5 6) [(3, .P b1 0), (4, .P b3 0), (63, .int .u64 0), (64, .P b1 13)] ?_
 refine qW 22 b1 13 (sq 6 6) (.int .u64 0) [(bp, .cells #[.slice a86 z89.length c87, .I 0, .bool true, .bool false] 136 (0, 0)), (b3, .cells #[.I 0, .I 0, .I 0, .int .u64 0, .slice none 0 0, .int .u64 0, .slice none 0 0, .slice none 0 0, .slice none 0 0, .slice none 0 0, .slice none 0 0, .slice none 0 0, .slice none 0 0, .int .u64 0] 75 (0, 0)), (b1, .cells #[.I 0, .I 0, .I 0, .int .u64 0, .slice none 0 0, .int .u64 0, .slice none 0 0, .slice none 0 0, .slice a52 1 c53, .slice none 0 0, .slice none 0 0, .slice none 0 0, .slice none 0 0, .int .u64 0] 75 (0, 0))] H 2 rfl rfl ?_
 intro w90 H
 refine qF 0 [(3, .P b1 0), (4, .P b3 0)] ?_
 refine qR 1 [.c [13, 0], .c [14]] [(3, .P b1 0), (4, .P b3 0)] ?_
 refine qG (sq 0 2) ?_
 refine qL .seq 65 (sq 1 2) 75 b1 0 0 (.agg #[.I 0, .I 0, .I 0, .int .u64 0, .slice none 0 0, .int .u64 0, .slice none 0 0, .slice none 0 0, .slice a52 1 c53, .slice none 0 0, .slice none 0 0, .slice none 0 0, .slice none 0 0, .int .u64 0]) (H.cells 2 rfl) ?_
 refine qW 75 b3 0 (sq 2 2) (.agg #[.I 0, .I 0, .I 0, .int .u64 0, .slice none 0 0, .int .u64 0, .slice none 0 0, .slice none 0 0, .slice a52 1 c53, .slice none 0 0, .slice none 0 0, .slice none 0 0, .slice none 0 0, .int .u64 0]) [(bp, .cells #[.slice a86 z89.length c87, .I 0, .bool true, .bool false] 136 (0, 0)), (b3, .cells #[.I 0, .I 0, .I 0, .int .u64 0, .slice none 0 0, .int .u64 0, .slice none 0 0, .slice none 0 0, .slice a52 1 c53, .slice none 0 0, .slice none 0 0, .slice none 0 0, .slice none 0 0, .int .u64 0] 75 (0, 0)), (b1, .cells #[.I 0, .I 0, .I 0, .int .u64 0, .slice none 0 0, .int .u64 0, .slice none 0 0, .slice none 0 0, .slice a52 1 c53, .slice none 0 0, .slice none 0 0, .slice none 0 0, .slice none 0 0, .int .u64 0] 75 (0, 0))] H 1 rfl rfl ?_
 intro w91 H
 refine qF 0 [(4, .P b3 0)] ?_
 refine qRB (.agg #[.I 0, .I 0, .I 0, .int .u64 0, .slice none 0 0, .int .u64 0, .slice none 0 0, .slice none 0 0, .slice a52 1 c53, .slice none 0 0, .slice none 0 0, .slice none 0 0, .slice none 0 0, .int .u64 0]) Tryz.func59 (v1 (.cell 4 75) (vC (H.cells 1 rfl))) ?_
 have hcf : z89 = xs ++ metaE D := by simp [metaE, hz10, hz17, hz24, hz31, hz38, hz45, hz54, hz61, hz68, hz75, hz82, hz89]
 rw [hcf] at H
 have H := H.drop (M' := [(bp, .cells #[.slice a86 (xs ++ metaE D).length c87, .I 0, .bool true, .bool false] 136 (0, 0))]) (W' := [⟨Sb, 5, .slice a86 (xs ++ metaE D).length c87, xs ++ metaE D⟩]) (by repeat (first | exact List.Sublist.refl _ | apply List.Sublist.cons_cons | apply List.Sublist.cons)) (by repeat (first | exact List.Sublist.refl _ | apply List.Sublist.cons_cons | apply List.Sublist.cons))
 exact ⟨_, rfl, _, _, trivial, H.pick [] rfl⟩
theorem putmeta_spec {S : Nat → Prop} {w : World} {D : ObjD} {al : Option Addr} {cl : Nat} (hD : ObjOk D) (h : (Shape.slice objS).rep S w [.slice al 1 cl] [D]) :
 Calls Tryz.prog 39 #[.slice none 0 0, .agg #[.I 0, .I 0, .I 0, .int .u64 0, .slice none 0 0, .int .u64 0, .slice none 0 0, .slice none 0 0, .slice al 1 cl, .slice none 0 0, .slice none 0 0, .slice none 0 0, .slice none 0 0, .int .u64 0]] w (Ret fun v w' => Ext w w' ∧ Hp w S [] [] [⟨Sb, 5, v, metaE D⟩] [] w') := by
 have hdk : D.key.size ≤ 1000000000 := hD.2.2.2.2.1
 have hdn : D.nodes.length ≤ 1000000000 := hD.2.2.2.2.2.1
 refine qS (fn := Tryz.f39) (n := 15) (σ := [(0, .slice none 0 0), (1, .agg #[.I 0, .I 0, .I 0, .int .u64 0, .slice none 0 0, .int .u64 0, .slice none 0 0, .slice none 0 0, .slice al 1 cl, .slice none 0 0, .slice none 0 0, .slice none 0 0, .slice none 0 0, .int .u64 0])]) Tryz.func39 ?_
 have H := Hp.startF (w := w) (S := S) (G := [Rp (Shape.slice objS) [.slice al 1 cl] [D]]) (.rp h .nil)
 refine qR 1 [.c [0], .c [1]] [(0, .slice none 0 0), (1, .agg #[.I 0, .I 0, .I 0, .int .u64 0, .slice none 0 0, .int .u64 0, .slice none 0 0, .slice none 0 0, .slice al 1 cl, .slice none 0 0, .slice none 0 0, .slice none 0 0, .slice none 0 0, .int .u64 0])] ?_
 refine qG (sq 0 2) ?_
 refine qB .seq 3 (sq 1 2) #[.I 0, .I 0, .I 0, .int .u64 0, .slice none 0 0, .int .u64 0, .slice none 0 0, .slice none 0 0, .slice al 1 cl, .slice none 0 0, .slice none 0 0, .slice none 0 0, .slice none 0 0, .int .u64 0] 75 H ?_
 intro b1 w2 H
 refine qF 1 [(0, .slice none 0 0), (3, .P b1 0)] ?_
 refine qR 1 [.c [1, 0], .c [2]] [(0, .slice none 0 0), (3, .P b1 0)] ?_
 refine qG (sq 0 3) ?_
 refine qP 1 (sq 1 3) [(3, .P b1 0), (6, .slice none 0 0)] ?_
 have H := H.addRp SB [.slice none 0 0] [] Shape.slice_nil
 refine qK .seq (some 7) (sq 2 3) 58 #[.slice none 0 0] (writer_spec (ys := ([] : List (BitVec 8))) (H.rp 0 rfl) (by first | omega | simp)) ?_
 rintro _ w3 - ⟨b4, a5, c6, rfl, H'⟩
 have H := H.back (M1 := []) (W1 := []) H'
 have H : Hp w S [] [(b4, .cells #[.slice a5 (([] : List (BitVec 8)).length) c6, .I 0, .bool true, .bool false] 136 (0, 0)), (b1, .cells #[.I 0, .I 0, .I 0, .int .u64 0, .slice none 0 0, .int .u64 0, .slice none 0 0, .slice none 0 0, .slice al 1 cl, .slice none 0 0, .slice none 0 0, .slice none 0 0, .slice none 0 0, .int .u64 0] 75 (0, 0))] [⟨Sb, 5, .slice a5 (([] : List (BitVec 8)).length) c6, ([] : List (BitVec 8))⟩] [Rp SB [.slice none 0 0] [], Rp (Shape.slice objS) [.slice al 1 cl] [D]] _ := H
 refine qF 1 [(3, .P b1 0), (5, .P b4 0)] ?_
 refine qR 1 [.c [2, 0], .c [3]] [(3, .P b1 0), (5, .P b4 0)] ?_
 refine qG (sq 0 3) ?_
 refine qP 1 (sq 1 3) [(3, .P b1 0), (5, .P b4 0), (8, .P b4 0)] ?_
 refine qL .seq 9 (sq 2 3) 75 b1 0 0 (.agg #[.I 0, .I 0, .I 0, .int .u64 0, .slice none 0 0, .int .u64 0, .slice none 0 0, .slice none 0 0, .slice al 1 cl, .slice none 0 0, .slice none 0 0, .slice none 0 0, .slice none 0 0, .int .u64 0]) (H.cells 1 rfl) ?_
 refine RW.callS (d := some 10) (r := (sq 3 3)) (g := 59) (args := #[.P b4 0, .agg #[.I 0, .I 0, .I 0, .int .u64 0, .slice none 0 0, .int .u64 0, .slice none 0 0, .slice none 0 0, .slice al 1 cl, .slice none 0 0, .slice none 0 0, .slice none 0 0, .slice none 0 0, .int .u64 0]]) (by as_aux_lemma => kernel_rfl) (pmeta_spec (D := D) (by assumption) ((H.lend (M1 := [(b4, .cells #[.slice a5 (([] : List (BitVec 8)).length) c6, .I 0, .bool true, .bool false] 136 (0, 0))]) (W1 := [⟨Sb, 5, .slice a5 (([] : List (BitVec 8)).length) c6, ([] : List (BitVec 8))⟩])).pick [1] rfl) (by first | omega | (simp only [List.length_append, List.length_nil]; omega))) ?_
 rintro v8 w7 ⟨a9, c10, -, H'⟩
 have H := H.back (M1 := [(b4, .cells #[.slice a5 (([] : List (BitVec 8)).length) c6, .I 0, .bool true, .bool false] 136 (0, 0))]) (W1 := [⟨Sb, 5, .slice a5 (([] : List (BitVec 8)).length) c6, ([] : List (BitVec 8))⟩]) H'
 have H : Hp w S [] [(b4, .cells #[.slice a9 ((([] : List (BitVec 8)) ++ metaE D).length) c10, .I 0, .bool true, .bool false] 136 (0, 0)), (b1, .cells #[.I 0, .I 0, .I 0, .int .u64 0, .slice none 0 0, .int .u64 0, .slice none 0 0, .slice none 0 0, .slice al 1 cl, .slice none 0 0, .slice none 0 0, .slice none 0 0, .slice none 0 0, .int .u64 0] 75 (0, 0))] [⟨Sb, 5, .slice a9 ((([] : List (BitVec 8)) ++ metaE D).length) c10, (([] : List (BitVec 8)) ++ metaE D)⟩] [Rp SB [.slice none 0 0] [], Rp (Shape.slice objS) [.slice al 1 cl] [D]] _ := H
 refine qF 0 [(5, .P b4 0)] ?_
 refine qR 1 [.c [3, 0], .c [4]] [(5, .P b4 0)] ?_
 refine qG (sq 0 5) ?_
 refine qP 3 (sq 3 5) [(13, .P b4 0)] ?_
 refine qL .seq 14 (sq 4 5) 62 b4 0 0 (.slice a9 ((([] : List (BitVec 8)) ++ metaE D).length) c10) (H.cells 0 rfl) ?_
 refine qF 1 [(4, .slice a9 ((([] : List (BitVec 8)) ++ metaE D).length) c10)] ?_
 refine qT (.slice a9 ((([] : List (BitVec 8)) ++ metaE D).length) c10) Tryz.func39 ?_
 have H := H.drop (M' := []) (W' := [⟨Sb, 5, .slice a9 ((([] : List (BitVec 8)) ++ metaE D).length) c10, (([] : List (BitVec 8)) ++ metaE D)⟩]) (List.nil_sublist _) (List.Sublist.refl _)
 exact ⟨_, rfl, H.done, H.pick [] rfl⟩
theorem samemeta_spec {S : Nat → Prop} {w : World} {D : ObjD} {al bl : Option Addr} {cl dl : Nat} (hD : ObjOk D) (h : (Shape.slice objS).rep S w [.slice al 1 cl] [D]) (h2 : (Shape.slice objS).rep S w [.slice bl 1 dl] [D]) :
 Calls Tryz.prog 22 #[.agg #[.I 0, .I 0, .I 0, .int .u64 0, .slice none 0 0, .int .u64 0, .slice none 0 0, .slice none 0 0, .slice al 1 cl, .slice none 0 0, .slice none 0 0, .slice none 0 0, .slice none 0 0, .int .u64 0], .agg #[.I 0, .I 0, .I 0, .int .u64 0, .slice none 0 0, .int .u64 0, .slice none 0 0, .slice none 0 0, .slice bl 1 dl, .slice none 0 0, .slice none 0 0, .slice none 0 0, .slice none 0 0, .int .u64 0]] w (Ret fun v w' => Ext w w' ∧ v = .bool true) := by
 refine qS (fn := Tryz.f22) (n := 12) (σ := [(0, .agg #[.I 0, .I 0, .I 0, .int .u64 0, .slice none 0 0, .int .u64 0, .slice none 0 0, .slice none 0 0, .slice al 1 cl, .slice none 0 0, .slice none 0 0, .slice none 0 0, .slice none 0 0, .int .u64 0]), (1, .agg #[.I 0, .I 0, .I 0, .int .u64 0, .slice none 0 0, .int .u64 0, .slice none 0 0, .slice none 0 0, .slice bl 1 dl, .slice none 0 0, .slice none 0 0, .slice none 0 0, .slice none 0 0, .int .u64 0])]) Tryz.func22 ?_
 have H := Hp.startF (w := w) (S := S) (G := [Rp (Shape.slice objS) [.slice al 1 cl] [D], Rp (Shape.slice objS) [.slice bl 1 dl] [D]]) (.rp h (.rp h2 .nil))
 refine qR 1 [.c [0], .c [1]] [(0, .agg #[.I 0, .I 0, .I 0, .int .u64 0, .slice none 0 0, .int .u64 0, .slice none 0 0, .slice none 0 0, .slice al 1 cl, .slice none 0 0, .slice none 0 0, .slice none 0 0, .slice none 0 0, .int .u64 0]), (1, .agg #[.I 0, .I 0, .I 0, .int .u64 0, .slice none 0 0, .int .u64 0, .slice none 0 0, .slice none 0 0, .slice bl 1 dl, .slice none 0 0, .slice none 0 0, .slice none 0 0, .slice none 0 0, .int .u64 0])] ?_
 refine qG (sq 0 3) ?_
 refine qB .seq 2 (sq 1 3) #[.I 0, .I 0, .I 0, .int .u64 0, .slice none 0 0, .int .u64 0, .slice none 0 0, .slice none 0 0, .slice al 1 cl, .slice none 0 0, .slice none 0 0, .slice none 0 0, .slice none 0 0, .int .u64 0] 75 H ?_
 intro b1 w2 H
 refine qB .seq 3 (sq 2 3) #[.I 0, .I 0, .I 0, .int .u64 0, .slice none 0 0, .int .u64 0, .slice none 0 0, .slice none 0 0, .slice bl 1 dl, .slice none 0 0, .slice none 0 0, .slice none 0 0, .slice none 0 0, .int .u64 0] 75 H ?_
 intro b3 w4 H
 refine qF 1 [(2, .P b1 0), (3, .P b3 0)] ?_
 refine qR 1 [.c [1, 0], .c [2]] [(2, .P b1 0), (3, .P b3 0)] ?_
 refine WK.draw1 8 [(0, .qui), (3, .qui), (1, .chn), (2, .qui), (4, .chn), (5, .qui), (6, .qui), (7, .qui)] [(0, .qui), (3, .qui), (1, .chn), (2, .qui), (4, .chn), (5, .qui), (6, .qui), (7, .qui)] Try_mixed (by as_aux_lemma => kernel_rfl) (by as_aux_lemma => kernel_rfl) (by as_aux_lemma => kernel_rfl) ?_
 have H := H.draw
 generalize ({ w4 with drawn := w4.drawn + 1 } : World) = w5 at H ⊢
 refine qL .qui 5 [(3, .qui), (1, .chn), (2, .qui), (4, .chn), (5, .qui), (6, .qui), (7, .qui)] 75 b1 0 0 (.agg #[.I 0, .I 0, .I 0, .int .u64 0, .slice none 0 0, .int .u64 0, .slice none 0 0, .slice none 0 0, .slice al 1 cl, .slice none 0 0, .slice none 0 0, .slice none 0 0, .slice none 0 0, .int .u64 0]) (H.cells 1 rfl) ?_
 refine qL .qui 8 [(1, .chn), (2, .qui), (4, .chn), (5, .qui), (6, .qui), (7, .qui)] 75 b3 0 0 (.agg #[.I 0, .I 0, .I 0, .int .u64 0, .slice none 0 0, .int .u64 0, .slice none 0 0, .slice none 0 0, .slice bl 1 dl, .slice none 0 0, .slice none 0 0, .slice none 0 0, .slice none 0 0, .int .u64 0]) (H.cells 0 rfl) ?_
 refine qK .chn (some 6) [(2, .qui), (4, .chn), (5, .qui), (6, .qui), (7, .qui)] 39 #[.slice none 0 0, .agg #[.I 0, .I 0, .I 0, .int .u64 0, .slice none 0 0, .int .u64 0, .slice none 0 0, .slice none 0 0, .slice al 1 cl, .slice none 0 0, .slice none 0 0, .slice none 0 0, .slice none 0 0, .int .u64 0]] (putmeta_spec (D := D) hD (H.rp 0 rfl)) ?_
 rintro v7 w6 - H'
 have H := H.back (M1 := []) (W1 := []) H'
 obtain ⟨a8, c9, rfl, hc10, hm11⟩ := H.ownForm 0 rfl
 have H : Hp w S [] [(b3, .cells #[.I 0, .I 0, .I 0, .int .u64 0, .slice none 0 0, .int .u64 0, .slice none 0 0, .slice none 0 0, .slice bl 1 dl, .slice none 0 0, .slice none 0 0, .slice none 0 0, .slice none 0 0, .int .u64 0] 75 (0, 0)), (b1, .cells #[.I 0, .I 0, .I 0, .int .u64 0, .slice none 0 0, .int .u64 0, .slice none 0 0, .slice none 0 0, .slice al 1 cl, .slice none 0 0, .slice none 0 0, .slice none 0 0, .slice none 0 0, .int .u64 0] 75 (0, 0))] [⟨Sb, 5, .slice a8 (metaE D).length c9, metaE D⟩] [Rp (Shape.slice objS) [.slice al 1 cl] [D], Rp (Shape.slice objS) [.slice bl 1 dl] [D]] _ := H
 refine RW.toStr (κ := .qui) (d := some 7) (r := [(4, .chn), (5, .qui), (6, .qui), (7, .qui)]) (Ts := 62) (Td := 9) 5 (a := a8) (len := (metaE D).length) (cap := c9) (xs := metaE D) (by as_aux_lemma => kernel_rfl) (by as_aux_lemma => kernel_rfl) (H.view 0 rfl) ?_
 refine qK .chn (some 9) (qs [5, 6, 7]) 39 #[.slice none 0 0, .agg #[.I 0, .I 0, .I 0, .int .u64 0, .slice none 0 0, .int .u64 0, .slice none 0 0, .slice none 0 0, .slice bl 1 dl, .slice none 0 0, .slice none 0 0, .slice none 0 0, .slice none 0 0, .int .u64 0]] (putmeta_spec (D := D) hD (H.rp 1 rfl)) ?_
 rintro v13 w12 - H'
 have H := H.back (M1 := []) (W1 := []) H'
 obtain ⟨a14, c15, rfl, hc16, hm17⟩ := H.ownForm 0 rfl
 have H : Hp w S [] [(b3, .cells #[.I 0, .I 0, .I 0, .int .u64 0, .slice none 0 0, .int .u64 0, .slice none 0 0, .slice none 0 0, .slice bl 1 dl, .slice none 0 0, .slice none 0 0, .slice none 0 0, .slice none 0 0, .int .u64 0] 75 (0, 0)), (b1, .cells #[.I 0, .I 0, .I 0, .int .u64 0, .slice none 0 0, .int .u64 0, .slice none 0 0, .slice none 0 0, .slice al 1 cl, .slice none 0 0, .slice none 0 0, .slice none 0 0, .slice none 0 0, .int .u64 0] 75 (0, 0))] [⟨Sb, 5, .slice a14 (metaE D).length c15, metaE D⟩, ⟨Sb, 5, .slice a8 (metaE D).length c9, metaE D⟩] [Rp (Shape.slice objS) [.slice al 1 cl] [D], Rp (Shape.slice objS) [.slice bl 1 dl] [D]] _ := H
 refine RW.toStr (κ := .qui) (d := some 10) (r := (qs [6, 7])) (Ts := 62) (Td := 9) 5 (a := a14) (len := (metaE D).length) (cap := c15) (xs := metaE D) (by as_aux_lemma => kernel_rfl) (by as_aux_lemma => kernel_rfl) (H.view 0 rfl) ?_
 refine qF 2 [(4, .bool ((strOf (metaE D)).toList == (strOf (metaE D)).toList))] ?_
 refine qT (.bool ((strOf (metaE D)).toList == (strOf (metaE D)).toList)) Tryz.func22 ?_
 refine ⟨_, rfl, H.done, ?_⟩
 simp
end Go.Proofs.YtppcdmbkgficiaaGreat
