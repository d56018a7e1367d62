import Derived.Test.YtkjkmogipidkiaaGreatSBxA
import Derived.Test.YtkjkmogipidkiaaGreatSC1
namespace Go.Proofs.YtkjkmogipidkiaaGreat
open Go.BX
theorem pu32_spec {S : Nat → Prop} {w : World} {O : List Nat} {bp : Nat} {xs : List (BitVec 8)} {a : Option Addr} {c : Nat} {x : BitVec 32} (H0 : Hp w S O [(bp, .cells #[.slice a xs.length c, .I 0, .bool true, .bool false] 130 (0, 0))] [⟨Sb, 5, .slice a xs.length c, xs⟩] [] w) (hby : xs.length + 10 ≤ 1099511627776) :
 Calls Tryz.prog 97 #[.P bp 0, .int .u32 ((x.toNat : Nat) : Int)] w (Ret fun v w' => ∃ (a' : Option Addr) (c' : Nat), (v = .int .u32 ((x.toNat : Nat) : Int)) ∧ Hp w S O [(bp, .cells #[.slice a' (xs ++ num x.toNat).length c', .I 0, .bool true, .bool false] 130 (0, 0))] [⟨Sb, 5, .slice a' (xs ++ num x.toNat).length c', (xs ++ num x.toNat)⟩] [] w') := by
 have hxl := x.isLt
 refine uS1 Tryz.func97 ?_
 have H := H0
 refine uR 3 [.c [1, 0], .c [2]] ?_
 refine qG (sq 0 5) ?_
 refine uP 2 ?_
 refine RW.pv (κ := .seq) (d := some 8) (r := (sq 3 5)) (v' := .int .u64 ((x.toNat : Nat) : Int)) (v := .int .u64 (IntKind.u64.wrap (((x.toNat : Nat) : Int)))) (by as_aux_lemma => kernel_rfl) (wr_u64 (by omega)) ?_
 refine uKS (u64_spec (x := ((x.toNat : Nat) : Int)) (by omega) ((H.lend (M1 := [(bp, .cells #[.slice a xs.length c, .I 0, .bool true, .bool false] 130 (0, 0))]) (W1 := [⟨Sb, 5, .slice a xs.length c, xs⟩])).pick [] rfl) (by first | omega | (simp only [List.length_append, List.length_nil]; omega))) ?_
 rintro _ _ ⟨b, e, rfl, H'⟩
 have H := H.back (M1 := [(bp, .cells #[.slice a xs.length c, .I 0, .bool true, .bool false] 130 (0, 0))]) (W1 := [⟨Sb, 5, .slice a xs.length c, xs⟩]) H'
 have H : Hp w S O [(bp, .cells #[.slice b ((xs ++ num ((x.toNat : Nat) : Int).toNat).length) e, .I 0, .bool true, .bool false] 130 (0, 0))] [⟨Sb, 5, .slice b ((xs ++ num ((x.toNat : Nat) : Int).toNat).length) e, (xs ++ num ((x.toNat : Nat) : Int).toNat)⟩] [] _ := H
 refine uF 1 ?_
 refine uR 2 [.c [2, 0, 0], .c [2, 0, 1], .c [3]] ?_
 refine qG (sq 0 3) ?_
 refine uP 1 ?_
 refine RW.pv (κ := .seq) (d := some 11) (r := (sq 2 3)) (v := .int .u64 (((x.toNat : Nat) : Int).fdiv (2 ^ 32))) (v' := .int .u64 (((x.toNat : Nat) : Int) / 4294967296)) (by as_aux_lemma => kernel_rfl) (shr_id (by decide) (by omega)) ?_
 refine uF 1 ?_
 refine qN (((x.toNat : Nat) : Int) / 4294967296) 0 (fun f => ?_) (fun f => ?_)
 ·
  exact absurd f (by omega)
 ·
  refine uR 2 [.c [3, 0], .c [4]] ?_
  refine qG (sq 0 3) ?_
  refine uP 1 ?_
  refine RW.pv (κ := .seq) (d := some 17) (r := (sq 2 3)) (v' := .int .u32 ((x.toNat : Nat) : Int)) (v := .int .u32 (IntKind.u32.wrap (((x.toNat : Nat) : Int)))) (by as_aux_lemma => kernel_rfl) (wr_u32 (by omega)) ?_
  refine uF 1 ?_
  refine qT (.int .u32 ((x.toNat : Nat) : Int)) Tryz.func97 ?_
  exact ⟨_, rfl, _, _, by first | rfl | trivial, H.pick [] rfl⟩
def idE (D : CID) : List (BitVec 8) := num D.version.toNat ++ (intE D.index ++ num D.epoch.toNat)
def CidOk (D : CID) : Prop := (0 ≤ D.version ∧ D.version ≤ 18446744073709551615) ∧ (-9223372036854775808 ≤ D.index ∧ D.index ≤ 9223372036854775807) ∧ (0 ≤ D.epoch ∧ D.epoch ≤ 18446744073709551615)
theorem idE_len {D : CID} (h : CidOk D) : (idE D).length ≤ 30 := by
 obtain ⟨_, a, _⟩ := h
 unfold idE
 rw [List.length_append, List.length_append]
 have b : (num D.version.toNat).length ≤ 10 := num_ten (by omega)
 have c := intE_ten a
 have d : (num D.epoch.toNat).length ≤ 10 := num_ten (by omega)
 omega
theorem pid_spec {S : Nat → Prop} {w : World} {O : List Nat} {bp : Nat} {xs : List (BitVec 8)} {a : Option Addr} {c : Nat} {D : CID} (hD : CidOk D) (H0 : Hp w S O [(bp, .cells #[.slice a xs.length c, .I 0, .bool true, .bool false] 130 (0, 0))] [⟨Sb, 5, .slice a xs.length c, xs⟩] [] w) (hby : xs.length + 30 ≤ 1099511627776) :
 Calls Tryz.prog 99 #[.P bp 0, .agg #[.int .u64 D.version, .I D.index, .int .u64 D.epoch]] w (Ret fun v w' => ∃ (a' : Option Addr) (c' : Nat), (v = .agg #[.int .u64 D.version, .I D.index, .int .u64 D.epoch]) ∧ Hp w S O [(bp, .cells #[.slice a' (xs ++ idE D).length c', .I 0, .bool true, .bool false] 130 (0, 0))] [⟨Sb, 5, .slice a' (xs ++ idE D).length c', (xs ++ idE D)⟩] [] w') := by
 obtain ⟨_, i, _⟩ := hD
 have l : (num D.version.toNat).length ≤ 10 := num_ten (by omega)
 have m : (intE D.index).length ≤ 10 := intE_ten i
 have n : (num D.epoch.toNat).length ≤ 10 := num_ten (by omega)
 refine uS1 Tryz.func99 ?_
 have H := H0
 refine uR 1 [.c [0], .c [1]] ?_
 refine qG (sq 0 2) ?_
 refine uC #[.int .u64 D.version, .I D.index, .int .u64 D.epoch] 48 H ?_
 intro j _ H
 refine uC #[.int .u64 0, .I 0, .int .u64 0] 48 H ?_
 intro k _ H
 refine uF 0 ?_
 refine uR 1 [.c [1, 0], .c [2]] ?_
 refine qG (sq 0 6) ?_
 refine uP 2 ?_
 refine uV 25 0 (H.cells 1 rfl) ?_
 have H := H.frontM 2 rfl
 refine uKS (u64_spec (x := D.version) (by omega) ((H.lend (M1 := [(bp, .cells #[.slice a xs.length c, .I 0, .bool true, .bool false] 130 (0, 0))]) (W1 := [⟨Sb, 5, .slice a xs.length c, xs⟩])).pick [] rfl) (by first | omega | (simp only [List.length_append, List.length_nil]; omega))) ?_
 rintro _ _ ⟨e, f, rfl, H'⟩
 have H := H.back (M1 := [(bp, .cells #[.slice a xs.length c, .I 0, .bool true, .bool false] 130 (0, 0))]) (W1 := [⟨Sb, 5, .slice a xs.length c, xs⟩]) H'
 have H : Hp w S O [(bp, .cells #[.slice e (xs ++ num D.version.toNat).length f, .I 0, .bool true, .bool false] 130 (0, 0)), _, _] [⟨Sb, 5, .slice e (xs ++ num D.version.toNat).length f, (xs ++ num D.version.toNat)⟩] [] _ := H
 refine uP 1 ?_
 refine uW 25 0 #[.int .u64 D.version, .I D.index, .int .u64 D.epoch] H 2 rfl ?_
 intro _ H
 refine uF 0 ?_
 refine uR 1 [.c [2, 0], .c [3]] ?_
 refine qG (sq 0 6) ?_
 refine uP 2 ?_
 refine uV 3 1 (H.cells 2 rfl) ?_
 refine uKS (int_spec (x := D.index) (by omega) ((H.lend (M1 := [(bp, .cells #[.slice e (xs ++ num D.version.toNat).length f, .I 0, .bool true, .bool false] 130 (0, 0))]) (W1 := [⟨Sb, 5, .slice e (xs ++ num D.version.toNat).length f, (xs ++ num D.version.toNat)⟩])).pick [] rfl) (by first | omega | (simp only [List.length_append, List.length_nil]; omega))) ?_
 rintro _ _ ⟨b, d, rfl, H'⟩
 have H := H.back (M1 := [(bp, .cells #[.slice e (xs ++ num D.version.toNat).length f, .I 0, .bool true, .bool false] 130 (0, 0))]) (W1 := [⟨Sb, 5, .slice e (xs ++ num D.version.toNat).length f, (xs ++ num D.version.toNat)⟩]) H'
 have H : Hp w S O [(bp, .cells #[.slice b (((xs ++ num D.version.toNat) ++ intE D.index).length) d, .I 0, .bool true, .bool false] 130 (0, 0)), _, _] [⟨Sb, 5, .slice b (((xs ++ num D.version.toNat) ++ intE D.index).length) d, ((xs ++ num D.version.toNat) ++ intE D.index)⟩] [] _ := H
 refine uP 1 ?_
 refine uW 3 1 #[.int .u64 D.version, .I D.index, .int .u64 D.epoch] H 2 rfl ?_
 intro _ H
 refine uF 0 ?_
 refine qR 1 [.c [3, 0], .c [4]] [(0, .P bp 0), (3, .P j 0), (4, .P k 0)] ?_
 refine qG (sq 0 6) ?_
 refine uP 2 ?_
 refine uV 25 2 (H.cells 2 rfl) ?_
 refine uKS (u64_spec (x := D.epoch) (by omega) ((H.lend (M1 := [(bp, .cells #[.slice b (((xs ++ num D.version.toNat) ++ intE D.index).length) d, .I 0, .bool true, .bool false] 130 (0, 0))]) (W1 := [⟨Sb, 5, .slice b (((xs ++ num D.version.toNat) ++ intE D.index).length) d, ((xs ++ num D.version.toNat) ++ intE D.index)⟩])).pick [] rfl) (by first | omega | (simp only [List.length_append, List.length_nil]; omega))) ?_
 rintro _ _ ⟨g, h, rfl, H'⟩
 have H := H.back (M1 := [(bp, .cells #[.slice b (((xs ++ num D.version.toNat) ++ intE D.index).length) d, .I 0, .bool true, .bool false] 130 (0, 0))]) (W1 := [⟨Sb, 5, .slice b (((xs ++ num D.version.toNat) ++ intE D.index).length) d, ((xs ++ num D.version.toNat) ++ intE D.index)⟩]) H'
 have H : Hp w S O [(bp, .cells #[.slice g ((((xs ++ num D.version.toNat) ++ intE D.index) ++ num D.epoch.toNat).length) h, .I 0, .bool true, .bool false] 130 (0, 0)), _, _] [⟨Sb, 5, .slice g ((((xs ++ num D.version.toNat) ++ intE D.index) ++ num D.epoch.toNat).length) h, (((xs ++ num D.version.toNat) ++ intE D.index) ++ num D.epoch.toNat)⟩] [] _ := H
 refine uP 1 ?_
 refine uW 25 2 #[.int .u64 D.version, .I D.index, .int .u64 D.epoch] H 2 rfl ?_
 intro _ H
 refine uF 0 ?_
 refine uR 1 [.c [4, 0], .c [5]] ?_
 refine qG (sq 0 2) ?_
 refine uV 48 0 (H.cells 2 rfl) ?_
 refine uW 48 0 #[.int .u64 D.version, .I D.index, .int .u64 D.epoch] H 1 rfl ?_
 intro _ H
 refine uF 0 ?_
 refine qRB (.agg #[.int .u64 D.version, .I D.index, .int .u64 D.epoch]) Tryz.func99 (v1 (.cell 4 48) (vC (H.cells 1 rfl))) ?_
 have hcf : (((xs ++ num D.version.toNat) ++ intE D.index) ++ num D.epoch.toNat) = xs ++ idE D := by simp [idE]
 rw [hcf] at H
 have H := H.take 1 1
 exact ⟨_, rfl, _, _, by first | rfl | trivial, H.pick [] rfl⟩
def textE (s : ByteArray) : List (BitVec 8) := bytesE (bytesOf s)
theorem text_spec {S : Nat → Prop} {w : World} {O : List Nat} {bp : Nat} {xs : List (BitVec 8)} {a : Option Addr} {c : Nat} {s : ByteArray} (hs : s.size ≤ maxLen) (H0 : Hp w S O [(bp, .cells #[.slice a xs.length c, .I 0, .bool true, .bool false] 130 (0, 0))] [⟨Sb, 5, .slice a xs.length c, xs⟩] [] w) (hby : xs.length + (s.size + 10) ≤ 1099511627776) :
 Calls Tryz.prog 96 #[.P bp 0, .string s] w (Ret fun v w' => ∃ (a' : Option Addr) (c' : Nat), (∃ t : ByteArray, v = .string t) ∧ Hp w S O [(bp, .cells #[.slice a' (xs ++ textE s).length c', .I 0, .bool true, .bool false] 130 (0, 0))] [⟨Sb, 5, .slice a' (xs ++ textE s).length c', (xs ++ textE s)⟩] [] w') := by
 have hbl := bytesOf_len s
 refine uS1 Tryz.func96 ?_
 have H := H0
 refine uR 3 [.c [1, 0], .c [2]] ?_
 refine qG (sq 0 6) ?_
 refine uP 2 ?_
 refine RW.ofStr (κ := .seq) (d := some 7) (r := (sq 3 6)) (Ts := 9) (Td := 29) 5 (s := s) (by as_aux_lemma => kernel_rfl) (nofun) (by as_aux_lemma => kernel_rfl) hs H ?_
 intro b e _ H
 have H : Hp w S O [_] [_] [Rp SB [.slice b (bytesOf s).length e] (bytesOf s)] _ := H
 refine uKS (bytes_spec (ys := (bytesOf s)) ((H.lend (M1 := [(bp, .cells #[.slice a xs.length c, .I 0, .bool true, .bool false] 130 (0, 0))]) (W1 := [⟨Sb, 5, .slice a xs.length c, xs⟩])).pick [0] rfl) (by first | omega | (simp only [List.length_append, List.length_nil]; omega))) ?_
 rintro _ _ ⟨f, g, rfl, H'⟩
 have H := H.back (M1 := [(bp, .cells #[.slice a xs.length c, .I 0, .bool true, .bool false] 130 (0, 0))]) (W1 := [⟨Sb, 5, .slice a xs.length c, xs⟩]) H'
 have H : Hp w S O [(bp, .cells #[.slice f ((xs ++ bytesE (bytesOf s)).length) g, .I 0, .bool true, .bool false] 130 (0, 0))] [⟨Sb, 5, .slice f ((xs ++ bytesE (bytesOf s)).length) g, (xs ++ bytesE (bytesOf s))⟩] [_] _ := H
 refine RW.toStr (κ := .seq) (d := some 9) (r := (sq 5 6)) (Ts := 29) (Td := 9) 5 (a := b) (len := (bytesOf s).length) (cap := e) (xs := bytesOf s) (by as_aux_lemma => kernel_rfl) (by as_aux_lemma => kernel_rfl) (H.rp 0 rfl) ?_
 refine uF 1 ?_
 refine qT (.string (strOf (bytesOf s))) Tryz.func96 ?_
 exact ⟨_, rfl, _, _, ⟨_, rfl⟩, H.pick [] rfl⟩
def confE (C : Conf) : List (BitVec 8) := num C.voters.length ++ intsE C.voters ++ (num C.learners.length ++ intsE C.learners)
theorem pconf_spec {S : Nat → Prop} {w : World} {O : List Nat} {bp : Nat} {xs : List (BitVec 8)} {a : Option Addr} {c : Nat} {C : Conf} {av al : Option Addr} {kv kl : Nat} (H0 : Hp w S O [(bp, .cells #[.slice a xs.length c, .I 0, .bool true, .bool false] 130 (0, 0))] [⟨Sb, 5, .slice a xs.length c, xs⟩] [Rp (Shape.slice (Shape.int .i64)) [.slice av C.voters.length kv] C.voters, Rp (Shape.slice (Shape.int .i64)) [.slice al C.learners.length kl] C.learners] w) (hby : xs.length + 10 * (C.voters.length + C.learners.length + 4) ≤ 1099511627776) :
 Calls Tryz.prog 68 #[.P bp 0, .agg #[.slice av C.voters.length kv, .slice al C.learners.length kl]] w (Ret fun v w' => ∃ (a' : Option Addr) (c' : Nat), (∃ (a1 : Option Addr) (c1 : Nat) (a2 : Option Addr) (c2 : Nat), v = .agg #[.slice a1 C.voters.length c1, .slice a2 C.learners.length c2]) ∧ Hp w S O [(bp, .cells #[.slice a' (xs ++ confE C).length c', .I 0, .bool true, .bool false] 130 (0, 0))] [⟨Sb, 5, .slice a' (xs ++ confE C).length c', (xs ++ confE C)⟩] [] w') := by
 have m := Shape.slice_len (H0.rp 0 rfl)
 have n := Shape.slice_len (H0.rp 1 rfl)
 have o : (num C.voters.length).length ≤ 10 := num_ten (by omega)
 have p : (num C.learners.length).length ≤ 10 := num_ten (by omega)
 have q := intsE_len (rep_ints (H0.rp 0 rfl))
 have r := intsE_len (rep_ints (H0.rp 1 rfl))
 refine uS1 Tryz.func68 ?_
 have H := H0
 refine uR 1 [.c [0], .c [1]] ?_
 refine qG (sq 0 2) ?_
 refine uC #[.slice av C.voters.length kv, .slice al C.learners.length kl] 28 H ?_
 intro k _ H
 refine uC #[.slice none 0 0, .slice none 0 0] 28 H ?_
 intro l _ H
 refine uF 0 ?_
 refine uR 1 [.c [1, 0], .c [2]] ?_
 refine qG (sq 0 6) ?_
 refine uP 2 ?_
 refine uV 26 0 (H.cells 1 rfl) ?_
 have H := H.frontM 2 rfl
 refine uKS (ints_spec  ((H.lend (M1 := [(bp, .cells #[.slice a xs.length c, .I 0, .bool true, .bool false] 130 (0, 0))]) (W1 := [⟨Sb, 5, .slice a xs.length c, xs⟩])).pick [0] rfl) (by first | omega | (simp only [List.length_append, List.length_nil]; omega))) ?_
 rintro _ _ ⟨g, h, ⟨b, d, rfl⟩, H'⟩
 have H := H.back (M1 := [(bp, .cells #[.slice a xs.length c, .I 0, .bool true, .bool false] 130 (0, 0))]) (W1 := [⟨Sb, 5, .slice a xs.length c, xs⟩]) H'
 have H : Hp w S O [(bp, .cells #[.slice g ((xs ++ (num C.voters.length ++ intsE C.voters)).length) h, .I 0, .bool true, .bool false] 130 (0, 0)), _, _] [⟨Sb, 5, .slice g ((xs ++ (num C.voters.length ++ intsE C.voters)).length) h, (xs ++ (num C.voters.length ++ intsE C.voters))⟩] [_, _] _ := H
 refine uP 1 ?_
 refine uW 26 0 #[.slice b C.voters.length d, .slice al C.learners.length kl] H 2 rfl ?_
 intro _ H
 refine uF 0 ?_
 refine uR 1 [.c [2, 0], .c [3]] ?_
 refine qG (sq 0 6) ?_
 refine uP 2 ?_
 refine uV 26 1 (H.cells 2 rfl) ?_
 refine uKS (ints_spec  ((H.lend (M1 := [(bp, .cells #[.slice g ((xs ++ (num C.voters.length ++ intsE C.voters)).length) h, .I 0, .bool true, .bool false] 130 (0, 0))]) (W1 := [⟨Sb, 5, .slice g ((xs ++ (num C.voters.length ++ intsE C.voters)).length) h, (xs ++ (num C.voters.length ++ intsE C.voters))⟩])).pick [1] rfl) (by first | omega | (simp only [List.length_append, List.length_nil]; omega))) ?_
 rintro _ _ ⟨i, j, ⟨e, f, rfl⟩, H'⟩
 have H := H.back (M1 := [(bp, .cells #[.slice g ((xs ++ (num C.voters.length ++ intsE C.voters)).length) h, .I 0, .bool true, .bool false] 130 (0, 0))]) (W1 := [⟨Sb, 5, .slice g ((xs ++ (num C.voters.length ++ intsE C.voters)).length) h, (xs ++ (num C.voters.length ++ intsE C.voters))⟩]) H'
 have H : Hp w S O [(bp, .cells #[.slice i (((xs ++ (num C.voters.length ++ intsE C.voters)) ++ (num C.learners.length ++ intsE C.learners)).length) j, .I 0, .bool true, .bool false] 130 (0, 0)), _, _] [⟨Sb, 5, .slice i (((xs ++ (num C.voters.length ++ intsE C.voters)) ++ (num C.learners.length ++ intsE C.learners)).length) j, ((xs ++ (num C.voters.length ++ intsE C.voters)) ++ (num C.learners.length ++ intsE C.learners))⟩] [_, _] _ := H
 refine uP 1 ?_
 refine uW 26 1 #[.slice b C.voters.length d, .slice e C.learners.length f] H 2 rfl ?_
 intro _ H
 refine uF 0 ?_
 refine qR 1 [.c [3, 0], .c [4]] [(3, .P k 0), (4, .P l 0)] ?_
 refine qG (sq 0 2) ?_
 refine uV 28 0 (H.cells 2 rfl) ?_
 refine uW 28 0 #[.slice b C.voters.length d, .slice e C.learners.length f] H 1 rfl ?_
 intro _ H
 refine uF 0 ?_
 refine qRB (.agg #[.slice b C.voters.length d, .slice e C.learners.length f]) Tryz.func68 (v1 (.cell 4 28) (vC (H.cells 1 rfl))) ?_
 have hcf : ((xs ++ (num C.voters.length ++ intsE C.voters)) ++ (num C.learners.length ++ intsE C.learners)) = xs ++ confE C := by simp [confE]
 rw [hcf] at H
 have H := H.take 1 1
 exact ⟨_, rfl, _, _, ⟨_, _, _, _, rfl⟩, H.pick [] rfl⟩
end Go.Proofs.YtkjkmogipidkiaaGreat
