import Derived.Test.YtppcdmbkgficiaaSBxA
import Derived.Test.YtppcdmbkgficiaaSA1
namespace Go.Proofs.Ytppcdmbkgficiaa
open Go.BX
theorem pu32_spec {S : Nat → Prop} {w : World} {O : List Nat} {bp : Nat} {xs : List (BitVec 8)} {a : Option Addr} {c : Nat} {x : BitVec 32} (H0 : Hp w S O [(bp, .cells #[.slice a xs.length c, .I 0, .bool true, .bool false] 183 (0, 0))] [⟨Sb, 5, .slice a xs.length c, xs⟩] [] w) (hby : xs.length + 10 ≤ 1099511627776) :
 Calls Try.prog 144 #[.P bp 0, .int .u32 ((x.toNat : Nat) : Int)] w (Ret fun v w' => ∃ (a' : Option Addr) (c' : Nat), (v = .int .u32 ((x.toNat : Nat) : Int)) ∧ Hp w S O [(bp, .cells #[.slice a' (xs ++ num x.toNat).length c', .I 0, .bool true, .bool false] 183 (0, 0))] [⟨Sb, 5, .slice a' (xs ++ num x.toNat).length c', (xs ++ num x.toNat)⟩] [] w') := by
 have hxl := x.isLt
 refine uS1 Try.func144 ?_
 have H := H0
 refine uR 3 [.c [1, 0], .c [2]] ?_
 refine qG (sq 0 5) ?_
 refine uP 2 ?_
 refine RW.pv (κ := .seq) (d := some 8) (r := (sq 3 5)) (v' := .int .u64 ((x.toNat : Nat) : Int)) (v := .int .u64 (IntKind.u64.wrap (((x.toNat : Nat) : Int)))) (by as_aux_lemma => kernel_rfl) (wr_u64 (by omega)) ?_
 refine uKS (u64_spec (x := ((x.toNat : Nat) : Int)) (by omega) ((H.lend (M1 := [(bp, .cells #[.slice a xs.length c, .I 0, .bool true, .bool false] 183 (0, 0))]) (W1 := [⟨Sb, 5, .slice a xs.length c, xs⟩])).pick [] rfl) (by first | omega | (simp only [List.length_append, List.length_nil]; omega))) ?_
 rintro _ _ ⟨b, e, rfl, H'⟩
 have H := H.back (M1 := [(bp, .cells #[.slice a xs.length c, .I 0, .bool true, .bool false] 183 (0, 0))]) (W1 := [⟨Sb, 5, .slice a xs.length c, xs⟩]) H'
 have H : Hp w S O [(bp, .cells #[.slice b ((xs ++ num ((x.toNat : Nat) : Int).toNat).length) e, .I 0, .bool true, .bool false] 183 (0, 0))] [⟨Sb, 5, .slice b ((xs ++ num ((x.toNat : Nat) : Int).toNat).length) e, (xs ++ num ((x.toNat : Nat) : Int).toNat)⟩] [] _ := H
 refine uF 1 ?_
 refine uR 2 [.c [2, 0, 0], .c [2, 0, 1], .c [3]] ?_
 refine qG (sq 0 3) ?_
 refine uP 1 ?_
 refine RW.pv (κ := .seq) (d := some 11) (r := (sq 2 3)) (v := .int .u64 (((x.toNat : Nat) : Int).fdiv (2 ^ 32))) (v' := .int .u64 (((x.toNat : Nat) : Int) / 4294967296)) (by as_aux_lemma => kernel_rfl) (shr_id (by decide) (by omega)) ?_
 refine uF 1 ?_
 refine qN (((x.toNat : Nat) : Int) / 4294967296) 0 (fun f => ?_) (fun f => ?_)
 ·
  exact absurd f (by omega)
 ·
  refine uR 2 [.c [3, 0], .c [4]] ?_
  refine qG (sq 0 3) ?_
  refine uP 1 ?_
  refine RW.pv (κ := .seq) (d := some 17) (r := (sq 2 3)) (v' := .int .u32 ((x.toNat : Nat) : Int)) (v := .int .u32 (IntKind.u32.wrap (((x.toNat : Nat) : Int)))) (by as_aux_lemma => kernel_rfl) (wr_u32 (by omega)) ?_
  refine uF 1 ?_
  refine qT (.int .u32 ((x.toNat : Nat) : Int)) Try.func144 ?_
  exact ⟨_, rfl, _, _, by first | rfl | trivial, H.pick [] rfl⟩
def idE (D : CID) : List (BitVec 8) := num D.version.toNat ++ (intE D.index ++ num D.epoch.toNat)
def hdrE (D : Hdr) : List (BitVec 8) := idE D.id ++ (intE D.kk ++ (intE D.nn ++ (intE D.size ++ num D.sum.toNat)))
def CidOk (D : CID) : Prop := (0 ≤ D.version ∧ D.version ≤ 18446744073709551615) ∧ (-9223372036854775808 ≤ D.index ∧ D.index ≤ 9223372036854775807) ∧ (0 ≤ D.epoch ∧ D.epoch ≤ 18446744073709551615)
def HdrOk (D : Hdr) : Prop := CidOk D.id ∧ (-9223372036854775808 ≤ D.kk ∧ D.kk ≤ 9223372036854775807) ∧ (-9223372036854775808 ≤ D.nn ∧ D.nn ≤ 9223372036854775807) ∧ (-9223372036854775808 ≤ D.size ∧ D.size ≤ 9223372036854775807)
theorem idE_len {D : CID} (h : CidOk D) : (idE D).length ≤ 30 := by
 obtain ⟨_, a, _⟩ := h
 unfold idE
 rw [List.length_append, List.length_append]
 have b : (num D.version.toNat).length ≤ 10 := num_ten (by omega)
 have c := intE_ten a
 have d : (num D.epoch.toNat).length ≤ 10 := num_ten (by omega)
 omega
theorem hdrE_len {D : Hdr} (h : HdrOk D) : (hdrE D).length ≤ 70 := by
 obtain ⟨a, b, c, d⟩ := h
 unfold hdrE
 rw [List.length_append, List.length_append, List.length_append, List.length_append]
 have e := idE_len a
 have f := intE_ten b
 have g := intE_ten c
 have i := intE_ten d
 have j : (num D.sum.toNat).length ≤ 10 := num_ten (by have := D.sum.isLt; omega)
 omega
theorem pid_spec {S : Nat → Prop} {w : World} {O : List Nat} {bp : Nat} {xs : List (BitVec 8)} {a : Option Addr} {c : Nat} {D : CID} (hD : CidOk D) (H0 : Hp w S O [(bp, .cells #[.slice a xs.length c, .I 0, .bool true, .bool false] 183 (0, 0))] [⟨Sb, 5, .slice a xs.length c, xs⟩] [] w) (hby : xs.length + 30 ≤ 1099511627776) :
 Calls Try.prog 143 #[.P bp 0, .agg #[.int .u64 D.version, .I D.index, .int .u64 D.epoch]] w (Ret fun v w' => ∃ (a' : Option Addr) (c' : Nat), (v = .agg #[.int .u64 D.version, .I D.index, .int .u64 D.epoch]) ∧ Hp w S O [(bp, .cells #[.slice a' (xs ++ idE D).length c', .I 0, .bool true, .bool false] 183 (0, 0))] [⟨Sb, 5, .slice a' (xs ++ idE D).length c', (xs ++ idE D)⟩] [] w') := by
 obtain ⟨_, i, _⟩ := hD
 have l : (num D.version.toNat).length ≤ 10 := num_ten (by omega)
 have m : (intE D.index).length ≤ 10 := intE_ten i
 have n : (num D.epoch.toNat).length ≤ 10 := num_ten (by omega)
 refine uS1 Try.func143 ?_
 have H := H0
 refine uR 1 [.c [0], .c [1]] ?_
 refine qG (sq 0 2) ?_
 refine uC #[.int .u64 D.version, .I D.index, .int .u64 D.epoch] 50 H ?_
 intro j _ H
 refine uC #[.int .u64 0, .I 0, .int .u64 0] 50 H ?_
 intro k _ H
 refine uF 0 ?_
 refine uR 1 [.c [1, 0], .c [2]] ?_
 refine qG (sq 0 6) ?_
 refine uP 2 ?_
 refine uV 22 0 (H.cells 1 rfl) ?_
 have H := H.frontM 2 (M' := [(bp, .cells #[.slice a xs.length c, .I 0, .bool true, .bool false] 183 (0, 0)), (k, .cells #[.int .u64 0, .I 0, .int .u64 0] 50 (0, 0)), (j, .cells #[.int .u64 D.version, .I D.index, .int .u64 D.epoch] 50 (0, 0))]) rfl
 refine uKS (u64_spec (x := D.version) (by omega) ((H.lend (M1 := [(bp, .cells #[.slice a xs.length c, .I 0, .bool true, .bool false] 183 (0, 0))]) (W1 := [⟨Sb, 5, .slice a xs.length c, xs⟩])).pick [] rfl) (by first | omega | (simp only [List.length_append, List.length_nil]; omega))) ?_
 rintro _ _ ⟨g, h, rfl, H'⟩
 have H := H.back (M1 := [(bp, .cells #[.slice a xs.length c, .I 0, .bool true, .bool false] 183 (0, 0))]) (W1 := [⟨Sb, 5, .slice a xs.length c, xs⟩]) H'
 have H : Hp w S O [(bp, .cells #[.slice g (xs ++ num D.version.toNat).length h, .I 0, .bool true, .bool false] 183 (0, 0)), _, _] [⟨Sb, 5, .slice g (xs ++ num D.version.toNat).length h, (xs ++ num D.version.toNat)⟩] [] _ := H
 refine uP 1 ?_
 refine uW 22 0 #[.int .u64 D.version, .I D.index, .int .u64 D.epoch] H 2 rfl ?_
 intro _ H
 refine uF 0 ?_
 refine uR 1 [.c [2, 0], .c [3]] ?_
 refine qG (sq 0 6) ?_
 refine uP 2 ?_
 refine uV 3 1 (H.cells 2 rfl) ?_
 refine uKS (int_spec (x := D.index) (by omega) ((H.lend (M1 := [(bp, .cells #[.slice g (xs ++ num D.version.toNat).length h, .I 0, .bool true, .bool false] 183 (0, 0))]) (W1 := [⟨Sb, 5, .slice g (xs ++ num D.version.toNat).length h, (xs ++ num D.version.toNat)⟩])).pick [] rfl) (by first | omega | (simp only [List.length_append, List.length_nil]; omega))) ?_
 rintro _ _ ⟨b, d, rfl, H'⟩
 have H := H.back (M1 := [(bp, .cells #[.slice g (xs ++ num D.version.toNat).length h, .I 0, .bool true, .bool false] 183 (0, 0))]) (W1 := [⟨Sb, 5, .slice g (xs ++ num D.version.toNat).length h, (xs ++ num D.version.toNat)⟩]) H'
 have H : Hp w S O [(bp, .cells #[.slice b (((xs ++ num D.version.toNat) ++ intE D.index).length) d, .I 0, .bool true, .bool false] 183 (0, 0)), _, _] [⟨Sb, 5, .slice b (((xs ++ num D.version.toNat) ++ intE D.index).length) d, ((xs ++ num D.version.toNat) ++ intE D.index)⟩] [] _ := H
 refine uP 1 ?_
 refine uW 3 1 #[.int .u64 D.version, .I D.index, .int .u64 D.epoch] H 2 rfl ?_
 intro _ H
 refine uF 0 ?_
 refine qR 1 [.c [3, 0], .c [4]] [(0, .P bp 0), (3, .P j 0), (4, .P k 0)] ?_
 refine qG (sq 0 6) ?_
 refine uP 2 ?_
 refine uV 22 2 (H.cells 2 rfl) ?_
 refine uKS (u64_spec (x := D.epoch) (by omega) ((H.lend (M1 := [(bp, .cells #[.slice b (((xs ++ num D.version.toNat) ++ intE D.index).length) d, .I 0, .bool true, .bool false] 183 (0, 0))]) (W1 := [⟨Sb, 5, .slice b (((xs ++ num D.version.toNat) ++ intE D.index).length) d, ((xs ++ num D.version.toNat) ++ intE D.index)⟩])).pick [] rfl) (by first | omega | (simp only [List.length_append, List.length_nil]; omega))) ?_
 rintro _ _ ⟨e, f, rfl, H'⟩
 have H := H.back (M1 := [(bp, .cells #[.slice b (((xs ++ num D.version.toNat) ++ intE D.index).length) d, .I 0, .bool true, .bool false] 183 (0, 0))]) (W1 := [⟨Sb, 5, .slice b (((xs ++ num D.version.toNat) ++ intE D.index).length) d, ((xs ++ num D.version.toNat) ++ intE D.index)⟩]) H'
 have H : Hp w S O [(bp, .cells #[.slice e ((((xs ++ num D.version.toNat) ++ intE D.index) ++ num D.epoch.toNat).length) f, .I 0, .bool true, .bool false] 183 (0, 0)), _, _] [⟨Sb, 5, .slice e ((((xs ++ num D.version.toNat) ++ intE D.index) ++ num D.epoch.toNat).length) f, (((xs ++ num D.version.toNat) ++ intE D.index) ++ num D.epoch.toNat)⟩] [] _ := H
 refine uP 1 ?_
 refine uW 22 2 #[.int .u64 D.version, .I D.index, .int .u64 D.epoch] H 2 rfl ?_
 intro _ H
 refine uF 0 ?_
 refine uR 1 [.c [4, 0], .c [5]] ?_
 refine qG (sq 0 2) ?_
 refine uV 50 0 (H.cells 2 rfl) ?_
 refine uW 50 0 #[.int .u64 D.version, .I D.index, .int .u64 D.epoch] H 1 rfl ?_
 intro _ H
 refine uF 0 ?_
 refine qRB (.agg #[.int .u64 D.version, .I D.index, .int .u64 D.epoch]) Try.func143 (v1 (.cell 4 50) (vC (H.cells 1 rfl))) ?_
 have hcf : (((xs ++ num D.version.toNat) ++ intE D.index) ++ num D.epoch.toNat) = xs ++ idE D := by simp [idE]
 rw [hcf] at H
 have H := H.drop (M' := [(bp, .cells #[.slice e (xs ++ idE D).length f, .I 0, .bool true, .bool false] 183 (0, 0))]) (W' := [⟨Sb, 5, .slice e (xs ++ idE D).length f, xs ++ idE D⟩]) (by repeat (first | exact List.Sublist.refl _ | apply List.Sublist.cons_cons | apply List.Sublist.cons)) (by repeat (first | exact List.Sublist.refl _ | apply List.Sublist.cons_cons | apply List.Sublist.cons))
 exact ⟨_, rfl, _, _, by first | rfl | trivial, H.pick [] rfl⟩
theorem phdr_spec {S : Nat → Prop} {w : World} {O : List Nat} {bp : Nat} {xs : List (BitVec 8)} {a : Option Addr} {c : Nat} {D : Hdr} (hD : HdrOk D) (H0 : Hp w S O [(bp, .cells #[.slice a xs.length c, .I 0, .bool true, .bool false] 183 (0, 0))] [⟨Sb, 5, .slice a xs.length c, xs⟩] [] w) (hby : xs.length + 70 ≤ 1099511627776) :
 Calls Try.prog 116 #[.P bp 0, .agg (hdrV D).toArray] w (Ret fun v w' => ∃ (a' : Option Addr) (c' : Nat), (v = .agg (hdrV D).toArray) ∧ Hp w S O [(bp, .cells #[.slice a' (xs ++ hdrE D).length c', .I 0, .bool true, .bool false] 183 (0, 0))] [⟨Sb, 5, .slice a' (xs ++ hdrE D).length c', (xs ++ hdrE D)⟩] [] w') := by
 have o := hD
 obtain ⟨p, q, r, s⟩ := o
 have hti := idE_len p
 have t : (intE D.kk).length ≤ 10 := intE_ten q
 have u : (intE D.nn).length ≤ 10 := intE_ten r
 have y : (intE D.size).length ≤ 10 := intE_ten s
 have z : (num D.sum.toNat).length ≤ 10 := num_ten (by have := D.sum.isLt; omega)
 refine uS1 Try.func116 ?_
 have H := H0
 refine uR 1 [.c [0], .c [1]] ?_
 refine qG (sq 0 2) ?_
 refine uC ((hdrV D).toArray) 53 H ?_
 intro m _ H
 refine uC #[.int .u64 0, .I 0, .int .u64 0, .I 0, .I 0, .I 0, .int .u32 0] 53 H ?_
 intro n _ H
 refine uF 0 ?_
 refine uR 1 [.c [1, 0], .c [2]] ?_
 refine qG (sq 0 6) ?_
 refine uP 2 ?_
 refine uV 50 0 (H.cells 1 rfl) ?_
 have H := H.frontM 2 (M' := [(bp, .cells #[.slice a xs.length c, .I 0, .bool true, .bool false] 183 (0, 0)), (n, .cells #[.int .u64 0, .I 0, .int .u64 0, .I 0, .I 0, .I 0, .int .u32 0] 53 (0, 0)), (m, .cells (hdrV D).toArray 53 (0, 0))]) rfl
 refine uKS (pid_spec (D := D.id) (by first | assumption | exact hD.1) ((H.lend (M1 := [(bp, .cells #[.slice a xs.length c, .I 0, .bool true, .bool false] 183 (0, 0))]) (W1 := [⟨Sb, 5, .slice a xs.length c, xs⟩])).pick [] rfl) (by first | omega | (simp only [List.length_append, List.length_nil]; omega))) ?_
 rintro _ _ ⟨k, l, rfl, H'⟩
 have H := H.back (M1 := [(bp, .cells #[.slice a xs.length c, .I 0, .bool true, .bool false] 183 (0, 0))]) (W1 := [⟨Sb, 5, .slice a xs.length c, xs⟩]) H'
 have H : Hp w S O [(bp, .cells #[.slice k (xs ++ idE D.id).length l, .I 0, .bool true, .bool false] 183 (0, 0)), _, _] [⟨Sb, 5, .slice k (xs ++ idE D.id).length l, (xs ++ idE D.id)⟩] [] _ := H
 refine uP 1 ?_
 refine uW 50 0 (hdrV D).toArray H 2 rfl ?_
 intro _ H
 refine uF 0 ?_
 refine uR 1 [.c [2, 0], .c [3]] ?_
 refine qG (sq 0 6) ?_
 refine uP 2 ?_
 refine uV 3 3 (H.cells 2 rfl) ?_
 refine uKS (int_spec (x := D.kk) (by omega) ((H.lend (M1 := [(bp, .cells #[.slice k (xs ++ idE D.id).length l, .I 0, .bool true, .bool false] 183 (0, 0))]) (W1 := [⟨Sb, 5, .slice k (xs ++ idE D.id).length l, (xs ++ idE D.id)⟩])).pick [] rfl) (by first | omega | (simp only [List.length_append, List.length_nil]; omega))) ?_
 rintro _ _ ⟨b, d, rfl, H'⟩
 have H := H.back (M1 := [(bp, .cells #[.slice k (xs ++ idE D.id).length l, .I 0, .bool true, .bool false] 183 (0, 0))]) (W1 := [⟨Sb, 5, .slice k (xs ++ idE D.id).length l, (xs ++ idE D.id)⟩]) H'
 have H : Hp w S O [(bp, .cells #[.slice b (((xs ++ idE D.id) ++ intE D.kk).length) d, .I 0, .bool true, .bool false] 183 (0, 0)), _, _] [⟨Sb, 5, .slice b (((xs ++ idE D.id) ++ intE D.kk).length) d, ((xs ++ idE D.id) ++ intE D.kk)⟩] [] _ := H
 refine uP 1 ?_
 refine uW 3 3 (hdrV D).toArray H 2 rfl ?_
 intro _ H
 refine uF 0 ?_
 refine qR 1 [.c [3, 0], .c [4]] [(0, .P bp 0), (3, .P m 0), (4, .P n 0)] ?_
 refine qG (sq 0 6) ?_
 refine uP 2 ?_
 refine uV 3 4 (H.cells 2 rfl) ?_
 refine uKS (int_spec (x := D.nn) (by omega) ((H.lend (M1 := [(bp, .cells #[.slice b (((xs ++ idE D.id) ++ intE D.kk).length) d, .I 0, .bool true, .bool false] 183 (0, 0))]) (W1 := [⟨Sb, 5, .slice b (((xs ++ idE D.id) ++ intE D.kk).length) d, ((xs ++ idE D.id) ++ intE D.kk)⟩])).pick [] rfl) (by first | omega | (simp only [List.length_append, List.length_nil]; omega))) ?_
 rintro _ _ ⟨e, f, rfl, H'⟩
 have H := H.back (M1 := [(bp, .cells #[.slice b (((xs ++ idE D.id) ++ intE D.kk).length) d, .I 0, .bool true, .bool false] 183 (0, 0))]) (W1 := [⟨Sb, 5, .slice b (((xs ++ idE D.id) ++ intE D.kk).length) d, ((xs ++ idE D.id) ++ intE D.kk)⟩]) H'
 have H : Hp w S O [(bp, .cells #[.slice e ((((xs ++ idE D.id) ++ intE D.kk) ++ intE D.nn).length) f, .I 0, .bool true, .bool false] 183 (0, 0)), _, _] [⟨Sb, 5, .slice e ((((xs ++ idE D.id) ++ intE D.kk) ++ intE D.nn).length) f, (((xs ++ idE D.id) ++ intE D.kk) ++ intE D.nn)⟩] [] _ := H
 refine uP 1 ?_
 refine uW 3 4 (hdrV D).toArray H 2 rfl ?_
 intro _ H
 refine uF 0 ?_
 refine uR 1 [.c [4, 0], .c [5]] ?_
 refine qG (sq 0 6) ?_
 refine uP 2 ?_
 refine uV 3 5 (H.cells 2 rfl) ?_
 refine uKS (int_spec (x := D.size) (by omega) ((H.lend (M1 := [(bp, .cells #[.slice e ((((xs ++ idE D.id) ++ intE D.kk) ++ intE D.nn).length) f, .I 0, .bool true, .bool false] 183 (0, 0))]) (W1 := [⟨Sb, 5, .slice e ((((xs ++ idE D.id) ++ intE D.kk) ++ intE D.nn).length) f, (((xs ++ idE D.id) ++ intE D.kk) ++ intE D.nn)⟩])).pick [] rfl) (by first | omega | (simp only [List.length_append, List.length_nil]; omega))) ?_
 rintro _ _ ⟨g, h, rfl, H'⟩
 have H := H.back (M1 := [(bp, .cells #[.slice e ((((xs ++ idE D.id) ++ intE D.kk) ++ intE D.nn).length) f, .I 0, .bool true, .bool false] 183 (0, 0))]) (W1 := [⟨Sb, 5, .slice e ((((xs ++ idE D.id) ++ intE D.kk) ++ intE D.nn).length) f, (((xs ++ idE D.id) ++ intE D.kk) ++ intE D.nn)⟩]) H'
 have H : Hp w S O [(bp, .cells #[.slice g (((((xs ++ idE D.id) ++ intE D.kk) ++ intE D.nn) ++ intE D.size).length) h, .I 0, .bool true, .bool false] 183 (0, 0)), _, _] [⟨Sb, 5, .slice g (((((xs ++ idE D.id) ++ intE D.kk) ++ intE D.nn) ++ intE D.size).length) h, ((((xs ++ idE D.id) ++ intE D.kk) ++ intE D.nn) ++ intE D.size)⟩] [] _ := H
 refine uP 1 ?_
 refine uW 3 5 (hdrV D).toArray H 2 rfl ?_
 intro _ H
 refine uF 0 ?_
 refine uR 1 [.c [5, 0], .c [6]] ?_
 refine qG (sq 0 6) ?_
 refine uP 2 ?_
 refine uV 51 6 (H.cells 2 rfl) ?_
 refine uKS (pu32_spec (x := D.sum) ((H.lend (M1 := [(bp, .cells #[.slice g (((((xs ++ idE D.id) ++ intE D.kk) ++ intE D.nn) ++ intE D.size).length) h, .I 0, .bool true, .bool false] 183 (0, 0))]) (W1 := [⟨Sb, 5, .slice g (((((xs ++ idE D.id) ++ intE D.kk) ++ intE D.nn) ++ intE D.size).length) h, ((((xs ++ idE D.id) ++ intE D.kk) ++ intE D.nn) ++ intE D.size)⟩])).pick [] rfl) (by first | omega | (simp only [List.length_append, List.length_nil]; omega))) ?_
 rintro _ _ ⟨i, j, rfl, H'⟩
 have H := H.back (M1 := [(bp, .cells #[.slice g (((((xs ++ idE D.id) ++ intE D.kk) ++ intE D.nn) ++ intE D.size).length) h, .I 0, .bool true, .bool false] 183 (0, 0))]) (W1 := [⟨Sb, 5, .slice g (((((xs ++ idE D.id) ++ intE D.kk) ++ intE D.nn) ++ intE D.size).length) h, ((((xs ++ idE D.id) ++ intE D.kk) ++ intE D.nn) ++ intE D.size)⟩]) H'
 have H : Hp w S O [(bp, .cells #[.slice i ((((((xs ++ idE D.id) ++ intE D.kk) ++ intE D.nn) ++ intE D.size) ++ num D.sum.toNat).length) j, .I 0, .bool true, .bool false] 183 (0, 0)), _, _] [⟨Sb, 5, .slice i ((((((xs ++ idE D.id) ++ intE D.kk) ++ intE D.nn) ++ intE D.size) ++ num D.sum.toNat).length) j, (((((xs ++ idE D.id) ++ intE D.kk) ++ intE D.nn) ++ intE D.size) ++ num D.sum.toNat)⟩] [] _ := H
 refine uP 1 ?_
 refine uW 51 6 (hdrV D).toArray H 2 rfl ?_
 intro _ H
 refine qF 0 [(3, .P m 0), (4, .P n 0)] ?_
 refine uR 1 [.c [6, 0], .c [7]] ?_
 refine qG (sq 0 2) ?_
 refine uV 53 0 (H.cells 2 rfl) ?_
 refine uW 53 0 (hdrV D).toArray H 1 rfl ?_
 intro _ H
 refine uF 0 ?_
 refine qRB (.agg (hdrV D).toArray) Try.func116 (v1 (.cell 4 53) (vC (H.cells 1 rfl))) ?_
 have hcf : (((((xs ++ idE D.id) ++ intE D.kk) ++ intE D.nn) ++ intE D.size) ++ num D.sum.toNat) = xs ++ hdrE D := by simp [hdrE]
 rw [hcf] at H
 have H := H.drop (M' := [(bp, .cells #[.slice i (xs ++ hdrE D).length j, .I 0, .bool true, .bool false] 183 (0, 0))]) (W' := [⟨Sb, 5, .slice i (xs ++ hdrE D).length j, xs ++ hdrE D⟩]) (by repeat (first | exact List.Sublist.refl _ | apply List.Sublist.cons_cons | apply List.Sublist.cons)) (by repeat (first | exact List.Sublist.refl _ | apply List.Sublist.cons_cons | apply List.Sublist.cons))
 exact ⟨_, rfl, _, _, by first | rfl | trivial, H.pick [] rfl⟩
def textE (s : ByteArray) : List (BitVec 8) := bytesE (bytesOf s)
theorem text_spec {S : Nat → Prop} {w : World} {O : List Nat} {bp : Nat} {xs : List (BitVec 8)} {a : Option Addr} {c : Nat} {s : ByteArray} (hs : s.size ≤ maxLen) (H0 : Hp w S O [(bp, .cells #[.slice a xs.length c, .I 0, .bool true, .bool false] 183 (0, 0))] [⟨Sb, 5, .slice a xs.length c, xs⟩] [] w) (hby : xs.length + (s.size + 10) ≤ 1099511627776) :
 Calls Try.prog 118 #[.P bp 0, .string s] w (Ret fun v w' => ∃ (a' : Option Addr) (c' : Nat), (∃ t : ByteArray, v = .string t) ∧ Hp w S O [(bp, .cells #[.slice a' (xs ++ textE s).length c', .I 0, .bool true, .bool false] 183 (0, 0))] [⟨Sb, 5, .slice a' (xs ++ textE s).length c', (xs ++ textE s)⟩] [] w') := by
 have hbl := bytesOf_len s
 refine uS1 Try.func118 ?_
 have H := H0
 refine uR 3 [.c [1, 0], .c [2]] ?_
 refine qG (sq 0 6) ?_
 refine uP 2 ?_
 refine RW.ofStr (κ := .seq) (d := some 7) (r := (sq 3 6)) (Ts := 9) (Td := 23) 5 (s := s) (by as_aux_lemma => kernel_rfl) (nofun) (by as_aux_lemma => kernel_rfl) hs H ?_
 intro b e _ H
 have H : Hp w S O [_] [_] [Rp SB [.slice b (bytesOf s).length e] (bytesOf s)] _ := H
 refine uKS (bytes_spec (ys := (bytesOf s)) ((H.lend (M1 := [(bp, .cells #[.slice a xs.length c, .I 0, .bool true, .bool false] 183 (0, 0))]) (W1 := [⟨Sb, 5, .slice a xs.length c, xs⟩])).pick [0] rfl) (by first | omega | (simp only [List.length_append, List.length_nil]; omega))) ?_
 rintro _ _ ⟨f, g, rfl, H'⟩
 have H := H.back (M1 := [(bp, .cells #[.slice a xs.length c, .I 0, .bool true, .bool false] 183 (0, 0))]) (W1 := [⟨Sb, 5, .slice a xs.length c, xs⟩]) H'
 have H : Hp w S O [(bp, .cells #[.slice f ((xs ++ bytesE (bytesOf s)).length) g, .I 0, .bool true, .bool false] 183 (0, 0))] [⟨Sb, 5, .slice f ((xs ++ bytesE (bytesOf s)).length) g, (xs ++ bytesE (bytesOf s))⟩] [_] _ := H
 refine RW.toStr (κ := .seq) (d := some 9) (r := (sq 5 6)) (Ts := 23) (Td := 9) 5 (a := b) (len := (bytesOf s).length) (cap := e) (xs := bytesOf s) (by as_aux_lemma => kernel_rfl) (by as_aux_lemma => kernel_rfl) (H.rp 0 rfl) ?_
 refine uF 1 ?_
 refine qT (.string (strOf (bytesOf s))) Try.func118 ?_
 exact ⟨_, rfl, _, _, ⟨_, rfl⟩, H.pick [] rfl⟩
end Go.Proofs.Ytppcdmbkgficiaa
