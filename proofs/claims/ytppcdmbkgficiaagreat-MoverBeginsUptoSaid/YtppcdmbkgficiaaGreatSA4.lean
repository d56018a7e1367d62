import Derived.Test.YtppcdmbkgficiaaGreatSBxB
import Derived.Test.YtppcdmbkgficiaaGreatSA3
namespace Go.Proofs.YtppcdmbkgficiaaGreat
open Go.BX
def msgE (m : Msg) : List (BitVec 8) := intE m.kind ++ (intE m.frm ++ (intE m.to ++ (num m.term.toNat ++ (num m.index.toNat ++ (num m.logTerm.toNat ++ (num m.commit.toNat ++ (num m.ctx.toNat ++ (flagE m.ok ++ (flagE m.force ++ (num m.entries.length ++ (confE m.conf ++ (hdrE m.head ++ (bytesE m.data ++ (num m.client.toNat ++ (num m.seq.toNat ++ (intE m.op ++ (textE m.key ++ (intE m.code ++ (num m.names.length)))))))))))))))))))
structure MsgOk (m : Msg) : Prop where
 ents : m.entries.length = 0
 nms : m.names.length = 0
 ints : (-9223372036854775808 ≤ m.kind ∧ m.kind ≤ 9223372036854775807) ∧ (-9223372036854775808 ≤ m.frm ∧ m.frm ≤ 9223372036854775807) ∧ (-9223372036854775808 ≤ m.to ∧ m.to ≤ 9223372036854775807) ∧ (0 ≤ m.term ∧ m.term ≤ 18446744073709551615) ∧ (0 ≤ m.index ∧ m.index ≤ 18446744073709551615) ∧ (0 ≤ m.logTerm ∧ m.logTerm ≤ 18446744073709551615) ∧ (0 ≤ m.commit ∧ m.commit ≤ 18446744073709551615) ∧ (0 ≤ m.ctx ∧ m.ctx ≤ 18446744073709551615) ∧ (0 ≤ m.client ∧ m.client ≤ 18446744073709551615) ∧ (0 ≤ m.seq ∧ m.seq ≤ 18446744073709551615) ∧ (-9223372036854775808 ≤ m.op ∧ m.op ≤ 9223372036854775807) ∧ (-9223372036854775808 ≤ m.code ∧ m.code ≤ 9223372036854775807)
 head : HdrOk m.head
 key : m.key.size ≤ 1000000
 data : m.data.length ≤ 1000000
 conf : m.conf.voters.length + m.conf.learners.length ≤ 1000000
theorem fields_spec {S : Nat → Prop} {w : World} {O : List Nat} {bp : Nat} {xs : List (BitVec 8)} {a : Option Addr} {c : Nat} {m : Msg} {ma0 ma1 ma2 ma3 ma4 : Option Addr} {mk0 mk1 mk2 mk3 mk4 : Nat} (hm : MsgOk m) (H0 : Hp w S O [(bp, .cells #[.slice a xs.length c, .I 0, .bool true, .bool false] 136 (0, 0))] [⟨Sb, 5, .slice a xs.length c, xs⟩] [Rp (Shape.slice (Shape.int .i64)) [.slice ma1 m.conf.voters.length mk1] m.conf.voters, Rp (Shape.slice (Shape.int .i64)) [.slice ma2 m.conf.learners.length mk2] m.conf.learners, Rp SB [.slice ma3 m.data.length mk3] m.data] w) (hby : xs.length ≤ 1000000) :
 Calls Tryz.prog 60 #[.P bp 0, .agg (msgV m ma0 mk0 ma1 mk1 ma2 mk2 ma3 mk3 ma4 mk4).toArray] w (Ret fun v w' => ∃ (a' : Option Addr) (c' : Nat), Hp w S O [(bp, .cells #[.slice a' (xs ++ msgE m).length c', .I 0, .bool true, .bool false] 136 (0, 0))] [⟨Sb, 5, .slice a' (xs ++ msgE m).length c', (xs ++ msgE m)⟩] [] w') := by
 obtain ⟨_, _, hmi, hmh, hmk, hmd, hmc⟩ := hm
 obtain ⟨_, _, _, _, _, _, _, _, _, _, _, _⟩ := hmi
 have hkey : m.key.size ≤ maxLen := by unfold maxLen; omega
 have J1 : (intE m.kind).length ≤ 10 := intE_ten (by omega)
 have K1 : (intE m.frm).length ≤ 10 := intE_ten (by omega)
 have L1 : (intE m.to).length ≤ 10 := intE_ten (by omega)
 have N1 : (num m.term.toNat).length ≤ 10 := num_ten (by omega)
 have O1 : (num m.index.toNat).length ≤ 10 := num_ten (by omega)
 have P1 : (num m.logTerm.toNat).length ≤ 10 := num_ten (by omega)
 have Q1 : (num m.commit.toNat).length ≤ 10 := num_ten (by omega)
 have R1 : (num m.ctx.toNat).length ≤ 10 := num_ten (by omega)
 have z1 : (num m.entries.length).length ≤ 10 := num_ten (by omega)
 have A1 : (num m.client.toNat).length ≤ 10 := num_ten (by omega)
 have B1 : (num m.seq.toNat).length ≤ 10 := num_ten (by omega)
 have C1 : (intE m.op).length ≤ 10 := intE_ten (by omega)
 have D1 : (intE m.code).length ≤ 10 := intE_ten (by omega)
 have E1 : (num m.names.length).length ≤ 10 := num_ten (by omega)
 have S1 := flagE_len m.ok
 have T1 := flagE_len m.force
 have F1 := hdrE_len hmh
 have G1 : (bytesE m.data).length ≤ m.data.length + 10 := by unfold bytesE; rw [List.length_append]; have : (num m.data.length).length ≤ 10 := num_ten (by omega); omega
 have H1 : (textE m.key).length ≤ m.key.size + 10 := by unfold textE bytesE; rw [List.length_append, bytesOf_len]; have : (num m.key.size).length ≤ 10 := num_ten (by omega); omega
 have I1 : (confE m.conf).length ≤ 10 * (m.conf.voters.length + m.conf.learners.length + 4) := by
  have q1 := intsE_len (rep_ints (H0.rp 0 rfl))
  have q2 := intsE_len (rep_ints (H0.rp 1 rfl))
  have q3 : (num m.conf.voters.length).length ≤ 10 := num_ten (by omega)
  have q4 : (num m.conf.learners.length).length ≤ 10 := num_ten (by omega)
  unfold confE
  simp only [List.length_append]
  omega
 refine uS1 Tryz.func60 ?_
 have H := H0
 refine uR 1 [.c [0], .c [1]] ?_
 refine qG (sq 0 2) ?_
 refine uC ((msgV m ma0 mk0 ma1 mk1 ma2 mk2 ma3 mk3 ma4 mk4).toArray) 89 H ?_
 intro T _ H
 refine uC ((msgZ).toArray) 89 H ?_
 intro b3 _ H
 refine uF 0 ?_
 refine uR 1 [.c [1, 0], .c [2]] ?_
 refine qG (sq 0 6) ?_
 refine uP 2 ?_
 refine uV 77 0 (H.cells 1 rfl) ?_
 have H := H.frontM 2 (M' := [(bp, .cells #[.slice a xs.length c, .I 0, .bool true, .bool false] 136 (0, 0)), (b3, .cells (msgZ).toArray 89 (0, 0)), (T, .cells (msgV m ma0 mk0 ma1 mk1 ma2 mk2 ma3 mk3 ma4 mk4).toArray 89 (0, 0))]) rfl
 refine uKS (int_spec (x := m.kind) (by omega) ((H.lend (M1 := [(bp, .cells #[.slice a xs.length c, .I 0, .bool true, .bool false] 136 (0, 0))]) (W1 := [⟨Sb, 5, .slice a xs.length c, xs⟩])).pick [] rfl) (by first | omega | (simp only [List.length_append, List.length_nil]; omega))) ?_
 rintro _ _ ⟨a7, c8, rfl, H'⟩
 have H := H.back (M1 := [(bp, .cells #[.slice a xs.length c, .I 0, .bool true, .bool false] 136 (0, 0))]) (W1 := [⟨Sb, 5, .slice a xs.length c, xs⟩]) H'
 have H : Hp w S O [(bp, .cells #[.slice a7 (xs ++ intE m.kind).length c8, .I 0, .bool true, .bool false] 136 (0, 0)), _, _] [⟨Sb, 5, .slice a7 (xs ++ intE m.kind).length c8, (xs ++ intE m.kind)⟩] [_, _, _] _ := H
 obtain ⟨y, Q0⟩ : ∃ z, z = (xs ++ intE m.kind) := ⟨_, rfl⟩
 rw [← Q0] at H
 have k1 := congrArg List.length Q0
 rw [List.length_append] at k1
 refine uP 1 ?_
 refine uW 77 0 (msgV m ma0 mk0 ma1 mk1 ma2 mk2 ma3 mk3 ma4 mk4).toArray H 2 rfl ?_
 intro _ H
 refine uF 0 ?_
 refine uR 1 [.c [2, 0], .c [3]] ?_
 refine qG (sq 0 6) ?_
 refine uP 2 ?_
 refine uV 3 1 (H.cells 2 rfl) ?_
 refine uKS (int_spec (x := m.frm) (by omega) ((H.lend (M1 := [(bp, .cells #[.slice a7 y.length c8, .I 0, .bool true, .bool false] 136 (0, 0))]) (W1 := [⟨Sb, 5, .slice a7 y.length c8, y⟩])).pick [] rfl) (by first | omega | (simp only [List.length_append, List.length_nil]; omega))) ?_
 rintro _ _ ⟨j0, k0, rfl, H'⟩
 have H := H.back (M1 := [(bp, .cells #[.slice a7 y.length c8, .I 0, .bool true, .bool false] 136 (0, 0))]) (W1 := [⟨Sb, 5, .slice a7 y.length c8, y⟩]) H'
 have H : Hp w S O [(bp, .cells #[.slice j0 (y ++ intE m.frm).length k0, .I 0, .bool true, .bool false] 136 (0, 0)), _, _] [⟨Sb, 5, .slice j0 (y ++ intE m.frm).length k0, (y ++ intE m.frm)⟩] [_, _, _] _ := H
 obtain ⟨A, R0⟩ : ∃ z, z = (y ++ intE m.frm) := ⟨_, rfl⟩
 rw [← R0] at H
 have l1 := congrArg List.length R0
 rw [List.length_append] at l1
 refine uP 1 ?_
 refine uW 3 1 (msgV m ma0 mk0 ma1 mk1 ma2 mk2 ma3 mk3 ma4 mk4).toArray H 2 rfl ?_
 intro _ H
 refine uF 0 ?_
 refine qR 1 [.c [3, 0], .c [4]] [(0, .P bp 0), (3, .P T 0), (4, .P b3 0)] ?_
 refine qG (sq 0 6) ?_
 refine uP 2 ?_
 refine uV 3 2 (H.cells 2 rfl) ?_
 refine uKS (int_spec (x := m.to) (by omega) ((H.lend (M1 := [(bp, .cells #[.slice j0 A.length k0, .I 0, .bool true, .bool false] 136 (0, 0))]) (W1 := [⟨Sb, 5, .slice j0 A.length k0, A⟩])).pick [] rfl) (by first | omega | (simp only [List.length_append, List.length_nil]; omega))) ?_
 rintro _ _ ⟨l0, m0, rfl, H'⟩
 have H := H.back (M1 := [(bp, .cells #[.slice j0 A.length k0, .I 0, .bool true, .bool false] 136 (0, 0))]) (W1 := [⟨Sb, 5, .slice j0 A.length k0, A⟩]) H'
 have H : Hp w S O [(bp, .cells #[.slice l0 (A ++ intE m.to).length m0, .I 0, .bool true, .bool false] 136 (0, 0)), _, _] [⟨Sb, 5, .slice l0 (A ++ intE m.to).length m0, (A ++ intE m.to)⟩] [_, _, _] _ := H
 obtain ⟨B, S0⟩ : ∃ z, z = (A ++ intE m.to) := ⟨_, rfl⟩
 rw [← S0] at H
 have m1 := congrArg List.length S0
 rw [List.length_append] at m1
 refine uP 1 ?_
 refine uW 3 2 (msgV m ma0 mk0 ma1 mk1 ma2 mk2 ma3 mk3 ma4 mk4).toArray H 2 rfl ?_
 intro _ H
 refine uF 0 ?_
 refine uR 1 [.c [4, 0], .c [5]] ?_
 refine qG (sq 0 6) ?_
 refine uP 2 ?_
 refine uV 22 3 (H.cells 2 rfl) ?_
 refine uKS (u64_spec (x := m.term) (by omega) ((H.lend (M1 := [(bp, .cells #[.slice l0 B.length m0, .I 0, .bool true, .bool false] 136 (0, 0))]) (W1 := [⟨Sb, 5, .slice l0 B.length m0, B⟩])).pick [] rfl) (by first | omega | (simp only [List.length_append, List.length_nil]; omega))) ?_
 rintro _ _ ⟨n0, o0, rfl, H'⟩
 have H := H.back (M1 := [(bp, .cells #[.slice l0 B.length m0, .I 0, .bool true, .bool false] 136 (0, 0))]) (W1 := [⟨Sb, 5, .slice l0 B.length m0, B⟩]) H'
 have H : Hp w S O [(bp, .cells #[.slice n0 (B ++ num m.term.toNat).length o0, .I 0, .bool true, .bool false] 136 (0, 0)), _, _] [⟨Sb, 5, .slice n0 (B ++ num m.term.toNat).length o0, (B ++ num m.term.toNat)⟩] [_, _, _] _ := H
 obtain ⟨E, T0⟩ : ∃ z, z = (B ++ num m.term.toNat) := ⟨_, rfl⟩
 rw [← T0] at H
 have n1 := congrArg List.length T0
 rw [List.length_append] at n1
 refine uP 1 ?_
 refine uW 22 3 (msgV m ma0 mk0 ma1 mk1 ma2 mk2 ma3 mk3 ma4 mk4).toArray H 2 rfl ?_
 intro _ H
 refine uF 0 ?_
 refine uR 1 [.c [5, 0], .c [6]] ?_
 refine qG (sq 0 6) ?_
 refine uP 2 ?_
 refine uV 22 4 (H.cells 2 rfl) ?_
 refine uKS (u64_spec (x := m.index) (by omega) ((H.lend (M1 := [(bp, .cells #[.slice n0 E.length o0, .I 0, .bool true, .bool false] 136 (0, 0))]) (W1 := [⟨Sb, 5, .slice n0 E.length o0, E⟩])).pick [] rfl) (by first | omega | (simp only [List.length_append, List.length_nil]; omega))) ?_
 rintro _ _ ⟨p0, q0, rfl, H'⟩
 have H := H.back (M1 := [(bp, .cells #[.slice n0 E.length o0, .I 0, .bool true, .bool false] 136 (0, 0))]) (W1 := [⟨Sb, 5, .slice n0 E.length o0, E⟩]) H'
 have H : Hp w S O [(bp, .cells #[.slice p0 (E ++ num m.index.toNat).length q0, .I 0, .bool true, .bool false] 136 (0, 0)), _, _] [⟨Sb, 5, .slice p0 (E ++ num m.index.toNat).length q0, (E ++ num m.index.toNat)⟩] [_, _, _] _ := H
 obtain ⟨F, U0⟩ : ∃ z, z = (E ++ num m.index.toNat) := ⟨_, rfl⟩
 rw [← U0] at H
 have o1 := congrArg List.length U0
 rw [List.length_append] at o1
 refine uP 1 ?_
 refine uW 22 4 (msgV m ma0 mk0 ma1 mk1 ma2 mk2 ma3 mk3 ma4 mk4).toArray H 2 rfl ?_
 intro _ H
 refine qF 0 [(0, .P bp 0), (3, .P T 0), (4, .P b3 0)] ?_
 refine uR 1 [.c [6, 0], .c [7]] ?_
 refine qG (sq 0 6) ?_
 refine uP 2 ?_
 refine uV 22 5 (H.cells 2 rfl) ?_
 refine uKS (u64_spec (x := m.logTerm) (by omega) ((H.lend (M1 := [(bp, .cells #[.slice p0 F.length q0, .I 0, .bool true, .bool false] 136 (0, 0))]) (W1 := [⟨Sb, 5, .slice p0 F.length q0, F⟩])).pick [] rfl) (by first | omega | (simp only [List.length_append, List.length_nil]; omega))) ?_
 rintro _ _ ⟨r0, s0, rfl, H'⟩
 have H := H.back (M1 := [(bp, .cells #[.slice p0 F.length q0, .I 0, .bool true, .bool false] 136 (0, 0))]) (W1 := [⟨Sb, 5, .slice p0 F.length q0, F⟩]) H'
 have H : Hp w S O [(bp, .cells #[.slice r0 (F ++ num m.logTerm.toNat).length s0, .I 0, .bool true, .bool false] 136 (0, 0)), _, _] [⟨Sb, 5, .slice r0 (F ++ num m.logTerm.toNat).length s0, (F ++ num m.logTerm.toNat)⟩] [_, _, _] _ := H
 obtain ⟨G, V0⟩ : ∃ z, z = (F ++ num m.logTerm.toNat) := ⟨_, rfl⟩
 rw [← V0] at H
 have p1 := congrArg List.length V0
 rw [List.length_append] at p1
 refine uP 1 ?_
 refine uW 22 5 (msgV m ma0 mk0 ma1 mk1 ma2 mk2 ma3 mk3 ma4 mk4).toArray H 2 rfl ?_
 intro _ H
 refine uF 0 ?_
 refine uR 1 [.c [7, 0], .c [8]] ?_
 refine qG (sq 0 6) ?_
 refine uP 2 ?_
 refine uV 22 6 (H.cells 2 rfl) ?_
 refine uKS (u64_spec (x := m.commit) (by omega) ((H.lend (M1 := [(bp, .cells #[.slice r0 G.length s0, .I 0, .bool true, .bool false] 136 (0, 0))]) (W1 := [⟨Sb, 5, .slice r0 G.length s0, G⟩])).pick [] rfl) (by first | omega | (simp only [List.length_append, List.length_nil]; omega))) ?_
 rintro _ _ ⟨t0, u0, rfl, H'⟩
 have H := H.back (M1 := [(bp, .cells #[.slice r0 G.length s0, .I 0, .bool true, .bool false] 136 (0, 0))]) (W1 := [⟨Sb, 5, .slice r0 G.length s0, G⟩]) H'
 have H : Hp w S O [(bp, .cells #[.slice t0 (G ++ num m.commit.toNat).length u0, .I 0, .bool true, .bool false] 136 (0, 0)), _, _] [⟨Sb, 5, .slice t0 (G ++ num m.commit.toNat).length u0, (G ++ num m.commit.toNat)⟩] [_, _, _] _ := H
 obtain ⟨J, W0⟩ : ∃ z, z = (G ++ num m.commit.toNat) := ⟨_, rfl⟩
 rw [← W0] at H
 have hlz52 := congrArg List.length W0
 rw [List.length_append] at hlz52
 refine uP 1 ?_
 refine uW 22 6 (msgV m ma0 mk0 ma1 mk1 ma2 mk2 ma3 mk3 ma4 mk4).toArray H 2 rfl ?_
 intro _ H
 refine uF 0 ?_
 refine uR 1 [.c [8, 0], .c [9]] ?_
 refine qG (sq 0 6) ?_
 refine uP 2 ?_
 refine uV 22 7 (H.cells 2 rfl) ?_
 refine uKS (u64_spec (x := m.ctx) (by omega) ((H.lend (M1 := [(bp, .cells #[.slice t0 J.length u0, .I 0, .bool true, .bool false] 136 (0, 0))]) (W1 := [⟨Sb, 5, .slice t0 J.length u0, J⟩])).pick [] rfl) (by first | omega | (simp only [List.length_append, List.length_nil]; omega))) ?_
 rintro _ _ ⟨v0, w0, rfl, H'⟩
 have H := H.back (M1 := [(bp, .cells #[.slice t0 J.length u0, .I 0, .bool true, .bool false] 136 (0, 0))]) (W1 := [⟨Sb, 5, .slice t0 J.length u0, J⟩]) H'
 have H : Hp w S O [(bp, .cells #[.slice v0 (J ++ num m.ctx.toNat).length w0, .I 0, .bool true, .bool false] 136 (0, 0)), _, _] [⟨Sb, 5, .slice v0 (J ++ num m.ctx.toNat).length w0, (J ++ num m.ctx.toNat)⟩] [_, _, _] _ := H
 obtain ⟨K, X0⟩ : ∃ z, z = (J ++ num m.ctx.toNat) := ⟨_, rfl⟩
 rw [← X0] at H
 have r1 := congrArg List.length X0
 rw [List.length_append] at r1
 refine qP 1 (sq 5 6) [(0, .P bp 0), (3, .P T 0), (4, .P b3 0), (47, .int .u64 m.ctx), (48, .P T 7)] ?_
 refine uW 22 7 (msgV m ma0 mk0 ma1 mk1 ma2 mk2 ma3 mk3 ma4 mk4).toArray H 2 rfl ?_
 intro _ H
 refine uF 0 ?_
 refine uR 1 [.c [9, 0], .c [10]] ?_
 refine qG (sq 0 6) ?_
 refine uP 2 ?_
 refine uV 4 8 (H.cells 2 rfl) ?_
 refine uKS (flag_spec (b := m.ok) ((H.lend (M1 := [(bp, .cells #[.slice v0 K.length w0, .I 0, .bool true, .bool false] 136 (0, 0))]) (W1 := [⟨Sb, 5, .slice v0 K.length w0, K⟩])).pick [] rfl) (by first | omega | (simp only [List.length_append, List.length_nil]; omega))) ?_
 rintro _ _ ⟨x0, y0, rfl, H'⟩
 have H := H.back (M1 := [(bp, .cells #[.slice v0 K.length w0, .I 0, .bool true, .bool false] 136 (0, 0))]) (W1 := [⟨Sb, 5, .slice v0 K.length w0, K⟩]) H'
 have H : Hp w S O [(bp, .cells #[.slice x0 (K ++ flagE m.ok).length y0, .I 0, .bool true, .bool false] 136 (0, 0)), _, _] [⟨Sb, 5, .slice x0 (K ++ flagE m.ok).length y0, (K ++ flagE m.ok)⟩] [_, _, _] _ := H
 obtain ⟨L, Y0⟩ : ∃ z, z = (K ++ flagE m.ok) := ⟨_, rfl⟩
 rw [← Y0] at H
 have s1 := congrArg List.length Y0
 rw [List.length_append] at s1
 refine uP 1 ?_
 refine uW 4 8 (msgV m ma0 mk0 ma1 mk1 ma2 mk2 ma3 mk3 ma4 mk4).toArray H 2 rfl ?_
 intro _ H
 refine uF 0 ?_
 refine uR 1 [.c [10, 0], .c [11]] ?_
 refine qG (sq 0 6) ?_
 refine uP 2 ?_
 refine uV 4 9 (H.cells 2 rfl) ?_
 refine uKS (flag_spec (b := m.force) ((H.lend (M1 := [(bp, .cells #[.slice x0 L.length y0, .I 0, .bool true, .bool false] 136 (0, 0))]) (W1 := [⟨Sb, 5, .slice x0 L.length y0, L⟩])).pick [] rfl) (by first | omega | (simp only [List.length_append, List.length_nil]; omega))) ?_
 rintro _ _ ⟨z0, A0, rfl, H'⟩
 have H := H.back (M1 := [(bp, .cells #[.slice x0 L.length y0, .I 0, .bool true, .bool false] 136 (0, 0))]) (W1 := [⟨Sb, 5, .slice x0 L.length y0, L⟩]) H'
 have H : Hp w S O [(bp, .cells #[.slice z0 (L ++ flagE m.force).length A0, .I 0, .bool true, .bool false] 136 (0, 0)), _, _] [⟨Sb, 5, .slice z0 (L ++ flagE m.force).length A0, (L ++ flagE m.force)⟩] [_, _, _] _ := H
 obtain ⟨M, Z0⟩ : ∃ z, z = (L ++ flagE m.force) := ⟨_, rfl⟩
 rw [← Z0] at H
 have t1 := congrArg List.length Z0
 rw [List.length_append] at t1
 refine uP 1 ?_
 refine uW 4 9 (msgV m ma0 mk0 ma1 mk1 ma2 mk2 ma3 mk3 ma4 mk4).toArray H 2 rfl ?_
 intro _ H
 refine uF 0 ?_
 refine uR 1 [.c [11, 0], .c [12]] ?_
 refine qG (sq 0 6) ?_
 refine qP 2 (sq 2 6) [(0, .P bp 0), (3, .P T 0), (4, .P b3 0), (59, .P bp 0), (60, .P T 10)] ?_
 refine uV 78 10 (H.cells 2 rfl) ?_
 refine RW.callS (d := some 62) (r := (sq 4 6)) (g := 79) (args := #[.P bp 0, .slice ma0 m.entries.length mk0]) (by as_aux_lemma => kernel_rfl) (pentries_spec (by omega) ((H.lend (M1 := [(bp, .cells #[.slice z0 M.length A0, .I 0, .bool true, .bool false] 136 (0, 0))]) (W1 := [⟨Sb, 5, .slice z0 M.length A0, M⟩])).pick [] rfl) (by first | omega | (simp only [List.length_append, List.length_nil]; omega))) ?_
 rintro _ _ ⟨B0, C0, rfl, H'⟩
 have H := H.back (M1 := [(bp, .cells #[.slice z0 M.length A0, .I 0, .bool true, .bool false] 136 (0, 0))]) (W1 := [⟨Sb, 5, .slice z0 M.length A0, M⟩]) H'
 have H : Hp w S O [(bp, .cells #[.slice B0 (M ++ num m.entries.length).length C0, .I 0, .bool true, .bool false] 136 (0, 0)), _, _] [⟨Sb, 5, .slice B0 (M ++ num m.entries.length).length C0, (M ++ num m.entries.length)⟩] [_, _, _] _ := H
 obtain ⟨N, a1⟩ : ∃ z, z = (M ++ num m.entries.length) := ⟨_, rfl⟩
 rw [← a1] at H
 have u1 := congrArg List.length a1
 rw [List.length_append] at u1
 refine uP 1 ?_
 refine uW 78 10 ((msgV m none 0 ma1 mk1 ma2 mk2 ma3 mk3 ma4 mk4).set 10 (.slice none 0 0)).toArray H 2 rfl ?_
 intro _ H
 refine uF 0 ?_
 refine uR 1 [.c [12, 0], .c [13]] ?_
 refine qG (sq 0 6) ?_
 refine uP 2 ?_
 refine uV 80 11 (H.cells 2 rfl) ?_
 refine uKS (pconf_spec (C := m.conf) ((H.lend (M1 := [(bp, .cells #[.slice B0 N.length C0, .I 0, .bool true, .bool false] 136 (0, 0))]) (W1 := [⟨Sb, 5, .slice B0 N.length C0, N⟩])).pick [0, 1] rfl) (by first | omega | (simp only [List.length_append, List.length_nil]; omega))) ?_
 rintro _ _ ⟨D0, E0, ⟨o, q, t, u, rfl⟩, H'⟩
 have H := H.back (M1 := [(bp, .cells #[.slice B0 N.length C0, .I 0, .bool true, .bool false] 136 (0, 0))]) (W1 := [⟨Sb, 5, .slice B0 N.length C0, N⟩]) H'
 have H : Hp w S O [(bp, .cells #[.slice D0 (N ++ confE m.conf).length E0, .I 0, .bool true, .bool false] 136 (0, 0)), _, _] [⟨Sb, 5, .slice D0 (N ++ confE m.conf).length E0, (N ++ confE m.conf)⟩] [_, _, _] _ := H
 obtain ⟨Q, b1⟩ : ∃ z, z = (N ++ confE m.conf) := ⟨_, rfl⟩
 rw [← b1] at H
 have w1 := congrArg List.length b1
 rw [List.length_append] at w1
 refine uP 1 ?_
 refine uW 80 11 ((msgV m none 0 o q t u ma3 mk3 ma4 mk4).set 10 (.slice none 0 0)).toArray H 2 rfl ?_
 intro _ H
 refine uF 0 ?_
 refine uR 1 [.c [13, 0], .c [14]] ?_
 have H := H.pick [2] rfl
 refine qG (sq 0 6) ?_
 refine uP 2 ?_
 refine uV 84 13 (H.cells 2 rfl) ?_
 refine uKS (phdr_spec (D := m.head) (by assumption) ((H.lend (M1 := [(bp, .cells #[.slice D0 Q.length E0, .I 0, .bool true, .bool false] 136 (0, 0))]) (W1 := [⟨Sb, 5, .slice D0 Q.length E0, Q⟩])).pick [] rfl) (by first | omega | (simp only [List.length_append, List.length_nil]; omega))) ?_
 rintro _ _ ⟨F0, G0, rfl, H'⟩
 have H := H.back (M1 := [(bp, .cells #[.slice D0 Q.length E0, .I 0, .bool true, .bool false] 136 (0, 0))]) (W1 := [⟨Sb, 5, .slice D0 Q.length E0, Q⟩]) H'
 have H : Hp w S O [(bp, .cells #[.slice F0 (Q ++ hdrE m.head).length G0, .I 0, .bool true, .bool false] 136 (0, 0)), _, _] [⟨Sb, 5, .slice F0 (Q ++ hdrE m.head).length G0, (Q ++ hdrE m.head)⟩] [_] _ := H
 obtain ⟨R, c1⟩ : ∃ z, z = (Q ++ hdrE m.head) := ⟨_, rfl⟩
 rw [← c1] at H
 have x1 := congrArg List.length c1
 rw [List.length_append] at x1
 refine uP 1 ?_
 refine uW 84 13 ((msgV m none 0 o q t u ma3 mk3 ma4 mk4).set 10 (.slice none 0 0)).toArray H 2 rfl ?_
 intro _ H
 refine uF 0 ?_
 refine qR 1 [.c [14, 0], .c [15]] [(0, .P bp 0), (3, .P T 0), (4, .P b3 0)] ?_
 refine qG (sq 0 6) ?_
 refine uP 2 ?_
 refine uV 62 20 (H.cells 2 rfl) ?_
 refine uKS (bytes_spec (ys := m.data) ((H.lend (M1 := [(bp, .cells #[.slice F0 R.length G0, .I 0, .bool true, .bool false] 136 (0, 0))]) (W1 := [⟨Sb, 5, .slice F0 R.length G0, R⟩])).pick [0] rfl) (by first | omega | (simp only [List.length_append, List.length_nil]; omega))) ?_
 rintro _ _ ⟨U, V, rfl, H'⟩
 have H := H.back (M1 := [(bp, .cells #[.slice F0 R.length G0, .I 0, .bool true, .bool false] 136 (0, 0))]) (W1 := [⟨Sb, 5, .slice F0 R.length G0, R⟩]) H'
 have H : Hp w S O [(bp, .cells #[.slice U (R ++ bytesE m.data).length V, .I 0, .bool true, .bool false] 136 (0, 0)), _, _] [⟨Sb, 5, .slice U (R ++ bytesE m.data).length V, (R ++ bytesE m.data)⟩] [_] _ := H
 obtain ⟨e, I0⟩ : ∃ z, z = (R ++ bytesE m.data) := ⟨_, rfl⟩
 rw [← I0] at H
 have d1 := congrArg List.length I0
 rw [List.length_append] at d1
 refine uP 1 ?_
 refine uW 62 20 ((msgV m none 0 o q t u ma3 mk3 ma4 mk4).set 10 (.slice none 0 0)).toArray H 2 rfl ?_
 intro _ H
 refine uF 0 ?_
 refine uR 1 [.c [15, 0], .c [16]] ?_
 refine qG (sq 0 6) ?_
 refine uP 2 ?_
 refine uV 22 21 (H.cells 2 rfl) ?_
 refine uKS (u64_spec (x := m.client) (by omega) ((H.lend (M1 := [(bp, .cells #[.slice U e.length V, .I 0, .bool true, .bool false] 136 (0, 0))]) (W1 := [⟨Sb, 5, .slice U e.length V, e⟩])).pick [] rfl) (by first | omega | (simp only [List.length_append, List.length_nil]; omega))) ?_
 rintro _ _ ⟨W, X, rfl, H'⟩
 have H := H.back (M1 := [(bp, .cells #[.slice U e.length V, .I 0, .bool true, .bool false] 136 (0, 0))]) (W1 := [⟨Sb, 5, .slice U e.length V, e⟩]) H'
 have H : Hp w S O [(bp, .cells #[.slice W (e ++ num m.client.toNat).length X, .I 0, .bool true, .bool false] 136 (0, 0)), _, _] [⟨Sb, 5, .slice W (e ++ num m.client.toNat).length X, (e ++ num m.client.toNat)⟩] [_] _ := H
 obtain ⟨f, J0⟩ : ∃ z, z = (e ++ num m.client.toNat) := ⟨_, rfl⟩
 rw [← J0] at H
 have e1 := congrArg List.length J0
 rw [List.length_append] at e1
 refine uP 1 ?_
 refine uW 22 21 ((msgV m none 0 o q t u ma3 mk3 ma4 mk4).set 10 (.slice none 0 0)).toArray H 2 rfl ?_
 intro _ H
 refine uF 0 ?_
 refine uR 1 [.c [16, 0], .c [17]] ?_
 refine qG (sq 0 6) ?_
 refine uP 2 ?_
 refine uV 22 22 (H.cells 2 rfl) ?_
 refine uKS (u64_spec (x := m.seq) (by omega) ((H.lend (M1 := [(bp, .cells #[.slice W f.length X, .I 0, .bool true, .bool false] 136 (0, 0))]) (W1 := [⟨Sb, 5, .slice W f.length X, f⟩])).pick [] rfl) (by first | omega | (simp only [List.length_append, List.length_nil]; omega))) ?_
 rintro _ _ ⟨Y, Z, rfl, H'⟩
 have H := H.back (M1 := [(bp, .cells #[.slice W f.length X, .I 0, .bool true, .bool false] 136 (0, 0))]) (W1 := [⟨Sb, 5, .slice W f.length X, f⟩]) H'
 have H : Hp w S O [(bp, .cells #[.slice Y (f ++ num m.seq.toNat).length Z, .I 0, .bool true, .bool false] 136 (0, 0)), _, _] [⟨Sb, 5, .slice Y (f ++ num m.seq.toNat).length Z, (f ++ num m.seq.toNat)⟩] [_] _ := H
 obtain ⟨h, K0⟩ : ∃ z, z = (f ++ num m.seq.toNat) := ⟨_, rfl⟩
 rw [← K0] at H
 have f1 := congrArg List.length K0
 rw [List.length_append] at f1
 refine uP 1 ?_
 refine uW 22 22 ((msgV m none 0 o q t u ma3 mk3 ma4 mk4).set 10 (.slice none 0 0)).toArray H 2 rfl ?_
 intro _ H
 refine qF 0 [(0, .P bp 0), (3, .P T 0), (4, .P b3 0)] ?_
 refine uR 1 [.c [17, 0], .c [18]] ?_
 refine qG (sq 0 6) ?_
 refine uP 2 ?_
 refine uV 85 23 (H.cells 2 rfl) ?_
 refine uKS (int_spec (x := m.op) (by omega) ((H.lend (M1 := [(bp, .cells #[.slice Y h.length Z, .I 0, .bool true, .bool false] 136 (0, 0))]) (W1 := [⟨Sb, 5, .slice Y h.length Z, h⟩])).pick [] rfl) (by first | omega | (simp only [List.length_append, List.length_nil]; omega))) ?_
 rintro _ _ ⟨a0, b0, rfl, H'⟩
 have H := H.back (M1 := [(bp, .cells #[.slice Y h.length Z, .I 0, .bool true, .bool false] 136 (0, 0))]) (W1 := [⟨Sb, 5, .slice Y h.length Z, h⟩]) H'
 have H : Hp w S O [(bp, .cells #[.slice a0 (h ++ intE m.op).length b0, .I 0, .bool true, .bool false] 136 (0, 0)), _, _] [⟨Sb, 5, .slice a0 (h ++ intE m.op).length b0, (h ++ intE m.op)⟩] [_] _ := H
 obtain ⟨i, L0⟩ : ∃ z, z = (h ++ intE m.op) := ⟨_, rfl⟩
 rw [← L0] at H
 have g1 := congrArg List.length L0
 rw [List.length_append] at g1
 refine uP 1 ?_
 refine uW 85 23 ((msgV m none 0 o q t u ma3 mk3 ma4 mk4).set 10 (.slice none 0 0)).toArray H 2 rfl ?_
 intro _ H
 refine uF 0 ?_
 refine uR 1 [.c [18, 0], .c [19]] ?_
 refine qG (sq 0 6) ?_
 refine uP 2 ?_
 refine uV 9 24 (H.cells 2 rfl) ?_
 refine uKS (text_spec (s := m.key) hkey ((H.lend (M1 := [(bp, .cells #[.slice a0 i.length b0, .I 0, .bool true, .bool false] 136 (0, 0))]) (W1 := [⟨Sb, 5, .slice a0 i.length b0, i⟩])).pick [] rfl) (by first | omega | (simp only [List.length_append, List.length_nil]; omega))) ?_
 rintro _ _ ⟨c0, d0, ⟨e0, rfl⟩, H'⟩
 have H := H.back (M1 := [(bp, .cells #[.slice a0 i.length b0, .I 0, .bool true, .bool false] 136 (0, 0))]) (W1 := [⟨Sb, 5, .slice a0 i.length b0, i⟩]) H'
 have H : Hp w S O [(bp, .cells #[.slice c0 (i ++ textE m.key).length d0, .I 0, .bool true, .bool false] 136 (0, 0)), _, _] [⟨Sb, 5, .slice c0 (i ++ textE m.key).length d0, (i ++ textE m.key)⟩] [_] _ := H
 obtain ⟨j, M0⟩ : ∃ z, z = (i ++ textE m.key) := ⟨_, rfl⟩
 rw [← M0] at H
 have h1 := congrArg List.length M0
 rw [List.length_append] at h1
 refine uP 1 ?_
 refine uW 9 24 (((msgV m none 0 o q t u ma3 mk3 ma4 mk4).set 10 (.slice none 0 0)).set 24 (.string e0)).toArray H 2 rfl ?_
 intro _ H
 refine uF 0 ?_
 refine uR 1 [.c [19, 0], .c [20]] ?_
 refine qG (sq 0 6) ?_
 refine uP 2 ?_
 refine uV 86 25 (H.cells 2 rfl) ?_
 refine uKS (int_spec (x := m.code) (by omega) ((H.lend (M1 := [(bp, .cells #[.slice c0 j.length d0, .I 0, .bool true, .bool false] 136 (0, 0))]) (W1 := [⟨Sb, 5, .slice c0 j.length d0, j⟩])).pick [] rfl) (by first | omega | (simp only [List.length_append, List.length_nil]; omega))) ?_
 rintro _ _ ⟨f0, g0, rfl, H'⟩
 have H := H.back (M1 := [(bp, .cells #[.slice c0 j.length d0, .I 0, .bool true, .bool false] 136 (0, 0))]) (W1 := [⟨Sb, 5, .slice c0 j.length d0, j⟩]) H'
 have H : Hp w S O [(bp, .cells #[.slice f0 (j ++ intE m.code).length g0, .I 0, .bool true, .bool false] 136 (0, 0)), _, _] [⟨Sb, 5, .slice f0 (j ++ intE m.code).length g0, (j ++ intE m.code)⟩] [_] _ := H
 obtain ⟨n, N0⟩ : ∃ z, z = (j ++ intE m.code) := ⟨_, rfl⟩
 rw [← N0] at H
 have i1 := congrArg List.length N0
 rw [List.length_append] at i1
 refine qP 1 (sq 5 6) [(0, .P bp 0), (3, .P T 0), (4, .P b3 0), (102, .I m.code), (103, .P T 25)] ?_
 refine uW 86 25 (((msgV m none 0 o q t u ma3 mk3 ma4 mk4).set 10 (.slice none 0 0)).set 24 (.string e0)).toArray H 2 rfl ?_
 intro _ H
 refine uF 0 ?_
 refine uR 1 [.c [20, 0], .c [21]] ?_
 refine qG (sq 0 6) ?_
 refine uP 2 ?_
 refine uV 87 26 (H.cells 2 rfl) ?_
 refine uP 1 ?_
 refine uKS (len_spec (k := m.names.length) (by omega) ((H.lend (M1 := [(bp, .cells #[.slice f0 n.length g0, .I 0, .bool true, .bool false] 136 (0, 0))]) (W1 := [⟨Sb, 5, .slice f0 n.length g0, n⟩])).pick [] rfl) (by first | omega | (simp only [List.length_append, List.length_nil]; omega))) ?_
 rintro _ _ ⟨h0, i0, rfl, H'⟩
 have H := H.back (M1 := [(bp, .cells #[.slice f0 n.length g0, .I 0, .bool true, .bool false] 136 (0, 0))]) (W1 := [⟨Sb, 5, .slice f0 n.length g0, n⟩]) H'
 have H : Hp w S O [(bp, .cells #[.slice h0 (n ++ num m.names.length).length i0, .I 0, .bool true, .bool false] 136 (0, 0)), _, _] [⟨Sb, 5, .slice h0 (n ++ num m.names.length).length i0, (n ++ num m.names.length)⟩] [_] _ := H
 obtain ⟨O0, P0⟩ : ∃ z, z = (n ++ num m.names.length) := ⟨_, rfl⟩
 rw [← P0] at H
 have j1 := congrArg List.length P0
 rw [List.length_append] at j1
 refine uF 1 ?_
 refine uR 6 [.c [22, 0, 1, 0], .b 0, .c [23]] ?_
 refine uL (α := Unit) (g := 60) (p := [22, 0, 1, 0, 0]) (fun _ => [(0, .P bp 0), (3, .P T 0), (4, .P b3 0), (5, .I ((m.names.length : Nat) : Int)), (6, .slice none 0 0), (7, .I 0)]) (fun _ w' => Hp w S O [(bp, .cells #[.slice h0 O0.length i0, .I 0, .bool true, .bool false] 136 (0, 0)), (b3, .cells (msgZ).toArray 89 (0, 0)), (T, .cells (((msgV m none 0 o q t u ma3 mk3 ma4 mk4).set 10 (.slice none 0 0)).set 24 (.string e0)).toArray 89 (0, 0))] [⟨Sb, 5, .slice h0 O0.length i0, O0⟩] [Rp SB [.slice ma3 m.data.length mk3] m.data] w' ∧ True) (fun _ => 0) (()) ⟨H, trivial⟩ ?_
 rintro _ _ ⟨H, _⟩ _
 refine uR 2 [.c [22, 0, 1, 0, 0, 0, 0], .c [22, 0, 1, 0, 0, 0, 1], .c [22, 0, 1, 0, 0, 1], .l [22, 0, 1, 0, 0], .b 0, .c [23]] ?_
 refine qG (sq 0 10) ?_
 refine uP 4 ?_
 refine uD 112 ((0 : Int) < ((m.names.length : Nat) : Int)) (fun y1 => ?_) (fun y1 => ?_)
 ·
  omega
 ·
  refine uF 6 ?_
  refine uR 3 [.c [23, 0], .c [24]] ?_
  refine qG (sq 0 3) ?_
  refine uP 2 ?_
  refine uW 87 26 ((((msgV m none 0 o q t u ma3 mk3 none 0).set 10 (.slice none 0 0)).set 24 (.string e0)).set 26 (.slice none 0 0)).toArray H 2 rfl ?_
  intro _ H
  refine uF 0 ?_
  refine uR 1 [.c [24, 0], .c [25]] ?_
  refine qG (sq 0 2) ?_
  refine uV 89 0 (H.cells 2 rfl) ?_
  refine uW 89 0 ((((msgV m none 0 o q t u ma3 mk3 none 0).set 10 (.slice none 0 0)).set 24 (.string e0)).set 26 (.slice none 0 0)).toArray H 1 rfl ?_
  intro _ H
  refine uF 0 ?_
  refine qRB (.agg ((((msgV m none 0 o q t u ma3 mk3 none 0).set 10 (.slice none 0 0)).set 24 (.string e0)).set 26 (.slice none 0 0)).toArray) Tryz.func60 (v1 (.cell 4 89) (vC (H.cells 1 rfl))) ?_
  have hcf : O0 = xs ++ msgE m := by simp [msgE, Q0, R0, S0, T0, U0, V0, W0, X0, Y0, Z0, a1, b1, c1, I0, J0, K0, L0, M0, N0, P0]
  rw [hcf] at H
  have H := H.drop (M' := [(bp, .cells #[.slice h0 (xs ++ msgE m).length i0, .I 0, .bool true, .bool false] 136 (0, 0))]) (W' := [⟨Sb, 5, .slice h0 (xs ++ msgE m).length i0, xs ++ msgE m⟩]) (by repeat (first | exact List.Sublist.refl _ | apply List.Sublist.cons_cons | apply List.Sublist.cons)) (by repeat (first | exact List.Sublist.refl _ | apply List.Sublist.cons_cons | apply List.Sublist.cons))
  exact ⟨_, rfl, _, _, H.pick [] rfl⟩
theorem written_spec {S : Nat → Prop} {w : World} {bp c : Nat} {a : Option Addr} {n : Nat} (hF : (Fc bp 0 [.slice a n c, .I 0, .bool true, .bool false]).p S w) :
 Calls Tryz.prog 61 #[.P bp 0] w (Ret fun v w' => Ext w w' ∧ v = .slice a n c) := by
 refine uS1 Tryz.func61 ?_
 have H := Hp.startF (w := w) (S := S) (G := [Fc bp 0 [.slice a n c, .I 0, .bool true, .bool false]]) (.cons hF .nil)
 refine uR 3 [.c [1, 0], .c [2]] ?_
 refine qG (sq 0 5) ?_
 refine uP 3 ?_
 refine uV 62 0 (H.fc 0 rfl) ?_
 refine uF 1 ?_
 refine qT (.slice a n c) Tryz.func61 ?_
 exact ⟨_, rfl, H.done, rfl⟩
theorem put_spec {S : Nat → Prop} {w : World} {m : Msg} {ma0 ma1 ma2 ma3 ma4 : Option Addr} {mk0 mk1 mk2 mk3 mk4 : Nat} (hm : MsgOk m) (h0 : (Shape.slice (Shape.int .i64)).rep S w [.slice ma1 m.conf.voters.length mk1] m.conf.voters) (h1 : (Shape.slice (Shape.int .i64)).rep S w [.slice ma2 m.conf.learners.length mk2] m.conf.learners) (h2 : SB.rep S w [.slice ma3 m.data.length mk3] m.data) :
 Calls Tryz.prog 40 #[.agg (msgV m ma0 mk0 ma1 mk1 ma2 mk2 ma3 mk3 ma4 mk4).toArray] w (Ret fun v w' => Ext w w' ∧ Hp w S [] [] [⟨Sb, 5, v, msgE m⟩] [] w') := by
 refine uS1 Tryz.func40 ?_
 have H := Hp.startF (.rp h0 (.rp h1 (.rp h2 .nil)))
 refine uR 1 [.c [0], .c [1]] ?_
 refine qG (sq 0 2) ?_
 refine uC ((msgV m ma0 mk0 ma1 mk1 ma2 mk2 ma3 mk3 ma4 mk4).toArray) 89 H ?_
 intro j _ H
 refine uF 1 ?_
 refine uR 1 [.c [1, 0], .c [2]] ?_
 refine qG (sq 0 2) ?_
 have H := H.addRp SB [.slice none 0 0] [] Shape.slice_nil
 refine uK (writer_spec (ys := ([] : List (BitVec 8))) (H.rp 0 rfl) (by first | omega | simp)) ?_
 rintro _ _ - ⟨f, b, e, rfl, H'⟩
 have H := H.back (M1 := []) (W1 := []) H'
 have H : Hp w S [] [(f, .cells #[.slice b (([] : List (BitVec 8)).length) e, .I 0, .bool true, .bool false] 136 (0, 0)), (j, .cells (msgV m ma0 mk0 ma1 mk1 ma2 mk2 ma3 mk3 ma4 mk4).toArray 89 (0, 0))] [⟨Sb, 5, .slice b (([] : List (BitVec 8)).length) e, ([] : List (BitVec 8))⟩] [_, _, _, _] _ := H
 refine uF 1 ?_
 refine uR 1 [.c [2, 0], .c [3]] ?_
 refine qG (sq 0 3) ?_
 refine uP 1 ?_
 refine uV 89 0 (H.cells 1 rfl) ?_
 refine RW.callS (d := some 7) (r := (sq 3 3)) (g := 60) (args := #[.P f 0, .agg (msgV m ma0 mk0 ma1 mk1 ma2 mk2 ma3 mk3 ma4 mk4).toArray]) (by as_aux_lemma => kernel_rfl) (fields_spec (m := m) hm ((H.lend (M1 := [(f, .cells #[.slice b (([] : List (BitVec 8)).length) e, .I 0, .bool true, .bool false] 136 (0, 0))]) (W1 := [⟨Sb, 5, .slice b (([] : List (BitVec 8)).length) e, ([] : List (BitVec 8))⟩])).pick [1, 2, 3] rfl) (by simp)) ?_
 rintro _ _ ⟨h, a, H'⟩
 have H := H.back (M1 := [(f, .cells #[.slice b (([] : List (BitVec 8)).length) e, .I 0, .bool true, .bool false] 136 (0, 0))]) (W1 := [⟨Sb, 5, .slice b (([] : List (BitVec 8)).length) e, ([] : List (BitVec 8))⟩]) H'
 have H : Hp w S [] [(f, .cells #[.slice h ((([] : List (BitVec 8)) ++ msgE m).length) a, .I 0, .bool true, .bool false] 136 (0, 0)), _] [⟨Sb, 5, .slice h ((([] : List (BitVec 8)) ++ msgE m).length) a, (([] : List (BitVec 8)) ++ msgE m)⟩] [_, _, _, _] _ := H
 refine uF 0 ?_
 refine uR 1 [.c [3, 0], .c [4]] ?_
 refine qG (sq 0 3) ?_
 refine uP 1 ?_
 refine uK (written_spec (S := fun _ => True) (H.viewM 0 rfl (by simp))) ?_
 rintro _ _ i rfl
 have H := H.ext i
 refine uF 1 ?_
 refine qT (.slice h ((([] : List (BitVec 8)) ++ msgE m).length) a) Tryz.func40 ?_
 have H := H.drop (M' := []) (W' := [⟨Sb, 5, .slice h ((([] : List (BitVec 8)) ++ msgE m).length) a, (([] : List (BitVec 8)) ++ msgE m)⟩]) (List.nil_sublist _) (List.Sublist.refl _)
 exact ⟨_, rfl, H.done, H.pick [] rfl⟩
theorem same_spec {S : Nat → Prop} {w : World} {m : Msg} {ma0 ma1 ma2 ma3 ma4 : Option Addr} {mk0 mk1 mk2 mk3 mk4 : Nat} {nma0 nma1 nma2 nma3 nma4 : Option Addr} {nmk0 nmk1 nmk2 nmk3 nmk4 : Nat} (hm : MsgOk m) (h0 : (Shape.slice (Shape.int .i64)).rep S w [.slice ma1 m.conf.voters.length mk1] m.conf.voters) (h1 : (Shape.slice (Shape.int .i64)).rep S w [.slice ma2 m.conf.learners.length mk2] m.conf.learners) (h2 : SB.rep S w [.slice ma3 m.data.length mk3] m.data) (g0 : (Shape.slice (Shape.int .i64)).rep S w [.slice nma1 m.conf.voters.length nmk1] m.conf.voters) (g1 : (Shape.slice (Shape.int .i64)).rep S w [.slice nma2 m.conf.learners.length nmk2] m.conf.learners) (g2 : SB.rep S w [.slice nma3 m.data.length nmk3] m.data) :
 Calls Tryz.prog 23 #[.agg (msgV m ma0 mk0 ma1 mk1 ma2 mk2 ma3 mk3 ma4 mk4).toArray, .agg (msgV m nma0 nmk0 nma1 nmk1 nma2 nmk2 nma3 nmk3 nma4 nmk4).toArray] w (Ret fun v w' => Ext w w' ∧ v = .bool true) := by
 refine uS1 Tryz.func23 ?_
 have H := Hp.startF (.rp h0 (.rp h1 (.rp h2 (.rp g0 (.rp g1 (.rp g2 .nil))))))
 refine uR 1 [.c [0], .c [1]] ?_
 refine qG (sq 0 3) ?_
 refine uC ((msgV m ma0 mk0 ma1 mk1 ma2 mk2 ma3 mk3 ma4 mk4).toArray) 89 H ?_
 intro i _ H
 refine uC ((msgV m nma0 nmk0 nma1 nmk1 nma2 nmk2 nma3 nmk3 nma4 nmk4).toArray) 89 H ?_
 intro j f H
 refine uF 1 ?_
 refine uR 1 [.c [1, 0], .c [2]] ?_
 refine WK.draw1 8 [(0, .qui), (3, .qui), (1, .chn), (2, .qui), (4, .chn), (5, .qui), (6, .qui), (7, .qui)] [(0, .qui), (3, .qui), (1, .chn), (2, .qui), (4, .chn), (5, .qui), (6, .qui), (7, .qui)] Try_mixed (by as_aux_lemma => kernel_rfl) (by as_aux_lemma => kernel_rfl) (by as_aux_lemma => kernel_rfl) ?_
 have H := H.draw
 generalize ({ f with drawn := f.drawn + 1 } : World) = k at H ⊢
 refine uV 89 0 (H.cells 1 rfl) ?_
 refine uV 89 0 (H.cells 0 rfl) ?_
 refine qK .chn (some 6) [(2, .qui), (4, .chn), (5, .qui), (6, .qui), (7, .qui)] 40 #[.agg (msgV m ma0 mk0 ma1 mk1 ma2 mk2 ma3 mk3 ma4 mk4).toArray] (put_spec (m := m) hm (H.rp 0 rfl) (H.rp 1 rfl) (H.rp 2 rfl)) ?_
 rintro _ _ - H'
 have H := H.back (M1 := []) (W1 := []) H'
 obtain ⟨g, h, rfl, _, _⟩ := H.ownForm 0 rfl
 have H : Hp w S [] [(j, .cells (msgV m nma0 nmk0 nma1 nmk1 nma2 nmk2 nma3 nmk3 nma4 nmk4).toArray 89 (0, 0)), (i, .cells (msgV m ma0 mk0 ma1 mk1 ma2 mk2 ma3 mk3 ma4 mk4).toArray 89 (0, 0))] [⟨Sb, 5, .slice g (msgE m).length h, msgE m⟩] [_, _, _, _, _, _] _ := H
 refine RW.toStr (κ := .qui) (d := some 7) (r := [(4, .chn), (5, .qui), (6, .qui), (7, .qui)]) (Ts := 62) (Td := 9) 5 (a := g) (len := (msgE m).length) (cap := h) (xs := msgE m) (by as_aux_lemma => kernel_rfl) (by as_aux_lemma => kernel_rfl) (H.view 0 rfl) ?_
 refine qK .chn (some 9) (qs [5, 6, 7]) 40 #[.agg (msgV m nma0 nmk0 nma1 nmk1 nma2 nmk2 nma3 nmk3 nma4 nmk4).toArray] (put_spec (m := m) hm (H.rp 3 rfl) (H.rp 4 rfl) (H.rp 5 rfl)) ?_
 rintro _ _ - H'
 have H := H.back (M1 := []) (W1 := []) H'
 obtain ⟨b, e, rfl, _, _⟩ := H.ownForm 0 rfl
 have H : Hp w S [] [_, _] [⟨Sb, 5, .slice b (msgE m).length e, msgE m⟩, _] [_, _, _, _, _, _] _ := H
 refine RW.toStr (κ := .qui) (d := some 10) (r := (qs [6, 7])) (Ts := 62) (Td := 9) 5 (a := b) (len := (msgE m).length) (cap := e) (xs := msgE m) (by as_aux_lemma => kernel_rfl) (by as_aux_lemma => kernel_rfl) (H.view 0 rfl) ?_
 refine uF 2 ?_
 refine qT (.bool ((strOf (msgE m)).toList == (strOf (msgE m)).toList)) Tryz.func23 ?_
 refine ⟨_, rfl, H.done, ?_⟩
 simp
end Go.Proofs.YtppcdmbkgficiaaGreat
