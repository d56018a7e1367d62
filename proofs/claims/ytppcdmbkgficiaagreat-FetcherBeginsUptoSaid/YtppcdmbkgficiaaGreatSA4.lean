import Derived.Test.YtppcdmbkgficiaaGreatSA3
namespace Go.Proofs.YtppcdmbkgficiaaGreat
open Go.BX
def msgE (m : Msg) : List (BitVec 8) := intE m.kind ++ (intE m.frm ++ (intE m.to ++ (num m.term.toNat ++ (num m.index.toNat ++ (num m.logTerm.toNat ++ (num m.commit.toNat ++ (num m.ctx.toNat ++ (flagE m.ok ++ (flagE m.force ++ (num m.entries.length ++ (confE m.conf ++ (hdrE m.head ++ (bytesE m.data ++ (num m.client.toNat ++ (num m.seq.toNat ++ (intE m.op ++ (textE m.key ++ (intE m.code ++ (num m.names.length)))))))))))))))))))
structure MsgOk (m : Msg) : Prop where
 ents : m.entries.length = 0
 nms : m.names.length = 0
 ints : (-9223372036854775808 ≤ m.kind ∧ m.kind ≤ 9223372036854775807) ∧ (-9223372036854775808 ≤ m.frm ∧ m.frm ≤ 9223372036854775807) ∧ (-9223372036854775808 ≤ m.to ∧ m.to ≤ 9223372036854775807) ∧ (0 ≤ m.term ∧ m.term ≤ 18446744073709551615) ∧ (0 ≤ m.index ∧ m.index ≤ 18446744073709551615) ∧ (0 ≤ m.logTerm ∧ m.logTerm ≤ 18446744073709551615) ∧ (0 ≤ m.commit ∧ m.commit ≤ 18446744073709551615) ∧ (0 ≤ m.ctx ∧ m.ctx ≤ 18446744073709551615) ∧ (0 ≤ m.client ∧ m.client ≤ 18446744073709551615) ∧ (0 ≤ m.seq ∧ m.seq ≤ 18446744073709551615) ∧ (-9223372036854775808 ≤ m.op ∧ m.op ≤ 9223372036854775807) ∧ (-9223372036854775808 ≤ m.code ∧ m.code ≤ 9223372036854775807)
 head : HdrOk m.head
 key : m.key.size ≤ 1000000
 data : m.data.length ≤ 1000000
 conf : m.conf.voters.length + m.conf.learners.length ≤ 1000000
theorem fields_spec {S : Nat → Prop} {w : World} {O : List Nat} {bp : Nat} {xs : List (BitVec 8)} {a : Option Addr} {c : Nat} {m : Msg} {ma0 ma1 ma2 ma3 ma4 : Option Addr} {mk0 mk1 mk2 mk3 mk4 : Nat} (hm : MsgOk m) (H0 : Hp w S O [(bp, .cells #[.slice a xs.length c, .I 0, .bool true, .bool false] 136 (0, 0))] [⟨Sb, 5, .slice a xs.length c, xs⟩] [Rp Li [.slice ma1 m.conf.voters.length mk1] m.conf.voters, Rp Li [.slice ma2 m.conf.learners.length mk2] m.conf.learners, Rp SB [.slice ma3 m.data.length mk3] m.data] w) (hby : xs.length ≤ 1000000) :
 Calls Tryz.prog 60 #[.P bp 0, .agg (msgV m ma0 mk0 ma1 mk1 ma2 mk2 ma3 mk3 ma4 mk4).toArray] w (Ret fun v w' => ∃ (a' : Option Addr) (c' : Nat), Hp w S O [(bp, .cells #[.slice a' (xs ++ msgE m).length c', .I 0, .bool true, .bool false] 136 (0, 0))] [⟨Sb, 5, .slice a' (xs ++ msgE m).length c', (xs ++ msgE m)⟩] [] w') := by
 obtain ⟨hm1, hm2, hmi, hmh, hmk, hmd, hmc⟩ := hm
 obtain ⟨hb0, hb1, hb2, hb3, hb4, hb5, hb6, hb7, hb8, hb9, hb10, hb11⟩ := hmi
 have hkey : m.key.size ≤ maxLen := by unfold maxLen; omega
 have ht0 : (intE m.kind).length ≤ 10 := intE_ten (by omega)
 have ht1 : (intE m.frm).length ≤ 10 := intE_ten (by omega)
 have ht2 : (intE m.to).length ≤ 10 := intE_ten (by omega)
 have ht3 : (num m.term.toNat).length ≤ 10 := num_ten (by omega)
 have ht4 : (num m.index.toNat).length ≤ 10 := num_ten (by omega)
 have ht5 : (num m.logTerm.toNat).length ≤ 10 := num_ten (by omega)
 have ht6 : (num m.commit.toNat).length ≤ 10 := num_ten (by omega)
 have ht7 : (num m.ctx.toNat).length ≤ 10 := num_ten (by omega)
 have ht10 : (num m.entries.length).length ≤ 10 := num_ten (by omega)
 have ht14 : (num m.client.toNat).length ≤ 10 := num_ten (by omega)
 have ht15 : (num m.seq.toNat).length ≤ 10 := num_ten (by omega)
 have ht16 : (intE m.op).length ≤ 10 := intE_ten (by omega)
 have ht18 : (intE m.code).length ≤ 10 := intE_ten (by omega)
 have ht19 : (num m.names.length).length ≤ 10 := num_ten (by omega)
 have ht8 := flagE_len m.ok
 have ht9 := flagE_len m.force
 have ht12 := hdrE_len hmh
 have ht13 : (bytesE m.data).length ≤ m.data.length + 10 := by unfold bytesE; rw [List.length_append]; have : (num m.data.length).length ≤ 10 := num_ten (by omega); omega
 have ht17 : (textE m.key).length ≤ m.key.size + 10 := by unfold textE bytesE; rw [List.length_append, bytesOf_len]; have : (num m.key.size).length ≤ 10 := num_ten (by omega); omega
 have ht11 : (confE m.conf).length ≤ 10 * (m.conf.voters.length + m.conf.learners.length + 4) := by
  have q1 := intsE_len (rep_ints (H0.rp 0 rfl))
  have q2 := intsE_len (rep_ints (H0.rp 1 rfl))
  have q3 : (num m.conf.voters.length).length ≤ 10 := num_ten (by omega)
  have q4 : (num m.conf.learners.length).length ≤ 10 := num_ten (by omega)
  unfold confE
  simp only [List.length_append]
  omega
 refine qS (fn := Tryz.f60) (n := 140) (σ := [(0, .P bp 0), (1, .agg (msgV m ma0 mk0 ma1 mk1 ma2 mk2 ma3 mk3 ma4 mk4).toArray)]) Tryz.func60 ?_
 have H := H0
 refine qR 1 [.c [0], .c [1]] [(0, .P bp 0), (1, .agg (msgV m ma0 mk0 ma1 mk1 ma2 mk2 ma3 mk3 ma4 mk4).toArray)] ?_
 refine qG (sq 0 2) ?_
 refine qB .seq 3 (sq 1 2) ((msgV m ma0 mk0 ma1 mk1 ma2 mk2 ma3 mk3 ma4 mk4).toArray) 89 H ?_
 intro b1 w2 H
 refine qB .seq 4 (sq 2 2) ((msgZ).toArray) 89 H ?_
 intro b3 w4 H
 refine qF 0 [(0, .P bp 0), (3, .P b1 0), (4, .P b3 0)] ?_
 refine qR 1 [.c [1, 0], .c [2]] [(0, .P bp 0), (3, .P b1 0), (4, .P b3 0)] ?_
 refine qG (sq 0 6) ?_
 refine qP 2 (sq 2 6) [(0, .P bp 0), (3, .P b1 0), (4, .P b3 0), (9, .P bp 0), (10, .P b1 0)] ?_
 refine qL .seq 11 (sq 3 6) 77 b1 0 0 (.I m.kind) (H.cells 1 rfl) ?_
 have H := H.frontM 2 (M' := [(bp, .cells #[.slice a xs.length c, .I 0, .bool true, .bool false] 136 (0, 0)), (b3, .cells (msgZ).toArray 89 (0, 0)), (b1, .cells (msgV m ma0 mk0 ma1 mk1 ma2 mk2 ma3 mk3 ma4 mk4).toArray 89 (0, 0))]) rfl
 refine RW.callS (d := some 12) (r := (sq 4 6)) (g := 70) (args := #[.P bp 0, .I m.kind]) (by as_aux_lemma => kernel_rfl) (int_spec (x := m.kind) (by omega) ((H.lend (M1 := [(bp, .cells #[.slice a xs.length c, .I 0, .bool true, .bool false] 136 (0, 0))]) (W1 := [⟨Sb, 5, .slice a xs.length c, xs⟩])).pick [] rfl) (by first | omega | (simp only [List.length_append, List.length_nil]; omega))) ?_
 rintro _ w5 ⟨a7, c8, rfl, H'⟩
 have H := H.back (M1 := [(bp, .cells #[.slice a xs.length c, .I 0, .bool true, .bool false] 136 (0, 0))]) (W1 := [⟨Sb, 5, .slice a xs.length c, xs⟩]) H'
 have H : Hp w S O [(bp, .cells #[.slice a7 (xs ++ intE m.kind).length c8, .I 0, .bool true, .bool false] 136 (0, 0)), (b3, .cells (msgZ).toArray 89 (0, 0)), (b1, .cells (msgV m ma0 mk0 ma1 mk1 ma2 mk2 ma3 mk3 ma4 mk4).toArray 89 (0, 0))] [⟨Sb, 5, .slice a7 (xs ++ intE m.kind).length c8, (xs ++ intE m.kind)⟩] [Rp Li [.slice ma1 m.conf.voters.length mk1] m.conf.voters, Rp Li [.slice ma2 m.conf.learners.length mk2] m.conf.learners, Rp SB [.slice ma3 m.data.length mk3] m.data] _ := H
 obtain ⟨z10, hz10⟩ : ∃ z, z = (xs ++ intE m.kind) := ⟨_, rfl⟩
 rw [← hz10] at H
 have hlz10 := congrArg List.length hz10
 rw [List.length_append] at hlz10
 refine qP 1 (sq 5 6) [(0, .P bp 0), (3, .P b1 0), (4, .P b3 0), (12, .I m.kind), (13, .P b1 0)] ?_
 refine qW 77 b1 0 (sq 6 6) (.I m.kind) [(bp, .cells #[.slice a7 z10.length c8, .I 0, .bool true, .bool false] 136 (0, 0)), (b3, .cells (msgZ).toArray 89 (0, 0)), (b1, .cells (msgV m ma0 mk0 ma1 mk1 ma2 mk2 ma3 mk3 ma4 mk4).toArray 89 (0, 0))] H 2 rfl rfl ?_
 intro w11 H
 refine qF 0 [(0, .P bp 0), (3, .P b1 0), (4, .P b3 0)] ?_
 refine qR 1 [.c [2, 0], .c [3]] [(0, .P bp 0), (3, .P b1 0), (4, .P b3 0)] ?_
 refine qG (sq 0 6) ?_
 refine qP 2 (sq 2 6) [(0, .P bp 0), (3, .P b1 0), (4, .P b3 0), (14, .P bp 0), (15, .P b1 1)] ?_
 refine qL .seq 16 (sq 3 6) 3 b1 1 1 (.I m.frm) (H.cells 2 rfl) ?_
 refine RW.callS (d := some 17) (r := (sq 4 6)) (g := 70) (args := #[.P bp 0, .I m.frm]) (by as_aux_lemma => kernel_rfl) (int_spec (x := m.frm) (by omega) ((H.lend (M1 := [(bp, .cells #[.slice a7 z10.length c8, .I 0, .bool true, .bool false] 136 (0, 0))]) (W1 := [⟨Sb, 5, .slice a7 z10.length c8, z10⟩])).pick [] rfl) (by first | omega | (simp only [List.length_append, List.length_nil]; omega))) ?_
 rintro _ w12 ⟨a14, c15, rfl, H'⟩
 have H := H.back (M1 := [(bp, .cells #[.slice a7 z10.length c8, .I 0, .bool true, .bool false] 136 (0, 0))]) (W1 := [⟨Sb, 5, .slice a7 z10.length c8, z10⟩]) H'
 have H : Hp w S O [(bp, .cells #[.slice a14 (z10 ++ intE m.frm).length c15, .I 0, .bool true, .bool false] 136 (0, 0)), (b3, .cells (msgZ).toArray 89 (0, 0)), (b1, .cells (msgV m ma0 mk0 ma1 mk1 ma2 mk2 ma3 mk3 ma4 mk4).toArray 89 (0, 0))] [⟨Sb, 5, .slice a14 (z10 ++ intE m.frm).length c15, (z10 ++ intE m.frm)⟩] [Rp Li [.slice ma1 m.conf.voters.length mk1] m.conf.voters, Rp Li [.slice ma2 m.conf.learners.length mk2] m.conf.learners, Rp SB [.slice ma3 m.data.length mk3] m.data] _ := H
 obtain ⟨z17, hz17⟩ : ∃ z, z = (z10 ++ intE m.frm) := ⟨_, rfl⟩
 rw [← hz17] at H
 have hlz17 := congrArg List.length hz17
 rw [List.length_append] at hlz17
 refine qP 1 (sq 5 6) [(0, .P bp 0), (3, .P b1 0), (4, .P b3 0), (17, .I m.frm), (18, .P b1 1)] ?_
 refine qW 3 b1 1 (sq 6 6) (.I m.frm) [(bp, .cells #[.slice a14 z17.length c15, .I 0, .bool true, .bool false] 136 (0, 0)), (b3, .cells (msgZ).toArray 89 (0, 0)), (b1, .cells (msgV m ma0 mk0 ma1 mk1 ma2 mk2 ma3 mk3 ma4 mk4).toArray 89 (0, 0))] H 2 rfl rfl ?_
 intro w18 H
 refine qF 0 [(0, .P bp 0), (3, .P b1 0), (4, .P b3 0)] ?_
 refine qR 1 [.c [3, 0], .c [4]] [(0, .P bp 0), (3, .P b1 0), (4, .P b3 0)] ?_
 refine qG (sq 0 6) ?_
 refine qP 2 (sq 2 6) [(0, .P bp 0), (3, .P b1 0), (4, .P b3 0), (19, .P bp 0), (20, .P b1 2)] ?_
 refine qL .seq 21 (sq 3 6) 3 b1 2 2 (.I m.to) (H.cells 2 rfl) ?_
 refine RW.callS (d := some 22) (r := (sq 4 6)) (g := 70) (args := #[.P bp 0, .I m.to]) (by as_aux_lemma => kernel_rfl) (int_spec (x := m.to) (by omega) ((H.lend (M1 := [(bp, .cells #[.slice a14 z17.length c15, .I 0, .bool true, .bool false] 136 (0, 0))]) (W1 := [⟨Sb, 5, .slice a14 z17.length c15, z17⟩])).pick [] rfl) (by first | omega | (simp only [List.length_append, List.length_nil]; omega))) ?_
 rintro _ w19 ⟨a21, c22, rfl, H'⟩
 have H := H.back (M1 := [(bp, .cells #[.slice a14 z17.length c15, .I 0, .bool true, .bool false] 136 (0, 0))]) (W1 := [⟨Sb, 5, .slice a14 z17.length c15, z17⟩]) H'
 have H : Hp w S O [(bp, .cells #[.slice a21 (z17 ++ intE m.to).length c22, .I 0, .bool true, .bool false] 136 (0, 0)), (b3, .cells (msgZ).toArray 89 (0, 0)), (b1, .cells (msgV m ma0 mk0 ma1 mk1 ma2 mk2 ma3 mk3 ma4 mk4).toArray 89 (0, 0))] [⟨Sb, 5, .slice a21 (z17 ++ intE m.to).length c22, (z17 ++ intE m.to)⟩] [Rp Li [.slice ma1 m.conf.voters.length mk1] m.conf.voters, Rp Li [.slice ma2 m.conf.learners.length mk2] m.conf.learners, Rp SB [.slice ma3 m.data.length mk3] m.data] _ := H
 obtain ⟨z24, hz24⟩ : ∃ z, z = (z17 ++ intE m.to) := ⟨_, rfl⟩
 rw [← hz24] at H
 have hlz24 := congrArg List.length hz24
 rw [List.length_append] at hlz24
 refine qP 1 (sq 5 6) [(0, .P bp 0), (3, .P b1 0), (4, .P b3 0), (22, .I m.to), (23, .P b1 2)] ?_
 refine qW 3 b1 2 (sq 6 6) (.I m.to) [(bp, .cells #[.slice a21 z24.length c22, .I 0, .bool true, .bool false] 136 (0, 0)), (b3, .cells (msgZ).toArray 89 (0, 0)), (b1, .cells (msgV m ma0 mk0 ma1 mk1 ma2 mk2 ma3 mk3 ma4 mk4).toArray 89 (0, 0))] H 2 rfl rfl ?_
 intro w25 H
 refine qF 0 [(0, .P bp 0), (3, .P b1 0), (4, .P b3 0)] ?_
 refine qR 1 [.c [4, 0], .c [5]] [(0, .P bp 0), (3, .P b1 0), (4, .P b3 0)] ?_
 refine qG (sq 0 6) ?_
 refine qP 2 (sq 2 6) [(0, .P bp 0), (3, .P b1 0), (4, .P b3 0), (24, .P bp 0), (25, .P b1 3)] ?_
 refine qL .seq 26 (sq 3 6) 22 b1 3 3 (.int .u64 m.term) (H.cells 2 rfl) ?_
 refine RW.callS (d := some 27) (r := (sq 4 6)) (g := 77) (args := #[.P bp 0, .int .u64 m.term]) (by as_aux_lemma => kernel_rfl) (u64_spec (x := m.term) (by omega) ((H.lend (M1 := [(bp, .cells #[.slice a21 z24.length c22, .I 0, .bool true, .bool false] 136 (0, 0))]) (W1 := [⟨Sb, 5, .slice a21 z24.length c22, z24⟩])).pick [] rfl) (by first | omega | (simp only [List.length_append, List.length_nil]; omega))) ?_
 rintro _ w26 ⟨a28, c29, rfl, H'⟩
 have H := H.back (M1 := [(bp, .cells #[.slice a21 z24.length c22, .I 0, .bool true, .bool false] 136 (0, 0))]) (W1 := [⟨Sb, 5, .slice a21 z24.length c22, z24⟩]) H'
 have H : Hp w S O [(bp, .cells #[.slice a28 (z24 ++ num m.term.toNat).length c29, .I 0, .bool true, .bool false] 136 (0, 0)), (b3, .cells (msgZ).toArray 89 (0, 0)), (b1, .cells (msgV m ma0 mk0 ma1 mk1 ma2 mk2 ma3 mk3 ma4 mk4).toArray 89 (0, 0))] [⟨Sb, 5, .slice a28 (z24 ++ num m.term.toNat).length c29, (z24 ++ num m.term.toNat)⟩] [Rp Li [.slice ma1 m.conf.voters.length mk1] m.conf.voters, Rp Li [.slice ma2 m.conf.learners.length mk2] m.conf.learners, Rp SB [.slice ma3 m.data.length mk3] m.data] _ := H
 obtain ⟨z31, hz31⟩ : ∃ z, z = (z24 ++ num m.term.toNat) := ⟨_, rfl⟩
 rw [← hz31] at H
 have hlz31 := congrArg List.length hz31
 rw [List.length_append] at hlz31
 refine qP 1 (sq 5 6) [(0, .P bp 0), (3, .P b1 0), (4, .P b3 0), (27, .int .u64 m.term), (28, .P b1 3)] ?_
 refine qW 22 b1 3 (sq 6 6) (.int .u64 m.term) [(bp, .cells #[.slice a28 z31.length c29, .I 0, .bool true, .bool false] 136 (0, 0)), (b3, .cells (msgZ).toArray 89 (0, 0)), (b1, .cells (msgV m ma0 mk0 ma1 mk1 ma2 mk2 ma3 mk3 ma4 mk4).toArray 89 (0, 0))] H 2 rfl rfl ?_
 intro w32 H
 refine qF 0 [(0, .P bp 0), (3, .P b1 0), (4, .P b3 0)] ?_
 refine qR 1 [.c [5, 0], .c [6]] [(0, .P bp 0), (3, .P b1 0), (4, .P b3 0)] ?_
 refine qG (sq 0 6) ?_
 refine qP 2 (sq 2 6) [(0, .P bp 0), (3, .P b1 0), (4, .P b3 0), (29, .P bp 0), (30, .P b1 4)] ?_
 refine qL .seq 31 (sq 3 6) 22 b1 4 4 (.int .u64 m.index) (H.cells 2 rfl) ?_
 refine RW.callS (d := some 32) (r := (sq 4 6)) (g := 77) (args := #[.P bp 0, .int .u64 m.index]) (by as_aux_lemma => kernel_rfl) (u64_spec (x := m.index) (by omega) ((H.lend (M1 := [(bp, .cells #[.slice a28 z31.length c29, .I 0, .bool true, .bool false] 136 (0, 0))]) (W1 := [⟨Sb, 5, .slice a28 z31.length c29, z31⟩])).pick [] rfl) (by first | omega | (simp only [List.length_append, List.length_nil]; omega))) ?_
 rintro _ w33 ⟨a35, c36, rfl, H'⟩
 have H := H.back (M1 := [(bp, .cells #[.slice a28 z31.length c29, .I 0, .bool true, .bool false] 136 (0, 0))]) (W1 := [⟨Sb, 5, .slice a28 z31.length c29, z31⟩]) H'
 have H : Hp w S O [(bp, .cells #[.slice a35 (z31 ++ num m.index.toNat).length c36, .I 0, .bool true, .bool false] 136 (0, 0)), (b3, .cells (msgZ).toArray 89 (0, 0)), (b1, .cells (msgV m ma0 mk0 ma1 mk1 ma2 mk2 ma3 mk3 ma4 mk4).toArray 89 (0, 0))] [⟨Sb, 5, .slice a35 (z31 ++ num m.index.toNat).length c36, (z31 ++ num m.index.toNat)⟩] [Rp Li [.slice ma1 m.conf.voters.length mk1] m.conf.voters, Rp Li [.slice ma2 m.conf.learners.length mk2] m.conf.learners, Rp SB [.slice ma3 m.data.length mk3] m.data] _ := H
 obtain ⟨z38, hz38⟩ : ∃ z, z = (z31 ++ num m.index.toNat) := ⟨_, rfl⟩
 rw [← hz38] at H
 have hlz38 := congrArg List.length hz38
 rw [List.length_append] at hlz38
 refine qP 1 (sq 5 6) [(0, .P bp 0), (3, .P b1 0), (4, .P b3 0), (32, .int .u64 m.index), (33, .P b1 4)] ?_
 refine qW 22 b1 4 (sq 6 6) (.int .u64 m.index) [(bp, .cells #[.slice a35 z38.length c36, .I 0, .bool true, .bool false] 136 (0, 0)), (b3, .cells (msgZ).toArray 89 (0, 0)), (b1, .cells (msgV m ma0 mk0 ma1 mk1 ma2 mk2 ma3 mk3 ma4 mk4).toArray 89 (0, 0))] H 2 rfl rfl ?_
 intro w39 H
 refine qF 0 [(0, .P bp 0), (3, .P b1 0), (4, .P b3 0)] ?_
 refine qR 1 [.c [6, 0], .c [7]] [(0, .P bp 0), (3, .P b1 0), (4, .P b3 0)] ?_
 refine qG (sq 0 6) ?_
 refine qP 2 (sq 2 6) [(0, .P bp 0), (3, .P b1 0), (4, .P b3 0), (34, .P bp 0), (35, .P b1 5)] ?_
 refine qL .seq 36 (sq 3 6) 22 b1 5 5 (.int .u64 m.logTerm) (H.cells 2 rfl) ?_
 refine RW.callS (d := some 37) (r := (sq 4 6)) (g := 77) (args := #[.P bp 0, .int .u64 m.logTerm]) (by as_aux_lemma => kernel_rfl) (u64_spec (x := m.logTerm) (by omega) ((H.lend (M1 := [(bp, .cells #[.slice a35 z38.length c36, .I 0, .bool true, .bool false] 136 (0, 0))]) (W1 := [⟨Sb, 5, .slice a35 z38.length c36, z38⟩])).pick [] rfl) (by first | omega | (simp only [List.length_append, List.length_nil]; omega))) ?_
 rintro _ w40 ⟨a42, c43, rfl, H'⟩
 have H := H.back (M1 := [(bp, .cells #[.slice a35 z38.length c36, .I 0, .bool true, .bool false] 136 (0, 0))]) (W1 := [⟨Sb, 5, .slice a35 z38.length c36, z38⟩]) H'
 have H : Hp w S O [(bp, .cells #[.slice a42 (z38 ++ num m.logTerm.toNat).length c43, .I 0, .bool true, .bool false] 136 (0, 0)), (b3, .cells (msgZ).toArray 89 (0, 0)), (b1, .cells (msgV m ma0 mk0 ma1 mk1 ma2 mk2 ma3 mk3 ma4 mk4).toArray 89 (0, 0))] [⟨Sb, 5, .slice a42 (z38 ++ num m.logTerm.toNat).length c43, (z38 ++ num m.logTerm.toNat)⟩] [Rp Li [.slice ma1 m.conf.voters.length mk1] m.conf.voters, Rp Li [.slice ma2 m.conf.learners.length mk2] m.conf.learners, Rp SB [.slice ma3 m.data.length mk3] m.data] _ := H
 obtain ⟨z45, hz45⟩ : ∃ z, z = (z38 ++ num m.logTerm.toNat) := ⟨_, rfl⟩
 rw [← hz45] at H
 have hlz45 := congrArg List.length hz45
 rw [List.length_append] at hlz45
 refine qP 1 (sq 5 6) [(0, .P bp 0), (3, .P b1 0), (4, .P b3 0), (37, .int .u64 m.logTerm), (38, .P b1 5)] ?_
 refine qW 22 b1 5 (sq 6 6) (.int .u64 m.logTerm) [(bp, .cells #[.slice a42 z45.length c43, .I 0, .bool true, .bool false] 136 (0, 0)), (b3, .cells (msgZ).toArray 89 (0, 0)), (b1, .cells (msgV m ma0 mk0 ma1 mk1 ma2 mk2 ma3 mk3 ma4 mk4).toArray 89 (0, 0))] H 2 rfl rfl ?_
 intro w46 H
 refine qF 0 [(0, .P bp 0), (3, .P b1 0), (4, .P b3 0)] ?_
 refine qR 1 [.c [7, 0], .c [8]] [(0, .P bp 0), (3, .P b1 0), (4, .P b3 0)] ?_
 refine qG (sq 0 6) ?_
 refine qP 2 (sq 2 6) [(0, .P bp 0), (3, .P b1 0), (4, .P b3 0), (39, .P bp 0), (40, .P b1 6)] ?_
 refine qL .seq 41 (sq 3 6) 22 b1 6 6 (.int .u64 m.commit) (H.cells 2 rfl) ?_
 refine RW.callS (d := some 42) (r := (sq 4 6)) (g := 77) (args := #[.P bp 0, .int .u64 m.commit]) (by as_aux_lemma => kernel_rfl) (u64_spec (x := m.commit) (by omega) ((H.lend (M1 := [(bp, .cells #[.slice a42 z45.length c43, .I 0, .bool true, .bool false] 136 (0, 0))]) (W1 := [⟨Sb, 5, .slice a42 z45.length c43, z45⟩])).pick [] rfl) (by first | omega | (simp only [List.length_append, List.length_nil]; omega))) ?_
 rintro _ w47 ⟨a49, c50, rfl, H'⟩
 have H := H.back (M1 := [(bp, .cells #[.slice a42 z45.length c43, .I 0, .bool true, .bool false] 136 (0, 0))]) (W1 := [⟨Sb, 5, .slice a42 z45.length c43, z45⟩]) H'
 have H : Hp w S O [(bp, .cells #[.slice a49 (z45 ++ num m.commit.toNat).length c50, .I 0, .bool true, .bool false] 136 (0, 0)), (b3, .cells (msgZ).toArray 89 (0, 0)), (b1, .cells (msgV m ma0 mk0 ma1 mk1 ma2 mk2 ma3 mk3 ma4 mk4).toArray 89 (0, 0))] [⟨Sb, 5, .slice a49 (z45 ++ num m.commit.toNat).length c50, (z45 ++ num m.commit.toNat)⟩] [Rp Li [.slice ma1 m.conf.voters.length mk1] m.conf.voters, Rp Li [.slice ma2 m.conf.learners.length mk2] m.conf.learners, Rp SB [.slice ma3 m.data.length mk3] m.data] _ := H
 obtain ⟨z52, hz52⟩ : ∃ z, z = (z45 ++ num m.commit.toNat) := ⟨_, rfl⟩
 rw [← hz52] at H
 have hlz52 := congrArg List.length hz52
 rw [List.length_append] at hlz52
 refine qP 1 (sq 5 6) [(0, .P bp 0), (3, .P b1 0), (4, .P b3 0), (42, .int .u64 m.commit), (43, .P b1 6)] ?_
 refine qW 22 b1 6 (sq 6 6) (.int .u64 m.commit) [(bp, .cells #[.slice a49 z52.length c50, .I 0, .bool true, .bool false] 136 (0, 0)), (b3, .cells (msgZ).toArray 89 (0, 0)), (b1, .cells (msgV m ma0 mk0 ma1 mk1 ma2 mk2 ma3 mk3 ma4 mk4).toArray 89 (0, 0))] H 2 rfl rfl ?_
 intro w53 H
 refine qF 0 [(0, .P bp 0), (3, .P b1 0), (4, .P b3 0)] ?_
 refine qR 1 [.c [8, 0], .c [9]] [(0, .P bp 0), (3, .P b1 0), (4, .P b3 0)] ?_
 refine qG (sq 0 6) ?_
 refine qP 2 (sq 2 6) [(0, .P bp 0), (3, .P b1 0), (4, .P b3 0), (44, .P bp 0), (45, .P b1 7)] ?_
 refine qL .seq 46 (sq 3 6) 22 b1 7 7 (.int .u64 m.ctx) (H.cells 2 rfl) ?_
 refine RW.callS (d := some 47) (r := (sq 4 6)) (g := 77) (args := #[.P bp 0, .int .u64 m.ctx]) (by as_aux_lemma => kernel_rfl) (u64_spec (x := m.ctx) (by omega) ((H.lend (M1 := [(bp, .cells #[.slice a49 z52.length c50, .I 0, .bool true, .bool false] 136 (0, 0))]) (W1 := [⟨Sb, 5, .slice a49 z52.length c50, z52⟩])).pick [] rfl) (by first | omega | (simp only [List.length_append, List.length_nil]; omega))) ?_
 rintro _ w54 ⟨a56, c57, rfl, H'⟩
 have H := H.back (M1 := [(bp, .cells #[.slice a49 z52.length c50, .I 0, .bool true, .bool false] 136 (0, 0))]) (W1 := [⟨Sb, 5, .slice a49 z52.length c50, z52⟩]) H'
 have H : Hp w S O [(bp, .cells #[.slice a56 (z52 ++ num m.ctx.toNat).length c57, .I 0, .bool true, .bool false] 136 (0, 0)), (b3, .cells (msgZ).toArray 89 (0, 0)), (b1, .cells (msgV m ma0 mk0 ma1 mk1 ma2 mk2 ma3 mk3 ma4 mk4).toArray 89 (0, 0))] [⟨Sb, 5, .slice a56 (z52 ++ num m.ctx.toNat).length c57, (z52 ++ num m.ctx.toNat)⟩] [Rp Li [.slice ma1 m.conf.voters.length mk1] m.conf.voters, Rp Li [.slice ma2 m.conf.learners.length mk2] m.conf.learners, Rp SB [.slice ma3 m.data.length mk3] m.data] _ := H
 obtain ⟨z59, hz59⟩ : ∃ z, z = (z52 ++ num m.ctx.toNat) := ⟨_, rfl⟩
 rw [← hz59] at H
 have hlz59 := congrArg List.length hz59
 rw [List.length_append] at hlz59
 refine qP 1 (sq 5 6) [(0, .P bp 0), (3, .P b1 0), (4, .P b3 0), (47, .int .u64 m.ctx), (48, .P b1 7)] ?_
 refine qW 22 b1 7 (sq 6 6) (.int .u64 m.ctx) [(bp, .cells #[.slice a56 z59.length c57, .I 0, .bool true, .bool false] 136 (0, 0)), (b3, .cells (msgZ).toArray 89 (0, 0)), (b1, .cells (msgV m ma0 mk0 ma1 mk1 ma2 mk2 ma3 mk3 ma4 mk4).toArray 89 (0, 0))] H 2 rfl rfl ?_
 intro w60 H
 refine qF 0 [(0, .P bp 0), (3, .P b1 0), (4, .P b3 0)] ?_
 refine qR 1 [.c [9, 0], .c [10]] [(0, .P bp 0), (3, .P b1 0), (4, .P b3 0)] ?_
 refine qG (sq 0 6) ?_
 refine qP 2 (sq 2 6) [(0, .P bp 0), (3, .P b1 0), (4, .P b3 0), (49, .P bp 0), (50, .P b1 8)] ?_
 refine qL .seq 51 (sq 3 6) 4 b1 8 8 (.bool m.ok) (H.cells 2 rfl) ?_
 refine RW.callS (d := some 52) (r := (sq 4 6)) (g := 78) (args := #[.P bp 0, .bool m.ok]) (by as_aux_lemma => kernel_rfl) (flag_spec (b := m.ok) ((H.lend (M1 := [(bp, .cells #[.slice a56 z59.length c57, .I 0, .bool true, .bool false] 136 (0, 0))]) (W1 := [⟨Sb, 5, .slice a56 z59.length c57, z59⟩])).pick [] rfl) (by first | omega | (simp only [List.length_append, List.length_nil]; omega))) ?_
 rintro _ w61 ⟨a63, c64, rfl, H'⟩
 have H := H.back (M1 := [(bp, .cells #[.slice a56 z59.length c57, .I 0, .bool true, .bool false] 136 (0, 0))]) (W1 := [⟨Sb, 5, .slice a56 z59.length c57, z59⟩]) H'
 have H : Hp w S O [(bp, .cells #[.slice a63 (z59 ++ flagE m.ok).length c64, .I 0, .bool true, .bool false] 136 (0, 0)), (b3, .cells (msgZ).toArray 89 (0, 0)), (b1, .cells (msgV m ma0 mk0 ma1 mk1 ma2 mk2 ma3 mk3 ma4 mk4).toArray 89 (0, 0))] [⟨Sb, 5, .slice a63 (z59 ++ flagE m.ok).length c64, (z59 ++ flagE m.ok)⟩] [Rp Li [.slice ma1 m.conf.voters.length mk1] m.conf.voters, Rp Li [.slice ma2 m.conf.learners.length mk2] m.conf.learners, Rp SB [.slice ma3 m.data.length mk3] m.data] _ := H
 obtain ⟨z66, hz66⟩ : ∃ z, z = (z59 ++ flagE m.ok) := ⟨_, rfl⟩
 rw [← hz66] at H
 have hlz66 := congrArg List.length hz66
 rw [List.length_append] at hlz66
 refine qP 1 (sq 5 6) [(0, .P bp 0), (3, .P b1 0), (4, .P b3 0), (52, .bool m.ok), (53, .P b1 8)] ?_
 refine qW 4 b1 8 (sq 6 6) (.bool m.ok) [(bp, .cells #[.slice a63 z66.length c64, .I 0, .bool true, .bool false] 136 (0, 0)), (b3, .cells (msgZ).toArray 89 (0, 0)), (b1, .cells (msgV m ma0 mk0 ma1 mk1 ma2 mk2 ma3 mk3 ma4 mk4).toArray 89 (0, 0))] H 2 rfl rfl ?_
 intro w67 H
 refine qF 0 [(0, .P bp 0), (3, .P b1 0), (4, .P b3 0)] ?_
 refine qR 1 [.c [10, 0], .c [11]] [(0, .P bp 0), (3, .P b1 0), (4, .P b3 0)] ?_
 refine qG (sq 0 6) ?_
 refine qP 2 (sq 2 6) [(0, .P bp 0), (3, .P b1 0), (4, .P b3 0), (54, .P bp 0), (55, .P b1 9)] ?_
 refine qL .seq 56 (sq 3 6) 4 b1 9 9 (.bool m.force) (H.cells 2 rfl) ?_
 refine RW.callS (d := some 57) (r := (sq 4 6)) (g := 78) (args := #[.P bp 0, .bool m.force]) (by as_aux_lemma => kernel_rfl) (flag_spec (b := m.force) ((H.lend (M1 := [(bp, .cells #[.slice a63 z66.length c64, .I 0, .bool true, .bool false] 136 (0, 0))]) (W1 := [⟨Sb, 5, .slice a63 z66.length c64, z66⟩])).pick [] rfl) (by first | omega | (simp only [List.length_append, List.length_nil]; omega))) ?_
 rintro _ w68 ⟨a70, c71, rfl, H'⟩
 have H := H.back (M1 := [(bp, .cells #[.slice a63 z66.length c64, .I 0, .bool true, .bool false] 136 (0, 0))]) (W1 := [⟨Sb, 5, .slice a63 z66.length c64, z66⟩]) H'
 have H : Hp w S O [(bp, .cells #[.slice a70 (z66 ++ flagE m.force).length c71, .I 0, .bool true, .bool false] 136 (0, 0)), (b3, .cells (msgZ).toArray 89 (0, 0)), (b1, .cells (msgV m ma0 mk0 ma1 mk1 ma2 mk2 ma3 mk3 ma4 mk4).toArray 89 (0, 0))] [⟨Sb, 5, .slice a70 (z66 ++ flagE m.force).length c71, (z66 ++ flagE m.force)⟩] [Rp Li [.slice ma1 m.conf.voters.length mk1] m.conf.voters, Rp Li [.slice ma2 m.conf.learners.length mk2] m.conf.learners, Rp SB [.slice ma3 m.data.length mk3] m.data] _ := H
 obtain ⟨z73, hz73⟩ : ∃ z, z = (z66 ++ flagE m.force) := ⟨_, rfl⟩
 rw [← hz73] at H
 have hlz73 := congrArg List.length hz73
 rw [List.length_append] at hlz73
 refine qP 1 (sq 5 6) [(0, .P bp 0), (3, .P b1 0), (4, .P b3 0), (57, .bool m.force), (58, .P b1 9)] ?_
 refine qW 4 b1 9 (sq 6 6) (.bool m.force) [(bp, .cells #[.slice a70 z73.length c71, .I 0, .bool true, .bool false] 136 (0, 0)), (b3, .cells (msgZ).toArray 89 (0, 0)), (b1, .cells (msgV m ma0 mk0 ma1 mk1 ma2 mk2 ma3 mk3 ma4 mk4).toArray 89 (0, 0))] H 2 rfl rfl ?_
 intro w74 H
 refine qF 0 [(0, .P bp 0), (3, .P b1 0), (4, .P b3 0)] ?_
 refine qR 1 [.c [11, 0], .c [12]] [(0, .P bp 0), (3, .P b1 0), (4, .P b3 0)] ?_
 refine qG (sq 0 6) ?_
 refine qP 2 (sq 2 6) [(0, .P bp 0), (3, .P b1 0), (4, .P b3 0), (59, .P bp 0), (60, .P b1 10)] ?_
 refine qL .seq 61 (sq 3 6) 78 b1 10 10 (.slice ma0 m.entries.length mk0) (H.cells 2 rfl) ?_
 refine RW.callS (d := some 62) (r := (sq 4 6)) (g := 79) (args := #[.P bp 0, .slice ma0 m.entries.length mk0]) (by as_aux_lemma => kernel_rfl) (pentries_spec (by omega) ((H.lend (M1 := [(bp, .cells #[.slice a70 z73.length c71, .I 0, .bool true, .bool false] 136 (0, 0))]) (W1 := [⟨Sb, 5, .slice a70 z73.length c71, z73⟩])).pick [] rfl) (by first | omega | (simp only [List.length_append, List.length_nil]; omega))) ?_
 rintro _ w75 ⟨a77, c78, rfl, H'⟩
 have H := H.back (M1 := [(bp, .cells #[.slice a70 z73.length c71, .I 0, .bool true, .bool false] 136 (0, 0))]) (W1 := [⟨Sb, 5, .slice a70 z73.length c71, z73⟩]) H'
 have H : Hp w S O [(bp, .cells #[.slice a77 (z73 ++ num m.entries.length).length c78, .I 0, .bool true, .bool false] 136 (0, 0)), (b3, .cells (msgZ).toArray 89 (0, 0)), (b1, .cells (msgV m ma0 mk0 ma1 mk1 ma2 mk2 ma3 mk3 ma4 mk4).toArray 89 (0, 0))] [⟨Sb, 5, .slice a77 (z73 ++ num m.entries.length).length c78, (z73 ++ num m.entries.length)⟩] [Rp Li [.slice ma1 m.conf.voters.length mk1] m.conf.voters, Rp Li [.slice ma2 m.conf.learners.length mk2] m.conf.learners, Rp SB [.slice ma3 m.data.length mk3] m.data] _ := H
 obtain ⟨z80, hz80⟩ : ∃ z, z = (z73 ++ num m.entries.length) := ⟨_, rfl⟩
 rw [← hz80] at H
 have hlz80 := congrArg List.length hz80
 rw [List.length_append] at hlz80
 refine qP 1 (sq 5 6) [(0, .P bp 0), (3, .P b1 0), (4, .P b3 0), (62, .slice none 0 0), (63, .P b1 10)] ?_
 refine qW 78 b1 10 (sq 6 6) (.slice none 0 0) [(bp, .cells #[.slice a77 z80.length c78, .I 0, .bool true, .bool false] 136 (0, 0)), (b3, .cells (msgZ).toArray 89 (0, 0)), (b1, .cells ((msgV m none 0 ma1 mk1 ma2 mk2 ma3 mk3 ma4 mk4).set 10 (.slice none 0 0)).toArray 89 (0, 0))] H 2 rfl rfl ?_
 intro w81 H
 refine qF 0 [(0, .P bp 0), (3, .P b1 0), (4, .P b3 0)] ?_
 refine qR 1 [.c [12, 0], .c [13]] [(0, .P bp 0), (3, .P b1 0), (4, .P b3 0)] ?_
 refine qG (sq 0 6) ?_
 refine qP 2 (sq 2 6) [(0, .P bp 0), (3, .P b1 0), (4, .P b3 0), (64, .P bp 0), (65, .P b1 11)] ?_
 refine qL .seq 66 (sq 3 6) 80 b1 11 11 (.agg #[.slice ma1 m.conf.voters.length mk1, .slice ma2 m.conf.learners.length mk2]) (H.cells 2 rfl) ?_
 refine RW.callS (d := some 67) (r := (sq 4 6)) (g := 80) (args := #[.P bp 0, .agg #[.slice ma1 m.conf.voters.length mk1, .slice ma2 m.conf.learners.length mk2]]) (by as_aux_lemma => kernel_rfl) (pconf_spec (C := m.conf) ((H.lend (M1 := [(bp, .cells #[.slice a77 z80.length c78, .I 0, .bool true, .bool false] 136 (0, 0))]) (W1 := [⟨Sb, 5, .slice a77 z80.length c78, z80⟩])).pick [0, 1] rfl) (by first | omega | (simp only [List.length_append, List.length_nil]; omega))) ?_
 rintro v83 w82 ⟨a84, c85, ⟨a87, c88, a89, c90, rfl⟩, H'⟩
 have H := H.back (M1 := [(bp, .cells #[.slice a77 z80.length c78, .I 0, .bool true, .bool false] 136 (0, 0))]) (W1 := [⟨Sb, 5, .slice a77 z80.length c78, z80⟩]) H'
 have H : Hp w S O [(bp, .cells #[.slice a84 (z80 ++ confE m.conf).length c85, .I 0, .bool true, .bool false] 136 (0, 0)), (b3, .cells (msgZ).toArray 89 (0, 0)), (b1, .cells ((msgV m none 0 ma1 mk1 ma2 mk2 ma3 mk3 ma4 mk4).set 10 (.slice none 0 0)).toArray 89 (0, 0))] [⟨Sb, 5, .slice a84 (z80 ++ confE m.conf).length c85, (z80 ++ confE m.conf)⟩] [Rp Li [.slice ma1 m.conf.voters.length mk1] m.conf.voters, Rp Li [.slice ma2 m.conf.learners.length mk2] m.conf.learners, Rp SB [.slice ma3 m.data.length mk3] m.data] _ := H
 obtain ⟨z91, hz91⟩ : ∃ z, z = (z80 ++ confE m.conf) := ⟨_, rfl⟩
 rw [← hz91] at H
 have hlz91 := congrArg List.length hz91
 rw [List.length_append] at hlz91
 refine qP 1 (sq 5 6) [(0, .P bp 0), (3, .P b1 0), (4, .P b3 0), (67, .agg #[.slice a87 m.conf.voters.length c88, .slice a89 m.conf.learners.length c90]), (68, .P b1 11)] ?_
 refine qW 80 b1 11 (sq 6 6) (.agg #[.slice a87 m.conf.voters.length c88, .slice a89 m.conf.learners.length c90]) [(bp, .cells #[.slice a84 z91.length c85, .I 0, .bool true, .bool false] 136 (0, 0)), (b3, .cells (msgZ).toArray 89 (0, 0)), (b1, .cells ((msgV m none 0 a87 c88 a89 c90 ma3 mk3 ma4 mk4).set 10 (.slice none 0 0)).toArray 89 (0, 0))] H 2 rfl rfl ?_
 intro w92 H
 refine qF 0 [(0, .P bp 0), (3, .P b1 0), (4, .P b3 0)] ?_
 refine qR 1 [.c [13, 0], .c [14]] [(0, .P bp 0), (3, .P b1 0), (4, .P b3 0)] ?_
 have H := H.pick [2] rfl
 refine qG (sq 0 6) ?_
 refine qP 2 (sq 2 6) [(0, .P bp 0), (3, .P b1 0), (4, .P b3 0), (69, .P bp 0), (70, .P b1 13)] ?_
 refine qL .seq 71 (sq 3 6) 84 b1 13 13 (.agg (hdrV m.head).toArray) (H.cells 2 rfl) ?_
 refine RW.callS (d := some 72) (r := (sq 4 6)) (g := 81) (args := #[.P bp 0, .agg (hdrV m.head).toArray]) (by as_aux_lemma => kernel_rfl) (phdr_spec (D := m.head) (by assumption) ((H.lend (M1 := [(bp, .cells #[.slice a84 z91.length c85, .I 0, .bool true, .bool false] 136 (0, 0))]) (W1 := [⟨Sb, 5, .slice a84 z91.length c85, z91⟩])).pick [] rfl) (by first | omega | (simp only [List.length_append, List.length_nil]; omega))) ?_
 rintro _ w93 ⟨a95, c96, rfl, H'⟩
 have H := H.back (M1 := [(bp, .cells #[.slice a84 z91.length c85, .I 0, .bool true, .bool false] 136 (0, 0))]) (W1 := [⟨Sb, 5, .slice a84 z91.length c85, z91⟩]) H'
 have H : Hp w S O [(bp, .cells #[.slice a95 (z91 ++ hdrE m.head).length c96, .I 0, .bool true, .bool false] 136 (0, 0)), (b3, .cells (msgZ).toArray 89 (0, 0)), (b1, .cells ((msgV m none 0 a87 c88 a89 c90 ma3 mk3 ma4 mk4).set 10 (.slice none 0 0)).toArray 89 (0, 0))] [⟨Sb, 5, .slice a95 (z91 ++ hdrE m.head).length c96, (z91 ++ hdrE m.head)⟩] [Rp SB [.slice ma3 m.data.length mk3] m.data] _ := H
 obtain ⟨z98, hz98⟩ : ∃ z, z = (z91 ++ hdrE m.head) := ⟨_, rfl⟩
 rw [← hz98] at H
 have hlz98 := congrArg List.length hz98
 rw [List.length_append] at hlz98
 refine qP 1 (sq 5 6) [(0, .P bp 0), (3, .P b1 0), (4, .P b3 0), (72, .agg (hdrV m.head).toArray), (73, .P b1 13)] ?_
 refine qW 84 b1 13 (sq 6 6) (.agg (hdrV m.head).toArray) [(bp, .cells #[.slice a95 z98.length c96, .I 0, .bool true, .bool false] 136 (0, 0)), (b3, .cells (msgZ).toArray 89 (0, 0)), (b1, .cells ((msgV m none 0 a87 c88 a89 c90 ma3 mk3 ma4 mk4).set 10 (.slice none 0 0)).toArray 89 (0, 0))] H 2 rfl rfl ?_
 intro w99 H
 refine qF 0 [(0, .P bp 0), (3, .P b1 0), (4, .P b3 0)] ?_
 refine qR 1 [.c [14, 0], .c [15]] [(0, .P bp 0), (3, .P b1 0), (4, .P b3 0)] ?_
 refine qG (sq 0 6) ?_
 refine qP 2 (sq 2 6) [(0, .P bp 0), (3, .P b1 0), (4, .P b3 0), (74, .P bp 0), (75, .P b1 20)] ?_
 refine qL .seq 76 (sq 3 6) 62 b1 20 20 (.slice ma3 m.data.length mk3) (H.cells 2 rfl) ?_
 refine RW.callS (d := some 77) (r := (sq 4 6)) (g := 82) (args := #[.P bp 0, .slice ma3 m.data.length mk3]) (by as_aux_lemma => kernel_rfl) (bytes_spec (ys := m.data) ((H.lend (M1 := [(bp, .cells #[.slice a95 z98.length c96, .I 0, .bool true, .bool false] 136 (0, 0))]) (W1 := [⟨Sb, 5, .slice a95 z98.length c96, z98⟩])).pick [0] rfl) (by first | omega | (simp only [List.length_append, List.length_nil]; omega))) ?_
 rintro _ w100 ⟨a102, c103, rfl, H'⟩
 have H := H.back (M1 := [(bp, .cells #[.slice a95 z98.length c96, .I 0, .bool true, .bool false] 136 (0, 0))]) (W1 := [⟨Sb, 5, .slice a95 z98.length c96, z98⟩]) H'
 have H : Hp w S O [(bp, .cells #[.slice a102 (z98 ++ bytesE m.data).length c103, .I 0, .bool true, .bool false] 136 (0, 0)), (b3, .cells (msgZ).toArray 89 (0, 0)), (b1, .cells ((msgV m none 0 a87 c88 a89 c90 ma3 mk3 ma4 mk4).set 10 (.slice none 0 0)).toArray 89 (0, 0))] [⟨Sb, 5, .slice a102 (z98 ++ bytesE m.data).length c103, (z98 ++ bytesE m.data)⟩] [Rp SB [.slice ma3 m.data.length mk3] m.data] _ := H
 obtain ⟨z105, hz105⟩ : ∃ z, z = (z98 ++ bytesE m.data) := ⟨_, rfl⟩
 rw [← hz105] at H
 have hlz105 := congrArg List.length hz105
 rw [List.length_append] at hlz105
 refine qP 1 (sq 5 6) [(0, .P bp 0), (3, .P b1 0), (4, .P b3 0), (77, .slice ma3 m.data.length mk3), (78, .P b1 20)] ?_
 refine qW 62 b1 20 (sq 6 6) (.slice ma3 m.data.length mk3) [(bp, .cells #[.slice a102 z105.length c103, .I 0, .bool true, .bool false] 136 (0, 0)), (b3, .cells (msgZ).toArray 89 (0, 0)), (b1, .cells ((msgV m none 0 a87 c88 a89 c90 ma3 mk3 ma4 mk4).set 10 (.slice none 0 0)).toArray 89 (0, 0))] H 2 rfl rfl ?_
 intro w106 H
 refine qF 0 [(0, .P bp 0), (3, .P b1 0), (4, .P b3 0)] ?_
 refine qR 1 [.c [15, 0], .c [16]] [(0, .P bp 0), (3, .P b1 0), (4, .P b3 0)] ?_
 refine qG (sq 0 6) ?_
 refine qP 2 (sq 2 6) [(0, .P bp 0), (3, .P b1 0), (4, .P b3 0), (79, .P bp 0), (80, .P b1 21)] ?_
 refine qL .seq 81 (sq 3 6) 22 b1 21 21 (.int .u64 m.client) (H.cells 2 rfl) ?_
 refine RW.callS (d := some 82) (r := (sq 4 6)) (g := 77) (args := #[.P bp 0, .int .u64 m.client]) (by as_aux_lemma => kernel_rfl) (u64_spec (x := m.client) (by omega) ((H.lend (M1 := [(bp, .cells #[.slice a102 z105.length c103, .I 0, .bool true, .bool false] 136 (0, 0))]) (W1 := [⟨Sb, 5, .slice a102 z105.length c103, z105⟩])).pick [] rfl) (by first | omega | (simp only [List.length_append, List.length_nil]; omega))) ?_
 rintro _ w107 ⟨a109, c110, rfl, H'⟩
 have H := H.back (M1 := [(bp, .cells #[.slice a102 z105.length c103, .I 0, .bool true, .bool false] 136 (0, 0))]) (W1 := [⟨Sb, 5, .slice a102 z105.length c103, z105⟩]) H'
 have H : Hp w S O [(bp, .cells #[.slice a109 (z105 ++ num m.client.toNat).length c110, .I 0, .bool true, .bool false] 136 (0, 0)), (b3, .cells (msgZ).toArray 89 (0, 0)), (b1, .cells ((msgV m none 0 a87 c88 a89 c90 ma3 mk3 ma4 mk4).set 10 (.slice none 0 0)).toArray 89 (0, 0))] [⟨Sb, 5, .slice a109 (z105 ++ num m.client.toNat).length c110, (z105 ++ num m.client.toNat)⟩] [Rp SB [.slice ma3 m.data.length mk3] m.data] _ := H
 obtain ⟨z112, hz112⟩ : ∃ z, z = (z105 ++ num m.client.toNat) := ⟨_, rfl⟩
 rw [← hz112] at H
 have hlz112 := congrArg List.length hz112
 rw [List.length_append] at hlz112
 refine qP 1 (sq 5 6) [(0, .P bp 0), (3, .P b1 0), (4, .P b3 0), (82, .int .u64 m.client), (83, .P b1 21)] ?_
 refine qW 22 b1 21 (sq 6 6) (.int .u64 m.client) [(bp, .cells #[.slice a109 z112.length c110, .I 0, .bool true, .bool false] 136 (0, 0)), (b3, .cells (msgZ).toArray 89 (0, 0)), (b1, .cells ((msgV m none 0 a87 c88 a89 c90 ma3 mk3 ma4 mk4).set 10 (.slice none 0 0)).toArray 89 (0, 0))] H 2 rfl rfl ?_
 intro w113 H
 refine qF 0 [(0, .P bp 0), (3, .P b1 0), (4, .P b3 0)] ?_
 refine qR 1 [.c [16, 0], .c [17]] [(0, .P bp 0), (3, .P b1 0), (4, .P b3 0)] ?_
 refine qG (sq 0 6) ?_
 refine qP 2 (sq 2 6) [(0, .P bp 0), (3, .P b1 0), (4, .P b3 0), (84, .P bp 0), (85, .P b1 22)] ?_
 refine qL .seq 86 (sq 3 6) 22 b1 22 22 (.int .u64 m.seq) (H.cells 2 rfl) ?_
 refine RW.callS (d := some 87) (r := (sq 4 6)) (g := 77) (args := #[.P bp 0, .int .u64 m.seq]) (by as_aux_lemma => kernel_rfl) (u64_spec (x := m.seq) (by omega) ((H.lend (M1 := [(bp, .cells #[.slice a109 z112.length c110, .I 0, .bool true, .bool false] 136 (0, 0))]) (W1 := [⟨Sb, 5, .slice a109 z112.length c110, z112⟩])).pick [] rfl) (by first | omega | (simp only [List.length_append, List.length_nil]; omega))) ?_
 rintro _ w114 ⟨a116, c117, rfl, H'⟩
 have H := H.back (M1 := [(bp, .cells #[.slice a109 z112.length c110, .I 0, .bool true, .bool false] 136 (0, 0))]) (W1 := [⟨Sb, 5, .slice a109 z112.length c110, z112⟩]) H'
 have H : Hp w S O [(bp, .cells #[.slice a116 (z112 ++ num m.seq.toNat).length c117, .I 0, .bool true, .bool false] 136 (0, 0)), (b3, .cells (msgZ).toArray 89 (0, 0)), (b1, .cells ((msgV m none 0 a87 c88 a89 c90 ma3 mk3 ma4 mk4).set 10 (.slice none 0 0)).toArray 89 (0, 0))] [⟨Sb, 5, .slice a116 (z112 ++ num m.seq.toNat).length c117, (z112 ++ num m.seq.toNat)⟩] [Rp SB [.slice ma3 m.data.length mk3] m.data] _ := H
 obtain ⟨z119, hz119⟩ : ∃ z, z = (z112 ++ num m.seq.toNat) := ⟨_, rfl⟩
 rw [← hz119] at H
 have hlz119 := congrArg List.length hz119
 rw [List.length_append] at hlz119
 refine qP 1 (sq 5 6) [(0, .P bp 0), (3, .P b1 0), (4, .P b3 0), (87, .int .u64 m.seq), (88, .P b1 22)] ?_
 refine qW 22 b1 22 (sq 6 6) (.int .u64 m.seq) [(bp, .cells #[.slice a116 z119.length c117, .I 0, .bool true, .bool false] 136 (0, 0)), (b3, .cells (msgZ).toArray 89 (0, 0)), (b1, .cells ((msgV m none 0 a87 c88 a89 c90 ma3 mk3 ma4 mk4).set 10 (.slice none 0 0)).toArray 89 (0, 0))] H 2 rfl rfl ?_
 intro w120 H
 refine qF 0 [(0, .P bp 0), (3, .P b1 0), (4, .P b3 0)] ?_
 refine qR 1 [.c [17, 0], .c [18]] [(0, .P bp 0), (3, .P b1 0), (4, .P b3 0)] ?_
 refine qG (sq 0 6) ?_
 refine qP 2 (sq 2 6) [(0, .P bp 0), (3, .P b1 0), (4, .P b3 0), (89, .P bp 0), (90, .P b1 23)] ?_
 refine qL .seq 91 (sq 3 6) 85 b1 23 23 (.I m.op) (H.cells 2 rfl) ?_
 refine RW.callS (d := some 92) (r := (sq 4 6)) (g := 70) (args := #[.P bp 0, .I m.op]) (by as_aux_lemma => kernel_rfl) (int_spec (x := m.op) (by omega) ((H.lend (M1 := [(bp, .cells #[.slice a116 z119.length c117, .I 0, .bool true, .bool false] 136 (0, 0))]) (W1 := [⟨Sb, 5, .slice a116 z119.length c117, z119⟩])).pick [] rfl) (by first | omega | (simp only [List.length_append, List.length_nil]; omega))) ?_
 rintro _ w121 ⟨a123, c124, rfl, H'⟩
 have H := H.back (M1 := [(bp, .cells #[.slice a116 z119.length c117, .I 0, .bool true, .bool false] 136 (0, 0))]) (W1 := [⟨Sb, 5, .slice a116 z119.length c117, z119⟩]) H'
 have H : Hp w S O [(bp, .cells #[.slice a123 (z119 ++ intE m.op).length c124, .I 0, .bool true, .bool false] 136 (0, 0)), (b3, .cells (msgZ).toArray 89 (0, 0)), (b1, .cells ((msgV m none 0 a87 c88 a89 c90 ma3 mk3 ma4 mk4).set 10 (.slice none 0 0)).toArray 89 (0, 0))] [⟨Sb, 5, .slice a123 (z119 ++ intE m.op).length c124, (z119 ++ intE m.op)⟩] [Rp SB [.slice ma3 m.data.length mk3] m.data] _ := H
 obtain ⟨z126, hz126⟩ : ∃ z, z = (z119 ++ intE m.op) := ⟨_, rfl⟩
 rw [← hz126] at H
 have hlz126 := congrArg List.length hz126
 rw [List.length_append] at hlz126
 refine qP 1 (sq 5 6) [(0, .P bp 0), (3, .P b1 0), (4, .P b3 0), (92, .I m.op), (93, .P b1 23)] ?_
 refine qW 85 b1 23 (sq 6 6) (.I m.op) [(bp, .cells #[.slice a123 z126.length c124, .I 0, .bool true, .bool false] 136 (0, 0)), (b3, .cells (msgZ).toArray 89 (0, 0)), (b1, .cells ((msgV m none 0 a87 c88 a89 c90 ma3 mk3 ma4 mk4).set 10 (.slice none 0 0)).toArray 89 (0, 0))] H 2 rfl rfl ?_
 intro w127 H
 refine qF 0 [(0, .P bp 0), (3, .P b1 0), (4, .P b3 0)] ?_
 refine qR 1 [.c [18, 0], .c [19]] [(0, .P bp 0), (3, .P b1 0), (4, .P b3 0)] ?_
 refine qG (sq 0 6) ?_
 refine qP 2 (sq 2 6) [(0, .P bp 0), (3, .P b1 0), (4, .P b3 0), (94, .P bp 0), (95, .P b1 24)] ?_
 refine qL .seq 96 (sq 3 6) 9 b1 24 24 (.string m.key) (H.cells 2 rfl) ?_
 refine RW.callS (d := some 97) (r := (sq 4 6)) (g := 83) (args := #[.P bp 0, .string m.key]) (by as_aux_lemma => kernel_rfl) (text_spec (s := m.key) hkey ((H.lend (M1 := [(bp, .cells #[.slice a123 z126.length c124, .I 0, .bool true, .bool false] 136 (0, 0))]) (W1 := [⟨Sb, 5, .slice a123 z126.length c124, z126⟩])).pick [] rfl) (by first | omega | (simp only [List.length_append, List.length_nil]; omega))) ?_
 rintro v129 w128 ⟨a130, c131, ⟨t133, rfl⟩, H'⟩
 have H := H.back (M1 := [(bp, .cells #[.slice a123 z126.length c124, .I 0, .bool true, .bool false] 136 (0, 0))]) (W1 := [⟨Sb, 5, .slice a123 z126.length c124, z126⟩]) H'
 have H : Hp w S O [(bp, .cells #[.slice a130 (z126 ++ textE m.key).length c131, .I 0, .bool true, .bool false] 136 (0, 0)), (b3, .cells (msgZ).toArray 89 (0, 0)), (b1, .cells ((msgV m none 0 a87 c88 a89 c90 ma3 mk3 ma4 mk4).set 10 (.slice none 0 0)).toArray 89 (0, 0))] [⟨Sb, 5, .slice a130 (z126 ++ textE m.key).length c131, (z126 ++ textE m.key)⟩] [Rp SB [.slice ma3 m.data.length mk3] m.data] _ := H
 obtain ⟨z134, hz134⟩ : ∃ z, z = (z126 ++ textE m.key) := ⟨_, rfl⟩
 rw [← hz134] at H
 have hlz134 := congrArg List.length hz134
 rw [List.length_append] at hlz134
 refine qP 1 (sq 5 6) [(0, .P bp 0), (3, .P b1 0), (4, .P b3 0), (97, .string t133), (98, .P b1 24)] ?_
 refine qW 9 b1 24 (sq 6 6) (.string t133) [(bp, .cells #[.slice a130 z134.length c131, .I 0, .bool true, .bool false] 136 (0, 0)), (b3, .cells (msgZ).toArray 89 (0, 0)), (b1, .cells (((msgV m none 0 a87 c88 a89 c90 ma3 mk3 ma4 mk4).set 10 (.slice none 0 0)).set 24 (.string t133)).toArray 89 (0, 0))] H 2 rfl rfl ?_
 intro w135 H
 refine qF 0 [(0, .P bp 0), (3, .P b1 0), (4, .P b3 0)] ?_
 refine qR 1 [.c [19, 0], .c [20]] [(0, .P bp 0), (3, .P b1 0), (4, .P b3 0)] ?_
 refine qG (sq 0 6) ?_
 refine qP 2 (sq 2 6) [(0, .P bp 0), (3, .P b1 0), (4, .P b3 0), (99, .P bp 0), (100, .P b1 25)] ?_
 refine qL .seq 101 (sq 3 6) 86 b1 25 25 (.I m.code) (H.cells 2 rfl) ?_
 refine RW.callS (d := some 102) (r := (sq 4 6)) (g := 70) (args := #[.P bp 0, .I m.code]) (by as_aux_lemma => kernel_rfl) (int_spec (x := m.code) (by omega) ((H.lend (M1 := [(bp, .cells #[.slice a130 z134.length c131, .I 0, .bool true, .bool false] 136 (0, 0))]) (W1 := [⟨Sb, 5, .slice a130 z134.length c131, z134⟩])).pick [] rfl) (by first | omega | (simp only [List.length_append, List.length_nil]; omega))) ?_
 rintro _ w136 ⟨a138, c139, rfl, H'⟩
 have H := H.back (M1 := [(bp, .cells #[.slice a130 z134.length c131, .I 0, .bool true, .bool false] 136 (0, 0))]) (W1 := [⟨Sb, 5, .slice a130 z134.length c131, z134⟩]) H'
 have H : Hp w S O [(bp, .cells #[.slice a138 (z134 ++ intE m.code).length c139, .I 0, .bool true, .bool false] 136 (0, 0)), (b3, .cells (msgZ).toArray 89 (0, 0)), (b1, .cells (((msgV m none 0 a87 c88 a89 c90 ma3 mk3 ma4 mk4).set 10 (.slice none 0 0)).set 24 (.string t133)).toArray 89 (0, 0))] [⟨Sb, 5, .slice a138 (z134 ++ intE m.code).length c139, (z134 ++ intE m.code)⟩] [Rp SB [.slice ma3 m.data.length mk3] m.data] _ := H
 obtain ⟨z141, hz141⟩ : ∃ z, z = (z134 ++ intE m.code) := ⟨_, rfl⟩
 rw [← hz141] at H
 have hlz141 := congrArg List.length hz141
 rw [List.length_append] at hlz141
 refine qP 1 (sq 5 6) [(0, .P bp 0), (3, .P b1 0), (4, .P b3 0), (102, .I m.code), (103, .P b1 25)] ?_
 refine qW 86 b1 25 (sq 6 6) (.I m.code) [(bp, .cells #[.slice a138 z141.length c139, .I 0, .bool true, .bool false] 136 (0, 0)), (b3, .cells (msgZ).toArray 89 (0, 0)), (b1, .cells (((msgV m none 0 a87 c88 a89 c90 ma3 mk3 ma4 mk4).set 10 (.slice none 0 0)).set 24 (.string t133)).toArray 89 (0, 0))] H 2 rfl rfl ?_
 intro w142 H
 refine qF 0 [(0, .P bp 0), (3, .P b1 0), (4, .P b3 0)] ?_
 refine qR 1 [.c [20, 0], .c [21]] [(0, .P bp 0), (3, .P b1 0), (4, .P b3 0)] ?_
 refine qG (sq 0 6) ?_
 refine qP 2 (sq 2 6) [(0, .P bp 0), (3, .P b1 0), (4, .P b3 0), (104, .P bp 0), (105, .P b1 26)] ?_
 refine qL .seq 106 (sq 3 6) 87 b1 26 26 (.slice ma4 m.names.length mk4) (H.cells 2 rfl) ?_
 refine qP 1 (sq 4 6) [(0, .P bp 0), (3, .P b1 0), (4, .P b3 0), (104, .P bp 0), (107, .I ((m.names.length : Nat) : Int))] ?_
 refine RW.callS (d := some 108) (r := (sq 5 6)) (g := 84) (args := #[.P bp 0, .I ((m.names.length : Nat) : Int)]) (by as_aux_lemma => kernel_rfl) (len_spec (k := m.names.length) (by omega) ((H.lend (M1 := [(bp, .cells #[.slice a138 z141.length c139, .I 0, .bool true, .bool false] 136 (0, 0))]) (W1 := [⟨Sb, 5, .slice a138 z141.length c139, z141⟩])).pick [] rfl) (by first | omega | (simp only [List.length_append, List.length_nil]; omega))) ?_
 rintro _ w143 ⟨a145, c146, rfl, H'⟩
 have H := H.back (M1 := [(bp, .cells #[.slice a138 z141.length c139, .I 0, .bool true, .bool false] 136 (0, 0))]) (W1 := [⟨Sb, 5, .slice a138 z141.length c139, z141⟩]) H'
 have H : Hp w S O [(bp, .cells #[.slice a145 (z141 ++ num m.names.length).length c146, .I 0, .bool true, .bool false] 136 (0, 0)), (b3, .cells (msgZ).toArray 89 (0, 0)), (b1, .cells (((msgV m none 0 a87 c88 a89 c90 ma3 mk3 ma4 mk4).set 10 (.slice none 0 0)).set 24 (.string t133)).toArray 89 (0, 0))] [⟨Sb, 5, .slice a145 (z141 ++ num m.names.length).length c146, (z141 ++ num m.names.length)⟩] [Rp SB [.slice ma3 m.data.length mk3] m.data] _ := H
 obtain ⟨z148, hz148⟩ : ∃ z, z = (z141 ++ num m.names.length) := ⟨_, rfl⟩
 rw [← hz148] at H
 have hlz148 := congrArg List.length hz148
 rw [List.length_append] at hlz148
 refine qF 1 [(0, .P bp 0), (3, .P b1 0), (4, .P b3 0), (5, .I ((m.names.length : Nat) : Int))] ?_
 refine qR 6 [.c [22, 0, 1, 0], .b 0, .c [23]] [(0, .P bp 0), (3, .P b1 0), (4, .P b3 0), (5, .I ((m.names.length : Nat) : Int)), (6, .slice none 0 0), (7, .I 0)] ?_
 refine WK.loop (α := Unit) (b := cd Tryz.prog 60 [22, 0, 1, 0, 0]) (by as_aux_lemma => kernel_rfl) (fun _ => [(0, .P bp 0), (3, .P b1 0), (4, .P b3 0), (5, .I ((m.names.length : Nat) : Int)), (6, .slice none 0 0), (7, .I 0)]) (fun _ w' => Hp w S O [(bp, .cells #[.slice a145 z148.length c146, .I 0, .bool true, .bool false] 136 (0, 0)), (b3, .cells (msgZ).toArray 89 (0, 0)), (b1, .cells (((msgV m none 0 a87 c88 a89 c90 ma3 mk3 ma4 mk4).set 10 (.slice none 0 0)).set 24 (.string t133)).toArray 89 (0, 0))] [⟨Sb, 5, .slice a145 z148.length c146, z148⟩] [Rp SB [.slice ma3 m.data.length mk3] m.data] w' ∧ True) (fun _ => 0) (()) ⟨H, trivial⟩ (rfl) ?_
 rintro _ w150 ⟨H, hinv0⟩ hback149
 refine qR 2 [.c [22, 0, 1, 0, 0, 0, 0], .c [22, 0, 1, 0, 0, 0, 1], .c [22, 0, 1, 0, 0, 1], .l [22, 0, 1, 0, 0], .b 0, .c [23]] [(0, .P bp 0), (3, .P b1 0), (4, .P b3 0), (5, .I ((m.names.length : Nat) : Int)), (6, .slice none 0 0), (7, .I 0)] ?_
 refine qG (sq 0 10) ?_
 refine qP 4 (sq 4 10) [(0, .P bp 0), (3, .P b1 0), (4, .P b3 0), (5, .I ((m.names.length : Nat) : Int)), (6, .slice none 0 0), (7, .I 0), (112, .bool (decide ((0 : Int) < ((m.names.length : Nat) : Int))))] ?_
 refine tD (fun b_ => [(0, .P bp 0), (3, .P b1 0), (4, .P b3 0), (5, .I ((m.names.length : Nat) : Int)), (6, .slice none 0 0), (7, .I 0), (112, .bool b_)]) ((0 : Int) < ((m.names.length : Nat) : Int)) (fun h151 => ?_) (fun h151 => ?_)
 ·
  omega
 ·
  refine qF 6 [(0, .P bp 0), (3, .P b1 0), (4, .P b3 0), (5, .I ((m.names.length : Nat) : Int)), (6, .slice none 0 0), (7, .I 0), (118, .bool false)] ?_
  refine qR 3 [.c [23, 0], .c [24]] [(3, .P b1 0), (4, .P b3 0), (6, .slice none 0 0)] ?_
  refine qG (sq 0 3) ?_
  refine qP 2 (sq 2 3) [(3, .P b1 0), (4, .P b3 0), (137, .slice none 0 0), (138, .P b1 26)] ?_
  refine qW 87 b1 26 (sq 3 3) (.slice none 0 0) [(bp, .cells #[.slice a145 z148.length c146, .I 0, .bool true, .bool false] 136 (0, 0)), (b3, .cells (msgZ).toArray 89 (0, 0)), (b1, .cells ((((msgV m none 0 a87 c88 a89 c90 ma3 mk3 none 0).set 10 (.slice none 0 0)).set 24 (.string t133)).set 26 (.slice none 0 0)).toArray 89 (0, 0))] H 2 rfl rfl ?_
  intro w152 H
  refine qF 0 [(3, .P b1 0), (4, .P b3 0)] ?_
  refine qR 1 [.c [24, 0], .c [25]] [(3, .P b1 0), (4, .P b3 0)] ?_
  refine qG (sq 0 2) ?_
  refine qL .seq 139 (sq 1 2) 89 b1 0 0 (.agg ((((msgV m none 0 a87 c88 a89 c90 ma3 mk3 none 0).set 10 (.slice none 0 0)).set 24 (.string t133)).set 26 (.slice none 0 0)).toArray) (H.cells 2 rfl) ?_
  refine qW 89 b3 0 (sq 2 2) (.agg ((((msgV m none 0 a87 c88 a89 c90 ma3 mk3 none 0).set 10 (.slice none 0 0)).set 24 (.string t133)).set 26 (.slice none 0 0)).toArray) [(bp, .cells #[.slice a145 z148.length c146, .I 0, .bool true, .bool false] 136 (0, 0)), (b3, .cells ((((msgV m none 0 a87 c88 a89 c90 ma3 mk3 none 0).set 10 (.slice none 0 0)).set 24 (.string t133)).set 26 (.slice none 0 0)).toArray 89 (0, 0)), (b1, .cells ((((msgV m none 0 a87 c88 a89 c90 ma3 mk3 none 0).set 10 (.slice none 0 0)).set 24 (.string t133)).set 26 (.slice none 0 0)).toArray 89 (0, 0))] H 1 rfl rfl ?_
  intro w153 H
  refine qF 0 [(4, .P b3 0)] ?_
  refine qRB (.agg ((((msgV m none 0 a87 c88 a89 c90 ma3 mk3 none 0).set 10 (.slice none 0 0)).set 24 (.string t133)).set 26 (.slice none 0 0)).toArray) Tryz.func60 (v1 (.cell 4 89) (vC (H.cells 1 rfl))) ?_
  have hcf : z148 = xs ++ msgE m := by simp [msgE, hz10, hz17, hz24, hz31, hz38, hz45, hz52, hz59, hz66, hz73, hz80, hz91, hz98, hz105, hz112, hz119, hz126, hz134, hz141, hz148]
  rw [hcf] at H
  have H := H.drop (M' := [(bp, .cells #[.slice a145 (xs ++ msgE m).length c146, .I 0, .bool true, .bool false] 136 (0, 0))]) (W' := [⟨Sb, 5, .slice a145 (xs ++ msgE m).length c146, xs ++ msgE m⟩]) (by repeat (first | exact List.Sublist.refl _ | apply List.Sublist.cons_cons | apply List.Sublist.cons)) (by repeat (first | exact List.Sublist.refl _ | apply List.Sublist.cons_cons | apply List.Sublist.cons))
  exact ⟨_, rfl, _, _, H.pick [] rfl⟩
theorem written_spec {S : Nat → Prop} {w : World} {bp c : Nat} {a : Option Addr} {n : Nat} (hF : (Fc bp 0 [.slice a n c, .I 0, .bool true, .bool false]).p S w) :
 Calls Tryz.prog 61 #[.P bp 0] w (Ret fun v w' => Ext w w' ∧ v = .slice a n c) := by
 refine qS (fn := Tryz.f61) (n := 7) (σ := [(0, .P bp 0)]) Tryz.func61 ?_
 have H := Hp.startF (w := w) (S := S) (G := [Fc bp 0 [.slice a n c, .I 0, .bool true, .bool false]]) (.cons hF .nil)
 refine qR 3 [.c [1, 0], .c [2]] [(0, .P bp 0)] ?_
 refine qG (sq 0 5) ?_
 refine qP 3 (sq 3 5) [(5, .P bp 0)] ?_
 refine qL .seq 6 (sq 4 5) 62 bp 0 0 (.slice a n c) (H.fc 0 rfl) ?_
 refine qF 1 [(2, .slice a n c)] ?_
 refine qT (.slice a n c) Tryz.func61 ?_
 exact ⟨_, rfl, H.done, rfl⟩
theorem put_spec {S : Nat → Prop} {w : World} {m : Msg} {ma0 ma1 ma2 ma3 ma4 : Option Addr} {mk0 mk1 mk2 mk3 mk4 : Nat} (hm : MsgOk m) (h0 : Li.rep S w [.slice ma1 m.conf.voters.length mk1] m.conf.voters) (h1 : Li.rep S w [.slice ma2 m.conf.learners.length mk2] m.conf.learners) (h2 : SB.rep S w [.slice ma3 m.data.length mk3] m.data) :
 Calls Tryz.prog 40 #[.agg (msgV m ma0 mk0 ma1 mk1 ma2 mk2 ma3 mk3 ma4 mk4).toArray] w (Ret fun v w' => Ext w w' ∧ Hp w S [] [] [⟨Sb, 5, v, msgE m⟩] [] w') := by
 refine qS (fn := Tryz.f40) (n := 10) (σ := [(0, .agg (msgV m ma0 mk0 ma1 mk1 ma2 mk2 ma3 mk3 ma4 mk4).toArray)]) Tryz.func40 ?_
 have H := Hp.startF (w := w) (S := S) (G := [Rp Li [.slice ma1 m.conf.voters.length mk1] m.conf.voters, Rp Li [.slice ma2 m.conf.learners.length mk2] m.conf.learners, Rp SB [.slice ma3 m.data.length mk3] m.data]) (.rp h0 (.rp h1 (.rp h2 .nil)))
 refine qR 1 [.c [0], .c [1]] [(0, .agg (msgV m ma0 mk0 ma1 mk1 ma2 mk2 ma3 mk3 ma4 mk4).toArray)] ?_
 refine qG (sq 0 2) ?_
 refine qB .seq 1 (sq 1 2) ((msgV m ma0 mk0 ma1 mk1 ma2 mk2 ma3 mk3 ma4 mk4).toArray) 89 H ?_
 intro b1 w2 H
 refine qF 1 [(1, .P b1 0)] ?_
 refine qR 1 [.c [1, 0], .c [2]] [(1, .P b1 0)] ?_
 refine qG (sq 0 2) ?_
 have H := H.addRp SB [.slice none 0 0] [] Shape.slice_nil
 refine qK .seq (some 4) (sq 1 2) 58 #[.slice none 0 0] (writer_spec (ys := ([] : List (BitVec 8))) (H.rp 0 rfl) (by first | omega | simp)) ?_
 rintro _ w3 - ⟨b4, a5, c6, rfl, H'⟩
 have H := H.back (M1 := []) (W1 := []) H'
 have H : Hp w S [] [(b4, .cells #[.slice a5 (([] : List (BitVec 8)).length) c6, .I 0, .bool true, .bool false] 136 (0, 0)), (b1, .cells (msgV m ma0 mk0 ma1 mk1 ma2 mk2 ma3 mk3 ma4 mk4).toArray 89 (0, 0))] [⟨Sb, 5, .slice a5 (([] : List (BitVec 8)).length) c6, ([] : List (BitVec 8))⟩] [Rp SB [.slice none 0 0] [], Rp Li [.slice ma1 m.conf.voters.length mk1] m.conf.voters, Rp Li [.slice ma2 m.conf.learners.length mk2] m.conf.learners, Rp SB [.slice ma3 m.data.length mk3] m.data] _ := H
 refine qF 1 [(1, .P b1 0), (3, .P b4 0)] ?_
 refine qR 1 [.c [2, 0], .c [3]] [(1, .P b1 0), (3, .P b4 0)] ?_
 refine qG (sq 0 3) ?_
 refine qP 1 (sq 1 3) [(1, .P b1 0), (3, .P b4 0), (5, .P b4 0)] ?_
 refine qL .seq 6 (sq 2 3) 89 b1 0 0 (.agg (msgV m ma0 mk0 ma1 mk1 ma2 mk2 ma3 mk3 ma4 mk4).toArray) (H.cells 1 rfl) ?_
 refine RW.callS (d := some 7) (r := (sq 3 3)) (g := 60) (args := #[.P b4 0, .agg (msgV m ma0 mk0 ma1 mk1 ma2 mk2 ma3 mk3 ma4 mk4).toArray]) (by as_aux_lemma => kernel_rfl) (fields_spec (m := m) hm ((H.lend (M1 := [(b4, .cells #[.slice a5 (([] : List (BitVec 8)).length) c6, .I 0, .bool true, .bool false] 136 (0, 0))]) (W1 := [⟨Sb, 5, .slice a5 (([] : List (BitVec 8)).length) c6, ([] : List (BitVec 8))⟩])).pick [1, 2, 3] rfl) (by simp)) ?_
 rintro v8 w7 ⟨a9, c10, H'⟩
 have H := H.back (M1 := [(b4, .cells #[.slice a5 (([] : List (BitVec 8)).length) c6, .I 0, .bool true, .bool false] 136 (0, 0))]) (W1 := [⟨Sb, 5, .slice a5 (([] : List (BitVec 8)).length) c6, ([] : List (BitVec 8))⟩]) H'
 have H : Hp w S [] [(b4, .cells #[.slice a9 ((([] : List (BitVec 8)) ++ msgE m).length) c10, .I 0, .bool true, .bool false] 136 (0, 0)), (b1, .cells (msgV m ma0 mk0 ma1 mk1 ma2 mk2 ma3 mk3 ma4 mk4).toArray 89 (0, 0))] [⟨Sb, 5, .slice a9 ((([] : List (BitVec 8)) ++ msgE m).length) c10, (([] : List (BitVec 8)) ++ msgE m)⟩] [Rp SB [.slice none 0 0] [], Rp Li [.slice ma1 m.conf.voters.length mk1] m.conf.voters, Rp Li [.slice ma2 m.conf.learners.length mk2] m.conf.learners, Rp SB [.slice ma3 m.data.length mk3] m.data] _ := H
 refine qF 0 [(3, .P b4 0)] ?_
 refine qR 1 [.c [3, 0], .c [4]] [(3, .P b4 0)] ?_
 refine qG (sq 0 3) ?_
 refine qP 1 (sq 1 3) [(8, .P b4 0)] ?_
 refine qK .seq (some 9) (sq 2 3) 61 #[.P b4 0] (written_spec (S := fun _ => True) (H.viewM 0 rfl (by simp))) ?_
 rintro _ w11 hE12 rfl
 have H := H.ext hE12
 refine qF 1 [(2, .slice a9 ((([] : List (BitVec 8)) ++ msgE m).length) c10)] ?_
 refine qT (.slice a9 ((([] : List (BitVec 8)) ++ msgE m).length) c10) Tryz.func40 ?_
 have H := H.drop (M' := []) (W' := [⟨Sb, 5, .slice a9 ((([] : List (BitVec 8)) ++ msgE m).length) c10, (([] : List (BitVec 8)) ++ msgE m)⟩]) (List.nil_sublist _) (List.Sublist.refl _)
 exact ⟨_, rfl, H.done, H.pick [] rfl⟩
theorem same_spec {S : Nat → Prop} {w : World} {m : Msg} {ma0 ma1 ma2 ma3 ma4 : Option Addr} {mk0 mk1 mk2 mk3 mk4 : Nat} {nma0 nma1 nma2 nma3 nma4 : Option Addr} {nmk0 nmk1 nmk2 nmk3 nmk4 : Nat} (hm : MsgOk m) (h0 : Li.rep S w [.slice ma1 m.conf.voters.length mk1] m.conf.voters) (h1 : Li.rep S w [.slice ma2 m.conf.learners.length mk2] m.conf.learners) (h2 : SB.rep S w [.slice ma3 m.data.length mk3] m.data) (g0 : Li.rep S w [.slice nma1 m.conf.voters.length nmk1] m.conf.voters) (g1 : Li.rep S w [.slice nma2 m.conf.learners.length nmk2] m.conf.learners) (g2 : SB.rep S w [.slice nma3 m.data.length nmk3] m.data) :
 Calls Tryz.prog 23 #[.agg (msgV m ma0 mk0 ma1 mk1 ma2 mk2 ma3 mk3 ma4 mk4).toArray, .agg (msgV m nma0 nmk0 nma1 nmk1 nma2 nmk2 nma3 nmk3 nma4 nmk4).toArray] w (Ret fun v w' => Ext w w' ∧ v = .bool true) := by
 refine qS (fn := Tryz.f23) (n := 12) (σ := [(0, .agg (msgV m ma0 mk0 ma1 mk1 ma2 mk2 ma3 mk3 ma4 mk4).toArray), (1, .agg (msgV m nma0 nmk0 nma1 nmk1 nma2 nmk2 nma3 nmk3 nma4 nmk4).toArray)]) Tryz.func23 ?_
 have H := Hp.startF (w := w) (S := S) (G := [Rp Li [.slice ma1 m.conf.voters.length mk1] m.conf.voters, Rp Li [.slice ma2 m.conf.learners.length mk2] m.conf.learners, Rp SB [.slice ma3 m.data.length mk3] m.data, Rp Li [.slice nma1 m.conf.voters.length nmk1] m.conf.voters, Rp Li [.slice nma2 m.conf.learners.length nmk2] m.conf.learners, Rp SB [.slice nma3 m.data.length nmk3] m.data]) (.rp h0 (.rp h1 (.rp h2 (.rp g0 (.rp g1 (.rp g2 .nil))))))
 refine qR 1 [.c [0], .c [1]] [(0, .agg (msgV m ma0 mk0 ma1 mk1 ma2 mk2 ma3 mk3 ma4 mk4).toArray), (1, .agg (msgV m nma0 nmk0 nma1 nmk1 nma2 nmk2 nma3 nmk3 nma4 nmk4).toArray)] ?_
 refine qG (sq 0 3) ?_
 refine qB .seq 2 (sq 1 3) ((msgV m ma0 mk0 ma1 mk1 ma2 mk2 ma3 mk3 ma4 mk4).toArray) 89 H ?_
 intro b1 w2 H
 refine qB .seq 3 (sq 2 3) ((msgV m nma0 nmk0 nma1 nmk1 nma2 nmk2 nma3 nmk3 nma4 nmk4).toArray) 89 H ?_
 intro b3 w4 H
 refine qF 1 [(2, .P b1 0), (3, .P b3 0)] ?_
 refine qR 1 [.c [1, 0], .c [2]] [(2, .P b1 0), (3, .P b3 0)] ?_
 refine WK.draw1 8 [(0, .qui), (3, .qui), (1, .chn), (2, .qui), (4, .chn), (5, .qui), (6, .qui), (7, .qui)] [(0, .qui), (3, .qui), (1, .chn), (2, .qui), (4, .chn), (5, .qui), (6, .qui), (7, .qui)] Try_mixed (by as_aux_lemma => kernel_rfl) (by as_aux_lemma => kernel_rfl) (by as_aux_lemma => kernel_rfl) ?_
 have H := H.draw
 generalize ({ w4 with drawn := w4.drawn + 1 } : World) = w5 at H ⊢
 refine qL .qui 5 [(3, .qui), (1, .chn), (2, .qui), (4, .chn), (5, .qui), (6, .qui), (7, .qui)] 89 b1 0 0 (.agg (msgV m ma0 mk0 ma1 mk1 ma2 mk2 ma3 mk3 ma4 mk4).toArray) (H.cells 1 rfl) ?_
 refine qL .qui 8 [(1, .chn), (2, .qui), (4, .chn), (5, .qui), (6, .qui), (7, .qui)] 89 b3 0 0 (.agg (msgV m nma0 nmk0 nma1 nmk1 nma2 nmk2 nma3 nmk3 nma4 nmk4).toArray) (H.cells 0 rfl) ?_
 refine qK .chn (some 6) [(2, .qui), (4, .chn), (5, .qui), (6, .qui), (7, .qui)] 40 #[.agg (msgV m ma0 mk0 ma1 mk1 ma2 mk2 ma3 mk3 ma4 mk4).toArray] (put_spec (m := m) hm (H.rp 0 rfl) (H.rp 1 rfl) (H.rp 2 rfl)) ?_
 rintro v7 w6 - H'
 have H := H.back (M1 := []) (W1 := []) H'
 obtain ⟨a8, c9, rfl, hc10, hm11⟩ := H.ownForm 0 rfl
 have H : Hp w S [] [(b3, .cells (msgV m nma0 nmk0 nma1 nmk1 nma2 nmk2 nma3 nmk3 nma4 nmk4).toArray 89 (0, 0)), (b1, .cells (msgV m ma0 mk0 ma1 mk1 ma2 mk2 ma3 mk3 ma4 mk4).toArray 89 (0, 0))] [⟨Sb, 5, .slice a8 (msgE m).length c9, msgE m⟩] [Rp Li [.slice ma1 m.conf.voters.length mk1] m.conf.voters, Rp Li [.slice ma2 m.conf.learners.length mk2] m.conf.learners, Rp SB [.slice ma3 m.data.length mk3] m.data, Rp Li [.slice nma1 m.conf.voters.length nmk1] m.conf.voters, Rp Li [.slice nma2 m.conf.learners.length nmk2] m.conf.learners, Rp SB [.slice nma3 m.data.length nmk3] m.data] _ := H
 refine RW.toStr (κ := .qui) (d := some 7) (r := [(4, .chn), (5, .qui), (6, .qui), (7, .qui)]) (Ts := 62) (Td := 9) 5 (a := a8) (len := (msgE m).length) (cap := c9) (xs := msgE m) (by as_aux_lemma => kernel_rfl) (by as_aux_lemma => kernel_rfl) (H.view 0 rfl) ?_
 refine qK .chn (some 9) (qs [5, 6, 7]) 40 #[.agg (msgV m nma0 nmk0 nma1 nmk1 nma2 nmk2 nma3 nmk3 nma4 nmk4).toArray] (put_spec (m := m) hm (H.rp 3 rfl) (H.rp 4 rfl) (H.rp 5 rfl)) ?_
 rintro v13 w12 - H'
 have H := H.back (M1 := []) (W1 := []) H'
 obtain ⟨a14, c15, rfl, hc16, hm17⟩ := H.ownForm 0 rfl
 have H : Hp w S [] [(b3, .cells (msgV m nma0 nmk0 nma1 nmk1 nma2 nmk2 nma3 nmk3 nma4 nmk4).toArray 89 (0, 0)), (b1, .cells (msgV m ma0 mk0 ma1 mk1 ma2 mk2 ma3 mk3 ma4 mk4).toArray 89 (0, 0))] [⟨Sb, 5, .slice a14 (msgE m).length c15, msgE m⟩, ⟨Sb, 5, .slice a8 (msgE m).length c9, msgE m⟩] [Rp Li [.slice ma1 m.conf.voters.length mk1] m.conf.voters, Rp Li [.slice ma2 m.conf.learners.length mk2] m.conf.learners, Rp SB [.slice ma3 m.data.length mk3] m.data, Rp Li [.slice nma1 m.conf.voters.length nmk1] m.conf.voters, Rp Li [.slice nma2 m.conf.learners.length nmk2] m.conf.learners, Rp SB [.slice nma3 m.data.length nmk3] m.data] _ := H
 refine RW.toStr (κ := .qui) (d := some 10) (r := (qs [6, 7])) (Ts := 62) (Td := 9) 5 (a := a14) (len := (msgE m).length) (cap := c15) (xs := msgE m) (by as_aux_lemma => kernel_rfl) (by as_aux_lemma => kernel_rfl) (H.view 0 rfl) ?_
 refine qF 2 [(4, .bool ((strOf (msgE m)).toList == (strOf (msgE m)).toList))] ?_
 refine qT (.bool ((strOf (msgE m)).toList == (strOf (msgE m)).toList)) Tryz.func23 ?_
 refine ⟨_, rfl, H.done, ?_⟩
 simp
end Go.Proofs.YtppcdmbkgficiaaGreat
