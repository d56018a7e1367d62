import Derived.Test.YtppcdmbkgficiaaA3
namespace Go.Proofs.Ytppcdmbkgficiaa
open Go.BX

def msgE (m : Msg) : List (BitVec 8) := intE m.kind ++ (intE m.frm ++ (intE m.to ++ (num m.term.toNat ++ (num m.index.toNat ++ (num m.logTerm.toNat ++ (num m.commit.toNat ++ (num m.ctx.toNat ++ (flagE m.ok ++ (flagE m.force ++ (num m.entries.length ++ (confE m.conf ++ (hdrE m.head ++ (bytesE m.data ++ (num m.client.toNat ++ (num m.seq.toNat ++ (intE m.op ++ (textE m.key ++ (intE m.code ++ (num m.names.length)))))))))))))))))))
structure MsgOk (m : Msg) : Prop where
  ents : m.entries.length = 0
  nms : m.names.length = 0
  ints : (-9223372036854775808 ≤ m.kind ∧ m.kind ≤ 9223372036854775807) ∧ (-9223372036854775808 ≤ m.frm ∧ m.frm ≤ 9223372036854775807) ∧ (-9223372036854775808 ≤ m.to ∧ m.to ≤ 9223372036854775807) ∧ (0 ≤ m.term ∧ m.term ≤ 18446744073709551615) ∧ (0 ≤ m.index ∧ m.index ≤ 18446744073709551615) ∧ (0 ≤ m.logTerm ∧ m.logTerm ≤ 18446744073709551615) ∧ (0 ≤ m.commit ∧ m.commit ≤ 18446744073709551615) ∧ (0 ≤ m.ctx ∧ m.ctx ≤ 18446744073709551615) ∧ (0 ≤ m.client ∧ m.client ≤ 18446744073709551615) ∧ (0 ≤ m.seq ∧ m.seq ≤ 18446744073709551615) ∧ (-9223372036854775808 ≤ m.op ∧ m.op ≤ 9223372036854775807) ∧ (-9223372036854775808 ≤ m.code ∧ m.code ≤ 9223372036854775807)
  head : HdrOk m.head
  key : m.key.size ≤ 1000000
  data : m.data.length ≤ 1000000
  conf : m.conf.voters.length + m.conf.learners.length ≤ 1000000

theorem fields_spec {S : Nat → Prop} {w : World} {O : List Nat} {bp : Nat} {xs : List (BitVec 8)} {a : Option Addr} {c : Nat} {m : Msg} {ma0 ma1 ma2 ma3 ma4 : Option Addr} {mk0 mk1 mk2 mk3 mk4 : Nat} (hm : MsgOk m) (H0 : Hp w S O [(bp, .cells #[.slice a xs.length c, .int .i64 0, .bool true, .bool false] 183 (0, 0))] [⟨Shape.bv .u8 8, 5, .slice a xs.length c, xs⟩] [Rp (Shape.slice (Shape.int .i64)) [.slice ma1 m.conf.voters.length mk1] m.conf.voters, Rp (Shape.slice (Shape.int .i64)) [.slice ma2 m.conf.learners.length mk2] m.conf.learners, Rp (Shape.slice (Shape.bv .u8 8)) [.slice ma3 m.data.length mk3] m.data] w) (hby : xs.length ≤ 1000000) :
    Calls Try.prog 93 #[.pointer (some ⟨bp, 0, none⟩), .agg (msgV m ma0 mk0 ma1 mk1 ma2 mk2 ma3 mk3 ma4 mk4).toArray] w (Ret fun v w' => ∃ (a' : Option Addr) (c' : Nat), Hp w S O [(bp, .cells #[.slice a' ((xs ++ msgE m).length) c', .int .i64 0, .bool true, .bool false] 183 (0, 0))] [⟨Shape.bv .u8 8, 5, .slice a' ((xs ++ msgE m).length) c', (xs ++ msgE m)⟩] [] w') := by
  obtain ⟨hm1, hm2, hmi, hmh, hmk, hmd, hmc⟩ := hm
  obtain ⟨hb0, hb1, hb2, hb3, hb4, hb5, hb6, hb7, hb8, hb9, hb10, hb11⟩ := hmi
  have hkey : m.key.size ≤ maxLen := by unfold maxLen; omega
  have ht0 : (intE m.kind).length ≤ 10 := intE_ten (by omega)
  have ht1 : (intE m.frm).length ≤ 10 := intE_ten (by omega)
  have ht2 : (intE m.to).length ≤ 10 := intE_ten (by omega)
  have ht3 : (num m.term.toNat).length ≤ 10 := num_ten (by omega)
  have ht4 : (num m.index.toNat).length ≤ 10 := num_ten (by omega)
  have ht5 : (num m.logTerm.toNat).length ≤ 10 := num_ten (by omega)
  have ht6 : (num m.commit.toNat).length ≤ 10 := num_ten (by omega)
  have ht7 : (num m.ctx.toNat).length ≤ 10 := num_ten (by omega)
  have ht10 : (num m.entries.length).length ≤ 10 := num_ten (by omega)
  have ht14 : (num m.client.toNat).length ≤ 10 := num_ten (by omega)
  have ht15 : (num m.seq.toNat).length ≤ 10 := num_ten (by omega)
  have ht16 : (intE m.op).length ≤ 10 := intE_ten (by omega)
  have ht18 : (intE m.code).length ≤ 10 := intE_ten (by omega)
  have ht19 : (num m.names.length).length ≤ 10 := num_ten (by omega)
  have ht8 := flagE_len m.ok
  have ht9 := flagE_len m.force
  have ht12 := hdrE_len hmh
  have ht13 : (bytesE m.data).length ≤ m.data.length + 10 := by unfold bytesE; rw [List.length_append]; have : (num m.data.length).length ≤ 10 := num_ten (by omega); omega
  have ht17 : (textE m.key).length ≤ m.key.size + 10 := by unfold textE bytesE; rw [List.length_append, bytesOf_len]; have : (num m.key.size).length ≤ 10 := num_ten (by omega); omega
  have ht11 : (confE m.conf).length ≤ 10 * (m.conf.voters.length + m.conf.learners.length + 4) := by
      have q1 := intsE_len (rep_ints (H0.rp 0 rfl))
      have q2 := intsE_len (rep_ints (H0.rp 1 rfl))
      have q3 : (num m.conf.voters.length).length ≤ 10 := num_ten (by omega)
      have q4 : (num m.conf.learners.length).length ≤ 10 := num_ten (by omega)
      unfold confE
      simp only [List.length_append]
      omega
  refine WK.calls1 (fn := Try.f93) (n := 140) (σ := [(0, .pointer (some ⟨bp, 0, none⟩)), (1, .agg (msgV m ma0 mk0 ma1 mk1 ma2 mk2 ma3 mk3 ma4 mk4).toArray)]) Try.func93 rfl (by as_aux_lemma => kernel_rfl) (by as_aux_lemma => kernel_rfl) (by as_aux_lemma => kernel_rfl) ?_
  have H := H0
  refine WK.run 1 [0, 1] [.code (cd Try.prog 93 [0]), .code (cd Try.prog 93 [1])] [(0, .pointer (some ⟨bp, 0, none⟩)), (1, .agg (msgV m ma0 mk0 ma1 mk1 ma2 mk2 ma3 mk3 ma4 mk4).toArray)] (by as_aux_lemma => kernel_rfl) ?_
  refine WK.reg1 (l := sq 0 2) (by as_aux_lemma => kernel_rfl) (by as_aux_lemma => kernel_rfl) ?_
  refine RW.new (κ := .seq) (d := some 3) (r := (sq 1 2)) (o := .cells (msgV m ma0 mk0 ma1 mk1 ma2 mk2 ma3 mk3 ma4 mk4).toArray 57 (0, 0)) (v := fun b => .pointer (some ⟨b, 0, none⟩)) (fun b => by as_aux_lemma => kernel_rfl) (nofun) H ?_
  intro b1 w2 H
  refine RW.new (κ := .seq) (d := some 4) (r := (sq 2 2)) (o := .cells (msgZ).toArray 57 (0, 0)) (v := fun b => .pointer (some ⟨b, 0, none⟩)) (fun b => by as_aux_lemma => kernel_rfl) (nofun) H ?_
  intro b3 w4 H
  refine RW.fin 0 [0, 3, 4] [(0, .pointer (some ⟨bp, 0, none⟩)), (3, .pointer (some ⟨b1, 0, none⟩)), (4, .pointer (some ⟨b3, 0, none⟩))] (by as_aux_lemma => kernel_rfl) ?_
  refine WK.run 1 [0, 3, 4] [.code (cd Try.prog 93 [1, 0]), .code (cd Try.prog 93 [2])] [(0, .pointer (some ⟨bp, 0, none⟩)), (3, .pointer (some ⟨b1, 0, none⟩)), (4, .pointer (some ⟨b3, 0, none⟩))] (by as_aux_lemma => kernel_rfl) ?_
  refine WK.reg1 (l := sq 0 6) (by as_aux_lemma => kernel_rfl) (by as_aux_lemma => kernel_rfl) ?_
  refine RW.runP 2 [0, 3, 4, 9, 10] (sq 2 6) [(0, .pointer (some ⟨bp, 0, none⟩)), (3, .pointer (some ⟨b1, 0, none⟩)), (4, .pointer (some ⟨b3, 0, none⟩)), (9, .pointer (some ⟨bp, 0, none⟩)), (10, .pointer (some ⟨b1, 0, none⟩))] (by as_aux_lemma => kernel_rfl) (by as_aux_lemma => kernel_rfl) ?_
  refine RW.load (κ := .seq) (d := some 11) (r := (sq 3 6)) (T := 45) (b := b1) (o' := 0) (k := 0) (v := .int .i64 m.kind) (by as_aux_lemma => kernel_rfl) (H.cells 1 rfl) rfl (by as_aux_lemma => kernel_rfl) ?_
  have H := H.perms (M' := [(bp, .cells #[.slice a xs.length c, .int .i64 0, .bool true, .bool false] 183 (0, 0)), (b3, .cells (msgZ).toArray 57 (0, 0)), (b1, .cells (msgV m ma0 mk0 ma1 mk1 ma2 mk2 ma3 mk3 ma4 mk4).toArray 57 (0, 0))]) (W' := [⟨Shape.bv .u8 8, 5, .slice a xs.length c, xs⟩]) (List.perm_middle (l₁ := ([(b3, .cells (msgZ).toArray 57 (0, 0)), (b1, .cells (msgV m ma0 mk0 ma1 mk1 ma2 mk2 ma3 mk3 ma4 mk4).toArray 57 (0, 0))] : Heap))).symm (List.Perm.refl _)
  refine RW.callS (d := some 12) (r := (sq 4 6)) (g := 111) (args := #[.pointer (some ⟨bp, 0, none⟩), .int .i64 m.kind]) (by as_aux_lemma => kernel_rfl) (int_spec (x := m.kind) (by omega) ((H.lend (M1 := [(bp, .cells #[.slice a xs.length c, .int .i64 0, .bool true, .bool false] 183 (0, 0))]) (W1 := [⟨Shape.bv .u8 8, 5, .slice a xs.length c, xs⟩])).pick [] rfl) (by first | omega | (simp only [List.length_append, List.length_nil]; omega))) ?_
  rintro _ w5 ⟨a7, c8, rfl, H'⟩
  have H := H.back (M1 := [(bp, .cells #[.slice a xs.length c, .int .i64 0, .bool true, .bool false] 183 (0, 0))]) (W1 := [⟨Shape.bv .u8 8, 5, .slice a xs.length c, xs⟩]) H'
  have H : Hp w S O [(bp, .cells #[.slice a7 ((xs ++ intE m.kind).length) c8, .int .i64 0, .bool true, .bool false] 183 (0, 0)), (b3, .cells (msgZ).toArray 57 (0, 0)), (b1, .cells (msgV m ma0 mk0 ma1 mk1 ma2 mk2 ma3 mk3 ma4 mk4).toArray 57 (0, 0))] [⟨Shape.bv .u8 8, 5, .slice a7 ((xs ++ intE m.kind).length) c8, (xs ++ intE m.kind)⟩] [Rp (Shape.slice (Shape.int .i64)) [.slice ma1 m.conf.voters.length mk1] m.conf.voters, Rp (Shape.slice (Shape.int .i64)) [.slice ma2 m.conf.learners.length mk2] m.conf.learners, Rp (Shape.slice (Shape.bv .u8 8)) [.slice ma3 m.data.length mk3] m.data] _ := H
  obtain ⟨z10, hz10⟩ : ∃ z, z = (xs ++ intE m.kind) := ⟨_, rfl⟩
  rw [← hz10] at H
  have hlz10 := congrArg List.length hz10
  rw [List.length_append] at hlz10
  refine RW.runP 1 [0, 3, 4, 12, 13] (sq 5 6) [(0, .pointer (some ⟨bp, 0, none⟩)), (3, .pointer (some ⟨b1, 0, none⟩)), (4, .pointer (some ⟨b3, 0, none⟩)), (12, .int .i64 m.kind), (13, .pointer (some ⟨b1, 0, none⟩))] (by as_aux_lemma => kernel_rfl) (by as_aux_lemma => kernel_rfl) ?_
  refine RW.store (d := none) (r := (sq 6 6)) (T := 45) (b := b1) (k := 0) (v := .int .i64 m.kind) (c' := (msgV m ma0 mk0 ma1 mk1 ma2 mk2 ma3 mk3 ma4 mk4).toArray) (M' := [(bp, .cells #[.slice a7 z10.length c8, .int .i64 0, .bool true, .bool false] 183 (0, 0)), (b3, .cells (msgZ).toArray 57 (0, 0)), (b1, .cells (msgV m ma0 mk0 ma1 mk1 ma2 mk2 ma3 mk3 ma4 mk4).toArray 57 (0, 0))]) (by as_aux_lemma => kernel_rfl) H 2 rfl (by as_aux_lemma => kernel_rfl) (by as_aux_lemma => kernel_rfl) ?_
  intro w11 H
  refine RW.fin 0 [0, 3, 4] [(0, .pointer (some ⟨bp, 0, none⟩)), (3, .pointer (some ⟨b1, 0, none⟩)), (4, .pointer (some ⟨b3, 0, none⟩))] (by as_aux_lemma => kernel_rfl) ?_
  refine WK.run 1 [0, 3, 4] [.code (cd Try.prog 93 [2, 0]), .code (cd Try.prog 93 [3])] [(0, .pointer (some ⟨bp, 0, none⟩)), (3, .pointer (some ⟨b1, 0, none⟩)), (4, .pointer (some ⟨b3, 0, none⟩))] (by as_aux_lemma => kernel_rfl) ?_
  refine WK.reg1 (l := sq 0 6) (by as_aux_lemma => kernel_rfl) (by as_aux_lemma => kernel_rfl) ?_
  refine RW.runP 2 [0, 3, 4, 14, 15] (sq 2 6) [(0, .pointer (some ⟨bp, 0, none⟩)), (3, .pointer (some ⟨b1, 0, none⟩)), (4, .pointer (some ⟨b3, 0, none⟩)), (14, .pointer (some ⟨bp, 0, none⟩)), (15, .pointer (some ⟨b1, 1, none⟩))] (by as_aux_lemma => kernel_rfl) (by as_aux_lemma => kernel_rfl) ?_
  refine RW.load (κ := .seq) (d := some 16) (r := (sq 3 6)) (T := 3) (b := b1) (o' := 1) (k := 1) (v := .int .i64 m.frm) (by as_aux_lemma => kernel_rfl) (H.cells 2 rfl) rfl (by as_aux_lemma => kernel_rfl) ?_
  refine RW.callS (d := some 17) (r := (sq 4 6)) (g := 111) (args := #[.pointer (some ⟨bp, 0, none⟩), .int .i64 m.frm]) (by as_aux_lemma => kernel_rfl) (int_spec (x := m.frm) (by omega) ((H.lend (M1 := [(bp, .cells #[.slice a7 z10.length c8, .int .i64 0, .bool true, .bool false] 183 (0, 0))]) (W1 := [⟨Shape.bv .u8 8, 5, .slice a7 z10.length c8, z10⟩])).pick [] rfl) (by first | omega | (simp only [List.length_append, List.length_nil]; omega))) ?_
  rintro _ w12 ⟨a14, c15, rfl, H'⟩
  have H := H.back (M1 := [(bp, .cells #[.slice a7 z10.length c8, .int .i64 0, .bool true, .bool false] 183 (0, 0))]) (W1 := [⟨Shape.bv .u8 8, 5, .slice a7 z10.length c8, z10⟩]) H'
  have H : Hp w S O [(bp, .cells #[.slice a14 ((z10 ++ intE m.frm).length) c15, .int .i64 0, .bool true, .bool false] 183 (0, 0)), (b3, .cells (msgZ).toArray 57 (0, 0)), (b1, .cells (msgV m ma0 mk0 ma1 mk1 ma2 mk2 ma3 mk3 ma4 mk4).toArray 57 (0, 0))] [⟨Shape.bv .u8 8, 5, .slice a14 ((z10 ++ intE m.frm).length) c15, (z10 ++ intE m.frm)⟩] [Rp (Shape.slice (Shape.int .i64)) [.slice ma1 m.conf.voters.length mk1] m.conf.voters, Rp (Shape.slice (Shape.int .i64)) [.slice ma2 m.conf.learners.length mk2] m.conf.learners, Rp (Shape.slice (Shape.bv .u8 8)) [.slice ma3 m.data.length mk3] m.data] _ := H
  obtain ⟨z17, hz17⟩ : ∃ z, z = (z10 ++ intE m.frm) := ⟨_, rfl⟩
  rw [← hz17] at H
  have hlz17 := congrArg List.length hz17
  rw [List.length_append] at hlz17
  refine RW.runP 1 [0, 3, 4, 17, 18] (sq 5 6) [(0, .pointer (some ⟨bp, 0, none⟩)), (3, .pointer (some ⟨b1, 0, none⟩)), (4, .pointer (some ⟨b3, 0, none⟩)), (17, .int .i64 m.frm), (18, .pointer (some ⟨b1, 1, none⟩))] (by as_aux_lemma => kernel_rfl) (by as_aux_lemma => kernel_rfl) ?_
  refine RW.store (d := none) (r := (sq 6 6)) (T := 3) (b := b1) (k := 1) (v := .int .i64 m.frm) (c' := (msgV m ma0 mk0 ma1 mk1 ma2 mk2 ma3 mk3 ma4 mk4).toArray) (M' := [(bp, .cells #[.slice a14 z17.length c15, .int .i64 0, .bool true, .bool false] 183 (0, 0)), (b3, .cells (msgZ).toArray 57 (0, 0)), (b1, .cells (msgV m ma0 mk0 ma1 mk1 ma2 mk2 ma3 mk3 ma4 mk4).toArray 57 (0, 0))]) (by as_aux_lemma => kernel_rfl) H 2 rfl (by as_aux_lemma => kernel_rfl) (by as_aux_lemma => kernel_rfl) ?_
  intro w18 H
  refine RW.fin 0 [0, 3, 4] [(0, .pointer (some ⟨bp, 0, none⟩)), (3, .pointer (some ⟨b1, 0, none⟩)), (4, .pointer (some ⟨b3, 0, none⟩))] (by as_aux_lemma => kernel_rfl) ?_
  refine WK.run 1 [0, 3, 4] [.code (cd Try.prog 93 [3, 0]), .code (cd Try.prog 93 [4])] [(0, .pointer (some ⟨bp, 0, none⟩)), (3, .pointer (some ⟨b1, 0, none⟩)), (4, .pointer (some ⟨b3, 0, none⟩))] (by as_aux_lemma => kernel_rfl) ?_
  refine WK.reg1 (l := sq 0 6) (by as_aux_lemma => kernel_rfl) (by as_aux_lemma => kernel_rfl) ?_
  refine RW.runP 2 [0, 3, 4, 19, 20] (sq 2 6) [(0, .pointer (some ⟨bp, 0, none⟩)), (3, .pointer (some ⟨b1, 0, none⟩)), (4, .pointer (some ⟨b3, 0, none⟩)), (19, .pointer (some ⟨bp, 0, none⟩)), (20, .pointer (some ⟨b1, 2, none⟩))] (by as_aux_lemma => kernel_rfl) (by as_aux_lemma => kernel_rfl) ?_
  refine RW.load (κ := .seq) (d := some 21) (r := (sq 3 6)) (T := 3) (b := b1) (o' := 2) (k := 2) (v := .int .i64 m.to) (by as_aux_lemma => kernel_rfl) (H.cells 2 rfl) rfl (by as_aux_lemma => kernel_rfl) ?_
  refine RW.callS (d := some 22) (r := (sq 4 6)) (g := 111) (args := #[.pointer (some ⟨bp, 0, none⟩), .int .i64 m.to]) (by as_aux_lemma => kernel_rfl) (int_spec (x := m.to) (by omega) ((H.lend (M1 := [(bp, .cells #[.slice a14 z17.length c15, .int .i64 0, .bool true, .bool false] 183 (0, 0))]) (W1 := [⟨Shape.bv .u8 8, 5, .slice a14 z17.length c15, z17⟩])).pick [] rfl) (by first | omega | (simp only [List.length_append, List.length_nil]; omega))) ?_
  rintro _ w19 ⟨a21, c22, rfl, H'⟩
  have H := H.back (M1 := [(bp, .cells #[.slice a14 z17.length c15, .int .i64 0, .bool true, .bool false] 183 (0, 0))]) (W1 := [⟨Shape.bv .u8 8, 5, .slice a14 z17.length c15, z17⟩]) H'
  have H : Hp w S O [(bp, .cells #[.slice a21 ((z17 ++ intE m.to).length) c22, .int .i64 0, .bool true, .bool false] 183 (0, 0)), (b3, .cells (msgZ).toArray 57 (0, 0)), (b1, .cells (msgV m ma0 mk0 ma1 mk1 ma2 mk2 ma3 mk3 ma4 mk4).toArray 57 (0, 0))] [⟨Shape.bv .u8 8, 5, .slice a21 ((z17 ++ intE m.to).length) c22, (z17 ++ intE m.to)⟩] [Rp (Shape.slice (Shape.int .i64)) [.slice ma1 m.conf.voters.length mk1] m.conf.voters, Rp (Shape.slice (Shape.int .i64)) [.slice ma2 m.conf.learners.length mk2] m.conf.learners, Rp (Shape.slice (Shape.bv .u8 8)) [.slice ma3 m.data.length mk3] m.data] _ := H
  obtain ⟨z24, hz24⟩ : ∃ z, z = (z17 ++ intE m.to) := ⟨_, rfl⟩
  rw [← hz24] at H
  have hlz24 := congrArg List.length hz24
  rw [List.length_append] at hlz24
  refine RW.runP 1 [0, 3, 4, 22, 23] (sq 5 6) [(0, .pointer (some ⟨bp, 0, none⟩)), (3, .pointer (some ⟨b1, 0, none⟩)), (4, .pointer (some ⟨b3, 0, none⟩)), (22, .int .i64 m.to), (23, .pointer (some ⟨b1, 2, none⟩))] (by as_aux_lemma => kernel_rfl) (by as_aux_lemma => kernel_rfl) ?_
  refine RW.store (d := none) (r := (sq 6 6)) (T := 3) (b := b1) (k := 2) (v := .int .i64 m.to) (c' := (msgV m ma0 mk0 ma1 mk1 ma2 mk2 ma3 mk3 ma4 mk4).toArray) (M' := [(bp, .cells #[.slice a21 z24.length c22, .int .i64 0, .bool true, .bool false] 183 (0, 0)), (b3, .cells (msgZ).toArray 57 (0, 0)), (b1, .cells (msgV m ma0 mk0 ma1 mk1 ma2 mk2 ma3 mk3 ma4 mk4).toArray 57 (0, 0))]) (by as_aux_lemma => kernel_rfl) H 2 rfl (by as_aux_lemma => kernel_rfl) (by as_aux_lemma => kernel_rfl) ?_
  intro w25 H
  refine RW.fin 0 [0, 3, 4] [(0, .pointer (some ⟨bp, 0, none⟩)), (3, .pointer (some ⟨b1, 0, none⟩)), (4, .pointer (some ⟨b3, 0, none⟩))] (by as_aux_lemma => kernel_rfl) ?_
  refine WK.run 1 [0, 3, 4] [.code (cd Try.prog 93 [4, 0]), .code (cd Try.prog 93 [5])] [(0, .pointer (some ⟨bp, 0, none⟩)), (3, .pointer (some ⟨b1, 0, none⟩)), (4, .pointer (some ⟨b3, 0, none⟩))] (by as_aux_lemma => kernel_rfl) ?_
  refine WK.reg1 (l := sq 0 6) (by as_aux_lemma => kernel_rfl) (by as_aux_lemma => kernel_rfl) ?_
  refine RW.runP 2 [0, 3, 4, 24, 25] (sq 2 6) [(0, .pointer (some ⟨bp, 0, none⟩)), (3, .pointer (some ⟨b1, 0, none⟩)), (4, .pointer (some ⟨b3, 0, none⟩)), (24, .pointer (some ⟨bp, 0, none⟩)), (25, .pointer (some ⟨b1, 3, none⟩))] (by as_aux_lemma => kernel_rfl) (by as_aux_lemma => kernel_rfl) ?_
  refine RW.load (κ := .seq) (d := some 26) (r := (sq 3 6)) (T := 22) (b := b1) (o' := 3) (k := 3) (v := .int .u64 m.term) (by as_aux_lemma => kernel_rfl) (H.cells 2 rfl) rfl (by as_aux_lemma => kernel_rfl) ?_
  refine RW.callS (d := some 27) (r := (sq 4 6)) (g := 112) (args := #[.pointer (some ⟨bp, 0, none⟩), .int .u64 m.term]) (by as_aux_lemma => kernel_rfl) (u64_spec (x := m.term) (by omega) ((H.lend (M1 := [(bp, .cells #[.slice a21 z24.length c22, .int .i64 0, .bool true, .bool false] 183 (0, 0))]) (W1 := [⟨Shape.bv .u8 8, 5, .slice a21 z24.length c22, z24⟩])).pick [] rfl) (by first | omega | (simp only [List.length_append, List.length_nil]; omega))) ?_
  rintro _ w26 ⟨a28, c29, rfl, H'⟩
  have H := H.back (M1 := [(bp, .cells #[.slice a21 z24.length c22, .int .i64 0, .bool true, .bool false] 183 (0, 0))]) (W1 := [⟨Shape.bv .u8 8, 5, .slice a21 z24.length c22, z24⟩]) H'
  have H : Hp w S O [(bp, .cells #[.slice a28 ((z24 ++ num m.term.toNat).length) c29, .int .i64 0, .bool true, .bool false] 183 (0, 0)), (b3, .cells (msgZ).toArray 57 (0, 0)), (b1, .cells (msgV m ma0 mk0 ma1 mk1 ma2 mk2 ma3 mk3 ma4 mk4).toArray 57 (0, 0))] [⟨Shape.bv .u8 8, 5, .slice a28 ((z24 ++ num m.term.toNat).length) c29, (z24 ++ num m.term.toNat)⟩] [Rp (Shape.slice (Shape.int .i64)) [.slice ma1 m.conf.voters.length mk1] m.conf.voters, Rp (Shape.slice (Shape.int .i64)) [.slice ma2 m.conf.learners.length mk2] m.conf.learners, Rp (Shape.slice (Shape.bv .u8 8)) [.slice ma3 m.data.length mk3] m.data] _ := H
  obtain ⟨z31, hz31⟩ : ∃ z, z = (z24 ++ num m.term.toNat) := ⟨_, rfl⟩
  rw [← hz31] at H
  have hlz31 := congrArg List.length hz31
  rw [List.length_append] at hlz31
  refine RW.runP 1 [0, 3, 4, 27, 28] (sq 5 6) [(0, .pointer (some ⟨bp, 0, none⟩)), (3, .pointer (some ⟨b1, 0, none⟩)), (4, .pointer (some ⟨b3, 0, none⟩)), (27, .int .u64 m.term), (28, .pointer (some ⟨b1, 3, none⟩))] (by as_aux_lemma => kernel_rfl) (by as_aux_lemma => kernel_rfl) ?_
  refine RW.store (d := none) (r := (sq 6 6)) (T := 22) (b := b1) (k := 3) (v := .int .u64 m.term) (c' := (msgV m ma0 mk0 ma1 mk1 ma2 mk2 ma3 mk3 ma4 mk4).toArray) (M' := [(bp, .cells #[.slice a28 z31.length c29, .int .i64 0, .bool true, .bool false] 183 (0, 0)), (b3, .cells (msgZ).toArray 57 (0, 0)), (b1, .cells (msgV m ma0 mk0 ma1 mk1 ma2 mk2 ma3 mk3 ma4 mk4).toArray 57 (0, 0))]) (by as_aux_lemma => kernel_rfl) H 2 rfl (by as_aux_lemma => kernel_rfl) (by as_aux_lemma => kernel_rfl) ?_
  intro w32 H
  refine RW.fin 0 [0, 3, 4] [(0, .pointer (some ⟨bp, 0, none⟩)), (3, .pointer (some ⟨b1, 0, none⟩)), (4, .pointer (some ⟨b3, 0, none⟩))] (by as_aux_lemma => kernel_rfl) ?_
  refine WK.run 1 [0, 3, 4] [.code (cd Try.prog 93 [5, 0]), .code (cd Try.prog 93 [6])] [(0, .pointer (some ⟨bp, 0, none⟩)), (3, .pointer (some ⟨b1, 0, none⟩)), (4, .pointer (some ⟨b3, 0, none⟩))] (by as_aux_lemma => kernel_rfl) ?_
  refine WK.reg1 (l := sq 0 6) (by as_aux_lemma => kernel_rfl) (by as_aux_lemma => kernel_rfl) ?_
  refine RW.runP 2 [0, 3, 4, 29, 30] (sq 2 6) [(0, .pointer (some ⟨bp, 0, none⟩)), (3, .pointer (some ⟨b1, 0, none⟩)), (4, .pointer (some ⟨b3, 0, none⟩)), (29, .pointer (some ⟨bp, 0, none⟩)), (30, .pointer (some ⟨b1, 4, none⟩))] (by as_aux_lemma => kernel_rfl) (by as_aux_lemma => kernel_rfl) ?_
  refine RW.load (κ := .seq) (d := some 31) (r := (sq 3 6)) (T := 22) (b := b1) (o' := 4) (k := 4) (v := .int .u64 m.index) (by as_aux_lemma => kernel_rfl) (H.cells 2 rfl) rfl (by as_aux_lemma => kernel_rfl) ?_
  refine RW.callS (d := some 32) (r := (sq 4 6)) (g := 112) (args := #[.pointer (some ⟨bp, 0, none⟩), .int .u64 m.index]) (by as_aux_lemma => kernel_rfl) (u64_spec (x := m.index) (by omega) ((H.lend (M1 := [(bp, .cells #[.slice a28 z31.length c29, .int .i64 0, .bool true, .bool false] 183 (0, 0))]) (W1 := [⟨Shape.bv .u8 8, 5, .slice a28 z31.length c29, z31⟩])).pick [] rfl) (by first | omega | (simp only [List.length_append, List.length_nil]; omega))) ?_
  rintro _ w33 ⟨a35, c36, rfl, H'⟩
  have H := H.back (M1 := [(bp, .cells #[.slice a28 z31.length c29, .int .i64 0, .bool true, .bool false] 183 (0, 0))]) (W1 := [⟨Shape.bv .u8 8, 5, .slice a28 z31.length c29, z31⟩]) H'
  have H : Hp w S O [(bp, .cells #[.slice a35 ((z31 ++ num m.index.toNat).length) c36, .int .i64 0, .bool true, .bool false] 183 (0, 0)), (b3, .cells (msgZ).toArray 57 (0, 0)), (b1, .cells (msgV m ma0 mk0 ma1 mk1 ma2 mk2 ma3 mk3 ma4 mk4).toArray 57 (0, 0))] [⟨Shape.bv .u8 8, 5, .slice a35 ((z31 ++ num m.index.toNat).length) c36, (z31 ++ num m.index.toNat)⟩] [Rp (Shape.slice (Shape.int .i64)) [.slice ma1 m.conf.voters.length mk1] m.conf.voters, Rp (Shape.slice (Shape.int .i64)) [.slice ma2 m.conf.learners.length mk2] m.conf.learners, Rp (Shape.slice (Shape.bv .u8 8)) [.slice ma3 m.data.length mk3] m.data] _ := H
  obtain ⟨z38, hz38⟩ : ∃ z, z = (z31 ++ num m.index.toNat) := ⟨_, rfl⟩
  rw [← hz38] at H
  have hlz38 := congrArg List.length hz38
  rw [List.length_append] at hlz38
  refine RW.runP 1 [0, 3, 4, 32, 33] (sq 5 6) [(0, .pointer (some ⟨bp, 0, none⟩)), (3, .pointer (some ⟨b1, 0, none⟩)), (4, .pointer (some ⟨b3, 0, none⟩)), (32, .int .u64 m.index), (33, .pointer (some ⟨b1, 4, none⟩))] (by as_aux_lemma => kernel_rfl) (by as_aux_lemma => kernel_rfl) ?_
  refine RW.store (d := none) (r := (sq 6 6)) (T := 22) (b := b1) (k := 4) (v := .int .u64 m.index) (c' := (msgV m ma0 mk0 ma1 mk1 ma2 mk2 ma3 mk3 ma4 mk4).toArray) (M' := [(bp, .cells #[.slice a35 z38.length c36, .int .i64 0, .bool true, .bool false] 183 (0, 0)), (b3, .cells (msgZ).toArray 57 (0, 0)), (b1, .cells (msgV m ma0 mk0 ma1 mk1 ma2 mk2 ma3 mk3 ma4 mk4).toArray 57 (0, 0))]) (by as_aux_lemma => kernel_rfl) H 2 rfl (by as_aux_lemma => kernel_rfl) (by as_aux_lemma => kernel_rfl) ?_
  intro w39 H
  refine RW.fin 0 [0, 3, 4] [(0, .pointer (some ⟨bp, 0, none⟩)), (3, .pointer (some ⟨b1, 0, none⟩)), (4, .pointer (some ⟨b3, 0, none⟩))] (by as_aux_lemma => kernel_rfl) ?_
  refine WK.run 1 [0, 3, 4] [.code (cd Try.prog 93 [6, 0]), .code (cd Try.prog 93 [7])] [(0, .pointer (some ⟨bp, 0, none⟩)), (3, .pointer (some ⟨b1, 0, none⟩)), (4, .pointer (some ⟨b3, 0, none⟩))] (by as_aux_lemma => kernel_rfl) ?_
  refine WK.reg1 (l := sq 0 6) (by as_aux_lemma => kernel_rfl) (by as_aux_lemma => kernel_rfl) ?_
  refine RW.runP 2 [0, 3, 4, 34, 35] (sq 2 6) [(0, .pointer (some ⟨bp, 0, none⟩)), (3, .pointer (some ⟨b1, 0, none⟩)), (4, .pointer (some ⟨b3, 0, none⟩)), (34, .pointer (some ⟨bp, 0, none⟩)), (35, .pointer (some ⟨b1, 5, none⟩))] (by as_aux_lemma => kernel_rfl) (by as_aux_lemma => kernel_rfl) ?_
  refine RW.load (κ := .seq) (d := some 36) (r := (sq 3 6)) (T := 22) (b := b1) (o' := 5) (k := 5) (v := .int .u64 m.logTerm) (by as_aux_lemma => kernel_rfl) (H.cells 2 rfl) rfl (by as_aux_lemma => kernel_rfl) ?_
  refine RW.callS (d := some 37) (r := (sq 4 6)) (g := 112) (args := #[.pointer (some ⟨bp, 0, none⟩), .int .u64 m.logTerm]) (by as_aux_lemma => kernel_rfl) (u64_spec (x := m.logTerm) (by omega) ((H.lend (M1 := [(bp, .cells #[.slice a35 z38.length c36, .int .i64 0, .bool true, .bool false] 183 (0, 0))]) (W1 := [⟨Shape.bv .u8 8, 5, .slice a35 z38.length c36, z38⟩])).pick [] rfl) (by first | omega | (simp only [List.length_append, List.length_nil]; omega))) ?_
  rintro _ w40 ⟨a42, c43, rfl, H'⟩
  have H := H.back (M1 := [(bp, .cells #[.slice a35 z38.length c36, .int .i64 0, .bool true, .bool false] 183 (0, 0))]) (W1 := [⟨Shape.bv .u8 8, 5, .slice a35 z38.length c36, z38⟩]) H'
  have H : Hp w S O [(bp, .cells #[.slice a42 ((z38 ++ num m.logTerm.toNat).length) c43, .int .i64 0, .bool true, .bool false] 183 (0, 0)), (b3, .cells (msgZ).toArray 57 (0, 0)), (b1, .cells (msgV m ma0 mk0 ma1 mk1 ma2 mk2 ma3 mk3 ma4 mk4).toArray 57 (0, 0))] [⟨Shape.bv .u8 8, 5, .slice a42 ((z38 ++ num m.logTerm.toNat).length) c43, (z38 ++ num m.logTerm.toNat)⟩] [Rp (Shape.slice (Shape.int .i64)) [.slice ma1 m.conf.voters.length mk1] m.conf.voters, Rp (Shape.slice (Shape.int .i64)) [.slice ma2 m.conf.learners.length mk2] m.conf.learners, Rp (Shape.slice (Shape.bv .u8 8)) [.slice ma3 m.data.length mk3] m.data] _ := H
  obtain ⟨z45, hz45⟩ : ∃ z, z = (z38 ++ num m.logTerm.toNat) := ⟨_, rfl⟩
  rw [← hz45] at H
  have hlz45 := congrArg List.length hz45
  rw [List.length_append] at hlz45
  refine RW.runP 1 [0, 3, 4, 37, 38] (sq 5 6) [(0, .pointer (some ⟨bp, 0, none⟩)), (3, .pointer (some ⟨b1, 0, none⟩)), (4, .pointer (some ⟨b3, 0, none⟩)), (37, .int .u64 m.logTerm), (38, .pointer (some ⟨b1, 5, none⟩))] (by as_aux_lemma => kernel_rfl) (by as_aux_lemma => kernel_rfl) ?_
  refine RW.store (d := none) (r := (sq 6 6)) (T := 22) (b := b1) (k := 5) (v := .int .u64 m.logTerm) (c' := (msgV m ma0 mk0 ma1 mk1 ma2 mk2 ma3 mk3 ma4 mk4).toArray) (M' := [(bp, .cells #[.slice a42 z45.length c43, .int .i64 0, .bool true, .bool false] 183 (0, 0)), (b3, .cells (msgZ).toArray 57 (0, 0)), (b1, .cells (msgV m ma0 mk0 ma1 mk1 ma2 mk2 ma3 mk3 ma4 mk4).toArray 57 (0, 0))]) (by as_aux_lemma => kernel_rfl) H 2 rfl (by as_aux_lemma => kernel_rfl) (by as_aux_lemma => kernel_rfl) ?_
  intro w46 H
  refine RW.fin 0 [0, 3, 4] [(0, .pointer (some ⟨bp, 0, none⟩)), (3, .pointer (some ⟨b1, 0, none⟩)), (4, .pointer (some ⟨b3, 0, none⟩))] (by as_aux_lemma => kernel_rfl) ?_
  refine WK.run 1 [0, 3, 4] [.code (cd Try.prog 93 [7, 0]), .code (cd Try.prog 93 [8])] [(0, .pointer (some ⟨bp, 0, none⟩)), (3, .pointer (some ⟨b1, 0, none⟩)), (4, .pointer (some ⟨b3, 0, none⟩))] (by as_aux_lemma => kernel_rfl) ?_
  refine WK.reg1 (l := sq 0 6) (by as_aux_lemma => kernel_rfl) (by as_aux_lemma => kernel_rfl) ?_
  refine RW.runP 2 [0, 3, 4, 39, 40] (sq 2 6) [(0, .pointer (some ⟨bp, 0, none⟩)), (3, .pointer (some ⟨b1, 0, none⟩)), (4, .pointer (some ⟨b3, 0, none⟩)), (39, .pointer (some ⟨bp, 0, none⟩)), (40, .pointer (some ⟨b1, 6, none⟩))] (by as_aux_lemma => kernel_rfl) (by as_aux_lemma => kernel_rfl) ?_
  refine RW.load (κ := .seq) (d := some 41) (r := (sq 3 6)) (T := 22) (b := b1) (o' := 6) (k := 6) (v := .int .u64 m.commit) (by as_aux_lemma => kernel_rfl) (H.cells 2 rfl) rfl (by as_aux_lemma => kernel_rfl) ?_
  refine RW.callS (d := some 42) (r := (sq 4 6)) (g := 112) (args := #[.pointer (some ⟨bp, 0, none⟩), .int .u64 m.commit]) (by as_aux_lemma => kernel_rfl) (u64_spec (x := m.commit) (by omega) ((H.lend (M1 := [(bp, .cells #[.slice a42 z45.length c43, .int .i64 0, .bool true, .bool false] 183 (0, 0))]) (W1 := [⟨Shape.bv .u8 8, 5, .slice a42 z45.length c43, z45⟩])).pick [] rfl) (by first | omega | (simp only [List.length_append, List.length_nil]; omega))) ?_
  rintro _ w47 ⟨a49, c50, rfl, H'⟩
  have H := H.back (M1 := [(bp, .cells #[.slice a42 z45.length c43, .int .i64 0, .bool true, .bool false] 183 (0, 0))]) (W1 := [⟨Shape.bv .u8 8, 5, .slice a42 z45.length c43, z45⟩]) H'
  have H : Hp w S O [(bp, .cells #[.slice a49 ((z45 ++ num m.commit.toNat).length) c50, .int .i64 0, .bool true, .bool false] 183 (0, 0)), (b3, .cells (msgZ).toArray 57 (0, 0)), (b1, .cells (msgV m ma0 mk0 ma1 mk1 ma2 mk2 ma3 mk3 ma4 mk4).toArray 57 (0, 0))] [⟨Shape.bv .u8 8, 5, .slice a49 ((z45 ++ num m.commit.toNat).length) c50, (z45 ++ num m.commit.toNat)⟩] [Rp (Shape.slice (Shape.int .i64)) [.slice ma1 m.conf.voters.length mk1] m.conf.voters, Rp (Shape.slice (Shape.int .i64)) [.slice ma2 m.conf.learners.length mk2] m.conf.learners, Rp (Shape.slice (Shape.bv .u8 8)) [.slice ma3 m.data.length mk3] m.data] _ := H
  obtain ⟨z52, hz52⟩ : ∃ z, z = (z45 ++ num m.commit.toNat) := ⟨_, rfl⟩
  rw [← hz52] at H
  have hlz52 := congrArg List.length hz52
  rw [List.length_append] at hlz52
  refine RW.runP 1 [0, 3, 4, 42, 43] (sq 5 6) [(0, .pointer (some ⟨bp, 0, none⟩)), (3, .pointer (some ⟨b1, 0, none⟩)), (4, .pointer (some ⟨b3, 0, none⟩)), (42, .int .u64 m.commit), (43, .pointer (some ⟨b1, 6, none⟩))] (by as_aux_lemma => kernel_rfl) (by as_aux_lemma => kernel_rfl) ?_
  refine RW.store (d := none) (r := (sq 6 6)) (T := 22) (b := b1) (k := 6) (v := .int .u64 m.commit) (c' := (msgV m ma0 mk0 ma1 mk1 ma2 mk2 ma3 mk3 ma4 mk4).toArray) (M' := [(bp, .cells #[.slice a49 z52.length c50, .int .i64 0, .bool true, .bool false] 183 (0, 0)), (b3, .cells (msgZ).toArray 57 (0, 0)), (b1, .cells (msgV m ma0 mk0 ma1 mk1 ma2 mk2 ma3 mk3 ma4 mk4).toArray 57 (0, 0))]) (by as_aux_lemma => kernel_rfl) H 2 rfl (by as_aux_lemma => kernel_rfl) (by as_aux_lemma => kernel_rfl) ?_
  intro w53 H
  refine RW.fin 0 [0, 3, 4] [(0, .pointer (some ⟨bp, 0, none⟩)), (3, .pointer (some ⟨b1, 0, none⟩)), (4, .pointer (some ⟨b3, 0, none⟩))] (by as_aux_lemma => kernel_rfl) ?_
  refine WK.run 1 [0, 3, 4] [.code (cd Try.prog 93 [8, 0]), .code (cd Try.prog 93 [9])] [(0, .pointer (some ⟨bp, 0, none⟩)), (3, .pointer (some ⟨b1, 0, none⟩)), (4, .pointer (some ⟨b3, 0, none⟩))] (by as_aux_lemma => kernel_rfl) ?_
  refine WK.reg1 (l := sq 0 6) (by as_aux_lemma => kernel_rfl) (by as_aux_lemma => kernel_rfl) ?_
  refine RW.runP 2 [0, 3, 4, 44, 45] (sq 2 6) [(0, .pointer (some ⟨bp, 0, none⟩)), (3, .pointer (some ⟨b1, 0, none⟩)), (4, .pointer (some ⟨b3, 0, none⟩)), (44, .pointer (some ⟨bp, 0, none⟩)), (45, .pointer (some ⟨b1, 7, none⟩))] (by as_aux_lemma => kernel_rfl) (by as_aux_lemma => kernel_rfl) ?_
  refine RW.load (κ := .seq) (d := some 46) (r := (sq 3 6)) (T := 22) (b := b1) (o' := 7) (k := 7) (v := .int .u64 m.ctx) (by as_aux_lemma => kernel_rfl) (H.cells 2 rfl) rfl (by as_aux_lemma => kernel_rfl) ?_
  refine RW.callS (d := some 47) (r := (sq 4 6)) (g := 112) (args := #[.pointer (some ⟨bp, 0, none⟩), .int .u64 m.ctx]) (by as_aux_lemma => kernel_rfl) (u64_spec (x := m.ctx) (by omega) ((H.lend (M1 := [(bp, .cells #[.slice a49 z52.length c50, .int .i64 0, .bool true, .bool false] 183 (0, 0))]) (W1 := [⟨Shape.bv .u8 8, 5, .slice a49 z52.length c50, z52⟩])).pick [] rfl) (by first | omega | (simp only [List.length_append, List.length_nil]; omega))) ?_
  rintro _ w54 ⟨a56, c57, rfl, H'⟩
  have H := H.back (M1 := [(bp, .cells #[.slice a49 z52.length c50, .int .i64 0, .bool true, .bool false] 183 (0, 0))]) (W1 := [⟨Shape.bv .u8 8, 5, .slice a49 z52.length c50, z52⟩]) H'
  have H : Hp w S O [(bp, .cells #[.slice a56 ((z52 ++ num m.ctx.toNat).length) c57, .int .i64 0, .bool true, .bool false] 183 (0, 0)), (b3, .cells (msgZ).toArray 57 (0, 0)), (b1, .cells (msgV m ma0 mk0 ma1 mk1 ma2 mk2 ma3 mk3 ma4 mk4).toArray 57 (0, 0))] [⟨Shape.bv .u8 8, 5, .slice a56 ((z52 ++ num m.ctx.toNat).length) c57, (z52 ++ num m.ctx.toNat)⟩] [Rp (Shape.slice (Shape.int .i64)) [.slice ma1 m.conf.voters.length mk1] m.conf.voters, Rp (Shape.slice (Shape.int .i64)) [.slice ma2 m.conf.learners.length mk2] m.conf.learners, Rp (Shape.slice (Shape.bv .u8 8)) [.slice ma3 m.data.length mk3] m.data] _ := H
  obtain ⟨z59, hz59⟩ : ∃ z, z = (z52 ++ num m.ctx.toNat) := ⟨_, rfl⟩
  rw [← hz59] at H
  have hlz59 := congrArg List.length hz59
  rw [List.length_append] at hlz59
  refine RW.runP 1 [0, 3, 4, 47, 48] (sq 5 6) [(0, .pointer (some ⟨bp, 0, none⟩)), (3, .pointer (some ⟨b1, 0, none⟩)), (4, .pointer (some ⟨b3, 0, none⟩)), (47, .int .u64 m.ctx), (48, .pointer (some ⟨b1, 7, none⟩))] (by as_aux_lemma => kernel_rfl) (by as_aux_lemma => kernel_rfl) ?_
  refine RW.store (d := none) (r := (sq 6 6)) (T := 22) (b := b1) (k := 7) (v := .int .u64 m.ctx) (c' := (msgV m ma0 mk0 ma1 mk1 ma2 mk2 ma3 mk3 ma4 mk4).toArray) (M' := [(bp, .cells #[.slice a56 z59.length c57, .int .i64 0, .bool true, .bool false] 183 (0, 0)), (b3, .cells (msgZ).toArray 57 (0, 0)), (b1, .cells (msgV m ma0 mk0 ma1 mk1 ma2 mk2 ma3 mk3 ma4 mk4).toArray 57 (0, 0))]) (by as_aux_lemma => kernel_rfl) H 2 rfl (by as_aux_lemma => kernel_rfl) (by as_aux_lemma => kernel_rfl) ?_
  intro w60 H
  refine RW.fin 0 [0, 3, 4] [(0, .pointer (some ⟨bp, 0, none⟩)), (3, .pointer (some ⟨b1, 0, none⟩)), (4, .pointer (some ⟨b3, 0, none⟩))] (by as_aux_lemma => kernel_rfl) ?_
  refine WK.run 1 [0, 3, 4] [.code (cd Try.prog 93 [9, 0]), .code (cd Try.prog 93 [10])] [(0, .pointer (some ⟨bp, 0, none⟩)), (3, .pointer (some ⟨b1, 0, none⟩)), (4, .pointer (some ⟨b3, 0, none⟩))] (by as_aux_lemma => kernel_rfl) ?_
  refine WK.reg1 (l := sq 0 6) (by as_aux_lemma => kernel_rfl) (by as_aux_lemma => kernel_rfl) ?_
  refine RW.runP 2 [0, 3, 4, 49, 50] (sq 2 6) [(0, .pointer (some ⟨bp, 0, none⟩)), (3, .pointer (some ⟨b1, 0, none⟩)), (4, .pointer (some ⟨b3, 0, none⟩)), (49, .pointer (some ⟨bp, 0, none⟩)), (50, .pointer (some ⟨b1, 8, none⟩))] (by as_aux_lemma => kernel_rfl) (by as_aux_lemma => kernel_rfl) ?_
  refine RW.load (κ := .seq) (d := some 51) (r := (sq 3 6)) (T := 4) (b := b1) (o' := 8) (k := 8) (v := .bool m.ok) (by as_aux_lemma => kernel_rfl) (H.cells 2 rfl) rfl (by as_aux_lemma => kernel_rfl) ?_
  refine RW.callS (d := some 52) (r := (sq 4 6)) (g := 113) (args := #[.pointer (some ⟨bp, 0, none⟩), .bool m.ok]) (by as_aux_lemma => kernel_rfl) (flag_spec (b := m.ok) ((H.lend (M1 := [(bp, .cells #[.slice a56 z59.length c57, .int .i64 0, .bool true, .bool false] 183 (0, 0))]) (W1 := [⟨Shape.bv .u8 8, 5, .slice a56 z59.length c57, z59⟩])).pick [] rfl) (by first | omega | (simp only [List.length_append, List.length_nil]; omega))) ?_
  rintro _ w61 ⟨a63, c64, rfl, H'⟩
  have H := H.back (M1 := [(bp, .cells #[.slice a56 z59.length c57, .int .i64 0, .bool true, .bool false] 183 (0, 0))]) (W1 := [⟨Shape.bv .u8 8, 5, .slice a56 z59.length c57, z59⟩]) H'
  have H : Hp w S O [(bp, .cells #[.slice a63 ((z59 ++ flagE m.ok).length) c64, .int .i64 0, .bool true, .bool false] 183 (0, 0)), (b3, .cells (msgZ).toArray 57 (0, 0)), (b1, .cells (msgV m ma0 mk0 ma1 mk1 ma2 mk2 ma3 mk3 ma4 mk4).toArray 57 (0, 0))] [⟨Shape.bv .u8 8, 5, .slice a63 ((z59 ++ flagE m.ok).length) c64, (z59 ++ flagE m.ok)⟩] [Rp (Shape.slice (Shape.int .i64)) [.slice ma1 m.conf.voters.length mk1] m.conf.voters, Rp (Shape.slice (Shape.int .i64)) [.slice ma2 m.conf.learners.length mk2] m.conf.learners, Rp (Shape.slice (Shape.bv .u8 8)) [.slice ma3 m.data.length mk3] m.data] _ := H
  obtain ⟨z66, hz66⟩ : ∃ z, z = (z59 ++ flagE m.ok) := ⟨_, rfl⟩
  rw [← hz66] at H
  have hlz66 := congrArg List.length hz66
  rw [List.length_append] at hlz66
  refine RW.runP 1 [0, 3, 4, 52, 53] (sq 5 6) [(0, .pointer (some ⟨bp, 0, none⟩)), (3, .pointer (some ⟨b1, 0, none⟩)), (4, .pointer (some ⟨b3, 0, none⟩)), (52, .bool m.ok), (53, .pointer (some ⟨b1, 8, none⟩))] (by as_aux_lemma => kernel_rfl) (by as_aux_lemma => kernel_rfl) ?_
  refine RW.store (d := none) (r := (sq 6 6)) (T := 4) (b := b1) (k := 8) (v := .bool m.ok) (c' := (msgV m ma0 mk0 ma1 mk1 ma2 mk2 ma3 mk3 ma4 mk4).toArray) (M' := [(bp, .cells #[.slice a63 z66.length c64, .int .i64 0, .bool true, .bool false] 183 (0, 0)), (b3, .cells (msgZ).toArray 57 (0, 0)), (b1, .cells (msgV m ma0 mk0 ma1 mk1 ma2 mk2 ma3 mk3 ma4 mk4).toArray 57 (0, 0))]) (by as_aux_lemma => kernel_rfl) H 2 rfl (by as_aux_lemma => kernel_rfl) (by as_aux_lemma => kernel_rfl) ?_
  intro w67 H
  refine RW.fin 0 [0, 3, 4] [(0, .pointer (some ⟨bp, 0, none⟩)), (3, .pointer (some ⟨b1, 0, none⟩)), (4, .pointer (some ⟨b3, 0, none⟩))] (by as_aux_lemma => kernel_rfl) ?_
  refine WK.run 1 [0, 3, 4] [.code (cd Try.prog 93 [10, 0]), .code (cd Try.prog 93 [11])] [(0, .pointer (some ⟨bp, 0, none⟩)), (3, .pointer (some ⟨b1, 0, none⟩)), (4, .pointer (some ⟨b3, 0, none⟩))] (by as_aux_lemma => kernel_rfl) ?_
  refine WK.reg1 (l := sq 0 6) (by as_aux_lemma => kernel_rfl) (by as_aux_lemma => kernel_rfl) ?_
  refine RW.runP 2 [0, 3, 4, 54, 55] (sq 2 6) [(0, .pointer (some ⟨bp, 0, none⟩)), (3, .pointer (some ⟨b1, 0, none⟩)), (4, .pointer (some ⟨b3, 0, none⟩)), (54, .pointer (some ⟨bp, 0, none⟩)), (55, .pointer (some ⟨b1, 9, none⟩))] (by as_aux_lemma => kernel_rfl) (by as_aux_lemma => kernel_rfl) ?_
  refine RW.load (κ := .seq) (d := some 56) (r := (sq 3 6)) (T := 4) (b := b1) (o' := 9) (k := 9) (v := .bool m.force) (by as_aux_lemma => kernel_rfl) (H.cells 2 rfl) rfl (by as_aux_lemma => kernel_rfl) ?_
  refine RW.callS (d := some 57) (r := (sq 4 6)) (g := 113) (args := #[.pointer (some ⟨bp, 0, none⟩), .bool m.force]) (by as_aux_lemma => kernel_rfl) (flag_spec (b := m.force) ((H.lend (M1 := [(bp, .cells #[.slice a63 z66.length c64, .int .i64 0, .bool true, .bool false] 183 (0, 0))]) (W1 := [⟨Shape.bv .u8 8, 5, .slice a63 z66.length c64, z66⟩])).pick [] rfl) (by first | omega | (simp only [List.length_append, List.length_nil]; omega))) ?_
  rintro _ w68 ⟨a70, c71, rfl, H'⟩
  have H := H.back (M1 := [(bp, .cells #[.slice a63 z66.length c64, .int .i64 0, .bool true, .bool false] 183 (0, 0))]) (W1 := [⟨Shape.bv .u8 8, 5, .slice a63 z66.length c64, z66⟩]) H'
  have H : Hp w S O [(bp, .cells #[.slice a70 ((z66 ++ flagE m.force).length) c71, .int .i64 0, .bool true, .bool false] 183 (0, 0)), (b3, .cells (msgZ).toArray 57 (0, 0)), (b1, .cells (msgV m ma0 mk0 ma1 mk1 ma2 mk2 ma3 mk3 ma4 mk4).toArray 57 (0, 0))] [⟨Shape.bv .u8 8, 5, .slice a70 ((z66 ++ flagE m.force).length) c71, (z66 ++ flagE m.force)⟩] [Rp (Shape.slice (Shape.int .i64)) [.slice ma1 m.conf.voters.length mk1] m.conf.voters, Rp (Shape.slice (Shape.int .i64)) [.slice ma2 m.conf.learners.length mk2] m.conf.learners, Rp (Shape.slice (Shape.bv .u8 8)) [.slice ma3 m.data.length mk3] m.data] _ := H
  obtain ⟨z73, hz73⟩ : ∃ z, z = (z66 ++ flagE m.force) := ⟨_, rfl⟩
  rw [← hz73] at H
  have hlz73 := congrArg List.length hz73
  rw [List.length_append] at hlz73
  refine RW.runP 1 [0, 3, 4, 57, 58] (sq 5 6) [(0, .pointer (some ⟨bp, 0, none⟩)), (3, .pointer (some ⟨b1, 0, none⟩)), (4, .pointer (some ⟨b3, 0, none⟩)), (57, .bool m.force), (58, .pointer (some ⟨b1, 9, none⟩))] (by as_aux_lemma => kernel_rfl) (by as_aux_lemma => kernel_rfl) ?_
  refine RW.store (d := none) (r := (sq 6 6)) (T := 4) (b := b1) (k := 9) (v := .bool m.force) (c' := (msgV m ma0 mk0 ma1 mk1 ma2 mk2 ma3 mk3 ma4 mk4).toArray) (M' := [(bp, .cells #[.slice a70 z73.length c71, .int .i64 0, .bool true, .bool false] 183 (0, 0)), (b3, .cells (msgZ).toArray 57 (0, 0)), (b1, .cells (msgV m ma0 mk0 ma1 mk1 ma2 mk2 ma3 mk3 ma4 mk4).toArray 57 (0, 0))]) (by as_aux_lemma => kernel_rfl) H 2 rfl (by as_aux_lemma => kernel_rfl) (by as_aux_lemma => kernel_rfl) ?_
  intro w74 H
  refine RW.fin 0 [0, 3, 4] [(0, .pointer (some ⟨bp, 0, none⟩)), (3, .pointer (some ⟨b1, 0, none⟩)), (4, .pointer (some ⟨b3, 0, none⟩))] (by as_aux_lemma => kernel_rfl) ?_
  refine WK.run 1 [0, 3, 4] [.code (cd Try.prog 93 [11, 0]), .code (cd Try.prog 93 [12])] [(0, .pointer (some ⟨bp, 0, none⟩)), (3, .pointer (some ⟨b1, 0, none⟩)), (4, .pointer (some ⟨b3, 0, none⟩))] (by as_aux_lemma => kernel_rfl) ?_
  refine WK.reg1 (l := sq 0 6) (by as_aux_lemma => kernel_rfl) (by as_aux_lemma => kernel_rfl) ?_
  refine RW.runP 2 [0, 3, 4, 59, 60] (sq 2 6) [(0, .pointer (some ⟨bp, 0, none⟩)), (3, .pointer (some ⟨b1, 0, none⟩)), (4, .pointer (some ⟨b3, 0, none⟩)), (59, .pointer (some ⟨bp, 0, none⟩)), (60, .pointer (some ⟨b1, 10, none⟩))] (by as_aux_lemma => kernel_rfl) (by as_aux_lemma => kernel_rfl) ?_
  refine RW.load (κ := .seq) (d := some 61) (r := (sq 3 6)) (T := 46) (b := b1) (o' := 10) (k := 10) (v := .slice ma0 m.entries.length mk0) (by as_aux_lemma => kernel_rfl) (H.cells 2 rfl) rfl (by as_aux_lemma => kernel_rfl) ?_
  refine RW.callS (d := some 62) (r := (sq 4 6)) (g := 114) (args := #[.pointer (some ⟨bp, 0, none⟩), .slice ma0 m.entries.length mk0]) (by as_aux_lemma => kernel_rfl) (pentries_spec (by omega) ((H.lend (M1 := [(bp, .cells #[.slice a70 z73.length c71, .int .i64 0, .bool true, .bool false] 183 (0, 0))]) (W1 := [⟨Shape.bv .u8 8, 5, .slice a70 z73.length c71, z73⟩])).pick [] rfl) (by first | omega | (simp only [List.length_append, List.length_nil]; omega))) ?_
  rintro _ w75 ⟨a77, c78, rfl, H'⟩
  have H := H.back (M1 := [(bp, .cells #[.slice a70 z73.length c71, .int .i64 0, .bool true, .bool false] 183 (0, 0))]) (W1 := [⟨Shape.bv .u8 8, 5, .slice a70 z73.length c71, z73⟩]) H'
  have H : Hp w S O [(bp, .cells #[.slice a77 ((z73 ++ num m.entries.length).length) c78, .int .i64 0, .bool true, .bool false] 183 (0, 0)), (b3, .cells (msgZ).toArray 57 (0, 0)), (b1, .cells (msgV m ma0 mk0 ma1 mk1 ma2 mk2 ma3 mk3 ma4 mk4).toArray 57 (0, 0))] [⟨Shape.bv .u8 8, 5, .slice a77 ((z73 ++ num m.entries.length).length) c78, (z73 ++ num m.entries.length)⟩] [Rp (Shape.slice (Shape.int .i64)) [.slice ma1 m.conf.voters.length mk1] m.conf.voters, Rp (Shape.slice (Shape.int .i64)) [.slice ma2 m.conf.learners.length mk2] m.conf.learners, Rp (Shape.slice (Shape.bv .u8 8)) [.slice ma3 m.data.length mk3] m.data] _ := H
  obtain ⟨z80, hz80⟩ : ∃ z, z = (z73 ++ num m.entries.length) := ⟨_, rfl⟩
  rw [← hz80] at H
  have hlz80 := congrArg List.length hz80
  rw [List.length_append] at hlz80
  refine RW.runP 1 [0, 3, 4, 62, 63] (sq 5 6) [(0, .pointer (some ⟨bp, 0, none⟩)), (3, .pointer (some ⟨b1, 0, none⟩)), (4, .pointer (some ⟨b3, 0, none⟩)), (62, .slice none 0 0), (63, .pointer (some ⟨b1, 10, none⟩))] (by as_aux_lemma => kernel_rfl) (by as_aux_lemma => kernel_rfl) ?_
  refine RW.store (d := none) (r := (sq 6 6)) (T := 46) (b := b1) (k := 10) (v := .slice none 0 0) (c' := ((msgV m none 0 ma1 mk1 ma2 mk2 ma3 mk3 ma4 mk4).set 10 (.slice none 0 0)).toArray) (M' := [(bp, .cells #[.slice a77 z80.length c78, .int .i64 0, .bool true, .bool false] 183 (0, 0)), (b3, .cells (msgZ).toArray 57 (0, 0)), (b1, .cells ((msgV m none 0 ma1 mk1 ma2 mk2 ma3 mk3 ma4 mk4).set 10 (.slice none 0 0)).toArray 57 (0, 0))]) (by as_aux_lemma => kernel_rfl) H 2 rfl (by as_aux_lemma => kernel_rfl) (by as_aux_lemma => kernel_rfl) ?_
  intro w81 H
  refine RW.fin 0 [0, 3, 4] [(0, .pointer (some ⟨bp, 0, none⟩)), (3, .pointer (some ⟨b1, 0, none⟩)), (4, .pointer (some ⟨b3, 0, none⟩))] (by as_aux_lemma => kernel_rfl) ?_
  refine WK.run 1 [0, 3, 4] [.code (cd Try.prog 93 [12, 0]), .code (cd Try.prog 93 [13])] [(0, .pointer (some ⟨bp, 0, none⟩)), (3, .pointer (some ⟨b1, 0, none⟩)), (4, .pointer (some ⟨b3, 0, none⟩))] (by as_aux_lemma => kernel_rfl) ?_
  refine WK.reg1 (l := sq 0 6) (by as_aux_lemma => kernel_rfl) (by as_aux_lemma => kernel_rfl) ?_
  refine RW.runP 2 [0, 3, 4, 64, 65] (sq 2 6) [(0, .pointer (some ⟨bp, 0, none⟩)), (3, .pointer (some ⟨b1, 0, none⟩)), (4, .pointer (some ⟨b3, 0, none⟩)), (64, .pointer (some ⟨bp, 0, none⟩)), (65, .pointer (some ⟨b1, 11, none⟩))] (by as_aux_lemma => kernel_rfl) (by as_aux_lemma => kernel_rfl) ?_
  refine RW.load (κ := .seq) (d := some 66) (r := (sq 3 6)) (T := 48) (b := b1) (o' := 11) (k := 11) (v := .agg #[.slice ma1 m.conf.voters.length mk1, .slice ma2 m.conf.learners.length mk2]) (by as_aux_lemma => kernel_rfl) (H.cells 2 rfl) rfl (by as_aux_lemma => kernel_rfl) ?_
  refine RW.callS (d := some 67) (r := (sq 4 6)) (g := 115) (args := #[.pointer (some ⟨bp, 0, none⟩), .agg #[.slice ma1 m.conf.voters.length mk1, .slice ma2 m.conf.learners.length mk2]]) (by as_aux_lemma => kernel_rfl) (pconf_spec (C := m.conf) ((H.lend (M1 := [(bp, .cells #[.slice a77 z80.length c78, .int .i64 0, .bool true, .bool false] 183 (0, 0))]) (W1 := [⟨Shape.bv .u8 8, 5, .slice a77 z80.length c78, z80⟩])).pick [0, 1] rfl) (by first | omega | (simp only [List.length_append, List.length_nil]; omega))) ?_
  rintro v83 w82 ⟨a84, c85, ⟨a87, c88, a89, c90, rfl⟩, H'⟩
  have H := H.back (M1 := [(bp, .cells #[.slice a77 z80.length c78, .int .i64 0, .bool true, .bool false] 183 (0, 0))]) (W1 := [⟨Shape.bv .u8 8, 5, .slice a77 z80.length c78, z80⟩]) H'
  have H : Hp w S O [(bp, .cells #[.slice a84 ((z80 ++ confE m.conf).length) c85, .int .i64 0, .bool true, .bool false] 183 (0, 0)), (b3, .cells (msgZ).toArray 57 (0, 0)), (b1, .cells ((msgV m none 0 ma1 mk1 ma2 mk2 ma3 mk3 ma4 mk4).set 10 (.slice none 0 0)).toArray 57 (0, 0))] [⟨Shape.bv .u8 8, 5, .slice a84 ((z80 ++ confE m.conf).length) c85, (z80 ++ confE m.conf)⟩] [Rp (Shape.slice (Shape.int .i64)) [.slice ma1 m.conf.voters.length mk1] m.conf.voters, Rp (Shape.slice (Shape.int .i64)) [.slice ma2 m.conf.learners.length mk2] m.conf.learners, Rp (Shape.slice (Shape.bv .u8 8)) [.slice ma3 m.data.length mk3] m.data] _ := H
  obtain ⟨z91, hz91⟩ : ∃ z, z = (z80 ++ confE m.conf) := ⟨_, rfl⟩
  rw [← hz91] at H
  have hlz91 := congrArg List.length hz91
  rw [List.length_append] at hlz91
  refine RW.runP 1 [0, 3, 4, 67, 68] (sq 5 6) [(0, .pointer (some ⟨bp, 0, none⟩)), (3, .pointer (some ⟨b1, 0, none⟩)), (4, .pointer (some ⟨b3, 0, none⟩)), (67, .agg #[.slice a87 m.conf.voters.length c88, .slice a89 m.conf.learners.length c90]), (68, .pointer (some ⟨b1, 11, none⟩))] (by as_aux_lemma => kernel_rfl) (by as_aux_lemma => kernel_rfl) ?_
  refine RW.store (d := none) (r := (sq 6 6)) (T := 48) (b := b1) (k := 11) (v := .agg #[.slice a87 m.conf.voters.length c88, .slice a89 m.conf.learners.length c90]) (c' := ((msgV m none 0 a87 c88 a89 c90 ma3 mk3 ma4 mk4).set 10 (.slice none 0 0)).toArray) (M' := [(bp, .cells #[.slice a84 z91.length c85, .int .i64 0, .bool true, .bool false] 183 (0, 0)), (b3, .cells (msgZ).toArray 57 (0, 0)), (b1, .cells ((msgV m none 0 a87 c88 a89 c90 ma3 mk3 ma4 mk4).set 10 (.slice none 0 0)).toArray 57 (0, 0))]) (by as_aux_lemma => kernel_rfl) H 2 rfl (by as_aux_lemma => kernel_rfl) (by as_aux_lemma => kernel_rfl) ?_
  intro w92 H
  refine RW.fin 0 [0, 3, 4] [(0, .pointer (some ⟨bp, 0, none⟩)), (3, .pointer (some ⟨b1, 0, none⟩)), (4, .pointer (some ⟨b3, 0, none⟩))] (by as_aux_lemma => kernel_rfl) ?_
  refine WK.run 1 [0, 3, 4] [.code (cd Try.prog 93 [13, 0]), .code (cd Try.prog 93 [14])] [(0, .pointer (some ⟨bp, 0, none⟩)), (3, .pointer (some ⟨b1, 0, none⟩)), (4, .pointer (some ⟨b3, 0, none⟩))] (by as_aux_lemma => kernel_rfl) ?_
  have H := H.pick [2] rfl
  refine WK.reg1 (l := sq 0 6) (by as_aux_lemma => kernel_rfl) (by as_aux_lemma => kernel_rfl) ?_
  refine RW.runP 2 [0, 3, 4, 69, 70] (sq 2 6) [(0, .pointer (some ⟨bp, 0, none⟩)), (3, .pointer (some ⟨b1, 0, none⟩)), (4, .pointer (some ⟨b3, 0, none⟩)), (69, .pointer (some ⟨bp, 0, none⟩)), (70, .pointer (some ⟨b1, 13, none⟩))] (by as_aux_lemma => kernel_rfl) (by as_aux_lemma => kernel_rfl) ?_
  refine RW.load (κ := .seq) (d := some 71) (r := (sq 3 6)) (T := 53) (b := b1) (o' := 13) (k := 13) (v := .agg (hdrV m.head).toArray) (by as_aux_lemma => kernel_rfl) (H.cells 2 rfl) rfl (by as_aux_lemma => kernel_rfl) ?_
  refine RW.callS (d := some 72) (r := (sq 4 6)) (g := 116) (args := #[.pointer (some ⟨bp, 0, none⟩), .agg (hdrV m.head).toArray]) (by as_aux_lemma => kernel_rfl) (phdr_spec (D := m.head) (by assumption) ((H.lend (M1 := [(bp, .cells #[.slice a84 z91.length c85, .int .i64 0, .bool true, .bool false] 183 (0, 0))]) (W1 := [⟨Shape.bv .u8 8, 5, .slice a84 z91.length c85, z91⟩])).pick [] rfl) (by first | omega | (simp only [List.length_append, List.length_nil]; omega))) ?_
  rintro _ w93 ⟨a95, c96, rfl, H'⟩
  have H := H.back (M1 := [(bp, .cells #[.slice a84 z91.length c85, .int .i64 0, .bool true, .bool false] 183 (0, 0))]) (W1 := [⟨Shape.bv .u8 8, 5, .slice a84 z91.length c85, z91⟩]) H'
  have H : Hp w S O [(bp, .cells #[.slice a95 ((z91 ++ hdrE m.head).length) c96, .int .i64 0, .bool true, .bool false] 183 (0, 0)), (b3, .cells (msgZ).toArray 57 (0, 0)), (b1, .cells ((msgV m none 0 a87 c88 a89 c90 ma3 mk3 ma4 mk4).set 10 (.slice none 0 0)).toArray 57 (0, 0))] [⟨Shape.bv .u8 8, 5, .slice a95 ((z91 ++ hdrE m.head).length) c96, (z91 ++ hdrE m.head)⟩] [Rp (Shape.slice (Shape.bv .u8 8)) [.slice ma3 m.data.length mk3] m.data] _ := H
  obtain ⟨z98, hz98⟩ : ∃ z, z = (z91 ++ hdrE m.head) := ⟨_, rfl⟩
  rw [← hz98] at H
  have hlz98 := congrArg List.length hz98
  rw [List.length_append] at hlz98
  refine RW.runP 1 [0, 3, 4, 72, 73] (sq 5 6) [(0, .pointer (some ⟨bp, 0, none⟩)), (3, .pointer (some ⟨b1, 0, none⟩)), (4, .pointer (some ⟨b3, 0, none⟩)), (72, .agg (hdrV m.head).toArray), (73, .pointer (some ⟨b1, 13, none⟩))] (by as_aux_lemma => kernel_rfl) (by as_aux_lemma => kernel_rfl) ?_
  refine RW.store (d := none) (r := (sq 6 6)) (T := 53) (b := b1) (k := 13) (v := .agg (hdrV m.head).toArray) (c' := ((msgV m none 0 a87 c88 a89 c90 ma3 mk3 ma4 mk4).set 10 (.slice none 0 0)).toArray) (M' := [(bp, .cells #[.slice a95 z98.length c96, .int .i64 0, .bool true, .bool false] 183 (0, 0)), (b3, .cells (msgZ).toArray 57 (0, 0)), (b1, .cells ((msgV m none 0 a87 c88 a89 c90 ma3 mk3 ma4 mk4).set 10 (.slice none 0 0)).toArray 57 (0, 0))]) (by as_aux_lemma => kernel_rfl) H 2 rfl (by as_aux_lemma => kernel_rfl) (by as_aux_lemma => kernel_rfl) ?_
  intro w99 H
  refine RW.fin 0 [0, 3, 4] [(0, .pointer (some ⟨bp, 0, none⟩)), (3, .pointer (some ⟨b1, 0, none⟩)), (4, .pointer (some ⟨b3, 0, none⟩))] (by as_aux_lemma => kernel_rfl) ?_
  refine WK.run 1 [0, 3, 4] [.code (cd Try.prog 93 [14, 0]), .code (cd Try.prog 93 [15])] [(0, .pointer (some ⟨bp, 0, none⟩)), (3, .pointer (some ⟨b1, 0, none⟩)), (4, .pointer (some ⟨b3, 0, none⟩))] (by as_aux_lemma => kernel_rfl) ?_
  refine WK.reg1 (l := sq 0 6) (by as_aux_lemma => kernel_rfl) (by as_aux_lemma => kernel_rfl) ?_
  refine RW.runP 2 [0, 3, 4, 74, 75] (sq 2 6) [(0, .pointer (some ⟨bp, 0, none⟩)), (3, .pointer (some ⟨b1, 0, none⟩)), (4, .pointer (some ⟨b3, 0, none⟩)), (74, .pointer (some ⟨bp, 0, none⟩)), (75, .pointer (some ⟨b1, 20, none⟩))] (by as_aux_lemma => kernel_rfl) (by as_aux_lemma => kernel_rfl) ?_
  refine RW.load (κ := .seq) (d := some 76) (r := (sq 3 6)) (T := 23) (b := b1) (o' := 20) (k := 20) (v := .slice ma3 m.data.length mk3) (by as_aux_lemma => kernel_rfl) (H.cells 2 rfl) rfl (by as_aux_lemma => kernel_rfl) ?_
  refine RW.callS (d := some 77) (r := (sq 4 6)) (g := 117) (args := #[.pointer (some ⟨bp, 0, none⟩), .slice ma3 m.data.length mk3]) (by as_aux_lemma => kernel_rfl) (bytes_spec (ys := m.data) ((H.lend (M1 := [(bp, .cells #[.slice a95 z98.length c96, .int .i64 0, .bool true, .bool false] 183 (0, 0))]) (W1 := [⟨Shape.bv .u8 8, 5, .slice a95 z98.length c96, z98⟩])).pick [0] rfl) (by first | omega | (simp only [List.length_append, List.length_nil]; omega))) ?_
  rintro _ w100 ⟨a102, c103, rfl, H'⟩
  have H := H.back (M1 := [(bp, .cells #[.slice a95 z98.length c96, .int .i64 0, .bool true, .bool false] 183 (0, 0))]) (W1 := [⟨Shape.bv .u8 8, 5, .slice a95 z98.length c96, z98⟩]) H'
  have H : Hp w S O [(bp, .cells #[.slice a102 ((z98 ++ bytesE m.data).length) c103, .int .i64 0, .bool true, .bool false] 183 (0, 0)), (b3, .cells (msgZ).toArray 57 (0, 0)), (b1, .cells ((msgV m none 0 a87 c88 a89 c90 ma3 mk3 ma4 mk4).set 10 (.slice none 0 0)).toArray 57 (0, 0))] [⟨Shape.bv .u8 8, 5, .slice a102 ((z98 ++ bytesE m.data).length) c103, (z98 ++ bytesE m.data)⟩] [Rp (Shape.slice (Shape.bv .u8 8)) [.slice ma3 m.data.length mk3] m.data] _ := H
  obtain ⟨z105, hz105⟩ : ∃ z, z = (z98 ++ bytesE m.data) := ⟨_, rfl⟩
  rw [← hz105] at H
  have hlz105 := congrArg List.length hz105
  rw [List.length_append] at hlz105
  refine RW.runP 1 [0, 3, 4, 77, 78] (sq 5 6) [(0, .pointer (some ⟨bp, 0, none⟩)), (3, .pointer (some ⟨b1, 0, none⟩)), (4, .pointer (some ⟨b3, 0, none⟩)), (77, .slice ma3 m.data.length mk3), (78, .pointer (some ⟨b1, 20, none⟩))] (by as_aux_lemma => kernel_rfl) (by as_aux_lemma => kernel_rfl) ?_
  refine RW.store (d := none) (r := (sq 6 6)) (T := 23) (b := b1) (k := 20) (v := .slice ma3 m.data.length mk3) (c' := ((msgV m none 0 a87 c88 a89 c90 ma3 mk3 ma4 mk4).set 10 (.slice none 0 0)).toArray) (M' := [(bp, .cells #[.slice a102 z105.length c103, .int .i64 0, .bool true, .bool false] 183 (0, 0)), (b3, .cells (msgZ).toArray 57 (0, 0)), (b1, .cells ((msgV m none 0 a87 c88 a89 c90 ma3 mk3 ma4 mk4).set 10 (.slice none 0 0)).toArray 57 (0, 0))]) (by as_aux_lemma => kernel_rfl) H 2 rfl (by as_aux_lemma => kernel_rfl) (by as_aux_lemma => kernel_rfl) ?_
  intro w106 H
  refine RW.fin 0 [0, 3, 4] [(0, .pointer (some ⟨bp, 0, none⟩)), (3, .pointer (some ⟨b1, 0, none⟩)), (4, .pointer (some ⟨b3, 0, none⟩))] (by as_aux_lemma => kernel_rfl) ?_
  refine WK.run 1 [0, 3, 4] [.code (cd Try.prog 93 [15, 0]), .code (cd Try.prog 93 [16])] [(0, .pointer (some ⟨bp, 0, none⟩)), (3, .pointer (some ⟨b1, 0, none⟩)), (4, .pointer (some ⟨b3, 0, none⟩))] (by as_aux_lemma => kernel_rfl) ?_
  refine WK.reg1 (l := sq 0 6) (by as_aux_lemma => kernel_rfl) (by as_aux_lemma => kernel_rfl) ?_
  refine RW.runP 2 [0, 3, 4, 79, 80] (sq 2 6) [(0, .pointer (some ⟨bp, 0, none⟩)), (3, .pointer (some ⟨b1, 0, none⟩)), (4, .pointer (some ⟨b3, 0, none⟩)), (79, .pointer (some ⟨bp, 0, none⟩)), (80, .pointer (some ⟨b1, 21, none⟩))] (by as_aux_lemma => kernel_rfl) (by as_aux_lemma => kernel_rfl) ?_
  refine RW.load (κ := .seq) (d := some 81) (r := (sq 3 6)) (T := 22) (b := b1) (o' := 21) (k := 21) (v := .int .u64 m.client) (by as_aux_lemma => kernel_rfl) (H.cells 2 rfl) rfl (by as_aux_lemma => kernel_rfl) ?_
  refine RW.callS (d := some 82) (r := (sq 4 6)) (g := 112) (args := #[.pointer (some ⟨bp, 0, none⟩), .int .u64 m.client]) (by as_aux_lemma => kernel_rfl) (u64_spec (x := m.client) (by omega) ((H.lend (M1 := [(bp, .cells #[.slice a102 z105.length c103, .int .i64 0, .bool true, .bool false] 183 (0, 0))]) (W1 := [⟨Shape.bv .u8 8, 5, .slice a102 z105.length c103, z105⟩])).pick [] rfl) (by first | omega | (simp only [List.length_append, List.length_nil]; omega))) ?_
  rintro _ w107 ⟨a109, c110, rfl, H'⟩
  have H := H.back (M1 := [(bp, .cells #[.slice a102 z105.length c103, .int .i64 0, .bool true, .bool false] 183 (0, 0))]) (W1 := [⟨Shape.bv .u8 8, 5, .slice a102 z105.length c103, z105⟩]) H'
  have H : Hp w S O [(bp, .cells #[.slice a109 ((z105 ++ num m.client.toNat).length) c110, .int .i64 0, .bool true, .bool false] 183 (0, 0)), (b3, .cells (msgZ).toArray 57 (0, 0)), (b1, .cells ((msgV m none 0 a87 c88 a89 c90 ma3 mk3 ma4 mk4).set 10 (.slice none 0 0)).toArray 57 (0, 0))] [⟨Shape.bv .u8 8, 5, .slice a109 ((z105 ++ num m.client.toNat).length) c110, (z105 ++ num m.client.toNat)⟩] [Rp (Shape.slice (Shape.bv .u8 8)) [.slice ma3 m.data.length mk3] m.data] _ := H
  obtain ⟨z112, hz112⟩ : ∃ z, z = (z105 ++ num m.client.toNat) := ⟨_, rfl⟩
  rw [← hz112] at H
  have hlz112 := congrArg List.length hz112
  rw [List.length_append] at hlz112
  refine RW.runP 1 [0, 3, 4, 82, 83] (sq 5 6) [(0, .pointer (some ⟨bp, 0, none⟩)), (3, .pointer (some ⟨b1, 0, none⟩)), (4, .pointer (some ⟨b3, 0, none⟩)), (82, .int .u64 m.client), (83, .pointer (some ⟨b1, 21, none⟩))] (by as_aux_lemma => kernel_rfl) (by as_aux_lemma => kernel_rfl) ?_
  refine RW.store (d := none) (r := (sq 6 6)) (T := 22) (b := b1) (k := 21) (v := .int .u64 m.client) (c' := ((msgV m none 0 a87 c88 a89 c90 ma3 mk3 ma4 mk4).set 10 (.slice none 0 0)).toArray) (M' := [(bp, .cells #[.slice a109 z112.length c110, .int .i64 0, .bool true, .bool false] 183 (0, 0)), (b3, .cells (msgZ).toArray 57 (0, 0)), (b1, .cells ((msgV m none 0 a87 c88 a89 c90 ma3 mk3 ma4 mk4).set 10 (.slice none 0 0)).toArray 57 (0, 0))]) (by as_aux_lemma => kernel_rfl) H 2 rfl (by as_aux_lemma => kernel_rfl) (by as_aux_lemma => kernel_rfl) ?_
  intro w113 H
  refine RW.fin 0 [0, 3, 4] [(0, .pointer (some ⟨bp, 0, none⟩)), (3, .pointer (some ⟨b1, 0, none⟩)), (4, .pointer (some ⟨b3, 0, none⟩))] (by as_aux_lemma => kernel_rfl) ?_
  refine WK.run 1 [0, 3, 4] [.code (cd Try.prog 93 [16, 0]), .code (cd Try.prog 93 [17])] [(0, .pointer (some ⟨bp, 0, none⟩)), (3, .pointer (some ⟨b1, 0, none⟩)), (4, .pointer (some ⟨b3, 0, none⟩))] (by as_aux_lemma => kernel_rfl) ?_
  refine WK.reg1 (l := sq 0 6) (by as_aux_lemma => kernel_rfl) (by as_aux_lemma => kernel_rfl) ?_
  refine RW.runP 2 [0, 3, 4, 84, 85] (sq 2 6) [(0, .pointer (some ⟨bp, 0, none⟩)), (3, .pointer (some ⟨b1, 0, none⟩)), (4, .pointer (some ⟨b3, 0, none⟩)), (84, .pointer (some ⟨bp, 0, none⟩)), (85, .pointer (some ⟨b1, 22, none⟩))] (by as_aux_lemma => kernel_rfl) (by as_aux_lemma => kernel_rfl) ?_
  refine RW.load (κ := .seq) (d := some 86) (r := (sq 3 6)) (T := 22) (b := b1) (o' := 22) (k := 22) (v := .int .u64 m.seq) (by as_aux_lemma => kernel_rfl) (H.cells 2 rfl) rfl (by as_aux_lemma => kernel_rfl) ?_
  refine RW.callS (d := some 87) (r := (sq 4 6)) (g := 112) (args := #[.pointer (some ⟨bp, 0, none⟩), .int .u64 m.seq]) (by as_aux_lemma => kernel_rfl) (u64_spec (x := m.seq) (by omega) ((H.lend (M1 := [(bp, .cells #[.slice a109 z112.length c110, .int .i64 0, .bool true, .bool false] 183 (0, 0))]) (W1 := [⟨Shape.bv .u8 8, 5, .slice a109 z112.length c110, z112⟩])).pick [] rfl) (by first | omega | (simp only [List.length_append, List.length_nil]; omega))) ?_
  rintro _ w114 ⟨a116, c117, rfl, H'⟩
  have H := H.back (M1 := [(bp, .cells #[.slice a109 z112.length c110, .int .i64 0, .bool true, .bool false] 183 (0, 0))]) (W1 := [⟨Shape.bv .u8 8, 5, .slice a109 z112.length c110, z112⟩]) H'
  have H : Hp w S O [(bp, .cells #[.slice a116 ((z112 ++ num m.seq.toNat).length) c117, .int .i64 0, .bool true, .bool false] 183 (0, 0)), (b3, .cells (msgZ).toArray 57 (0, 0)), (b1, .cells ((msgV m none 0 a87 c88 a89 c90 ma3 mk3 ma4 mk4).set 10 (.slice none 0 0)).toArray 57 (0, 0))] [⟨Shape.bv .u8 8, 5, .slice a116 ((z112 ++ num m.seq.toNat).length) c117, (z112 ++ num m.seq.toNat)⟩] [Rp (Shape.slice (Shape.bv .u8 8)) [.slice ma3 m.data.length mk3] m.data] _ := H
  obtain ⟨z119, hz119⟩ : ∃ z, z = (z112 ++ num m.seq.toNat) := ⟨_, rfl⟩
  rw [← hz119] at H
  have hlz119 := congrArg List.length hz119
  rw [List.length_append] at hlz119
  refine RW.runP 1 [0, 3, 4, 87, 88] (sq 5 6) [(0, .pointer (some ⟨bp, 0, none⟩)), (3, .pointer (some ⟨b1, 0, none⟩)), (4, .pointer (some ⟨b3, 0, none⟩)), (87, .int .u64 m.seq), (88, .pointer (some ⟨b1, 22, none⟩))] (by as_aux_lemma => kernel_rfl) (by as_aux_lemma => kernel_rfl) ?_
  refine RW.store (d := none) (r := (sq 6 6)) (T := 22) (b := b1) (k := 22) (v := .int .u64 m.seq) (c' := ((msgV m none 0 a87 c88 a89 c90 ma3 mk3 ma4 mk4).set 10 (.slice none 0 0)).toArray) (M' := [(bp, .cells #[.slice a116 z119.length c117, .int .i64 0, .bool true, .bool false] 183 (0, 0)), (b3, .cells (msgZ).toArray 57 (0, 0)), (b1, .cells ((msgV m none 0 a87 c88 a89 c90 ma3 mk3 ma4 mk4).set 10 (.slice none 0 0)).toArray 57 (0, 0))]) (by as_aux_lemma => kernel_rfl) H 2 rfl (by as_aux_lemma => kernel_rfl) (by as_aux_lemma => kernel_rfl) ?_
  intro w120 H
  refine RW.fin 0 [0, 3, 4] [(0, .pointer (some ⟨bp, 0, none⟩)), (3, .pointer (some ⟨b1, 0, none⟩)), (4, .pointer (some ⟨b3, 0, none⟩))] (by as_aux_lemma => kernel_rfl) ?_
  refine WK.run 1 [0, 3, 4] [.code (cd Try.prog 93 [17, 0]), .code (cd Try.prog 93 [18])] [(0, .pointer (some ⟨bp, 0, none⟩)), (3, .pointer (some ⟨b1, 0, none⟩)), (4, .pointer (some ⟨b3, 0, none⟩))] (by as_aux_lemma => kernel_rfl) ?_
  refine WK.reg1 (l := sq 0 6) (by as_aux_lemma => kernel_rfl) (by as_aux_lemma => kernel_rfl) ?_
  refine RW.runP 2 [0, 3, 4, 89, 90] (sq 2 6) [(0, .pointer (some ⟨bp, 0, none⟩)), (3, .pointer (some ⟨b1, 0, none⟩)), (4, .pointer (some ⟨b3, 0, none⟩)), (89, .pointer (some ⟨bp, 0, none⟩)), (90, .pointer (some ⟨b1, 23, none⟩))] (by as_aux_lemma => kernel_rfl) (by as_aux_lemma => kernel_rfl) ?_
  refine RW.load (κ := .seq) (d := some 91) (r := (sq 3 6)) (T := 54) (b := b1) (o' := 23) (k := 23) (v := .int .i64 m.op) (by as_aux_lemma => kernel_rfl) (H.cells 2 rfl) rfl (by as_aux_lemma => kernel_rfl) ?_
  refine RW.callS (d := some 92) (r := (sq 4 6)) (g := 111) (args := #[.pointer (some ⟨bp, 0, none⟩), .int .i64 m.op]) (by as_aux_lemma => kernel_rfl) (int_spec (x := m.op) (by omega) ((H.lend (M1 := [(bp, .cells #[.slice a116 z119.length c117, .int .i64 0, .bool true, .bool false] 183 (0, 0))]) (W1 := [⟨Shape.bv .u8 8, 5, .slice a116 z119.length c117, z119⟩])).pick [] rfl) (by first | omega | (simp only [List.length_append, List.length_nil]; omega))) ?_
  rintro _ w121 ⟨a123, c124, rfl, H'⟩
  have H := H.back (M1 := [(bp, .cells #[.slice a116 z119.length c117, .int .i64 0, .bool true, .bool false] 183 (0, 0))]) (W1 := [⟨Shape.bv .u8 8, 5, .slice a116 z119.length c117, z119⟩]) H'
  have H : Hp w S O [(bp, .cells #[.slice a123 ((z119 ++ intE m.op).length) c124, .int .i64 0, .bool true, .bool false] 183 (0, 0)), (b3, .cells (msgZ).toArray 57 (0, 0)), (b1, .cells ((msgV m none 0 a87 c88 a89 c90 ma3 mk3 ma4 mk4).set 10 (.slice none 0 0)).toArray 57 (0, 0))] [⟨Shape.bv .u8 8, 5, .slice a123 ((z119 ++ intE m.op).length) c124, (z119 ++ intE m.op)⟩] [Rp (Shape.slice (Shape.bv .u8 8)) [.slice ma3 m.data.length mk3] m.data] _ := H
  obtain ⟨z126, hz126⟩ : ∃ z, z = (z119 ++ intE m.op) := ⟨_, rfl⟩
  rw [← hz126] at H
  have hlz126 := congrArg List.length hz126
  rw [List.length_append] at hlz126
  refine RW.runP 1 [0, 3, 4, 92, 93] (sq 5 6) [(0, .pointer (some ⟨bp, 0, none⟩)), (3, .pointer (some ⟨b1, 0, none⟩)), (4, .pointer (some ⟨b3, 0, none⟩)), (92, .int .i64 m.op), (93, .pointer (some ⟨b1, 23, none⟩))] (by as_aux_lemma => kernel_rfl) (by as_aux_lemma => kernel_rfl) ?_
  refine RW.store (d := none) (r := (sq 6 6)) (T := 54) (b := b1) (k := 23) (v := .int .i64 m.op) (c' := ((msgV m none 0 a87 c88 a89 c90 ma3 mk3 ma4 mk4).set 10 (.slice none 0 0)).toArray) (M' := [(bp, .cells #[.slice a123 z126.length c124, .int .i64 0, .bool true, .bool false] 183 (0, 0)), (b3, .cells (msgZ).toArray 57 (0, 0)), (b1, .cells ((msgV m none 0 a87 c88 a89 c90 ma3 mk3 ma4 mk4).set 10 (.slice none 0 0)).toArray 57 (0, 0))]) (by as_aux_lemma => kernel_rfl) H 2 rfl (by as_aux_lemma => kernel_rfl) (by as_aux_lemma => kernel_rfl) ?_
  intro w127 H
  refine RW.fin 0 [0, 3, 4] [(0, .pointer (some ⟨bp, 0, none⟩)), (3, .pointer (some ⟨b1, 0, none⟩)), (4, .pointer (some ⟨b3, 0, none⟩))] (by as_aux_lemma => kernel_rfl) ?_
  refine WK.run 1 [0, 3, 4] [.code (cd Try.prog 93 [18, 0]), .code (cd Try.prog 93 [19])] [(0, .pointer (some ⟨bp, 0, none⟩)), (3, .pointer (some ⟨b1, 0, none⟩)), (4, .pointer (some ⟨b3, 0, none⟩))] (by as_aux_lemma => kernel_rfl) ?_
  refine WK.reg1 (l := sq 0 6) (by as_aux_lemma => kernel_rfl) (by as_aux_lemma => kernel_rfl) ?_
  refine RW.runP 2 [0, 3, 4, 94, 95] (sq 2 6) [(0, .pointer (some ⟨bp, 0, none⟩)), (3, .pointer (some ⟨b1, 0, none⟩)), (4, .pointer (some ⟨b3, 0, none⟩)), (94, .pointer (some ⟨bp, 0, none⟩)), (95, .pointer (some ⟨b1, 24, none⟩))] (by as_aux_lemma => kernel_rfl) (by as_aux_lemma => kernel_rfl) ?_
  refine RW.load (κ := .seq) (d := some 96) (r := (sq 3 6)) (T := 9) (b := b1) (o' := 24) (k := 24) (v := .string m.key) (by as_aux_lemma => kernel_rfl) (H.cells 2 rfl) rfl (by as_aux_lemma => kernel_rfl) ?_
  refine RW.callS (d := some 97) (r := (sq 4 6)) (g := 118) (args := #[.pointer (some ⟨bp, 0, none⟩), .string m.key]) (by as_aux_lemma => kernel_rfl) (text_spec (s := m.key) hkey ((H.lend (M1 := [(bp, .cells #[.slice a123 z126.length c124, .int .i64 0, .bool true, .bool false] 183 (0, 0))]) (W1 := [⟨Shape.bv .u8 8, 5, .slice a123 z126.length c124, z126⟩])).pick [] rfl) (by first | omega | (simp only [List.length_append, List.length_nil]; omega))) ?_
  rintro v129 w128 ⟨a130, c131, ⟨t133, rfl⟩, H'⟩
  have H := H.back (M1 := [(bp, .cells #[.slice a123 z126.length c124, .int .i64 0, .bool true, .bool false] 183 (0, 0))]) (W1 := [⟨Shape.bv .u8 8, 5, .slice a123 z126.length c124, z126⟩]) H'
  have H : Hp w S O [(bp, .cells #[.slice a130 ((z126 ++ textE m.key).length) c131, .int .i64 0, .bool true, .bool false] 183 (0, 0)), (b3, .cells (msgZ).toArray 57 (0, 0)), (b1, .cells ((msgV m none 0 a87 c88 a89 c90 ma3 mk3 ma4 mk4).set 10 (.slice none 0 0)).toArray 57 (0, 0))] [⟨Shape.bv .u8 8, 5, .slice a130 ((z126 ++ textE m.key).length) c131, (z126 ++ textE m.key)⟩] [Rp (Shape.slice (Shape.bv .u8 8)) [.slice ma3 m.data.length mk3] m.data] _ := H
  obtain ⟨z134, hz134⟩ : ∃ z, z = (z126 ++ textE m.key) := ⟨_, rfl⟩
  rw [← hz134] at H
  have hlz134 := congrArg List.length hz134
  rw [List.length_append] at hlz134
  refine RW.runP 1 [0, 3, 4, 97, 98] (sq 5 6) [(0, .pointer (some ⟨bp, 0, none⟩)), (3, .pointer (some ⟨b1, 0, none⟩)), (4, .pointer (some ⟨b3, 0, none⟩)), (97, .string t133), (98, .pointer (some ⟨b1, 24, none⟩))] (by as_aux_lemma => kernel_rfl) (by as_aux_lemma => kernel_rfl) ?_
  refine RW.store (d := none) (r := (sq 6 6)) (T := 9) (b := b1) (k := 24) (v := .string t133) (c' := (((msgV m none 0 a87 c88 a89 c90 ma3 mk3 ma4 mk4).set 10 (.slice none 0 0)).set 24 (.string t133)).toArray) (M' := [(bp, .cells #[.slice a130 z134.length c131, .int .i64 0, .bool true, .bool false] 183 (0, 0)), (b3, .cells (msgZ).toArray 57 (0, 0)), (b1, .cells (((msgV m none 0 a87 c88 a89 c90 ma3 mk3 ma4 mk4).set 10 (.slice none 0 0)).set 24 (.string t133)).toArray 57 (0, 0))]) (by as_aux_lemma => kernel_rfl) H 2 rfl (by as_aux_lemma => kernel_rfl) (by as_aux_lemma => kernel_rfl) ?_
  intro w135 H
  refine RW.fin 0 [0, 3, 4] [(0, .pointer (some ⟨bp, 0, none⟩)), (3, .pointer (some ⟨b1, 0, none⟩)), (4, .pointer (some ⟨b3, 0, none⟩))] (by as_aux_lemma => kernel_rfl) ?_
  refine WK.run 1 [0, 3, 4] [.code (cd Try.prog 93 [19, 0]), .code (cd Try.prog 93 [20])] [(0, .pointer (some ⟨bp, 0, none⟩)), (3, .pointer (some ⟨b1, 0, none⟩)), (4, .pointer (some ⟨b3, 0, none⟩))] (by as_aux_lemma => kernel_rfl) ?_
  refine WK.reg1 (l := sq 0 6) (by as_aux_lemma => kernel_rfl) (by as_aux_lemma => kernel_rfl) ?_
  refine RW.runP 2 [0, 3, 4, 99, 100] (sq 2 6) [(0, .pointer (some ⟨bp, 0, none⟩)), (3, .pointer (some ⟨b1, 0, none⟩)), (4, .pointer (some ⟨b3, 0, none⟩)), (99, .pointer (some ⟨bp, 0, none⟩)), (100, .pointer (some ⟨b1, 25, none⟩))] (by as_aux_lemma => kernel_rfl) (by as_aux_lemma => kernel_rfl) ?_
  refine RW.load (κ := .seq) (d := some 101) (r := (sq 3 6)) (T := 24) (b := b1) (o' := 25) (k := 25) (v := .int .i64 m.code) (by as_aux_lemma => kernel_rfl) (H.cells 2 rfl) rfl (by as_aux_lemma => kernel_rfl) ?_
  refine RW.callS (d := some 102) (r := (sq 4 6)) (g := 111) (args := #[.pointer (some ⟨bp, 0, none⟩), .int .i64 m.code]) (by as_aux_lemma => kernel_rfl) (int_spec (x := m.code) (by omega) ((H.lend (M1 := [(bp, .cells #[.slice a130 z134.length c131, .int .i64 0, .bool true, .bool false] 183 (0, 0))]) (W1 := [⟨Shape.bv .u8 8, 5, .slice a130 z134.length c131, z134⟩])).pick [] rfl) (by first | omega | (simp only [List.length_append, List.length_nil]; omega))) ?_
  rintro _ w136 ⟨a138, c139, rfl, H'⟩
  have H := H.back (M1 := [(bp, .cells #[.slice a130 z134.length c131, .int .i64 0, .bool true, .bool false] 183 (0, 0))]) (W1 := [⟨Shape.bv .u8 8, 5, .slice a130 z134.length c131, z134⟩]) H'
  have H : Hp w S O [(bp, .cells #[.slice a138 ((z134 ++ intE m.code).length) c139, .int .i64 0, .bool true, .bool false] 183 (0, 0)), (b3, .cells (msgZ).toArray 57 (0, 0)), (b1, .cells (((msgV m none 0 a87 c88 a89 c90 ma3 mk3 ma4 mk4).set 10 (.slice none 0 0)).set 24 (.string t133)).toArray 57 (0, 0))] [⟨Shape.bv .u8 8, 5, .slice a138 ((z134 ++ intE m.code).length) c139, (z134 ++ intE m.code)⟩] [Rp (Shape.slice (Shape.bv .u8 8)) [.slice ma3 m.data.length mk3] m.data] _ := H
  obtain ⟨z141, hz141⟩ : ∃ z, z = (z134 ++ intE m.code) := ⟨_, rfl⟩
  rw [← hz141] at H
  have hlz141 := congrArg List.length hz141
  rw [List.length_append] at hlz141
  refine RW.runP 1 [0, 3, 4, 102, 103] (sq 5 6) [(0, .pointer (some ⟨bp, 0, none⟩)), (3, .pointer (some ⟨b1, 0, none⟩)), (4, .pointer (some ⟨b3, 0, none⟩)), (102, .int .i64 m.code), (103, .pointer (some ⟨b1, 25, none⟩))] (by as_aux_lemma => kernel_rfl) (by as_aux_lemma => kernel_rfl) ?_
  refine RW.store (d := none) (r := (sq 6 6)) (T := 24) (b := b1) (k := 25) (v := .int .i64 m.code) (c' := (((msgV m none 0 a87 c88 a89 c90 ma3 mk3 ma4 mk4).set 10 (.slice none 0 0)).set 24 (.string t133)).toArray) (M' := [(bp, .cells #[.slice a138 z141.length c139, .int .i64 0, .bool true, .bool false] 183 (0, 0)), (b3, .cells (msgZ).toArray 57 (0, 0)), (b1, .cells (((msgV m none 0 a87 c88 a89 c90 ma3 mk3 ma4 mk4).set 10 (.slice none 0 0)).set 24 (.string t133)).toArray 57 (0, 0))]) (by as_aux_lemma => kernel_rfl) H 2 rfl (by as_aux_lemma => kernel_rfl) (by as_aux_lemma => kernel_rfl) ?_
  intro w142 H
  refine RW.fin 0 [0, 3, 4] [(0, .pointer (some ⟨bp, 0, none⟩)), (3, .pointer (some ⟨b1, 0, none⟩)), (4, .pointer (some ⟨b3, 0, none⟩))] (by as_aux_lemma => kernel_rfl) ?_
  refine WK.run 1 [0, 3, 4] [.code (cd Try.prog 93 [20, 0]), .code (cd Try.prog 93 [21])] [(0, .pointer (some ⟨bp, 0, none⟩)), (3, .pointer (some ⟨b1, 0, none⟩)), (4, .pointer (some ⟨b3, 0, none⟩))] (by as_aux_lemma => kernel_rfl) ?_
  refine WK.reg1 (l := sq 0 6) (by as_aux_lemma => kernel_rfl) (by as_aux_lemma => kernel_rfl) ?_
  refine RW.runP 2 [0, 3, 4, 104, 105] (sq 2 6) [(0, .pointer (some ⟨bp, 0, none⟩)), (3, .pointer (some ⟨b1, 0, none⟩)), (4, .pointer (some ⟨b3, 0, none⟩)), (104, .pointer (some ⟨bp, 0, none⟩)), (105, .pointer (some ⟨b1, 26, none⟩))] (by as_aux_lemma => kernel_rfl) (by as_aux_lemma => kernel_rfl) ?_
  refine RW.load (κ := .seq) (d := some 106) (r := (sq 3 6)) (T := 55) (b := b1) (o' := 26) (k := 26) (v := .slice ma4 m.names.length mk4) (by as_aux_lemma => kernel_rfl) (H.cells 2 rfl) rfl (by as_aux_lemma => kernel_rfl) ?_
  refine RW.runP 1 [0, 3, 4, 104, 107] (sq 4 6) [(0, .pointer (some ⟨bp, 0, none⟩)), (3, .pointer (some ⟨b1, 0, none⟩)), (4, .pointer (some ⟨b3, 0, none⟩)), (104, .pointer (some ⟨bp, 0, none⟩)), (107, .int .i64 ((m.names.length : Nat) : Int))] (by as_aux_lemma => kernel_rfl) (by as_aux_lemma => kernel_rfl) ?_
  refine RW.callS (d := some 108) (r := (sq 5 6)) (g := 119) (args := #[.pointer (some ⟨bp, 0, none⟩), .int .i64 ((m.names.length : Nat) : Int)]) (by as_aux_lemma => kernel_rfl) (len_spec (k := m.names.length) (by omega) ((H.lend (M1 := [(bp, .cells #[.slice a138 z141.length c139, .int .i64 0, .bool true, .bool false] 183 (0, 0))]) (W1 := [⟨Shape.bv .u8 8, 5, .slice a138 z141.length c139, z141⟩])).pick [] rfl) (by first | omega | (simp only [List.length_append, List.length_nil]; omega))) ?_
  rintro _ w143 ⟨a145, c146, rfl, H'⟩
  have H := H.back (M1 := [(bp, .cells #[.slice a138 z141.length c139, .int .i64 0, .bool true, .bool false] 183 (0, 0))]) (W1 := [⟨Shape.bv .u8 8, 5, .slice a138 z141.length c139, z141⟩]) H'
  have H : Hp w S O [(bp, .cells #[.slice a145 ((z141 ++ num m.names.length).length) c146, .int .i64 0, .bool true, .bool false] 183 (0, 0)), (b3, .cells (msgZ).toArray 57 (0, 0)), (b1, .cells (((msgV m none 0 a87 c88 a89 c90 ma3 mk3 ma4 mk4).set 10 (.slice none 0 0)).set 24 (.string t133)).toArray 57 (0, 0))] [⟨Shape.bv .u8 8, 5, .slice a145 ((z141 ++ num m.names.length).length) c146, (z141 ++ num m.names.length)⟩] [Rp (Shape.slice (Shape.bv .u8 8)) [.slice ma3 m.data.length mk3] m.data] _ := H
  obtain ⟨z148, hz148⟩ : ∃ z, z = (z141 ++ num m.names.length) := ⟨_, rfl⟩
  rw [← hz148] at H
  have hlz148 := congrArg List.length hz148
  rw [List.length_append] at hlz148
  refine RW.fin 1 [0, 3, 4, 5] [(0, .pointer (some ⟨bp, 0, none⟩)), (3, .pointer (some ⟨b1, 0, none⟩)), (4, .pointer (some ⟨b3, 0, none⟩)), (5, .int .i64 ((m.names.length : Nat) : Int))] (by as_aux_lemma => kernel_rfl) ?_
  refine WK.run 6 [0, 3, 4, 5, 6, 7] [.code (cd Try.prog 93 [22, 0, 1, 0]), .inBlock 0, .code (cd Try.prog 93 [23])] [(0, .pointer (some ⟨bp, 0, none⟩)), (3, .pointer (some ⟨b1, 0, none⟩)), (4, .pointer (some ⟨b3, 0, none⟩)), (5, .int .i64 ((m.names.length : Nat) : Int)), (6, .slice none 0 0), (7, .int .i64 0)] (by as_aux_lemma => kernel_rfl) ?_
  refine WK.loop (α := Unit) (b := cd Try.prog 93 [22, 0, 1, 0, 0]) (by as_aux_lemma => kernel_rfl) (fun _ => [(0, .pointer (some ⟨bp, 0, none⟩)), (3, .pointer (some ⟨b1, 0, none⟩)), (4, .pointer (some ⟨b3, 0, none⟩)), (5, .int .i64 ((m.names.length : Nat) : Int)), (6, .slice none 0 0), (7, .int .i64 0)]) (fun _ w' => Hp w S O [(bp, .cells #[.slice a145 z148.length c146, .int .i64 0, .bool true, .bool false] 183 (0, 0)), (b3, .cells (msgZ).toArray 57 (0, 0)), (b1, .cells (((msgV m none 0 a87 c88 a89 c90 ma3 mk3 ma4 mk4).set 10 (.slice none 0 0)).set 24 (.string t133)).toArray 57 (0, 0))] [⟨Shape.bv .u8 8, 5, .slice a145 z148.length c146, z148⟩] [Rp (Shape.slice (Shape.bv .u8 8)) [.slice ma3 m.data.length mk3] m.data] w' ∧ True) (fun _ => 0) (()) ⟨H, trivial⟩ (rfl) ?_
  rintro _ w150 ⟨H, hinv0⟩ hback149
  refine WK.run 2 [0, 3, 4, 5, 6, 7] [.code (cd Try.prog 93 [22, 0, 1, 0, 0, 0, 0]), .code (cd Try.prog 93 [22, 0, 1, 0, 0, 0, 1]), .code (cd Try.prog 93 [22, 0, 1, 0, 0, 1]), .inLoop (cd Try.prog 93 [22, 0, 1, 0, 0]), .inBlock 0, .code (cd Try.prog 93 [23])] [(0, .pointer (some ⟨bp, 0, none⟩)), (3, .pointer (some ⟨b1, 0, none⟩)), (4, .pointer (some ⟨b3, 0, none⟩)), (5, .int .i64 ((m.names.length : Nat) : Int)), (6, .slice none 0 0), (7, .int .i64 0)] (by as_aux_lemma => kernel_rfl) ?_
  refine WK.reg1 (l := sq 0 10) (by as_aux_lemma => kernel_rfl) (by as_aux_lemma => kernel_rfl) ?_
  refine RW.runP 4 [0, 3, 4, 5, 6, 7, 112] (sq 4 10) [(0, .pointer (some ⟨bp, 0, none⟩)), (3, .pointer (some ⟨b1, 0, none⟩)), (4, .pointer (some ⟨b3, 0, none⟩)), (5, .int .i64 ((m.names.length : Nat) : Int)), (6, .slice none 0 0), (7, .int .i64 0), (112, .bool (decide ((0 : Int) < ((m.names.length : Nat) : Int))))] (by as_aux_lemma => kernel_rfl) (by as_aux_lemma => kernel_rfl) ?_
  refine RW.test (fun b_ => [(0, .pointer (some ⟨bp, 0, none⟩)), (3, .pointer (some ⟨b1, 0, none⟩)), (4, .pointer (some ⟨b3, 0, none⟩)), (5, .int .i64 ((m.names.length : Nat) : Int)), (6, .slice none 0 0), (7, .int .i64 0), (112, .bool b_)]) (decide ((0 : Int) < ((m.names.length : Nat) : Int))) (fun h151 => ?_) (fun h151 => ?_)
  · skip
    replace h151 := of_decide_eq_true h151
    omega
  · skip
    replace h151 := of_decide_eq_false h151
    refine RW.fin 6 [0, 3, 4, 5, 6, 7, 118] [(0, .pointer (some ⟨bp, 0, none⟩)), (3, .pointer (some ⟨b1, 0, none⟩)), (4, .pointer (some ⟨b3, 0, none⟩)), (5, .int .i64 ((m.names.length : Nat) : Int)), (6, .slice none 0 0), (7, .int .i64 0), (118, .bool false)] (by as_aux_lemma => kernel_rfl) ?_
    refine WK.run 3 [3, 4, 6] [.code (cd Try.prog 93 [23, 0]), .code (cd Try.prog 93 [24])] [(3, .pointer (some ⟨b1, 0, none⟩)), (4, .pointer (some ⟨b3, 0, none⟩)), (6, .slice none 0 0)] (by as_aux_lemma => kernel_rfl) ?_
    refine WK.reg1 (l := sq 0 3) (by as_aux_lemma => kernel_rfl) (by as_aux_lemma => kernel_rfl) ?_
    refine RW.runP 2 [3, 4, 137, 138] (sq 2 3) [(3, .pointer (some ⟨b1, 0, none⟩)), (4, .pointer (some ⟨b3, 0, none⟩)), (137, .slice none 0 0), (138, .pointer (some ⟨b1, 26, none⟩))] (by as_aux_lemma => kernel_rfl) (by as_aux_lemma => kernel_rfl) ?_
    refine RW.store (d := none) (r := (sq 3 3)) (T := 55) (b := b1) (k := 26) (v := .slice none 0 0) (c' := ((((msgV m none 0 a87 c88 a89 c90 ma3 mk3 none 0).set 10 (.slice none 0 0)).set 24 (.string t133)).set 26 (.slice none 0 0)).toArray) (M' := [(bp, .cells #[.slice a145 z148.length c146, .int .i64 0, .bool true, .bool false] 183 (0, 0)), (b3, .cells (msgZ).toArray 57 (0, 0)), (b1, .cells ((((msgV m none 0 a87 c88 a89 c90 ma3 mk3 none 0).set 10 (.slice none 0 0)).set 24 (.string t133)).set 26 (.slice none 0 0)).toArray 57 (0, 0))]) (by as_aux_lemma => kernel_rfl) H 2 rfl (by as_aux_lemma => kernel_rfl) (by as_aux_lemma => kernel_rfl) ?_
    intro w152 H
    refine RW.fin 0 [3, 4] [(3, .pointer (some ⟨b1, 0, none⟩)), (4, .pointer (some ⟨b3, 0, none⟩))] (by as_aux_lemma => kernel_rfl) ?_
    refine WK.run 1 [3, 4] [.code (cd Try.prog 93 [24, 0]), .code (cd Try.prog 93 [25])] [(3, .pointer (some ⟨b1, 0, none⟩)), (4, .pointer (some ⟨b3, 0, none⟩))] (by as_aux_lemma => kernel_rfl) ?_
    refine WK.reg1 (l := sq 0 2) (by as_aux_lemma => kernel_rfl) (by as_aux_lemma => kernel_rfl) ?_
    refine RW.load (κ := .seq) (d := some 139) (r := (sq 1 2)) (T := 57) (b := b1) (o' := 0) (k := 0) (v := .agg ((((msgV m none 0 a87 c88 a89 c90 ma3 mk3 none 0).set 10 (.slice none 0 0)).set 24 (.string t133)).set 26 (.slice none 0 0)).toArray) (by as_aux_lemma => kernel_rfl) (H.cells 2 rfl) rfl (by as_aux_lemma => kernel_rfl) ?_
    refine RW.store (d := none) (r := (sq 2 2)) (T := 57) (b := b3) (k := 0) (v := .agg ((((msgV m none 0 a87 c88 a89 c90 ma3 mk3 none 0).set 10 (.slice none 0 0)).set 24 (.string t133)).set 26 (.slice none 0 0)).toArray) (c' := ((((msgV m none 0 a87 c88 a89 c90 ma3 mk3 none 0).set 10 (.slice none 0 0)).set 24 (.string t133)).set 26 (.slice none 0 0)).toArray) (M' := [(bp, .cells #[.slice a145 z148.length c146, .int .i64 0, .bool true, .bool false] 183 (0, 0)), (b3, .cells ((((msgV m none 0 a87 c88 a89 c90 ma3 mk3 none 0).set 10 (.slice none 0 0)).set 24 (.string t133)).set 26 (.slice none 0 0)).toArray 57 (0, 0)), (b1, .cells ((((msgV m none 0 a87 c88 a89 c90 ma3 mk3 none 0).set 10 (.slice none 0 0)).set 24 (.string t133)).set 26 (.slice none 0 0)).toArray 57 (0, 0))]) (by as_aux_lemma => kernel_rfl) H 1 rfl (by as_aux_lemma => kernel_rfl) (by as_aux_lemma => kernel_rfl) ?_
    intro w153 H
    refine RW.fin 0 [4] [(4, .pointer (some ⟨b3, 0, none⟩))] (by as_aux_lemma => kernel_rfl) ?_
    refine WK.retBy (v := .agg ((((msgV m none 0 a87 c88 a89 c90 ma3 mk3 none 0).set 10 (.slice none 0 0)).set 24 (.string t133)).set 26 (.slice none 0 0)).toArray) Try.func93 (by as_aux_lemma => kernel_rfl) (RV.res1 (x := .cell 4 57) (by as_aux_lemma => kernel_rfl) (RV.cell (k := 0) (by as_aux_lemma => kernel_rfl) (H.cells 1 rfl) rfl (by as_aux_lemma => kernel_rfl))) ?_
    have hcf : z148 = xs ++ msgE m := by simp [msgE, hz10, hz17, hz24, hz31, hz38, hz45, hz52, hz59, hz66, hz73, hz80, hz91, hz98, hz105, hz112, hz119, hz126, hz134, hz141, hz148]
    rw [hcf] at H
    have H := H.drop (M' := [(bp, .cells #[.slice a145 ((xs ++ msgE m).length) c146, .int .i64 0, .bool true, .bool false] 183 (0, 0))]) (W' := [⟨Shape.bv .u8 8, 5, .slice a145 ((xs ++ msgE m).length) c146, xs ++ msgE m⟩]) (by repeat (first | exact List.Sublist.refl _ | apply List.Sublist.cons_cons | apply List.Sublist.cons)) (by repeat (first | exact List.Sublist.refl _ | apply List.Sublist.cons_cons | apply List.Sublist.cons))
    exact ⟨_, rfl, _, _, H.pick [] rfl⟩


end Go.Proofs.Ytppcdmbkgficiaa
