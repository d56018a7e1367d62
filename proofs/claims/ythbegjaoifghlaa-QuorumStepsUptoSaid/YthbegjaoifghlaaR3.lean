import Derived.Test.YthbegjaoifghlaaR2
namespace Go.Proofs.Ythbegjaoifghlaa
open Go.BX

def confE (C : Conf) : List (BitVec 8) := num C.voters.length ++ intsE C.voters ++ (num C.learners.length ++ intsE C.learners)

theorem pconf_spec {S : Nat → Prop} {w : World} {O : List Nat} {bp : Nat} {xs : List (BitVec 8)} {a : Option Addr} {c : Nat} {C : Conf} {av al : Option Addr} {kv kl : Nat} (H0 : Hp w S O [(bp, .cells #[.slice a xs.length c, .int .i64 0, .bool true, .bool false] 71 (0, 0))] [⟨Shape.bv .u8 8, 5, .slice a xs.length c, xs⟩] [Rp (Shape.slice (Shape.int .i64)) [.slice av C.voters.length kv] C.voters, Rp (Shape.slice (Shape.int .i64)) [.slice al C.learners.length kl] C.learners] w) (hby : xs.length + 10 * (C.voters.length + C.learners.length + 4) ≤ 1099511627776) :
    Calls Try.prog 40 #[.pointer (some ⟨bp, 0, none⟩), .agg #[.slice av C.voters.length kv, .slice al C.learners.length kl]] w (Ret fun v w' => ∃ (a' : Option Addr) (c' : Nat), (True) ∧ Hp w S O [(bp, .cells #[.slice a' ((xs ++ confE C).length) c', .int .i64 0, .bool true, .bool false] 71 (0, 0))] [⟨Shape.bv .u8 8, 5, .slice a' ((xs ++ confE C).length) c', (xs ++ confE C)⟩] [] w') := by
  have hl1 := Shape.slice_len (H0.rp 0 rfl)
  have hl2 := Shape.slice_len (H0.rp 1 rfl)
  have hv1 : (num C.voters.length).length ≤ 10 := num_ten (by omega)
  have hv2 : (num C.learners.length).length ≤ 10 := num_ten (by omega)
  have hv3 := intsE_len (rep_ints (H0.rp 0 rfl))
  have hv4 := intsE_len (rep_ints (H0.rp 1 rfl))
  refine WK.calls1 (fn := Try.f40) (n := 16) (σ := [(0, .pointer (some ⟨bp, 0, none⟩)), (1, .agg #[.slice av C.voters.length kv, .slice al C.learners.length kl])]) Try.func40 rfl (by as_aux_lemma => kernel_rfl) (by as_aux_lemma => kernel_rfl) (by as_aux_lemma => kernel_rfl) ?_
  have H := H0
  refine WK.run 1 [0, 1] [.code (cd Try.prog 40 [0]), .code (cd Try.prog 40 [1])] [(0, .pointer (some ⟨bp, 0, none⟩)), (1, .agg #[.slice av C.voters.length kv, .slice al C.learners.length kl])] (by as_aux_lemma => kernel_rfl) ?_
  refine WK.reg1 (l := sq 0 2) (by as_aux_lemma => kernel_rfl) (by as_aux_lemma => kernel_rfl) ?_
  refine RW.new (κ := .seq) (d := some 3) (r := (sq 1 2)) (o := .cells #[.slice av C.voters.length kv, .slice al C.learners.length kl] 24 (0, 0)) (v := fun b => .pointer (some ⟨b, 0, none⟩)) (fun b => by as_aux_lemma => kernel_rfl) (nofun) H ?_
  intro b1 w2 H
  refine RW.new (κ := .seq) (d := some 4) (r := (sq 2 2)) (o := .cells #[.slice none 0 0, .slice none 0 0] 24 (0, 0)) (v := fun b => .pointer (some ⟨b, 0, none⟩)) (fun b => by as_aux_lemma => kernel_rfl) (nofun) H ?_
  intro b3 w4 H
  refine RW.fin 0 [0, 3, 4] [(0, .pointer (some ⟨bp, 0, none⟩)), (3, .pointer (some ⟨b1, 0, none⟩)), (4, .pointer (some ⟨b3, 0, none⟩))] (by as_aux_lemma => kernel_rfl) ?_
  refine WK.run 1 [0, 3, 4] [.code (cd Try.prog 40 [1, 0]), .code (cd Try.prog 40 [2])] [(0, .pointer (some ⟨bp, 0, none⟩)), (3, .pointer (some ⟨b1, 0, none⟩)), (4, .pointer (some ⟨b3, 0, none⟩))] (by as_aux_lemma => kernel_rfl) ?_
  refine WK.reg1 (l := sq 0 6) (by as_aux_lemma => kernel_rfl) (by as_aux_lemma => kernel_rfl) ?_
  refine RW.runP 2 [0, 3, 4, 5, 6] (sq 2 6) [(0, .pointer (some ⟨bp, 0, none⟩)), (3, .pointer (some ⟨b1, 0, none⟩)), (4, .pointer (some ⟨b3, 0, none⟩)), (5, .pointer (some ⟨bp, 0, none⟩)), (6, .pointer (some ⟨b1, 0, none⟩))] (by as_aux_lemma => kernel_rfl) (by as_aux_lemma => kernel_rfl) ?_
  refine RW.load (κ := .seq) (d := some 7) (r := (sq 3 6)) (T := 22) (b := b1) (o' := 0) (k := 0) (v := .slice av C.voters.length kv) (by as_aux_lemma => kernel_rfl) (H.cells 1 rfl) rfl (by as_aux_lemma => kernel_rfl) ?_
  have H := H.perms (M' := [(bp, .cells #[.slice a xs.length c, .int .i64 0, .bool true, .bool false] 71 (0, 0)), (b3, .cells #[.slice none 0 0, .slice none 0 0] 24 (0, 0)), (b1, .cells #[.slice av C.voters.length kv, .slice al C.learners.length kl] 24 (0, 0))]) (W' := [⟨Shape.bv .u8 8, 5, .slice a xs.length c, xs⟩]) (List.perm_middle (l₁ := ([(b3, .cells #[.slice none 0 0, .slice none 0 0] 24 (0, 0)), (b1, .cells #[.slice av C.voters.length kv, .slice al C.learners.length kl] 24 (0, 0))] : Heap))).symm (List.Perm.refl _)
  refine RW.callS (d := some 8) (r := (sq 4 6)) (g := 48) (args := #[.pointer (some ⟨bp, 0, none⟩), .slice av C.voters.length kv]) (by as_aux_lemma => kernel_rfl) (ints_spec  ((H.lend (M1 := [(bp, .cells #[.slice a xs.length c, .int .i64 0, .bool true, .bool false] 71 (0, 0))]) (W1 := [⟨Shape.bv .u8 8, 5, .slice a xs.length c, xs⟩])).pick [0] rfl) (by first | omega | (simp only [List.length_append, List.length_nil]; omega))) ?_
  rintro v6 w5 ⟨a7, c8, ⟨ar10, cr11, rfl⟩, H'⟩
  have H := H.back (M1 := [(bp, .cells #[.slice a xs.length c, .int .i64 0, .bool true, .bool false] 71 (0, 0))]) (W1 := [⟨Shape.bv .u8 8, 5, .slice a xs.length c, xs⟩]) H'
  have H : Hp w S O [(bp, .cells #[.slice a7 ((xs ++ (num C.voters.length ++ intsE C.voters)).length) c8, .int .i64 0, .bool true, .bool false] 71 (0, 0)), (b3, .cells #[.slice none 0 0, .slice none 0 0] 24 (0, 0)), (b1, .cells #[.slice av C.voters.length kv, .slice al C.learners.length kl] 24 (0, 0))] [⟨Shape.bv .u8 8, 5, .slice a7 ((xs ++ (num C.voters.length ++ intsE C.voters)).length) c8, (xs ++ (num C.voters.length ++ intsE C.voters))⟩] [Rp (Shape.slice (Shape.int .i64)) [.slice av C.voters.length kv] C.voters, Rp (Shape.slice (Shape.int .i64)) [.slice al C.learners.length kl] C.learners] _ := H
  refine RW.runP 1 [0, 3, 4, 8, 9] (sq 5 6) [(0, .pointer (some ⟨bp, 0, none⟩)), (3, .pointer (some ⟨b1, 0, none⟩)), (4, .pointer (some ⟨b3, 0, none⟩)), (8, .slice ar10 C.voters.length cr11), (9, .pointer (some ⟨b1, 0, none⟩))] (by as_aux_lemma => kernel_rfl) (by as_aux_lemma => kernel_rfl) ?_
  refine RW.store (d := none) (r := (sq 6 6)) (T := 22) (b := b1) (k := 0) (v := .slice ar10 C.voters.length cr11) (c' := #[.slice ar10 C.voters.length cr11, .slice al C.learners.length kl]) (M' := [(bp, .cells #[.slice a7 ((xs ++ (num C.voters.length ++ intsE C.voters)).length) c8, .int .i64 0, .bool true, .bool false] 71 (0, 0)), (b3, .cells #[.slice none 0 0, .slice none 0 0] 24 (0, 0)), (b1, .cells #[.slice ar10 C.voters.length cr11, .slice al C.learners.length kl] 24 (0, 0))]) (by as_aux_lemma => kernel_rfl) H 2 rfl (by as_aux_lemma => kernel_rfl) (by as_aux_lemma => kernel_rfl) ?_
  intro w12 H
  refine RW.fin 0 [0, 3, 4] [(0, .pointer (some ⟨bp, 0, none⟩)), (3, .pointer (some ⟨b1, 0, none⟩)), (4, .pointer (some ⟨b3, 0, none⟩))] (by as_aux_lemma => kernel_rfl) ?_
  refine WK.run 1 [0, 3, 4] [.code (cd Try.prog 40 [2, 0]), .code (cd Try.prog 40 [3])] [(0, .pointer (some ⟨bp, 0, none⟩)), (3, .pointer (some ⟨b1, 0, none⟩)), (4, .pointer (some ⟨b3, 0, none⟩))] (by as_aux_lemma => kernel_rfl) ?_
  refine WK.reg1 (l := sq 0 6) (by as_aux_lemma => kernel_rfl) (by as_aux_lemma => kernel_rfl) ?_
  refine RW.runP 2 [3, 4, 10, 11] (sq 2 6) [(3, .pointer (some ⟨b1, 0, none⟩)), (4, .pointer (some ⟨b3, 0, none⟩)), (10, .pointer (some ⟨bp, 0, none⟩)), (11, .pointer (some ⟨b1, 1, none⟩))] (by as_aux_lemma => kernel_rfl) (by as_aux_lemma => kernel_rfl) ?_
  refine RW.load (κ := .seq) (d := some 12) (r := (sq 3 6)) (T := 22) (b := b1) (o' := 1) (k := 1) (v := .slice al C.learners.length kl) (by as_aux_lemma => kernel_rfl) (H.cells 2 rfl) rfl (by as_aux_lemma => kernel_rfl) ?_
  refine RW.callS (d := some 13) (r := (sq 4 6)) (g := 48) (args := #[.pointer (some ⟨bp, 0, none⟩), .slice al C.learners.length kl]) (by as_aux_lemma => kernel_rfl) (ints_spec  ((H.lend (M1 := [(bp, .cells #[.slice a7 ((xs ++ (num C.voters.length ++ intsE C.voters)).length) c8, .int .i64 0, .bool true, .bool false] 71 (0, 0))]) (W1 := [⟨Shape.bv .u8 8, 5, .slice a7 ((xs ++ (num C.voters.length ++ intsE C.voters)).length) c8, (xs ++ (num C.voters.length ++ intsE C.voters))⟩])).pick [1] rfl) (by first | omega | (simp only [List.length_append, List.length_nil]; omega))) ?_
  rintro v14 w13 ⟨a15, c16, ⟨ar18, cr19, rfl⟩, H'⟩
  have H := H.back (M1 := [(bp, .cells #[.slice a7 ((xs ++ (num C.voters.length ++ intsE C.voters)).length) c8, .int .i64 0, .bool true, .bool false] 71 (0, 0))]) (W1 := [⟨Shape.bv .u8 8, 5, .slice a7 ((xs ++ (num C.voters.length ++ intsE C.voters)).length) c8, (xs ++ (num C.voters.length ++ intsE C.voters))⟩]) H'
  have H : Hp w S O [(bp, .cells #[.slice a15 (((xs ++ (num C.voters.length ++ intsE C.voters)) ++ (num C.learners.length ++ intsE C.learners)).length) c16, .int .i64 0, .bool true, .bool false] 71 (0, 0)), (b3, .cells #[.slice none 0 0, .slice none 0 0] 24 (0, 0)), (b1, .cells #[.slice ar10 C.voters.length cr11, .slice al C.learners.length kl] 24 (0, 0))] [⟨Shape.bv .u8 8, 5, .slice a15 (((xs ++ (num C.voters.length ++ intsE C.voters)) ++ (num C.learners.length ++ intsE C.learners)).length) c16, ((xs ++ (num C.voters.length ++ intsE C.voters)) ++ (num C.learners.length ++ intsE C.learners))⟩] [Rp (Shape.slice (Shape.int .i64)) [.slice av C.voters.length kv] C.voters, Rp (Shape.slice (Shape.int .i64)) [.slice al C.learners.length kl] C.learners] _ := H
  refine RW.runP 1 [3, 4, 13, 14] (sq 5 6) [(3, .pointer (some ⟨b1, 0, none⟩)), (4, .pointer (some ⟨b3, 0, none⟩)), (13, .slice ar18 C.learners.length cr19), (14, .pointer (some ⟨b1, 1, none⟩))] (by as_aux_lemma => kernel_rfl) (by as_aux_lemma => kernel_rfl) ?_
  refine RW.store (d := none) (r := (sq 6 6)) (T := 22) (b := b1) (k := 1) (v := .slice ar18 C.learners.length cr19) (c' := #[.slice ar10 C.voters.length cr11, .slice ar18 C.learners.length cr19]) (M' := [(bp, .cells #[.slice a15 (((xs ++ (num C.voters.length ++ intsE C.voters)) ++ (num C.learners.length ++ intsE C.learners)).length) c16, .int .i64 0, .bool true, .bool false] 71 (0, 0)), (b3, .cells #[.slice none 0 0, .slice none 0 0] 24 (0, 0)), (b1, .cells #[.slice ar10 C.voters.length cr11, .slice ar18 C.learners.length cr19] 24 (0, 0))]) (by as_aux_lemma => kernel_rfl) H 2 rfl (by as_aux_lemma => kernel_rfl) (by as_aux_lemma => kernel_rfl) ?_
  intro w20 H
  refine RW.fin 0 [3, 4] [(3, .pointer (some ⟨b1, 0, none⟩)), (4, .pointer (some ⟨b3, 0, none⟩))] (by as_aux_lemma => kernel_rfl) ?_
  refine WK.run 1 [3, 4] [.code (cd Try.prog 40 [3, 0]), .code (cd Try.prog 40 [4])] [(3, .pointer (some ⟨b1, 0, none⟩)), (4, .pointer (some ⟨b3, 0, none⟩))] (by as_aux_lemma => kernel_rfl) ?_
  refine WK.reg1 (l := sq 0 2) (by as_aux_lemma => kernel_rfl) (by as_aux_lemma => kernel_rfl) ?_
  refine RW.load (κ := .seq) (d := some 15) (r := (sq 1 2)) (T := 24) (b := b1) (o' := 0) (k := 0) (v := .agg #[.slice ar10 C.voters.length cr11, .slice ar18 C.learners.length cr19]) (by as_aux_lemma => kernel_rfl) (H.cells 2 rfl) rfl (by as_aux_lemma => kernel_rfl) ?_
  refine RW.store (d := none) (r := (sq 2 2)) (T := 24) (b := b3) (k := 0) (v := .agg #[.slice ar10 C.voters.length cr11, .slice ar18 C.learners.length cr19]) (c' := #[.slice ar10 C.voters.length cr11, .slice ar18 C.learners.length cr19]) (M' := [(bp, .cells #[.slice a15 (((xs ++ (num C.voters.length ++ intsE C.voters)) ++ (num C.learners.length ++ intsE C.learners)).length) c16, .int .i64 0, .bool true, .bool false] 71 (0, 0)), (b3, .cells #[.slice ar10 C.voters.length cr11, .slice ar18 C.learners.length cr19] 24 (0, 0)), (b1, .cells #[.slice ar10 C.voters.length cr11, .slice ar18 C.learners.length cr19] 24 (0, 0))]) (by as_aux_lemma => kernel_rfl) H 1 rfl (by as_aux_lemma => kernel_rfl) (by as_aux_lemma => kernel_rfl) ?_
  intro w21 H
  refine RW.fin 0 [4] [(4, .pointer (some ⟨b3, 0, none⟩))] (by as_aux_lemma => kernel_rfl) ?_
  refine WK.retBy (v := .agg #[.slice ar10 C.voters.length cr11, .slice ar18 C.learners.length cr19]) Try.func40 (by as_aux_lemma => kernel_rfl) (RV.res1 (x := .cell 4 24) (by as_aux_lemma => kernel_rfl) (RV.cell (k := 0) (by as_aux_lemma => kernel_rfl) (H.cells 1 rfl) rfl (by as_aux_lemma => kernel_rfl))) ?_
  have hcf : ((xs ++ (num C.voters.length ++ intsE C.voters)) ++ (num C.learners.length ++ intsE C.learners)) = xs ++ confE C := by simp [confE]
  rw [hcf] at H
  have H := H.drop (M' := [(bp, .cells #[.slice a15 ((xs ++ confE C).length) c16, .int .i64 0, .bool true, .bool false] 71 (0, 0))]) (W' := [⟨Shape.bv .u8 8, 5, .slice a15 ((xs ++ confE C).length) c16, xs ++ confE C⟩]) (by repeat (first | exact List.Sublist.refl _ | apply List.Sublist.cons_cons | apply List.Sublist.cons)) (by repeat (first | exact List.Sublist.refl _ | apply List.Sublist.cons_cons | apply List.Sublist.cons))
  exact ⟨_, rfl, _, _, by first | rfl | trivial, H.pick [] rfl⟩

theorem putconf_spec {S : Nat → Prop} {w : World} {ys : List (BitVec 8)} {a0 : Option Addr} {c0 : Nat} {C : Conf} {cs : List Value} (h : (Shape.slice (Shape.bv .u8 8)).rep S w [.slice a0 ys.length c0] ys) (hC : confS.rep S w cs C) (hby : ys.length + 10 * (C.voters.length + C.learners.length + 4) ≤ 1099511627776) :
    Calls Try.prog 28 #[.slice a0 ys.length c0, .agg cs.toArray] w (Ret fun v w' => Ext w w' ∧ Hp w S [] [] [⟨Shape.bv .u8 8, 5, v, ys ++ confE C⟩] [] w') := by
  obtain ⟨av, kv, al, kl, rfl, hcv, hcl⟩ := conf_open hC
  refine WK.calls1 (fn := Try.f28) (n := 15) (σ := [(0, .slice a0 ys.length c0), (1, .agg #[.slice av C.voters.length kv, .slice al C.learners.length kl])]) Try.func28 rfl (by as_aux_lemma => kernel_rfl) (by as_aux_lemma => kernel_rfl) (by as_aux_lemma => kernel_rfl) ?_
  have H := Hp.startF (w := w) (S := S) (G := [Rp (Shape.slice (Shape.bv .u8 8)) [.slice a0 ys.length c0] ys, Rp (Shape.slice (Shape.int .i64)) [.slice av C.voters.length kv] C.voters, Rp (Shape.slice (Shape.int .i64)) [.slice al C.learners.length kl] C.learners]) (.rp h (.rp hcv (.rp hcl .nil)))
  refine WK.run 1 [0, 1] [.code (cd Try.prog 28 [0]), .code (cd Try.prog 28 [1])] [(0, .slice a0 ys.length c0), (1, .agg #[.slice av C.voters.length kv, .slice al C.learners.length kl])] (by as_aux_lemma => kernel_rfl) ?_
  refine WK.reg1 (l := sq 0 2) (by as_aux_lemma => kernel_rfl) (by as_aux_lemma => kernel_rfl) ?_
  refine RW.new (κ := .seq) (d := some 3) (r := (sq 1 2)) (o := .cells #[.slice av C.voters.length kv, .slice al C.learners.length kl] 24 (0, 0)) (v := fun b => .pointer (some ⟨b, 0, none⟩)) (fun b => by as_aux_lemma => kernel_rfl) (nofun) H ?_
  intro b1 w2 H
  refine RW.fin 1 [0, 3] [(0, .slice a0 ys.length c0), (3, .pointer (some ⟨b1, 0, none⟩))] (by as_aux_lemma => kernel_rfl) ?_
  refine WK.run 1 [0, 3] [.code (cd Try.prog 28 [1, 0]), .code (cd Try.prog 28 [2])] [(0, .slice a0 ys.length c0), (3, .pointer (some ⟨b1, 0, none⟩))] (by as_aux_lemma => kernel_rfl) ?_
  refine WK.reg1 (l := sq 0 3) (by as_aux_lemma => kernel_rfl) (by as_aux_lemma => kernel_rfl) ?_
  refine RW.runP 1 [3, 6] (sq 1 3) [(3, .pointer (some ⟨b1, 0, none⟩)), (6, .slice a0 ys.length c0)] (by as_aux_lemma => kernel_rfl) (by as_aux_lemma => kernel_rfl) ?_
  refine RW.call (κ := .seq) (d := some 7) (r := (sq 2 3)) (g := 39) (args := #[.slice a0 ys.length c0]) (by as_aux_lemma => kernel_rfl) (nofun) (writer_spec (ys := ys) (H.rp 0 rfl) (by first | omega | simp)) ?_
  rintro _ w3 - ⟨b4, a5, c6, rfl, H'⟩
  have H := H.back (M1 := []) (W1 := []) H'
  have H : Hp w S [] [(b4, .cells #[.slice a5 ys.length c6, .int .i64 0, .bool true, .bool false] 71 (0, 0)), (b1, .cells #[.slice av C.voters.length kv, .slice al C.learners.length kl] 24 (0, 0))] [⟨Shape.bv .u8 8, 5, .slice a5 ys.length c6, ys⟩] [Rp (Shape.slice (Shape.bv .u8 8)) [.slice a0 ys.length c0] ys, Rp (Shape.slice (Shape.int .i64)) [.slice av C.voters.length kv] C.voters, Rp (Shape.slice (Shape.int .i64)) [.slice al C.learners.length kl] C.learners] _ := H
  refine RW.fin 1 [3, 5] [(3, .pointer (some ⟨b1, 0, none⟩)), (5, .pointer (some ⟨b4, 0, none⟩))] (by as_aux_lemma => kernel_rfl) ?_
  refine WK.run 1 [3, 5] [.code (cd Try.prog 28 [2, 0]), .code (cd Try.prog 28 [3])] [(3, .pointer (some ⟨b1, 0, none⟩)), (5, .pointer (some ⟨b4, 0, none⟩))] (by as_aux_lemma => kernel_rfl) ?_
  refine WK.reg1 (l := sq 0 3) (by as_aux_lemma => kernel_rfl) (by as_aux_lemma => kernel_rfl) ?_
  refine RW.runP 1 [3, 5, 8] (sq 1 3) [(3, .pointer (some ⟨b1, 0, none⟩)), (5, .pointer (some ⟨b4, 0, none⟩)), (8, .pointer (some ⟨b4, 0, none⟩))] (by as_aux_lemma => kernel_rfl) (by as_aux_lemma => kernel_rfl) ?_
  refine RW.load (κ := .seq) (d := some 9) (r := (sq 2 3)) (T := 24) (b := b1) (o' := 0) (k := 0) (v := .agg #[.slice av C.voters.length kv, .slice al C.learners.length kl]) (by as_aux_lemma => kernel_rfl) (H.cells 1 rfl) rfl (by as_aux_lemma => kernel_rfl) ?_
  refine RW.callS (d := some 10) (r := (sq 3 3)) (g := 40) (args := #[.pointer (some ⟨b4, 0, none⟩), .agg #[.slice av C.voters.length kv, .slice al C.learners.length kl]]) (by as_aux_lemma => kernel_rfl) (pconf_spec (C := C) ((H.lend (M1 := [(b4, .cells #[.slice a5 ys.length c6, .int .i64 0, .bool true, .bool false] 71 (0, 0))]) (W1 := [⟨Shape.bv .u8 8, 5, .slice a5 ys.length c6, ys⟩])).pick [1, 2] rfl) (by first | omega | (simp only [List.length_append, List.length_nil]; omega))) ?_
  rintro v8 w7 ⟨a9, c10, -, H'⟩
  have H := H.back (M1 := [(b4, .cells #[.slice a5 ys.length c6, .int .i64 0, .bool true, .bool false] 71 (0, 0))]) (W1 := [⟨Shape.bv .u8 8, 5, .slice a5 ys.length c6, ys⟩]) H'
  have H : Hp w S [] [(b4, .cells #[.slice a9 ((ys ++ confE C).length) c10, .int .i64 0, .bool true, .bool false] 71 (0, 0)), (b1, .cells #[.slice av C.voters.length kv, .slice al C.learners.length kl] 24 (0, 0))] [⟨Shape.bv .u8 8, 5, .slice a9 ((ys ++ confE C).length) c10, (ys ++ confE C)⟩] [Rp (Shape.slice (Shape.bv .u8 8)) [.slice a0 ys.length c0] ys, Rp (Shape.slice (Shape.int .i64)) [.slice av C.voters.length kv] C.voters, Rp (Shape.slice (Shape.int .i64)) [.slice al C.learners.length kl] C.learners] _ := H
  refine RW.fin 0 [5] [(5, .pointer (some ⟨b4, 0, none⟩))] (by as_aux_lemma => kernel_rfl) ?_
  refine WK.run 1 [5] [.code (cd Try.prog 28 [3, 0]), .code (cd Try.prog 28 [4])] [(5, .pointer (some ⟨b4, 0, none⟩))] (by as_aux_lemma => kernel_rfl) ?_
  refine WK.reg1 (l := sq 0 5) (by as_aux_lemma => kernel_rfl) (by as_aux_lemma => kernel_rfl) ?_
  refine RW.runP 3 [13] (sq 3 5) [(13, .pointer (some ⟨b4, 0, none⟩))] (by as_aux_lemma => kernel_rfl) (by as_aux_lemma => kernel_rfl) ?_
  refine RW.load (κ := .seq) (d := some 14) (r := (sq 4 5)) (T := 55) (b := b4) (o' := 0) (k := 0) (v := .slice a9 ((ys ++ confE C).length) c10) (by as_aux_lemma => kernel_rfl) (H.cells 0 rfl) rfl (by as_aux_lemma => kernel_rfl) ?_
  refine RW.fin 1 [4] [(4, .slice a9 ((ys ++ confE C).length) c10)] (by as_aux_lemma => kernel_rfl) ?_
  refine WK.ret (v := .slice a9 ((ys ++ confE C).length) c10) Try.func28 (by as_aux_lemma => kernel_rfl) (by as_aux_lemma => kernel_rfl) ?_
  have H := H.drop (M' := []) (W' := [⟨Shape.bv .u8 8, 5, .slice a9 ((ys ++ confE C).length) c10, (ys ++ confE C)⟩]) (List.nil_sublist _) (List.Sublist.refl _)
  exact ⟨_, rfl, H.done, H.pick [] rfl⟩

theorem sameconf_spec {S : Nat → Prop} {w : World} {cs : List Value} {C : Conf} (h : confS.rep S w cs C) {ds : List Value} {D : Conf} (h2 : confS.rep S w ds D) (hb1 : C.voters.length + C.learners.length ≤ 4194304) (hb2 : D.voters.length + D.learners.length ≤ 4194304) :
    Calls Try.prog 15 #[.agg cs.toArray, .agg ds.toArray] w (Ret fun v w' => Ext w w' ∧ v = .bool ((strOf (confE C)).toList == (strOf (confE D)).toList)) := by
  obtain ⟨a0C, k0C, a1C, k1C, rfl, hvC, hlC⟩ := conf_open h
  obtain ⟨a0D, k0D, a1D, k1D, rfl, hvD, hlD⟩ := conf_open h2
  refine WK.calls1 (fn := Try.f15) (n := 12) (σ := [(0, .agg #[.slice a0C C.voters.length k0C, .slice a1C C.learners.length k1C]), (1, .agg #[.slice a0D D.voters.length k0D, .slice a1D D.learners.length k1D])]) Try.func15 rfl (by as_aux_lemma => kernel_rfl) (by as_aux_lemma => kernel_rfl) (by as_aux_lemma => kernel_rfl) ?_
  have H := Hp.startF (w := w) (S := S) (G := [Rp (Shape.slice (Shape.int .i64)) [.slice a0C C.voters.length k0C] C.voters, Rp (Shape.slice (Shape.int .i64)) [.slice a1C C.learners.length k1C] C.learners, Rp (Shape.slice (Shape.int .i64)) [.slice a0D D.voters.length k0D] D.voters, Rp (Shape.slice (Shape.int .i64)) [.slice a1D D.learners.length k1D] D.learners]) (.rp hvC (.rp hlC (.rp hvD (.rp hlD .nil))))
  refine WK.run 1 [0, 1] [.code (cd Try.prog 15 [0]), .code (cd Try.prog 15 [1])] [(0, .agg #[.slice a0C C.voters.length k0C, .slice a1C C.learners.length k1C]), (1, .agg #[.slice a0D D.voters.length k0D, .slice a1D D.learners.length k1D])] (by as_aux_lemma => kernel_rfl) ?_
  refine WK.reg1 (l := sq 0 3) (by as_aux_lemma => kernel_rfl) (by as_aux_lemma => kernel_rfl) ?_
  refine RW.new (κ := .seq) (d := some 2) (r := (sq 1 3)) (o := .cells #[.slice a0C C.voters.length k0C, .slice a1C C.learners.length k1C] 24 (0, 0)) (v := fun b => .pointer (some ⟨b, 0, none⟩)) (fun b => by as_aux_lemma => kernel_rfl) (nofun) H ?_
  intro b1 w2 H
  refine RW.new (κ := .seq) (d := some 3) (r := (sq 2 3)) (o := .cells #[.slice a0D D.voters.length k0D, .slice a1D D.learners.length k1D] 24 (0, 0)) (v := fun b => .pointer (some ⟨b, 0, none⟩)) (fun b => by as_aux_lemma => kernel_rfl) (nofun) H ?_
  intro b3 w4 H
  refine RW.fin 1 [2, 3] [(2, .pointer (some ⟨b1, 0, none⟩)), (3, .pointer (some ⟨b3, 0, none⟩))] (by as_aux_lemma => kernel_rfl) ?_
  refine WK.run 1 [2, 3] [.code (cd Try.prog 15 [1, 0]), .code (cd Try.prog 15 [2])] [(2, .pointer (some ⟨b1, 0, none⟩)), (3, .pointer (some ⟨b3, 0, none⟩))] (by as_aux_lemma => kernel_rfl) ?_
  refine WK.draw1 8 [(0, .qui), (3, .qui), (1, .chn), (2, .qui), (4, .chn), (5, .qui), (6, .qui), (7, .qui)] [(0, .qui), (3, .qui), (1, .chn), (2, .qui), (4, .chn), (5, .qui), (6, .qui), (7, .qui)] Try_mixed (by as_aux_lemma => kernel_rfl) (by as_aux_lemma => kernel_rfl) (by as_aux_lemma => kernel_rfl) ?_
  have H := H.draw
  generalize ({ w4 with drawn := w4.drawn + 1 } : World) = w5 at H ⊢
  refine RW.load (κ := .qui) (d := some 5) (r := [(3, .qui), (1, .chn), (2, .qui), (4, .chn), (5, .qui), (6, .qui), (7, .qui)]) (T := 24) (b := b1) (o' := 0) (k := 0) (v := .agg #[.slice a0C C.voters.length k0C, .slice a1C C.learners.length k1C]) (by as_aux_lemma => kernel_rfl) (H.cells 1 rfl) rfl (by as_aux_lemma => kernel_rfl) ?_
  refine RW.load (κ := .qui) (d := some 8) (r := [(1, .chn), (2, .qui), (4, .chn), (5, .qui), (6, .qui), (7, .qui)]) (T := 24) (b := b3) (o' := 0) (k := 0) (v := .agg #[.slice a0D D.voters.length k0D, .slice a1D D.learners.length k1D]) (by as_aux_lemma => kernel_rfl) (H.cells 0 rfl) rfl (by as_aux_lemma => kernel_rfl) ?_
  have H := H.addRp (Shape.slice (Shape.bv .u8 8)) [.slice none 0 0] [] Shape.slice_nil
  refine RW.call (κ := .chn) (d := some 6) (r := [(2, .qui), (4, .chn), (5, .qui), (6, .qui), (7, .qui)]) (g := 28) (args := #[.slice none 0 0, .agg #[.slice a0C C.voters.length k0C, .slice a1C C.learners.length k1C]]) (by as_aux_lemma => kernel_rfl) (nofun) (putconf_spec (ys := ([] : List (BitVec 8))) (C := C) (H.rp 0 rfl) (conf_mk (H.rp 1 rfl) (H.rp 2 rfl)) (by first | omega | (simp only [List.length_append, List.length_nil]; omega))) ?_
  rintro v7 w6 - H'
  have H := H.back (M1 := []) (W1 := []) H'
  obtain ⟨a8, c9, rfl, hc10, hm11⟩ := H.ownForm 0 rfl
  have H : Hp w S [] [(b3, .cells #[.slice a0D D.voters.length k0D, .slice a1D D.learners.length k1D] 24 (0, 0)), (b1, .cells #[.slice a0C C.voters.length k0C, .slice a1C C.learners.length k1C] 24 (0, 0))] [⟨Shape.bv .u8 8, 5, .slice a8 ((confE C).length) c9, confE C⟩] [Rp (Shape.slice (Shape.bv .u8 8)) [.slice none 0 0] [], Rp (Shape.slice (Shape.int .i64)) [.slice a0C C.voters.length k0C] C.voters, Rp (Shape.slice (Shape.int .i64)) [.slice a1C C.learners.length k1C] C.learners, Rp (Shape.slice (Shape.int .i64)) [.slice a0D D.voters.length k0D] D.voters, Rp (Shape.slice (Shape.int .i64)) [.slice a1D D.learners.length k1D] D.learners] _ := H
  refine RW.toStr (κ := .qui) (d := some 7) (r := [(4, .chn), (5, .qui), (6, .qui), (7, .qui)]) (Ts := 55) (Td := 9) 5 (a := a8) (len := ((confE C).length)) (cap := c9) (xs := confE C) (by as_aux_lemma => kernel_rfl) (by as_aux_lemma => kernel_rfl) (H.view 0 rfl) ?_
  refine RW.call (κ := .chn) (d := some 9) (r := [(5, .qui), (6, .qui), (7, .qui)]) (g := 28) (args := #[.slice none 0 0, .agg #[.slice a0D D.voters.length k0D, .slice a1D D.learners.length k1D]]) (by as_aux_lemma => kernel_rfl) (nofun) (putconf_spec (ys := ([] : List (BitVec 8))) (C := D) (H.rp 0 rfl) (conf_mk (H.rp 3 rfl) (H.rp 4 rfl)) (by first | omega | (simp only [List.length_append, List.length_nil]; omega))) ?_
  rintro v13 w12 - H'
  have H := H.back (M1 := []) (W1 := []) H'
  obtain ⟨a14, c15, rfl, hc16, hm17⟩ := H.ownForm 0 rfl
  have H : Hp w S [] [(b3, .cells #[.slice a0D D.voters.length k0D, .slice a1D D.learners.length k1D] 24 (0, 0)), (b1, .cells #[.slice a0C C.voters.length k0C, .slice a1C C.learners.length k1C] 24 (0, 0))] [⟨Shape.bv .u8 8, 5, .slice a14 ((confE D).length) c15, confE D⟩, ⟨Shape.bv .u8 8, 5, .slice a8 ((confE C).length) c9, confE C⟩] [Rp (Shape.slice (Shape.bv .u8 8)) [.slice none 0 0] [], Rp (Shape.slice (Shape.int .i64)) [.slice a0C C.voters.length k0C] C.voters, Rp (Shape.slice (Shape.int .i64)) [.slice a1C C.learners.length k1C] C.learners, Rp (Shape.slice (Shape.int .i64)) [.slice a0D D.voters.length k0D] D.voters, Rp (Shape.slice (Shape.int .i64)) [.slice a1D D.learners.length k1D] D.learners] _ := H
  refine RW.toStr (κ := .qui) (d := some 10) (r := [(6, .qui), (7, .qui)]) (Ts := 55) (Td := 9) 5 (a := a14) (len := ((confE D).length)) (cap := c15) (xs := confE D) (by as_aux_lemma => kernel_rfl) (by as_aux_lemma => kernel_rfl) (H.view 0 rfl) ?_
  refine RW.fin 2 [4] [(4, .bool ((strOf (confE C)).toList == (strOf (confE D)).toList))] (by as_aux_lemma => kernel_rfl) ?_
  refine WK.ret (v := .bool ((strOf (confE C)).toList == (strOf (confE D)).toList)) Try.func15 (by as_aux_lemma => kernel_rfl) (by as_aux_lemma => kernel_rfl) ?_
  exact ⟨_, rfl, H.done, rfl⟩


end Go.Proofs.Ythbegjaoifghlaa
