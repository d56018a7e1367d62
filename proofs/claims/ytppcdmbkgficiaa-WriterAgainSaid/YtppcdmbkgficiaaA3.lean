import Derived.Test.YtppcdmbkgficiaaA2
namespace Go.Proofs.Ytppcdmbkgficiaa
open Go.BX

def confE (C : Conf) : List (BitVec 8) := num C.voters.length ++ intsE C.voters ++ (num C.learners.length ++ intsE C.learners)

theorem pconf_spec {S : Nat → Prop} {w : World} {O : List Nat} {bp : Nat} {xs : List (BitVec 8)} {a : Option Addr} {c : Nat} {C : Conf} {av al : Option Addr} {kv kl : Nat} (H0 : Hp w S O [(bp, .cells #[.slice a xs.length c, .int .i64 0, .bool true, .bool false] 183 (0, 0))] [⟨Shape.bv .u8 8, 5, .slice a xs.length c, xs⟩] [Rp (Shape.slice (Shape.int .i64)) [.slice av C.voters.length kv] C.voters, Rp (Shape.slice (Shape.int .i64)) [.slice al C.learners.length kl] C.learners] w) (hby : xs.length + 10 * (C.voters.length + C.learners.length + 4) ≤ 1099511627776) :
    Calls Try.prog 115 #[.pointer (some ⟨bp, 0, none⟩), .agg #[.slice av C.voters.length kv, .slice al C.learners.length kl]] w (Ret fun v w' => ∃ (a' : Option Addr) (c' : Nat), (∃ (a1 : Option Addr) (c1 : Nat) (a2 : Option Addr) (c2 : Nat), v = .agg #[.slice a1 C.voters.length c1, .slice a2 C.learners.length c2]) ∧ Hp w S O [(bp, .cells #[.slice a' ((xs ++ confE C).length) c', .int .i64 0, .bool true, .bool false] 183 (0, 0))] [⟨Shape.bv .u8 8, 5, .slice a' ((xs ++ confE C).length) c', (xs ++ confE C)⟩] [] w') := by
  have hl1 := Shape.slice_len (H0.rp 0 rfl)
  have hl2 := Shape.slice_len (H0.rp 1 rfl)
  have hv1 : (num C.voters.length).length ≤ 10 := num_ten (by omega)
  have hv2 : (num C.learners.length).length ≤ 10 := num_ten (by omega)
  have hv3 := intsE_len (rep_ints (H0.rp 0 rfl))
  have hv4 := intsE_len (rep_ints (H0.rp 1 rfl))
  refine WK.calls1 (fn := Try.f115) (n := 16) (σ := [(0, .pointer (some ⟨bp, 0, none⟩)), (1, .agg #[.slice av C.voters.length kv, .slice al C.learners.length kl])]) Try.func115 rfl (by as_aux_lemma => kernel_rfl) (by as_aux_lemma => kernel_rfl) (by as_aux_lemma => kernel_rfl) ?_
  have H := H0
  refine WK.run 1 [0, 1] [.code (cd Try.prog 115 [0]), .code (cd Try.prog 115 [1])] [(0, .pointer (some ⟨bp, 0, none⟩)), (1, .agg #[.slice av C.voters.length kv, .slice al C.learners.length kl])] (by as_aux_lemma => kernel_rfl) ?_
  refine WK.reg1 (l := sq 0 2) (by as_aux_lemma => kernel_rfl) (by as_aux_lemma => kernel_rfl) ?_
  refine RW.new (κ := .seq) (d := some 3) (r := (sq 1 2)) (o := .cells #[.slice av C.voters.length kv, .slice al C.learners.length kl] 48 (0, 0)) (v := fun b => .pointer (some ⟨b, 0, none⟩)) (fun b => by as_aux_lemma => kernel_rfl) (nofun) H ?_
  intro b1 w2 H
  refine RW.new (κ := .seq) (d := some 4) (r := (sq 2 2)) (o := .cells #[.slice none 0 0, .slice none 0 0] 48 (0, 0)) (v := fun b => .pointer (some ⟨b, 0, none⟩)) (fun b => by as_aux_lemma => kernel_rfl) (nofun) H ?_
  intro b3 w4 H
  refine RW.fin 0 [0, 3, 4] [(0, .pointer (some ⟨bp, 0, none⟩)), (3, .pointer (some ⟨b1, 0, none⟩)), (4, .pointer (some ⟨b3, 0, none⟩))] (by as_aux_lemma => kernel_rfl) ?_
  refine WK.run 1 [0, 3, 4] [.code (cd Try.prog 115 [1, 0]), .code (cd Try.prog 115 [2])] [(0, .pointer (some ⟨bp, 0, none⟩)), (3, .pointer (some ⟨b1, 0, none⟩)), (4, .pointer (some ⟨b3, 0, none⟩))] (by as_aux_lemma => kernel_rfl) ?_
  refine WK.reg1 (l := sq 0 6) (by as_aux_lemma => kernel_rfl) (by as_aux_lemma => kernel_rfl) ?_
  refine RW.runP 2 [0, 3, 4, 5, 6] (sq 2 6) [(0, .pointer (some ⟨bp, 0, none⟩)), (3, .pointer (some ⟨b1, 0, none⟩)), (4, .pointer (some ⟨b3, 0, none⟩)), (5, .pointer (some ⟨bp, 0, none⟩)), (6, .pointer (some ⟨b1, 0, none⟩))] (by as_aux_lemma => kernel_rfl) (by as_aux_lemma => kernel_rfl) ?_
  refine RW.load (κ := .seq) (d := some 7) (r := (sq 3 6)) (T := 25) (b := b1) (o' := 0) (k := 0) (v := .slice av C.voters.length kv) (by as_aux_lemma => kernel_rfl) (H.cells 1 rfl) rfl (by as_aux_lemma => kernel_rfl) ?_
  have H := H.perms (M' := [(bp, .cells #[.slice a xs.length c, .int .i64 0, .bool true, .bool false] 183 (0, 0)), (b3, .cells #[.slice none 0 0, .slice none 0 0] 48 (0, 0)), (b1, .cells #[.slice av C.voters.length kv, .slice al C.learners.length kl] 48 (0, 0))]) (W' := [⟨Shape.bv .u8 8, 5, .slice a xs.length c, xs⟩]) (List.perm_middle (l₁ := ([(b3, .cells #[.slice none 0 0, .slice none 0 0] 48 (0, 0)), (b1, .cells #[.slice av C.voters.length kv, .slice al C.learners.length kl] 48 (0, 0))] : Heap))).symm (List.Perm.refl _)
  refine RW.callS (d := some 8) (r := (sq 4 6)) (g := 142) (args := #[.pointer (some ⟨bp, 0, none⟩), .slice av C.voters.length kv]) (by as_aux_lemma => kernel_rfl) (ints_spec  ((H.lend (M1 := [(bp, .cells #[.slice a xs.length c, .int .i64 0, .bool true, .bool false] 183 (0, 0))]) (W1 := [⟨Shape.bv .u8 8, 5, .slice a xs.length c, xs⟩])).pick [0] rfl) (by first | omega | (simp only [List.length_append, List.length_nil]; omega))) ?_
  rintro v6 w5 ⟨a7, c8, ⟨ar10, cr11, rfl⟩, H'⟩
  have H := H.back (M1 := [(bp, .cells #[.slice a xs.length c, .int .i64 0, .bool true, .bool false] 183 (0, 0))]) (W1 := [⟨Shape.bv .u8 8, 5, .slice a xs.length c, xs⟩]) H'
  have H : Hp w S O [(bp, .cells #[.slice a7 ((xs ++ (num C.voters.length ++ intsE C.voters)).length) c8, .int .i64 0, .bool true, .bool false] 183 (0, 0)), (b3, .cells #[.slice none 0 0, .slice none 0 0] 48 (0, 0)), (b1, .cells #[.slice av C.voters.length kv, .slice al C.learners.length kl] 48 (0, 0))] [⟨Shape.bv .u8 8, 5, .slice a7 ((xs ++ (num C.voters.length ++ intsE C.voters)).length) c8, (xs ++ (num C.voters.length ++ intsE C.voters))⟩] [Rp (Shape.slice (Shape.int .i64)) [.slice av C.voters.length kv] C.voters, Rp (Shape.slice (Shape.int .i64)) [.slice al C.learners.length kl] C.learners] _ := H
  refine RW.runP 1 [0, 3, 4, 8, 9] (sq 5 6) [(0, .pointer (some ⟨bp, 0, none⟩)), (3, .pointer (some ⟨b1, 0, none⟩)), (4, .pointer (some ⟨b3, 0, none⟩)), (8, .slice ar10 C.voters.length cr11), (9, .pointer (some ⟨b1, 0, none⟩))] (by as_aux_lemma => kernel_rfl) (by as_aux_lemma => kernel_rfl) ?_
  refine RW.store (d := none) (r := (sq 6 6)) (T := 25) (b := b1) (k := 0) (v := .slice ar10 C.voters.length cr11) (c' := #[.slice ar10 C.voters.length cr11, .slice al C.learners.length kl]) (M' := [(bp, .cells #[.slice a7 ((xs ++ (num C.voters.length ++ intsE C.voters)).length) c8, .int .i64 0, .bool true, .bool false] 183 (0, 0)), (b3, .cells #[.slice none 0 0, .slice none 0 0] 48 (0, 0)), (b1, .cells #[.slice ar10 C.voters.length cr11, .slice al C.learners.length kl] 48 (0, 0))]) (by as_aux_lemma => kernel_rfl) H 2 rfl (by as_aux_lemma => kernel_rfl) (by as_aux_lemma => kernel_rfl) ?_
  intro w12 H
  refine RW.fin 0 [0, 3, 4] [(0, .pointer (some ⟨bp, 0, none⟩)), (3, .pointer (some ⟨b1, 0, none⟩)), (4, .pointer (some ⟨b3, 0, none⟩))] (by as_aux_lemma => kernel_rfl) ?_
  refine WK.run 1 [0, 3, 4] [.code (cd Try.prog 115 [2, 0]), .code (cd Try.prog 115 [3])] [(0, .pointer (some ⟨bp, 0, none⟩)), (3, .pointer (some ⟨b1, 0, none⟩)), (4, .pointer (some ⟨b3, 0, none⟩))] (by as_aux_lemma => kernel_rfl) ?_
  refine WK.reg1 (l := sq 0 6) (by as_aux_lemma => kernel_rfl) (by as_aux_lemma => kernel_rfl) ?_
  refine RW.runP 2 [3, 4, 10, 11] (sq 2 6) [(3, .pointer (some ⟨b1, 0, none⟩)), (4, .pointer (some ⟨b3, 0, none⟩)), (10, .pointer (some ⟨bp, 0, none⟩)), (11, .pointer (some ⟨b1, 1, none⟩))] (by as_aux_lemma => kernel_rfl) (by as_aux_lemma => kernel_rfl) ?_
  refine RW.load (κ := .seq) (d := some 12) (r := (sq 3 6)) (T := 25) (b := b1) (o' := 1) (k := 1) (v := .slice al C.learners.length kl) (by as_aux_lemma => kernel_rfl) (H.cells 2 rfl) rfl (by as_aux_lemma => kernel_rfl) ?_
  refine RW.callS (d := some 13) (r := (sq 4 6)) (g := 142) (args := #[.pointer (some ⟨bp, 0, none⟩), .slice al C.learners.length kl]) (by as_aux_lemma => kernel_rfl) (ints_spec  ((H.lend (M1 := [(bp, .cells #[.slice a7 ((xs ++ (num C.voters.length ++ intsE C.voters)).length) c8, .int .i64 0, .bool true, .bool false] 183 (0, 0))]) (W1 := [⟨Shape.bv .u8 8, 5, .slice a7 ((xs ++ (num C.voters.length ++ intsE C.voters)).length) c8, (xs ++ (num C.voters.length ++ intsE C.voters))⟩])).pick [1] rfl) (by first | omega | (simp only [List.length_append, List.length_nil]; omega))) ?_
  rintro v14 w13 ⟨a15, c16, ⟨ar18, cr19, rfl⟩, H'⟩
  have H := H.back (M1 := [(bp, .cells #[.slice a7 ((xs ++ (num C.voters.length ++ intsE C.voters)).length) c8, .int .i64 0, .bool true, .bool false] 183 (0, 0))]) (W1 := [⟨Shape.bv .u8 8, 5, .slice a7 ((xs ++ (num C.voters.length ++ intsE C.voters)).length) c8, (xs ++ (num C.voters.length ++ intsE C.voters))⟩]) H'
  have H : Hp w S O [(bp, .cells #[.slice a15 (((xs ++ (num C.voters.length ++ intsE C.voters)) ++ (num C.learners.length ++ intsE C.learners)).length) c16, .int .i64 0, .bool true, .bool false] 183 (0, 0)), (b3, .cells #[.slice none 0 0, .slice none 0 0] 48 (0, 0)), (b1, .cells #[.slice ar10 C.voters.length cr11, .slice al C.learners.length kl] 48 (0, 0))] [⟨Shape.bv .u8 8, 5, .slice a15 (((xs ++ (num C.voters.length ++ intsE C.voters)) ++ (num C.learners.length ++ intsE C.learners)).length) c16, ((xs ++ (num C.voters.length ++ intsE C.voters)) ++ (num C.learners.length ++ intsE C.learners))⟩] [Rp (Shape.slice (Shape.int .i64)) [.slice av C.voters.length kv] C.voters, Rp (Shape.slice (Shape.int .i64)) [.slice al C.learners.length kl] C.learners] _ := H
  refine RW.runP 1 [3, 4, 13, 14] (sq 5 6) [(3, .pointer (some ⟨b1, 0, none⟩)), (4, .pointer (some ⟨b3, 0, none⟩)), (13, .slice ar18 C.learners.length cr19), (14, .pointer (some ⟨b1, 1, none⟩))] (by as_aux_lemma => kernel_rfl) (by as_aux_lemma => kernel_rfl) ?_
  refine RW.store (d := none) (r := (sq 6 6)) (T := 25) (b := b1) (k := 1) (v := .slice ar18 C.learners.length cr19) (c' := #[.slice ar10 C.voters.length cr11, .slice ar18 C.learners.length cr19]) (M' := [(bp, .cells #[.slice a15 (((xs ++ (num C.voters.length ++ intsE C.voters)) ++ (num C.learners.length ++ intsE C.learners)).length) c16, .int .i64 0, .bool true, .bool false] 183 (0, 0)), (b3, .cells #[.slice none 0 0, .slice none 0 0] 48 (0, 0)), (b1, .cells #[.slice ar10 C.voters.length cr11, .slice ar18 C.learners.length cr19] 48 (0, 0))]) (by as_aux_lemma => kernel_rfl) H 2 rfl (by as_aux_lemma => kernel_rfl) (by as_aux_lemma => kernel_rfl) ?_
  intro w20 H
  refine RW.fin 0 [3, 4] [(3, .pointer (some ⟨b1, 0, none⟩)), (4, .pointer (some ⟨b3, 0, none⟩))] (by as_aux_lemma => kernel_rfl) ?_
  refine WK.run 1 [3, 4] [.code (cd Try.prog 115 [3, 0]), .code (cd Try.prog 115 [4])] [(3, .pointer (some ⟨b1, 0, none⟩)), (4, .pointer (some ⟨b3, 0, none⟩))] (by as_aux_lemma => kernel_rfl) ?_
  refine WK.reg1 (l := sq 0 2) (by as_aux_lemma => kernel_rfl) (by as_aux_lemma => kernel_rfl) ?_
  refine RW.load (κ := .seq) (d := some 15) (r := (sq 1 2)) (T := 48) (b := b1) (o' := 0) (k := 0) (v := .agg #[.slice ar10 C.voters.length cr11, .slice ar18 C.learners.length cr19]) (by as_aux_lemma => kernel_rfl) (H.cells 2 rfl) rfl (by as_aux_lemma => kernel_rfl) ?_
  refine RW.store (d := none) (r := (sq 2 2)) (T := 48) (b := b3) (k := 0) (v := .agg #[.slice ar10 C.voters.length cr11, .slice ar18 C.learners.length cr19]) (c' := #[.slice ar10 C.voters.length cr11, .slice ar18 C.learners.length cr19]) (M' := [(bp, .cells #[.slice a15 (((xs ++ (num C.voters.length ++ intsE C.voters)) ++ (num C.learners.length ++ intsE C.learners)).length) c16, .int .i64 0, .bool true, .bool false] 183 (0, 0)), (b3, .cells #[.slice ar10 C.voters.length cr11, .slice ar18 C.learners.length cr19] 48 (0, 0)), (b1, .cells #[.slice ar10 C.voters.length cr11, .slice ar18 C.learners.length cr19] 48 (0, 0))]) (by as_aux_lemma => kernel_rfl) H 1 rfl (by as_aux_lemma => kernel_rfl) (by as_aux_lemma => kernel_rfl) ?_
  intro w21 H
  refine RW.fin 0 [4] [(4, .pointer (some ⟨b3, 0, none⟩))] (by as_aux_lemma => kernel_rfl) ?_
  refine WK.retBy (v := .agg #[.slice ar10 C.voters.length cr11, .slice ar18 C.learners.length cr19]) Try.func115 (by as_aux_lemma => kernel_rfl) (RV.res1 (x := .cell 4 48) (by as_aux_lemma => kernel_rfl) (RV.cell (k := 0) (by as_aux_lemma => kernel_rfl) (H.cells 1 rfl) rfl (by as_aux_lemma => kernel_rfl))) ?_
  have hcf : ((xs ++ (num C.voters.length ++ intsE C.voters)) ++ (num C.learners.length ++ intsE C.learners)) = xs ++ confE C := by simp [confE]
  rw [hcf] at H
  have H := H.drop (M' := [(bp, .cells #[.slice a15 ((xs ++ confE C).length) c16, .int .i64 0, .bool true, .bool false] 183 (0, 0))]) (W' := [⟨Shape.bv .u8 8, 5, .slice a15 ((xs ++ confE C).length) c16, xs ++ confE C⟩]) (by repeat (first | exact List.Sublist.refl _ | apply List.Sublist.cons_cons | apply List.Sublist.cons)) (by repeat (first | exact List.Sublist.refl _ | apply List.Sublist.cons_cons | apply List.Sublist.cons))
  exact ⟨_, rfl, _, _, ⟨_, _, _, _, rfl⟩, H.pick [] rfl⟩

theorem pentries_spec {S : Nat → Prop} {w : World} {O : List Nat} {bp : Nat} {xs : List (BitVec 8)} {a : Option Addr} {c : Nat} {ae : Option Addr} {n ke : Nat} (hn0 : n = 0) (H0 : Hp w S O [(bp, .cells #[.slice a xs.length c, .int .i64 0, .bool true, .bool false] 183 (0, 0))] [⟨Shape.bv .u8 8, 5, .slice a xs.length c, xs⟩] [] w) (hby : xs.length + 10 ≤ 1099511627776) :
    Calls Try.prog 114 #[.pointer (some ⟨bp, 0, none⟩), .slice ae n ke] w (Ret fun v w' => ∃ (a' : Option Addr) (c' : Nat), (v = .slice none 0 0) ∧ Hp w S O [(bp, .cells #[.slice a' ((xs ++ num n).length) c', .int .i64 0, .bool true, .bool false] 183 (0, 0))] [⟨Shape.bv .u8 8, 5, .slice a' ((xs ++ num n).length) c', (xs ++ num n)⟩] [] w') := by
  have hten : (num n).length ≤ 10 := num_ten (by omega)
  refine WK.calls1 (fn := Try.f114) (n := 41) (σ := [(0, .pointer (some ⟨bp, 0, none⟩)), (1, .slice ae n ke)]) Try.func114 rfl (by as_aux_lemma => kernel_rfl) (by as_aux_lemma => kernel_rfl) (by as_aux_lemma => kernel_rfl) ?_
  have H := H0
  refine WK.run 3 [0, 1] [.code (cd Try.prog 114 [1, 0]), .code (cd Try.prog 114 [2])] [(0, .pointer (some ⟨bp, 0, none⟩)), (1, .slice ae n ke)] (by as_aux_lemma => kernel_rfl) ?_
  refine WK.reg1 (l := sq 0 5) (by as_aux_lemma => kernel_rfl) (by as_aux_lemma => kernel_rfl) ?_
  refine RW.runP 3 [0, 1, 9, 11] (sq 3 5) [(0, .pointer (some ⟨bp, 0, none⟩)), (1, .slice ae n ke), (9, .pointer (some ⟨bp, 0, none⟩)), (11, .int .i64 ((n : Nat) : Int))] (by as_aux_lemma => kernel_rfl) (by as_aux_lemma => kernel_rfl) ?_
  refine RW.callS (d := some 12) (r := (sq 4 5)) (g := 119) (args := #[.pointer (some ⟨bp, 0, none⟩), .int .i64 ((n : Nat) : Int)]) (by as_aux_lemma => kernel_rfl) (len_spec (k := n) (by omega) ((H.lend (M1 := [(bp, .cells #[.slice a xs.length c, .int .i64 0, .bool true, .bool false] 183 (0, 0))]) (W1 := [⟨Shape.bv .u8 8, 5, .slice a xs.length c, xs⟩])).pick [] rfl) (by first | omega | (simp only [List.length_append, List.length_nil]; omega))) ?_
  rintro _ w1 ⟨a3, c4, rfl, H'⟩
  have H := H.back (M1 := [(bp, .cells #[.slice a xs.length c, .int .i64 0, .bool true, .bool false] 183 (0, 0))]) (W1 := [⟨Shape.bv .u8 8, 5, .slice a xs.length c, xs⟩]) H'
  have H : Hp w S O [(bp, .cells #[.slice a3 ((xs ++ num n).length) c4, .int .i64 0, .bool true, .bool false] 183 (0, 0))] [⟨Shape.bv .u8 8, 5, .slice a3 ((xs ++ num n).length) c4, (xs ++ num n)⟩] [] _ := H
  refine RW.fin 1 [0, 1, 5] [(0, .pointer (some ⟨bp, 0, none⟩)), (1, .slice ae n ke), (5, .int .i64 ((n : Nat) : Int))] (by as_aux_lemma => kernel_rfl) ?_
  refine WK.run 6 [0, 1, 5, 6, 7] [.code (cd Try.prog 114 [3, 0, 1, 0]), .inBlock 0, .code (cd Try.prog 114 [4])] [(0, .pointer (some ⟨bp, 0, none⟩)), (1, .slice ae n ke), (5, .int .i64 ((n : Nat) : Int)), (6, .slice none 0 0), (7, .int .i64 0)] (by as_aux_lemma => kernel_rfl) ?_
  refine WK.loop (α := Unit) (b := cd Try.prog 114 [3, 0, 1, 0, 0]) (by as_aux_lemma => kernel_rfl) (fun _ => [(0, .pointer (some ⟨bp, 0, none⟩)), (1, .slice ae n ke), (5, .int .i64 ((n : Nat) : Int)), (6, .slice none 0 0), (7, .int .i64 0)]) (fun _ w' => Hp w S O [(bp, .cells #[.slice a3 ((xs ++ num n).length) c4, .int .i64 0, .bool true, .bool false] 183 (0, 0))] [⟨Shape.bv .u8 8, 5, .slice a3 ((xs ++ num n).length) c4, (xs ++ num n)⟩] [] w' ∧ True) (fun _ => 0) (()) ⟨H, trivial⟩ (rfl) ?_
  rintro _ w7 ⟨H, hinv0⟩ hback6
  refine WK.run 2 [0, 1, 5, 6, 7] [.code (cd Try.prog 114 [3, 0, 1, 0, 0, 0, 0]), .code (cd Try.prog 114 [3, 0, 1, 0, 0, 0, 1]), .code (cd Try.prog 114 [3, 0, 1, 0, 0, 1]), .inLoop (cd Try.prog 114 [3, 0, 1, 0, 0]), .inBlock 0, .code (cd Try.prog 114 [4])] [(0, .pointer (some ⟨bp, 0, none⟩)), (1, .slice ae n ke), (5, .int .i64 ((n : Nat) : Int)), (6, .slice none 0 0), (7, .int .i64 0)] (by as_aux_lemma => kernel_rfl) ?_
  refine WK.reg1 (l := sq 0 10) (by as_aux_lemma => kernel_rfl) (by as_aux_lemma => kernel_rfl) ?_
  refine RW.runP 4 [0, 1, 5, 6, 7, 16] (sq 4 10) [(0, .pointer (some ⟨bp, 0, none⟩)), (1, .slice ae n ke), (5, .int .i64 ((n : Nat) : Int)), (6, .slice none 0 0), (7, .int .i64 0), (16, .bool (decide ((0 : Int) < ((n : Nat) : Int))))] (by as_aux_lemma => kernel_rfl) (by as_aux_lemma => kernel_rfl) ?_
  refine RW.test (fun b_ => [(0, .pointer (some ⟨bp, 0, none⟩)), (1, .slice ae n ke), (5, .int .i64 ((n : Nat) : Int)), (6, .slice none 0 0), (7, .int .i64 0), (16, .bool b_)]) (decide ((0 : Int) < ((n : Nat) : Int))) (fun h8 => ?_) (fun h8 => ?_)
  · skip
    replace h8 := of_decide_eq_true h8
    omega
  · skip
    replace h8 := of_decide_eq_false h8
    refine RW.fin 6 [0, 1, 5, 6, 7, 22] [(0, .pointer (some ⟨bp, 0, none⟩)), (1, .slice ae n ke), (5, .int .i64 ((n : Nat) : Int)), (6, .slice none 0 0), (7, .int .i64 0), (22, .bool false)] (by as_aux_lemma => kernel_rfl) ?_
    refine WK.run 4 [4] [.code (cd Try.prog 114 [5])] [(4, .slice none 0 0)] (by as_aux_lemma => kernel_rfl) ?_
    refine WK.ret (v := .slice none 0 0) Try.func114 (by as_aux_lemma => kernel_rfl) (by as_aux_lemma => kernel_rfl) ?_
    exact ⟨_, rfl, _, _, by first | rfl | trivial, H.pick [] rfl⟩


end Go.Proofs.Ytppcdmbkgficiaa
