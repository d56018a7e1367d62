import Derived.Test.YthbegjaoifghlaaR1
namespace Go.Proofs.Ythbegjaoifghlaa
open Go.BX

theorem writer_spec {S : Nat → Prop} {w : World} {ys : List (BitVec 8)} {a0 : Option Addr} {c0 : Nat} (h : (Shape.slice (Shape.bv .u8 8)).rep S w [.slice a0 ys.length c0] ys) (hby : ys.length ≤ 1099511627776) :
    Calls Try.prog 39 #[.slice a0 ys.length c0] w (Ret fun v w' => Ext w w' ∧ ∃ (bp : Nat) (a' : Option Addr) (c' : Nat), v = .pointer (some ⟨bp, 0, none⟩) ∧ Hp w S [] [(bp, .cells #[.slice a' ys.length c', .int .i64 0, .bool true, .bool false] 71 (0, 0))] [⟨Shape.bv .u8 8, 5, .slice a' ys.length c', ys⟩] [] w') := by
  refine WK.calls1 (fn := Try.f39) (n := 8) (σ := [(0, .slice a0 ys.length c0)]) Try.func39 rfl (by as_aux_lemma => kernel_rfl) (by as_aux_lemma => kernel_rfl) (by as_aux_lemma => kernel_rfl) ?_
  have H := Hp.startF (w := w) (S := S) (G := [Rp (Shape.slice (Shape.bv .u8 8)) [.slice a0 ys.length c0] ys]) (.rp h .nil)
  refine WK.run 3 [0] [.code (cd Try.prog 39 [1, 0]), .code (cd Try.prog 39 [2])] [(0, .slice a0 ys.length c0)] (by as_aux_lemma => kernel_rfl) ?_
  refine WK.reg1 (l := sq 0 6) (by as_aux_lemma => kernel_rfl) (by as_aux_lemma => kernel_rfl) ?_
  refine RW.new (κ := .seq) (d := some 3) (r := (sq 1 6)) (o := .cells #[] 5 (0, 0)) (v := fun b => .slice (some ⟨b, 0, none⟩) 0 0) (fun b => by as_aux_lemma => kernel_rfl) (nofun) H ?_
  intro b1 w2 H
  refine RW.runP 1 [3, 4] (sq 2 6) [(3, .slice (some ⟨b1, 0, none⟩) 0 0), (4, .slice a0 ys.length c0)] (by as_aux_lemma => kernel_rfl) (by as_aux_lemma => kernel_rfl) ?_
  have H := H.toOwn (sh := Shape.bv .u8 8) (xs := []) (cap := 0) (by rfl) (Nat.le_refl _) (Nat.zero_le _) (by simp) EsP.nil
  have H : Hp w S [] [] [⟨Shape.bv .u8 8, 5, .slice (some ⟨b1, 0, none⟩) 0 0, []⟩] [Rp (Shape.slice (Shape.bv .u8 8)) [.slice a0 ys.length c0] ys] _ := H
  refine RW.appendW (d := some 5) (r := (sq 3 6)) (T := 55) (ty := 55) (e := 5) (m := 1) (by_ := 1) (v := .slice (some ⟨b1, 0, none⟩) 0 0) (a2 := a0) (l2 := ys.length) (c2 := c0) (zs := ys) (by as_aux_lemma => kernel_rfl) (by as_aux_lemma => kernel_rfl) rfl H 0 rfl 0 rfl (rfl) (by omega) ?_
  intro a3 c4 w6 H hc5
  have H : Hp w S [] [] [⟨Shape.bv .u8 8, 5, .slice a3 ys.length c4, ys⟩] [Rp (Shape.slice (Shape.bv .u8 8)) [.slice a0 ys.length c0] ys] _ := H
  refine RW.runP 1 [6] (sq 4 6) [(6, .agg #[.slice a3 ys.length c4, .int .i64 0, .bool true, .bool false])] (by as_aux_lemma => kernel_rfl) (by as_aux_lemma => kernel_rfl) ?_
  refine RW.new (κ := .seq) (d := some 7) (r := (sq 5 6)) (o := .cells #[.slice a3 ys.length c4, .int .i64 0, .bool true, .bool false] 71 (0, 0)) (v := fun b => .pointer (some ⟨b, 0, none⟩)) (fun b => by as_aux_lemma => kernel_rfl) (nofun) H ?_
  intro b7 w8 H
  refine RW.fin 1 [2] [(2, .pointer (some ⟨b7, 0, none⟩))] (by as_aux_lemma => kernel_rfl) ?_
  refine WK.ret (v := .pointer (some ⟨b7, 0, none⟩)) Try.func39 (by as_aux_lemma => kernel_rfl) (by as_aux_lemma => kernel_rfl) ?_
  exact ⟨_, rfl, H.done, _, _, _, rfl, H.pick [] rfl⟩

theorem u64_spec {S : Nat → Prop} {w : World} {O : List Nat} {bp : Nat} {xs : List (BitVec 8)} {a : Option Addr} {c : Nat} {x : Int} (hn : 0 ≤ x ∧ x ≤ 18446744073709551615) (H0 : Hp w S O [(bp, .cells #[.slice a xs.length c, .int .i64 0, .bool true, .bool false] 71 (0, 0))] [⟨Shape.bv .u8 8, 5, .slice a xs.length c, xs⟩] [] w) (hby : xs.length + 10 ≤ 1099511627776) :
    Calls Try.prog 71 #[.pointer (some ⟨bp, 0, none⟩), .int .u64 x] w (Ret fun v w' => ∃ (a' : Option Addr) (c' : Nat), (v = .int .u64 x) ∧ Hp w S O [(bp, .cells #[.slice a' ((xs ++ num x.toNat).length) c', .int .i64 0, .bool true, .bool false] 71 (0, 0))] [⟨Shape.bv .u8 8, 5, .slice a' ((xs ++ num x.toNat).length) c', (xs ++ num x.toNat)⟩] [] w') := by
  have hten : (num x.toNat).length ≤ 10 := num_ten (by omega)
  refine WK.calls1 (fn := Try.f71) (n := 52) (σ := [(0, .pointer (some ⟨bp, 0, none⟩)), (1, .int .u64 x)]) Try.func71 rfl (by as_aux_lemma => kernel_rfl) (by as_aux_lemma => kernel_rfl) (by as_aux_lemma => kernel_rfl) ?_
  have H := H0
  refine WK.run 4 [0, 1] [.code (cd Try.prog 71 [1, 0, 0]), .code (cd Try.prog 71 [1, 0, 1]), .code (cd Try.prog 71 [2])] [(0, .pointer (some ⟨bp, 0, none⟩)), (1, .int .u64 x)] (by as_aux_lemma => kernel_rfl) ?_
  refine WK.reg1 (l := sq 0 4) (by as_aux_lemma => kernel_rfl) (by as_aux_lemma => kernel_rfl) ?_
  refine RW.runP 3 [0, 1, 10] (sq 3 4) [(0, .pointer (some ⟨bp, 0, none⟩)), (1, .int .u64 x), (10, .pointer (some ⟨bp, 2, none⟩))] (by as_aux_lemma => kernel_rfl) (by as_aux_lemma => kernel_rfl) ?_
  refine RW.load (κ := .seq) (d := some 11) (r := (sq 4 4)) (T := 4) (b := bp) (o' := 2) (k := 2) (v := .bool true) (by as_aux_lemma => kernel_rfl) (H.cells 0 rfl) rfl (by as_aux_lemma => kernel_rfl) ?_
  refine RW.fin 0 [0, 1, 11] [(0, .pointer (some ⟨bp, 0, none⟩)), (1, .int .u64 x), (11, .bool true)] (by as_aux_lemma => kernel_rfl) ?_
  refine WK.run 2 [0, 1] [.code (cd Try.prog 71 [1, 0, 1, 0, 0]), .code (cd Try.prog 71 [1, 0, 1, 0, 1]), .code (cd Try.prog 71 [2])] [(0, .pointer (some ⟨bp, 0, none⟩)), (1, .int .u64 x)] (by as_aux_lemma => kernel_rfl) ?_
  refine WK.drawP1 7 [0, 1, 2, 3, 5] [(17, .int .u64 x), (15, .pointer (some ⟨bp, 0, none⟩)), (14, .pointer (some ⟨bp, 0, none⟩)), (13, .pointer (some ⟨bp, 0, none⟩)), (12, .pointer (some ⟨bp, 0, none⟩)), (0, .pointer (some ⟨bp, 0, none⟩)), (1, .int .u64 x)] [(4, .qui), (6, .chn)] [(4, .qui), (6, .chn), (7, .seq), (8, .seq), (9, .seq), (10, .seq)] Try_mixed (by as_aux_lemma => kernel_rfl) (by as_aux_lemma => kernel_rfl) (by as_aux_lemma => kernel_rfl) (by as_aux_lemma => kernel_rfl) ?_
  have H := H.draw
  generalize ({ w with drawn := w.drawn + 1 } : World) = w1 at H ⊢
  refine RW.load (κ := .qui) (d := some 16) (r := [(6, .chn), (7, .seq), (8, .seq), (9, .seq), (10, .seq)]) (T := 55) (b := bp) (o' := 0) (k := 0) (v := .slice a xs.length c) (by as_aux_lemma => kernel_rfl) (H.cells 0 rfl) rfl (by as_aux_lemma => kernel_rfl) ?_
  have H := H.addRp (Shape.slice (Shape.bv .u8 8)) [.slice none 0 0] [] Shape.slice_nil
  refine RW.call (κ := .chn) (d := some 18) (r := [(7, .seq), (8, .seq), (9, .seq), (10, .seq)]) (g := 75) (args := #[.slice none 0 0, .int .u64 x]) (by as_aux_lemma => kernel_rfl) (nofun) (putnum_spec (xs := ([] : List (BitVec 8))) (H.rp 0 rfl) x (by omega) (by first | omega | simp)) ?_
  rintro v3 w2 - H'
  have H := H.back (M1 := []) (W1 := []) H'
  obtain ⟨a4, c5, rfl, hc6, hm7⟩ := H.ownForm 0 rfl
  have H : Hp w S O [(bp, .cells #[.slice a xs.length c, .int .i64 0, .bool true, .bool false] 71 (0, 0))] [⟨Shape.bv .u8 8, 5, .slice a4 ((num x.toNat).length) c5, num x.toNat⟩, ⟨Shape.bv .u8 8, 5, .slice a xs.length c, xs⟩] [Rp (Shape.slice (Shape.bv .u8 8)) [.slice none 0 0] []] _ := H
  have H : Hp w S O [(bp, .cells #[.slice a xs.length c, .int .i64 0, .bool true, .bool false] 71 (0, 0))] [⟨Shape.bv .u8 8, 5, .slice a xs.length c, xs⟩] [Rp (Shape.slice (Shape.bv .u8 8)) [.slice a4 ((num x.toNat).length) c5] (num x.toNat), Rp (Shape.slice (Shape.bv .u8 8)) [.slice none 0 0] []] _ := H.freezeW 0 rfl
  refine RW.appendW (d := some 19) (r := [(8, .seq), (9, .seq), (10, .seq)]) (T := 55) (ty := 55) (e := 5) (m := 1) (by_ := 1) (v := .slice a xs.length c) (a2 := a4) (l2 := ((num x.toNat).length)) (c2 := c5) (zs := xs ++ (num x.toNat)) (by as_aux_lemma => kernel_rfl) (by as_aux_lemma => kernel_rfl) rfl H 0 rfl 0 rfl (rfl) (by simp; omega) ?_
  intro a8 c9 w11 H hc10
  have H : Hp w S O [(bp, .cells #[.slice a xs.length c, .int .i64 0, .bool true, .bool false] 71 (0, 0))] [⟨Shape.bv .u8 8, 5, .slice a8 ((xs ++ (num x.toNat)).length) c9, xs ++ (num x.toNat)⟩] [Rp (Shape.slice (Shape.bv .u8 8)) [.slice a4 ((num x.toNat).length) c5] (num x.toNat), Rp (Shape.slice (Shape.bv .u8 8)) [.slice none 0 0] []] _ := H
  refine RW.runP 2 [1, 19, 21] [(10, .seq)] [(1, .int .u64 x), (19, .slice a8 ((xs ++ (num x.toNat)).length) c9), (21, .pointer (some ⟨bp, 0, none⟩))] (by as_aux_lemma => kernel_rfl) (by as_aux_lemma => kernel_rfl) ?_
  refine RW.store (d := none) (r := []) (T := 55) (b := bp) (k := 0) (v := .slice a8 ((xs ++ (num x.toNat)).length) c9) (c' := #[.slice a8 ((xs ++ (num x.toNat)).length) c9, .int .i64 0, .bool true, .bool false]) (M' := [(bp, .cells #[.slice a8 ((xs ++ (num x.toNat)).length) c9, .int .i64 0, .bool true, .bool false] 71 (0, 0))]) (by as_aux_lemma => kernel_rfl) H 0 rfl (by as_aux_lemma => kernel_rfl) (by as_aux_lemma => kernel_rfl) ?_
  intro w12 H
  refine RW.fin 0 [1] [(1, .int .u64 x)] (by as_aux_lemma => kernel_rfl) ?_
  refine WK.run 2 [4] [.code (cd Try.prog 71 [1, 0, 1, 0, 2]), .code (cd Try.prog 71 [2])] [(4, .int .u64 x)] (by as_aux_lemma => kernel_rfl) ?_
  refine WK.ret (v := .int .u64 x) Try.func71 (by as_aux_lemma => kernel_rfl) (by as_aux_lemma => kernel_rfl) ?_
  exact ⟨_, rfl, _, _, by first | rfl | trivial, H.pick [] rfl⟩

theorem int_spec {S : Nat → Prop} {w : World} {O : List Nat} {bp : Nat} {xs : List (BitVec 8)} {a : Option Addr} {c : Nat} {x : Int} (hn : -9223372036854775808 ≤ x ∧ x ≤ 9223372036854775807) (H0 : Hp w S O [(bp, .cells #[.slice a xs.length c, .int .i64 0, .bool true, .bool false] 71 (0, 0))] [⟨Shape.bv .u8 8, 5, .slice a xs.length c, xs⟩] [] w) (hby : xs.length + 10 ≤ 1099511627776) :
    Calls Try.prog 63 #[.pointer (some ⟨bp, 0, none⟩), .int .i64 x] w (Ret fun v w' => ∃ (a' : Option Addr) (c' : Nat), (v = .int .i64 x) ∧ Hp w S O [(bp, .cells #[.slice a' ((xs ++ intE x).length) c', .int .i64 0, .bool true, .bool false] 71 (0, 0))] [⟨Shape.bv .u8 8, 5, .slice a' ((xs ++ intE x).length) c', (xs ++ intE x)⟩] [] w') := by
  have hten := intE_ten hn
  refine WK.calls1 (fn := Try.f63) (n := 52) (σ := [(0, .pointer (some ⟨bp, 0, none⟩)), (1, .int .i64 x)]) Try.func63 rfl (by as_aux_lemma => kernel_rfl) (by as_aux_lemma => kernel_rfl) (by as_aux_lemma => kernel_rfl) ?_
  have H := H0
  refine WK.run 4 [0, 1] [.code (cd Try.prog 63 [1, 0, 0]), .code (cd Try.prog 63 [1, 0, 1]), .code (cd Try.prog 63 [2])] [(0, .pointer (some ⟨bp, 0, none⟩)), (1, .int .i64 x)] (by as_aux_lemma => kernel_rfl) ?_
  refine WK.reg1 (l := sq 0 4) (by as_aux_lemma => kernel_rfl) (by as_aux_lemma => kernel_rfl) ?_
  refine RW.runP 3 [0, 1, 10] (sq 3 4) [(0, .pointer (some ⟨bp, 0, none⟩)), (1, .int .i64 x), (10, .pointer (some ⟨bp, 2, none⟩))] (by as_aux_lemma => kernel_rfl) (by as_aux_lemma => kernel_rfl) ?_
  refine RW.load (κ := .seq) (d := some 11) (r := (sq 4 4)) (T := 4) (b := bp) (o' := 2) (k := 2) (v := .bool true) (by as_aux_lemma => kernel_rfl) (H.cells 0 rfl) rfl (by as_aux_lemma => kernel_rfl) ?_
  refine RW.fin 0 [0, 1, 11] [(0, .pointer (some ⟨bp, 0, none⟩)), (1, .int .i64 x), (11, .bool true)] (by as_aux_lemma => kernel_rfl) ?_
  refine WK.run 2 [0, 1] [.code (cd Try.prog 63 [1, 0, 1, 0, 0]), .code (cd Try.prog 63 [1, 0, 1, 0, 1]), .code (cd Try.prog 63 [2])] [(0, .pointer (some ⟨bp, 0, none⟩)), (1, .int .i64 x)] (by as_aux_lemma => kernel_rfl) ?_
  refine WK.drawP1 7 [0, 1, 2, 3, 5] [(17, .int .i64 x), (15, .pointer (some ⟨bp, 0, none⟩)), (14, .pointer (some ⟨bp, 0, none⟩)), (13, .pointer (some ⟨bp, 0, none⟩)), (12, .pointer (some ⟨bp, 0, none⟩)), (0, .pointer (some ⟨bp, 0, none⟩)), (1, .int .i64 x)] [(4, .qui), (6, .chn)] [(4, .qui), (6, .chn), (7, .seq), (8, .seq), (9, .seq), (10, .seq)] Try_mixed (by as_aux_lemma => kernel_rfl) (by as_aux_lemma => kernel_rfl) (by as_aux_lemma => kernel_rfl) (by as_aux_lemma => kernel_rfl) ?_
  have H := H.draw
  generalize ({ w with drawn := w.drawn + 1 } : World) = w1 at H ⊢
  refine RW.load (κ := .qui) (d := some 16) (r := [(6, .chn), (7, .seq), (8, .seq), (9, .seq), (10, .seq)]) (T := 55) (b := bp) (o' := 0) (k := 0) (v := .slice a xs.length c) (by as_aux_lemma => kernel_rfl) (H.cells 0 rfl) rfl (by as_aux_lemma => kernel_rfl) ?_
  have H := H.addRp (Shape.slice (Shape.bv .u8 8)) [.slice none 0 0] [] Shape.slice_nil
  refine RW.call (κ := .chn) (d := some 18) (r := [(7, .seq), (8, .seq), (9, .seq), (10, .seq)]) (g := 72) (args := #[.slice none 0 0, .int .i64 x]) (by as_aux_lemma => kernel_rfl) (nofun) (putint_spec (xs := ([] : List (BitVec 8))) (H.rp 0 rfl) x (by omega) (by first | omega | simp)) ?_
  rintro v3 w2 - H'
  have H := H.back (M1 := []) (W1 := []) H'
  obtain ⟨a4, c5, rfl, hc6, hm7⟩ := H.ownForm 0 rfl
  have H : Hp w S O [(bp, .cells #[.slice a xs.length c, .int .i64 0, .bool true, .bool false] 71 (0, 0))] [⟨Shape.bv .u8 8, 5, .slice a4 ((intE x).length) c5, intE x⟩, ⟨Shape.bv .u8 8, 5, .slice a xs.length c, xs⟩] [Rp (Shape.slice (Shape.bv .u8 8)) [.slice none 0 0] []] _ := H
  have H : Hp w S O [(bp, .cells #[.slice a xs.length c, .int .i64 0, .bool true, .bool false] 71 (0, 0))] [⟨Shape.bv .u8 8, 5, .slice a xs.length c, xs⟩] [Rp (Shape.slice (Shape.bv .u8 8)) [.slice a4 ((intE x).length) c5] (intE x), Rp (Shape.slice (Shape.bv .u8 8)) [.slice none 0 0] []] _ := H.freezeW 0 rfl
  refine RW.appendW (d := some 19) (r := [(8, .seq), (9, .seq), (10, .seq)]) (T := 55) (ty := 55) (e := 5) (m := 1) (by_ := 1) (v := .slice a xs.length c) (a2 := a4) (l2 := ((intE x).length)) (c2 := c5) (zs := xs ++ (intE x)) (by as_aux_lemma => kernel_rfl) (by as_aux_lemma => kernel_rfl) rfl H 0 rfl 0 rfl (rfl) (by simp; omega) ?_
  intro a8 c9 w11 H hc10
  have H : Hp w S O [(bp, .cells #[.slice a xs.length c, .int .i64 0, .bool true, .bool false] 71 (0, 0))] [⟨Shape.bv .u8 8, 5, .slice a8 ((xs ++ (intE x)).length) c9, xs ++ (intE x)⟩] [Rp (Shape.slice (Shape.bv .u8 8)) [.slice a4 ((intE x).length) c5] (intE x), Rp (Shape.slice (Shape.bv .u8 8)) [.slice none 0 0] []] _ := H
  refine RW.runP 2 [1, 19, 21] [(10, .seq)] [(1, .int .i64 x), (19, .slice a8 ((xs ++ (intE x)).length) c9), (21, .pointer (some ⟨bp, 0, none⟩))] (by as_aux_lemma => kernel_rfl) (by as_aux_lemma => kernel_rfl) ?_
  refine RW.store (d := none) (r := []) (T := 55) (b := bp) (k := 0) (v := .slice a8 ((xs ++ (intE x)).length) c9) (c' := #[.slice a8 ((xs ++ (intE x)).length) c9, .int .i64 0, .bool true, .bool false]) (M' := [(bp, .cells #[.slice a8 ((xs ++ (intE x)).length) c9, .int .i64 0, .bool true, .bool false] 71 (0, 0))]) (by as_aux_lemma => kernel_rfl) H 0 rfl (by as_aux_lemma => kernel_rfl) (by as_aux_lemma => kernel_rfl) ?_
  intro w12 H
  refine RW.fin 0 [1] [(1, .int .i64 x)] (by as_aux_lemma => kernel_rfl) ?_
  refine WK.run 2 [4] [.code (cd Try.prog 63 [1, 0, 1, 0, 2]), .code (cd Try.prog 63 [2])] [(4, .int .i64 x)] (by as_aux_lemma => kernel_rfl) ?_
  refine WK.ret (v := .int .i64 x) Try.func63 (by as_aux_lemma => kernel_rfl) (by as_aux_lemma => kernel_rfl) ?_
  exact ⟨_, rfl, _, _, by first | rfl | trivial, H.pick [] rfl⟩

theorem len_spec {S : Nat → Prop} {w : World} {O : List Nat} {bp : Nat} {xs : List (BitVec 8)} {a : Option Addr} {c : Nat} {k : Nat} (hn : k ≤ 9223372036854775807) (H0 : Hp w S O [(bp, .cells #[.slice a xs.length c, .int .i64 0, .bool true, .bool false] 71 (0, 0))] [⟨Shape.bv .u8 8, 5, .slice a xs.length c, xs⟩] [] w) (hby : xs.length + 10 ≤ 1099511627776) :
    Calls Try.prog 62 #[.pointer (some ⟨bp, 0, none⟩), .int .i64 (k : Int)] w (Ret fun v w' => ∃ (a' : Option Addr) (c' : Nat), (v = .int .i64 (k : Int)) ∧ Hp w S O [(bp, .cells #[.slice a' ((xs ++ num k).length) c', .int .i64 0, .bool true, .bool false] 71 (0, 0))] [⟨Shape.bv .u8 8, 5, .slice a' ((xs ++ num k).length) c', (xs ++ num k)⟩] [] w') := by
  have hten : (num k).length ≤ 10 := num_ten (by omega)
  refine WK.calls1 (fn := Try.f62) (n := 37) (σ := [(0, .pointer (some ⟨bp, 0, none⟩)), (1, .int .i64 (k : Int))]) Try.func62 rfl (by as_aux_lemma => kernel_rfl) (by as_aux_lemma => kernel_rfl) (by as_aux_lemma => kernel_rfl) ?_
  have H := H0
  refine WK.run 3 [0, 1] [.code (cd Try.prog 62 [1, 0]), .code (cd Try.prog 62 [2])] [(0, .pointer (some ⟨bp, 0, none⟩)), (1, .int .i64 (k : Int))] (by as_aux_lemma => kernel_rfl) ?_
  refine WK.reg1 (l := sq 0 5) (by as_aux_lemma => kernel_rfl) (by as_aux_lemma => kernel_rfl) ?_
  refine RW.runP 2 [0, 1, 6, 7] (sq 2 5) [(0, .pointer (some ⟨bp, 0, none⟩)), (1, .int .i64 (k : Int)), (6, .pointer (some ⟨bp, 0, none⟩)), (7, .int .i64 (k : Int))] (by as_aux_lemma => kernel_rfl) (by as_aux_lemma => kernel_rfl) ?_
  refine RW.pv (κ := .seq) (d := some 8) (r := (sq 3 5)) (v := .int .u64 (IntKind.u64.wrap ((k : Int)))) (v' := .int .u64 ((k : Int))) (by as_aux_lemma => kernel_rfl) (wr_u64 (by omega)) ?_
  refine RW.callS (d := some 9) (r := (sq 4 5)) (g := 71) (args := #[.pointer (some ⟨bp, 0, none⟩), .int .u64 (k : Int)]) (by as_aux_lemma => kernel_rfl) (u64_spec (x := (k : Int)) (by omega) ((H.lend (M1 := [(bp, .cells #[.slice a xs.length c, .int .i64 0, .bool true, .bool false] 71 (0, 0))]) (W1 := [⟨Shape.bv .u8 8, 5, .slice a xs.length c, xs⟩])).pick [] rfl) (by first | omega | (simp only [List.length_append, List.length_nil]; omega))) ?_
  rintro _ w1 ⟨a3, c4, rfl, H'⟩
  have H := H.back (M1 := [(bp, .cells #[.slice a xs.length c, .int .i64 0, .bool true, .bool false] 71 (0, 0))]) (W1 := [⟨Shape.bv .u8 8, 5, .slice a xs.length c, xs⟩]) H'
  have H : Hp w S O [(bp, .cells #[.slice a3 ((xs ++ num (k : Int).toNat).length) c4, .int .i64 0, .bool true, .bool false] 71 (0, 0))] [⟨Shape.bv .u8 8, 5, .slice a3 ((xs ++ num (k : Int).toNat).length) c4, (xs ++ num (k : Int).toNat)⟩] [] _ := H
  refine RW.fin 1 [0, 1, 5] [(0, .pointer (some ⟨bp, 0, none⟩)), (1, .int .i64 (k : Int)), (5, .int .u64 (k : Int))] (by as_aux_lemma => kernel_rfl) ?_
  refine WK.run 2 [0, 1, 5] [.code (cd Try.prog 62 [2, 0, 0]), .code (cd Try.prog 62 [2, 0, 1]), .code (cd Try.prog 62 [3])] [(0, .pointer (some ⟨bp, 0, none⟩)), (1, .int .i64 (k : Int)), (5, .int .u64 (k : Int))] (by as_aux_lemma => kernel_rfl) ?_
  refine WK.reg1 (l := sq 0 4) (by as_aux_lemma => kernel_rfl) (by as_aux_lemma => kernel_rfl) ?_
  refine RW.runP 3 [0, 1, 5, 12] (sq 3 4) [(0, .pointer (some ⟨bp, 0, none⟩)), (1, .int .i64 (k : Int)), (5, .int .u64 (k : Int)), (12, .pointer (some ⟨bp, 2, none⟩))] (by as_aux_lemma => kernel_rfl) (by as_aux_lemma => kernel_rfl) ?_
  refine RW.load (κ := .seq) (d := some 13) (r := (sq 4 4)) (T := 4) (b := bp) (o' := 2) (k := 2) (v := .bool true) (by as_aux_lemma => kernel_rfl) (H.cells 0 rfl) rfl (by as_aux_lemma => kernel_rfl) ?_
  refine RW.fin 0 [0, 1, 5, 13] [(0, .pointer (some ⟨bp, 0, none⟩)), (1, .int .i64 (k : Int)), (5, .int .u64 (k : Int)), (13, .bool true)] (by as_aux_lemma => kernel_rfl) ?_
  refine WK.run 3 [4] [.code (cd Try.prog 62 [2, 0, 1, 0, 1]), .code (cd Try.prog 62 [3])] [(4, .int .i64 (k : Int))] (by as_aux_lemma => kernel_rfl) ?_
  refine WK.ret (v := .int .i64 (k : Int)) Try.func62 (by as_aux_lemma => kernel_rfl) (by as_aux_lemma => kernel_rfl) ?_
  exact ⟨_, rfl, _, _, by first | rfl | trivial, H.pick [] rfl⟩

theorem ints_spec {S : Nat → Prop} {w : World} {O : List Nat} {bp : Nat} {xs : List (BitVec 8)} {a : Option Addr} {c : Nat} {ls : List Int} {al : Option Addr} {cl : Nat} (H0 : Hp w S O [(bp, .cells #[.slice a xs.length c, .int .i64 0, .bool true, .bool false] 71 (0, 0))] [⟨Shape.bv .u8 8, 5, .slice a xs.length c, xs⟩] [Rp (Shape.slice (Shape.int .i64)) [.slice al ls.length cl] ls] w) (hby : xs.length + 10 * (ls.length + 2) ≤ 1099511627776) :
    Calls Try.prog 48 #[.pointer (some ⟨bp, 0, none⟩), .slice al ls.length cl] w (Ret fun v w' => ∃ (a' : Option Addr) (c' : Nat), (∃ (ar : Option Addr) (cr : Nat), v = .slice ar ls.length cr) ∧ Hp w S O [(bp, .cells #[.slice a' ((xs ++ (num ls.length ++ intsE ls)).length) c', .int .i64 0, .bool true, .bool false] 71 (0, 0))] [⟨Shape.bv .u8 8, 5, .slice a' ((xs ++ (num ls.length ++ intsE ls)).length) c', (xs ++ (num ls.length ++ intsE ls))⟩] [] w') := by
  have hlen := Shape.slice_len (H0.rp 0 rfl)
  have hten : (num ls.length).length ≤ 10 := num_ten (by omega)
  refine WK.calls1 (fn := Try.f48) (n := 40) (σ := [(0, .pointer (some ⟨bp, 0, none⟩)), (1, .slice al ls.length cl)]) Try.func48 rfl (by as_aux_lemma => kernel_rfl) (by as_aux_lemma => kernel_rfl) (by as_aux_lemma => kernel_rfl) ?_
  have H := H0
  refine WK.run 3 [0, 1] [.code (cd Try.prog 48 [1, 0]), .code (cd Try.prog 48 [2])] [(0, .pointer (some ⟨bp, 0, none⟩)), (1, .slice al ls.length cl)] (by as_aux_lemma => kernel_rfl) ?_
  refine WK.reg1 (l := sq 0 5) (by as_aux_lemma => kernel_rfl) (by as_aux_lemma => kernel_rfl) ?_
  refine RW.runP 3 [0, 1, 9, 11] (sq 3 5) [(0, .pointer (some ⟨bp, 0, none⟩)), (1, .slice al ls.length cl), (9, .pointer (some ⟨bp, 0, none⟩)), (11, .int .i64 ((ls.length : Nat) : Int))] (by as_aux_lemma => kernel_rfl) (by as_aux_lemma => kernel_rfl) ?_
  refine RW.callS (d := some 12) (r := (sq 4 5)) (g := 62) (args := #[.pointer (some ⟨bp, 0, none⟩), .int .i64 ((ls.length : Nat) : Int)]) (by as_aux_lemma => kernel_rfl) (len_spec (k := ls.length) (by omega) ((H.lend (M1 := [(bp, .cells #[.slice a xs.length c, .int .i64 0, .bool true, .bool false] 71 (0, 0))]) (W1 := [⟨Shape.bv .u8 8, 5, .slice a xs.length c, xs⟩])).pick [] rfl) (by first | omega | (simp only [List.length_append, List.length_nil]; omega))) ?_
  rintro _ w1 ⟨a3, c4, rfl, H'⟩
  have H := H.back (M1 := [(bp, .cells #[.slice a xs.length c, .int .i64 0, .bool true, .bool false] 71 (0, 0))]) (W1 := [⟨Shape.bv .u8 8, 5, .slice a xs.length c, xs⟩]) H'
  have H : Hp w S O [(bp, .cells #[.slice a3 ((xs ++ num ls.length).length) c4, .int .i64 0, .bool true, .bool false] 71 (0, 0))] [⟨Shape.bv .u8 8, 5, .slice a3 ((xs ++ num ls.length).length) c4, (xs ++ num ls.length)⟩] [Rp (Shape.slice (Shape.int .i64)) [.slice al ls.length cl] ls] _ := H
  refine RW.fin 1 [0, 1, 5] [(0, .pointer (some ⟨bp, 0, none⟩)), (1, .slice al ls.length cl), (5, .int .i64 ((ls.length : Nat) : Int))] (by as_aux_lemma => kernel_rfl) ?_
  refine WK.run 6 [0, 1, 5, 6, 7] [.code (cd Try.prog 48 [3, 0, 1, 0]), .inBlock 0, .code (cd Try.prog 48 [4])] [(0, .pointer (some ⟨bp, 0, none⟩)), (1, .slice al ls.length cl), (5, .int .i64 ((ls.length : Nat) : Int)), (6, .slice none 0 0), (7, .int .i64 0)] (by as_aux_lemma => kernel_rfl) ?_
  have H := H.ownNil (Shape.int .i64) 3
  refine WK.loop (α := Nat × List (BitVec 8) × Option Addr × Nat × Option Addr × Nat) (b := cd Try.prog 48 [3, 0, 1, 0, 0]) (by as_aux_lemma => kernel_rfl) (fun st_ => match st_ with | (i, ys, a9, c9, ao, co) => [(0, .pointer (some ⟨bp, 0, none⟩)), (1, .slice al ls.length cl), (5, .int .i64 ((ls.length : Nat) : Int)), (6, .slice ao ((ls.take i).length) co), (7, .int .i64 (i : Int))]) (fun st_ w' => match st_ with | (i, ys, a9, c9, ao, co) => Hp w S O [(bp, .cells #[.slice a9 ys.length c9, .int .i64 0, .bool true, .bool false] 71 (0, 0))] [⟨Shape.int .i64, 3, .slice ao ((ls.take i).length) co, ls.take i⟩, ⟨Shape.bv .u8 8, 5, .slice a9 ys.length c9, ys⟩] [Rp (Shape.slice (Shape.int .i64)) [.slice al ls.length cl] ls] w' ∧ i ≤ ls.length ∧ ys = xs ++ num ls.length ++ intsE (ls.take i) ∧ ys.length ≤ xs.length + 10 * (i + 1)) (fun st_ => match st_ with | (i, ys, a9, c9, ao, co) => ls.length - i) (0, (xs ++ num ls.length), a3, c4, none, 0) ⟨H, Nat.zero_le _, by simp [intsE], by simp only [List.length_append]; omega⟩ rfl ?_
  rintro ⟨i, ys, a9, c9, ao, co⟩ w7 ⟨H, hinv0⟩ hback6
  have htl : (ls.take i).length = i := List.length_take_of_le hinv0.1
  refine WK.run 2 [0, 1, 5, 6, 7] [.code (cd Try.prog 48 [3, 0, 1, 0, 0, 0, 0]), .code (cd Try.prog 48 [3, 0, 1, 0, 0, 0, 1]), .code (cd Try.prog 48 [3, 0, 1, 0, 0, 1]), .inLoop (cd Try.prog 48 [3, 0, 1, 0, 0]), .inBlock 0, .code (cd Try.prog 48 [4])] [(0, .pointer (some ⟨bp, 0, none⟩)), (1, .slice al ls.length cl), (5, .int .i64 ((ls.length : Nat) : Int)), (6, .slice ao ((ls.take i).length) co), (7, .int .i64 (i : Int))] (by as_aux_lemma => kernel_rfl) ?_
  refine WK.reg1 (l := sq 0 10) (by as_aux_lemma => kernel_rfl) (by as_aux_lemma => kernel_rfl) ?_
  refine RW.runP 4 [0, 1, 5, 6, 7, 16] (sq 4 10) [(0, .pointer (some ⟨bp, 0, none⟩)), (1, .slice al ls.length cl), (5, .int .i64 ((ls.length : Nat) : Int)), (6, .slice ao ((ls.take i).length) co), (7, .int .i64 (i : Int)), (16, .bool (decide (((i : Int) : Int) < ((ls.length : Nat) : Int))))] (by as_aux_lemma => kernel_rfl) (by as_aux_lemma => kernel_rfl) ?_
  refine RW.test (fun b_ => [(0, .pointer (some ⟨bp, 0, none⟩)), (1, .slice al ls.length cl), (5, .int .i64 ((ls.length : Nat) : Int)), (6, .slice ao ((ls.take i).length) co), (7, .int .i64 (i : Int)), (16, .bool b_)]) (decide (((i : Int) : Int) < ((ls.length : Nat) : Int))) (fun h8 => ?_) (fun h8 => ?_)
  · skip
    replace h8 := of_decide_eq_true h8
    refine RW.runP 3 [0, 1, 5, 6, 7, 16, 19] (sq 7 10) [(0, .pointer (some ⟨bp, 0, none⟩)), (1, .slice al ls.length cl), (5, .int .i64 ((ls.length : Nat) : Int)), (6, .slice ao ((ls.take i).length) co), (7, .int .i64 (i : Int)), (16, .bool true), (19, .pointer (some ⟨bp, 3, none⟩))] (by as_aux_lemma => kernel_rfl) (by as_aux_lemma => kernel_rfl) ?_
    refine RW.load (κ := .seq) (d := some 20) (r := (sq 8 10)) (T := 4) (b := bp) (o' := 3) (k := 3) (v := .bool false) (by as_aux_lemma => kernel_rfl) (H.cells 0 rfl) rfl (by as_aux_lemma => kernel_rfl) ?_
    refine RW.fin 2 [0, 1, 5, 6, 7, 22] [(0, .pointer (some ⟨bp, 0, none⟩)), (1, .slice al ls.length cl), (5, .int .i64 ((ls.length : Nat) : Int)), (6, .slice ao ((ls.take i).length) co), (7, .int .i64 (i : Int)), (22, .bool true)] (by as_aux_lemma => kernel_rfl) ?_
    refine WK.run 8 [0, 1, 5, 6, 7, 8] [.code (cd Try.prog 48 [3, 0, 1, 0, 0, 1, 0, 0, 1, 0, 0]), .code (cd Try.prog 48 [3, 0, 1, 0, 0, 1, 0, 0, 1, 0, 1]), .code (cd Try.prog 48 [3, 0, 1, 0, 0, 1, 0, 0, 2]), .inBlock 1, .code (cd Try.prog 48 [3, 0, 1, 0, 0, 2]), .inLoop (cd Try.prog 48 [3, 0, 1, 0, 0]), .inBlock 0, .code (cd Try.prog 48 [4])] [(0, .pointer (some ⟨bp, 0, none⟩)), (1, .slice al ls.length cl), (5, .int .i64 ((ls.length : Nat) : Int)), (6, .slice ao ((ls.take i).length) co), (7, .int .i64 (i : Int)), (8, .int .i64 0)] (by as_aux_lemma => kernel_rfl) ?_
    refine WK.reg1 (l := sq 0 4) (by as_aux_lemma => kernel_rfl) (by as_aux_lemma => kernel_rfl) ?_
    refine RW.runP 3 [0, 1, 5, 6, 7, 8, 27] (sq 3 4) [(0, .pointer (some ⟨bp, 0, none⟩)), (1, .slice al ls.length cl), (5, .int .i64 ((ls.length : Nat) : Int)), (6, .slice ao ((ls.take i).length) co), (7, .int .i64 (i : Int)), (8, .int .i64 0), (27, .pointer (some ⟨bp, 2, none⟩))] (by as_aux_lemma => kernel_rfl) (by as_aux_lemma => kernel_rfl) ?_
    refine RW.load (κ := .seq) (d := some 28) (r := (sq 4 4)) (T := 4) (b := bp) (o' := 2) (k := 2) (v := .bool true) (by as_aux_lemma => kernel_rfl) (H.cells 0 rfl) rfl (by as_aux_lemma => kernel_rfl) ?_
    refine RW.fin 0 [0, 1, 5, 6, 7, 8, 28] [(0, .pointer (some ⟨bp, 0, none⟩)), (1, .slice al ls.length cl), (5, .int .i64 ((ls.length : Nat) : Int)), (6, .slice ao ((ls.take i).length) co), (7, .int .i64 (i : Int)), (8, .int .i64 0), (28, .bool true)] (by as_aux_lemma => kernel_rfl) ?_
    refine WK.run 1 [0, 1, 5, 6, 7] [.code (cd Try.prog 48 [3, 0, 1, 0, 0, 1, 0, 0, 1, 0, 1, 0]), .code (cd Try.prog 48 [3, 0, 1, 0, 0, 1, 0, 0, 2]), .inBlock 1, .code (cd Try.prog 48 [3, 0, 1, 0, 0, 2]), .inLoop (cd Try.prog 48 [3, 0, 1, 0, 0]), .inBlock 0, .code (cd Try.prog 48 [4])] [(0, .pointer (some ⟨bp, 0, none⟩)), (1, .slice al ls.length cl), (5, .int .i64 ((ls.length : Nat) : Int)), (6, .slice ao ((ls.take i).length) co), (7, .int .i64 (i : Int))] (by as_aux_lemma => kernel_rfl) ?_
    refine WK.reg1 (l := sq 0 5) (by as_aux_lemma => kernel_rfl) (by as_aux_lemma => kernel_rfl) ?_
    refine RW.runP 2 [0, 1, 5, 6, 7, 29, 30] (sq 2 5) [(0, .pointer (some ⟨bp, 0, none⟩)), (1, .slice al ls.length cl), (5, .int .i64 ((ls.length : Nat) : Int)), (6, .slice ao ((ls.take i).length) co), (7, .int .i64 (i : Int)), (29, .slice al ls.length cl), (30, .int .i64 (i : Int))] (by as_aux_lemma => kernel_rfl) (by as_aux_lemma => kernel_rfl) ?_
    have hx9 : i < ls.length := by omega
    refine RW.index (κ := .seq) (d := some 31) (r := (sq 3 5)) (T := 22) (e := 3) (ik := .i64) (ix := (i : Int)) (sh := (Shape.int .i64)) (x := ls[i]) (by as_aux_lemma => kernel_rfl) (by as_aux_lemma => kernel_rfl) H 0 rfl i (by omega) (List.getElem?_eq_getElem hx9) ?_
    intro b10 o11 es12 hr13 H
    have hb14 := Shape.i64_bd hr13
    obtain ⟨rfl, -⟩ := hr13
    refine RW.load (κ := .seq) (d := some 32) (r := (sq 4 5)) (T := 3) (b := b10) (o' := o11) (k := 0) (v := .int .i64 (ls[i])) (by as_aux_lemma => kernel_rfl) (H.fc 0 rfl) rfl (by as_aux_lemma => kernel_rfl) ?_
    refine RW.fin 1 [0, 1, 5, 6, 7, 8] [(0, .pointer (some ⟨bp, 0, none⟩)), (1, .slice al ls.length cl), (5, .int .i64 ((ls.length : Nat) : Int)), (6, .slice ao ((ls.take i).length) co), (7, .int .i64 (i : Int)), (8, .int .i64 (ls[i]))] (by as_aux_lemma => kernel_rfl) ?_
    refine WK.reg1 (l := sq 0 7) (by as_aux_lemma => kernel_rfl) (by as_aux_lemma => kernel_rfl) ?_
    refine RW.runP 3 [0, 1, 5, 6, 7, 33, 34, 35] (sq 3 7) [(0, .pointer (some ⟨bp, 0, none⟩)), (1, .slice al ls.length cl), (5, .int .i64 ((ls.length : Nat) : Int)), (6, .slice ao ((ls.take i).length) co), (7, .int .i64 (i : Int)), (33, .slice ao ((ls.take i).length) co), (34, .pointer (some ⟨bp, 0, none⟩)), (35, .int .i64 (ls[i]))] (by as_aux_lemma => kernel_rfl) (by as_aux_lemma => kernel_rfl) ?_
    have H := H.perms (M' := [(bp, .cells #[.slice a9 ys.length c9, .int .i64 0, .bool true, .bool false] 71 (0, 0))]) (W' := [⟨Shape.bv .u8 8, 5, .slice a9 ys.length c9, ys⟩, ⟨Shape.int .i64, 3, .slice ao ((ls.take i).length) co, ls.take i⟩]) (List.Perm.refl _) (List.perm_middle (l₁ := ([⟨Shape.int .i64, 3, .slice ao ((ls.take i).length) co, ls.take i⟩] : List OwnS))).symm
    refine RW.callS (d := some 36) (r := (sq 4 7)) (g := 63) (args := #[.pointer (some ⟨bp, 0, none⟩), .int .i64 (ls[i])]) (by as_aux_lemma => kernel_rfl) (int_spec (x := ls[i]) (by omega) ((H.lend (M1 := [(bp, .cells #[.slice a9 ys.length c9, .int .i64 0, .bool true, .bool false] 71 (0, 0))]) (W1 := [⟨Shape.bv .u8 8, 5, .slice a9 ys.length c9, ys⟩])).pick [] rfl) (by first | omega | (simp only [List.length_append, List.length_nil]; omega))) ?_
    rintro _ w15 ⟨a17, c18, rfl, H'⟩
    have H := H.back (M1 := [(bp, .cells #[.slice a9 ys.length c9, .int .i64 0, .bool true, .bool false] 71 (0, 0))]) (W1 := [⟨Shape.bv .u8 8, 5, .slice a9 ys.length c9, ys⟩]) H'
    have H : Hp w S O [(bp, .cells #[.slice a17 ((ys ++ intE (ls[i])).length) c18, .int .i64 0, .bool true, .bool false] 71 (0, 0))] [⟨Shape.bv .u8 8, 5, .slice a17 ((ys ++ intE (ls[i])).length) c18, (ys ++ intE (ls[i]))⟩, ⟨Shape.int .i64, 3, .slice ao ((ls.take i).length) co, ls.take i⟩] [Fc b10 o11 [.int .i64 (ls[i])], Rp (Shape.slice (Shape.int .i64)) [.slice al ls.length cl] ls] _ := H
    refine RW.new (κ := .seq) (d := some 37) (r := (sq 5 7)) (o := .cells #[.int .i64 (ls[i])] 3 (0, 0)) (v := fun b => .slice (some ⟨b, 0, none⟩) 1 1) (fun b => by as_aux_lemma => kernel_rfl) (nofun) H ?_
    intro b20 w21 H
    have H := H.freeze 0 rfl (Shape.int .i64) ([ls[i]] : List Int) 1 (by simp [maxLen]) (by first | exact Nat.le_refl _ | simp) (EsP.cons (c := [.int .i64 (ls[i])]) (Shape.int_mk ⟨by simp [IntKind.min, IntKind.max, IntKind.signed, IntKind.bits]; omega, by simp [IntKind.min, IntKind.max, IntKind.signed, IntKind.bits]; omega⟩) EsP.nil)
    have H : Hp w S O [(bp, .cells #[.slice a17 ((ys ++ intE (ls[i])).length) c18, .int .i64 0, .bool true, .bool false] 71 (0, 0))] [⟨Shape.bv .u8 8, 5, .slice a17 ((ys ++ intE (ls[i])).length) c18, (ys ++ intE (ls[i]))⟩, ⟨Shape.int .i64, 3, .slice ao ((ls.take i).length) co, ls.take i⟩] [Rp (Shape.slice (Shape.int .i64)) [.slice (some ⟨b20, 0, none⟩) 1 1] ([ls[i]] : List Int), Fc b10 o11 [.int .i64 (ls[i])], Rp (Shape.slice (Shape.int .i64)) [.slice al ls.length cl] ls] _ := H
    refine RW.appendW (d := some 38) (r := (sq 6 7)) (T := 22) (ty := 22) (e := 3) (m := 1) (by_ := 8) (v := .slice ao ((ls.take i).length) co) (a2 := (some ⟨b20, 0, none⟩)) (l2 := 1) (c2 := 1) (zs := ls.take (i + 1)) (by as_aux_lemma => kernel_rfl) (by as_aux_lemma => kernel_rfl) rfl H 1 rfl 0 rfl ((take_succ' (by omega)).symm) (by rw [List.length_take]; omega) ?_
    intro a22 c23 w25 H hc24
    have H : Hp w S O [(bp, .cells #[.slice a17 ((ys ++ intE (ls[i])).length) c18, .int .i64 0, .bool true, .bool false] 71 (0, 0))] [⟨Shape.bv .u8 8, 5, .slice a17 ((ys ++ intE (ls[i])).length) c18, (ys ++ intE (ls[i]))⟩, ⟨Shape.int .i64, 3, .slice a22 ((ls.take (i + 1)).length) c23, ls.take (i + 1)⟩] [Rp (Shape.slice (Shape.int .i64)) [.slice (some ⟨b20, 0, none⟩) 1 1] ([ls[i]] : List Int), Fc b10 o11 [.int .i64 (ls[i])], Rp (Shape.slice (Shape.int .i64)) [.slice al ls.length cl] ls] _ := H
    refine RW.fin 1 [0, 1, 5, 6, 7] [(0, .pointer (some ⟨bp, 0, none⟩)), (1, .slice al ls.length cl), (5, .int .i64 ((ls.length : Nat) : Int)), (6, .slice a22 ((ls.take (i + 1)).length) c23), (7, .int .i64 (i : Int))] (by as_aux_lemma => kernel_rfl) ?_
    refine WK.run 1 [0, 1, 5, 6, 7] [.code (cd Try.prog 48 [3, 0, 1, 0, 0, 2]), .inLoop (cd Try.prog 48 [3, 0, 1, 0, 0]), .inBlock 0, .code (cd Try.prog 48 [4])] [(0, .pointer (some ⟨bp, 0, none⟩)), (1, .slice al ls.length cl), (5, .int .i64 ((ls.length : Nat) : Int)), (6, .slice a22 ((ls.take (i + 1)).length) c23), (7, .int .i64 (i : Int))] (by as_aux_lemma => kernel_rfl) ?_
    refine WK.reg1 (l := sq 0 3) (by as_aux_lemma => kernel_rfl) (by as_aux_lemma => kernel_rfl) ?_
    refine RW.runP 1 [0, 1, 5, 6, 7, 23] (sq 1 3) [(0, .pointer (some ⟨bp, 0, none⟩)), (1, .slice al ls.length cl), (5, .int .i64 ((ls.length : Nat) : Int)), (6, .slice a22 ((ls.take (i + 1)).length) c23), (7, .int .i64 (i : Int)), (23, .int .i64 (i : Int))] (by as_aux_lemma => kernel_rfl) (by as_aux_lemma => kernel_rfl) ?_
    refine RW.wr64 (κ := .seq) (d := some 24) (r := (sq 2 3)) (t := (i : Int) + 1) (by as_aux_lemma => kernel_rfl) (by omega) ?_
    refine RW.fin 1 [0, 1, 5, 6, 7] [(0, .pointer (some ⟨bp, 0, none⟩)), (1, .slice al ls.length cl), (5, .int .i64 ((ls.length : Nat) : Int)), (6, .slice a22 ((ls.take (i + 1)).length) c23), (7, .int .i64 ((i : Int) + 1))] (by as_aux_lemma => kernel_rfl) ?_
    have H := H.pick [2] (G' := [Rp (Shape.slice (Shape.int .i64)) [.slice al ls.length cl] ls]) rfl
    have H := H.perms (M' := [(bp, .cells #[.slice a17 ((ys ++ intE (ls[i])).length) c18, .int .i64 0, .bool true, .bool false] 71 (0, 0))]) (W' := [⟨Shape.int .i64, 3, .slice a22 ((ls.take (i + 1)).length) c23, ls.take (i + 1)⟩, ⟨Shape.bv .u8 8, 5, .slice a17 ((ys ++ intE (ls[i])).length) c18, (ys ++ intE (ls[i]))⟩]) (List.Perm.refl _) (List.perm_middle (l₁ := ([⟨Shape.bv .u8 8, 5, .slice a17 ((ys ++ intE (ls[i])).length) c18, (ys ++ intE (ls[i]))⟩] : List OwnS))).symm
    exact WK.back (hback6 (i + 1, (ys ++ intE (ls[i])), a17, c18, a22, c23) _ ⟨H, by omega, by rw [intsE_take (by omega), hinv0.2.1]; simp, by simp only [List.length_append]; have := intE_ten (x := ls[i]) (by omega); omega⟩ (by first | omega | (simp only []; omega))) (by rfl)
  · skip
    replace h8 := of_decide_eq_false h8
    refine RW.fin 6 [0, 1, 5, 6, 7, 22] [(0, .pointer (some ⟨bp, 0, none⟩)), (1, .slice al ls.length cl), (5, .int .i64 ((ls.length : Nat) : Int)), (6, .slice ao ((ls.take i).length) co), (7, .int .i64 (i : Int)), (22, .bool false)] (by as_aux_lemma => kernel_rfl) ?_
    refine WK.run 4 [4] [.code (cd Try.prog 48 [5])] [(4, .slice ao ((ls.take i).length) co)] (by as_aux_lemma => kernel_rfl) ?_
    refine WK.ret (v := .slice ao ((ls.take i).length) co) Try.func48 (by as_aux_lemma => kernel_rfl) (by as_aux_lemma => kernel_rfl) ?_
    have H := H.perms (M' := [(bp, .cells #[.slice a9 ys.length c9, .int .i64 0, .bool true, .bool false] 71 (0, 0))]) (W' := [⟨Shape.bv .u8 8, 5, .slice a9 ys.length c9, ys⟩, ⟨Shape.int .i64, 3, .slice ao ((ls.take i).length) co, ls.take i⟩]) (List.Perm.refl _) (List.perm_middle (l₁ := ([⟨Shape.int .i64, 3, .slice ao ((ls.take i).length) co, ls.take i⟩] : List OwnS))).symm
    have hi9 : i = ls.length := by omega
    subst hi9
    rw [List.take_length] at hinv0
    obtain ⟨-, hy9, -⟩ := hinv0
    rw [List.append_assoc] at hy9
    subst hy9
    have H := H.drop (M' := [_]) (W' := [_]) (List.Sublist.refl _) (List.Sublist.cons_cons _ (List.nil_sublist _))
    exact ⟨_, rfl, _, _, ⟨_, _, by rw [List.take_length]⟩, H.pick [] rfl⟩


end Go.Proofs.Ythbegjaoifghlaa
