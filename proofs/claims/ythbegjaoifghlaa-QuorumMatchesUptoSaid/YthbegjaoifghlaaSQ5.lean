import Derived.Test.YthbegjaoifghlaaSQ4
namespace Go.Proofs.Ythbegjaoifghlaa
open Go.BX
theorem without_spec {S : Nat → Prop} {w : World} {xs : List Int} {a : Option Addr} {c : Nat} (h : (Shape.slice (.int .i64)).rep S w [.slice a xs.length c] xs) (x : Int) (hby : xs.length * 8 ≤ 140737488355328) :
 Calls Try.prog 24 #[.slice a xs.length c, .int .i64 x] w (Ret fun v w' => Ext w w' ∧ Hp w S [] [] [⟨Shape.int .i64, 3, v, drp x xs⟩] [] w') := by
 refine WK.calls1 (fn := Try.f24) (n := 9) (σ := [(0, .slice a xs.length c), (1, .int .i64 x)]) Try.func24 rfl (by as_aux_lemma => kernel_rfl) (by as_aux_lemma => kernel_rfl) (by as_aux_lemma => kernel_rfl) ?_
 have H := Hp.startF (w := w) (S := S) (G := [Rp (Shape.slice (Shape.int .i64)) [.slice a xs.length c] xs]) (.rp h .nil)
 refine WK.run 1 [0, 1] [.code (cd Try.prog 24 [0]), .code (cd Try.prog 24 [1])] [(0, .slice a xs.length c), (1, .int .i64 x)] (by as_aux_lemma => kernel_rfl) ?_
 refine WK.reg1 (l := sq 0 2) (by as_aux_lemma => kernel_rfl) (by as_aux_lemma => kernel_rfl) ?_
 refine RW.new (κ := .seq) (d := some 3) (r := (sq 1 2)) (o := .cells #[.int .i64 x] 3 (0, 0)) (v := fun b => .pointer (some ⟨b, 0, none⟩)) (fun b => by as_aux_lemma => kernel_rfl) (nofun) H ?_
 intro b1 w2 H
 refine RW.fin 1 [0, 3] [(0, .slice a xs.length c), (3, .pointer (some ⟨b1, 0, none⟩))] (by as_aux_lemma => kernel_rfl) ?_
 refine WK.run 1 [0, 3] [.code (cd Try.prog 24 [1, 0]), .code (cd Try.prog 24 [2])] [(0, .slice a xs.length c), (3, .pointer (some ⟨b1, 0, none⟩))] (by as_aux_lemma => kernel_rfl) ?_
 refine WK.reg1 (l := sq 0 5) (by as_aux_lemma => kernel_rfl) (by as_aux_lemma => kernel_rfl) ?_
 refine RW.runP 1 [3, 5] (sq 1 5) [(3, .pointer (some ⟨b1, 0, none⟩)), (5, .slice a xs.length c)] (by as_aux_lemma => kernel_rfl) (by as_aux_lemma => kernel_rfl) ?_
 refine RW.call (κ := .seq) (d := some 6) (r := (sq 2 5)) (g := 22) (args := #[.slice a xs.length c]) (by as_aux_lemma => kernel_rfl) (nofun) (clone_spec (H.rp 0 rfl) (by omega)) ?_
 rintro v4 w3 - H'
 have H := H.back (M1 := []) (W1 := []) H'
 obtain ⟨a5, c6, rfl, hc7, hm8⟩ := H.ownForm 0 rfl
 have H : Hp w S [] [(b1, .cells #[.int .i64 x] 3 (0, 0))] [⟨Shape.int .i64, 3, .slice a5 xs.length c6, xs⟩] [Rp (Shape.slice (Shape.int .i64)) [.slice a xs.length c] xs] _ := H
 refine RW.runP 1 [6, 7] (sq 3 5) [(6, .slice a5 xs.length c6), (7, .func (.func 37) #[] #[.pointer (some ⟨b1, 0, none⟩)])] (by as_aux_lemma => kernel_rfl) (by as_aux_lemma => kernel_rfl) ?_
 refine RW.callS (d := some 8) (r := (sq 4 5)) (g := 36) (args := #[.slice a5 xs.length c6, .func (.func 37) #[] #[.pointer (some ⟨b1, 0, none⟩)]]) (by as_aux_lemma => kernel_rfl) (delete_spec ((H.lend (M1 := [(b1, .cells #[.int .i64 x] 3 (0, 0))]) (W1 := [⟨Shape.int .i64, 3, .slice a5 xs.length c6, xs⟩])).pick [] rfl)) ?_
 rintro v10 w9 H'
 have H := H.back (M1 := [(b1, .cells #[.int .i64 x] 3 (0, 0))]) (W1 := [⟨Shape.int .i64, 3, .slice a5 xs.length c6, xs⟩]) H'
 obtain ⟨a11, c12, rfl, hc13, hm14⟩ := H.ownForm 0 rfl
 have H : Hp w S [] [(b1, .cells #[.int .i64 x] 3 (0, 0))] [⟨Shape.int .i64, 3, .slice a11 ((xs.filter (fun y => y != x)).length) c12, (xs.filter (fun y => y != x))⟩] [Rp (Shape.slice (Shape.int .i64)) [.slice a xs.length c] xs] _ := H
 refine RW.fin 1 [4] [(4, .slice a11 ((xs.filter (fun y => y != x)).length) c12)] (by as_aux_lemma => kernel_rfl) ?_
 refine WK.ret (v := .slice a11 ((xs.filter (fun y => y != x)).length) c12) Try.func24 (by as_aux_lemma => kernel_rfl) (by as_aux_lemma => kernel_rfl) ?_
 have H := H.drop (M' := []) (W' := [⟨Shape.int .i64, 3, .slice a11 ((xs.filter (fun y => y != x)).length) c12, (xs.filter (fun y => y != x))⟩]) (by repeat (first | exact List.Sublist.refl _ | apply List.Sublist.cons)) (List.Sublist.refl _)
 exact ⟨_, rfl, H.done, H.pick [] rfl⟩
theorem with2_spec {S : Nat → Prop} {w : World} {xs : List Int} {a : Option Addr} {c : Nat} (h : (Shape.slice (.int .i64)).rep S w [.slice a xs.length c] xs) (x : Int) (hx : -9223372036854775808 ≤ x ∧ x ≤ 9223372036854775807) (hby : (xs.length + 1) * 8 ≤ 140737488355328) (hr : risesFrom 0 xs = true) :
 Calls Try.prog 23 #[.slice a xs.length c, .int .i64 x] w (Ret fun v w' => Ext w w' ∧ Hp w S [] [] [⟨Shape.int .i64, 3, v, ins x xs⟩] [] w') := by
 refine (with_spec h x hx hby).mono ?_
 rintro e w' ⟨v, he, hE, i, h1, h2, h3, H⟩
 exact ⟨v, he, hE, H.reW (ins_at hr h1 h2 h3)⟩
theorem step_spec {S : Nat → Prop} {w : World} {cs : List Value} {C : Conf} (h : confS.rep S w cs C) {zs : List Value} {Z : CStep} (hz : cstepS.rep S w zs Z) :
 Calls Try.prog 13 #[.agg cs.toArray, .agg zs.toArray] w (Ret fun v w' => Ext w w' ∧ ∃ (ds : List Value) (D : Conf) (e : Int), v = .tuple #[.agg ds.toArray, .int .i64 e] ∧ confS.rep (Nw S w) w' ds D ∧ (D, e) = stepOf C Z) := by
 obtain ⟨a0C, k0C, a1C, k1C, rfl, hvC, hlC⟩ := conf_open h
 obtain ⟨rfl, hb1Z, hb2Z⟩ := cstep_open hz
 refine WK.calls1 (fn := Try.f13) (n := 92) (σ := [(0, .agg #[.slice a0C C.voters.length k0C, .slice a1C C.learners.length k1C]), (1, .agg #[.int .i64 Z.kind, .int .i64 Z.node])]) Try.func13 rfl (by as_aux_lemma => kernel_rfl) (by as_aux_lemma => kernel_rfl) (by as_aux_lemma => kernel_rfl) ?_
 have H := Hp.startF (w := w) (S := S) (G := [Rp (Shape.slice (Shape.int .i64)) [.slice a0C C.voters.length k0C] C.voters, Rp (Shape.slice (Shape.int .i64)) [.slice a1C C.learners.length k1C] C.learners]) (.rp hvC (.rp hlC .nil))
 refine WK.run 1 [0, 1] [.code (cd Try.prog 13 [0]), .code (cd Try.prog 13 [1])] [(0, .agg #[.slice a0C C.voters.length k0C, .slice a1C C.learners.length k1C]), (1, .agg #[.int .i64 Z.kind, .int .i64 Z.node])] (by as_aux_lemma => kernel_rfl) ?_
 refine WK.reg1 (l := sq 0 4) (by as_aux_lemma => kernel_rfl) (by as_aux_lemma => kernel_rfl) ?_
 refine RW.new (κ := .seq) (d := some 2) (r := (sq 1 4)) (o := .cells #[.slice a0C C.voters.length k0C, .slice a1C C.learners.length k1C] 24 (0, 0)) (v := fun b => .pointer (some ⟨b, 0, none⟩)) (fun b => by as_aux_lemma => kernel_rfl) (nofun) H ?_
 intro b1 w2 H
 refine RW.new (κ := .seq) (d := some 3) (r := (sq 2 4)) (o := .cells #[.int .i64 Z.kind, .int .i64 Z.node] 34 (0, 0)) (v := fun b => .pointer (some ⟨b, 0, none⟩)) (fun b => by as_aux_lemma => kernel_rfl) (nofun) H ?_
 intro b3 w4 H
 refine RW.new (κ := .seq) (d := some 4) (r := (sq 3 4)) (o := .cells #[.slice none 0 0, .slice none 0 0] 24 (0, 0)) (v := fun b => .pointer (some ⟨b, 0, none⟩)) (fun b => by as_aux_lemma => kernel_rfl) (nofun) H ?_
 intro b5 w6 H
 refine RW.fin 1 [2, 3, 4] [(2, .pointer (some ⟨b1, 0, none⟩)), (3, .pointer (some ⟨b3, 0, none⟩)), (4, .pointer (some ⟨b5, 0, none⟩))] (by as_aux_lemma => kernel_rfl) ?_
 refine WK.run 1 [2, 3, 4] [.code (cd Try.prog 13 [1, 0]), .code (cd Try.prog 13 [2])] [(2, .pointer (some ⟨b1, 0, none⟩)), (3, .pointer (some ⟨b3, 0, none⟩)), (4, .pointer (some ⟨b5, 0, none⟩))] (by as_aux_lemma => kernel_rfl) ?_
 refine WK.reg1 (l := sq 0 3) (by as_aux_lemma => kernel_rfl) (by as_aux_lemma => kernel_rfl) ?_
 refine RW.runP 1 [2, 3, 4, 9] (sq 1 3) [(2, .pointer (some ⟨b1, 0, none⟩)), (3, .pointer (some ⟨b3, 0, none⟩)), (4, .pointer (some ⟨b5, 0, none⟩)), (9, .pointer (some ⟨b3, 1, none⟩))] (by as_aux_lemma => kernel_rfl) (by as_aux_lemma => kernel_rfl) ?_
 refine RW.load (κ := .seq) (d := some 10) (r := (sq 2 3)) (T := 3) (b := b3) (o' := 1) (k := 1) (v := .int .i64 Z.node) (by as_aux_lemma => kernel_rfl) (H.cells 1 rfl) rfl (by as_aux_lemma => kernel_rfl) ?_
 refine RW.fin 1 [2, 3, 4, 6] [(2, .pointer (some ⟨b1, 0, none⟩)), (3, .pointer (some ⟨b3, 0, none⟩)), (4, .pointer (some ⟨b5, 0, none⟩)), (6, .int .i64 Z.node)] (by as_aux_lemma => kernel_rfl) ?_
 refine WK.run 1 [2, 3, 4, 6] [.code (cd Try.prog 13 [2, 0]), .code (cd Try.prog 13 [3])] [(2, .pointer (some ⟨b1, 0, none⟩)), (3, .pointer (some ⟨b3, 0, none⟩)), (4, .pointer (some ⟨b5, 0, none⟩)), (6, .int .i64 Z.node)] (by as_aux_lemma => kernel_rfl) ?_
 refine WK.draw1 9 [(0, .qui), (1, .qui), (3, .qui), (4, .qui), (5, .qui), (2, .chn), (6, .chn), (7, .qui), (8, .qui)] [(0, .qui), (1, .qui), (3, .qui), (4, .qui), (5, .qui), (2, .chn), (6, .chn), (7, .qui), (8, .qui)] Try_mixed (by as_aux_lemma => kernel_rfl) (by as_aux_lemma => kernel_rfl) (by as_aux_lemma => kernel_rfl) ?_
 have H := H.draw
 generalize ({ w6 with drawn := w6.drawn + 1 } : World) = w7 at H ⊢
 refine RW.load (κ := .qui) (d := some 11) (r := [(1, .qui), (3, .qui), (4, .qui), (5, .qui), (2, .chn), (6, .chn), (7, .qui), (8, .qui)]) (T := 24) (b := b1) (o' := 0) (k := 0) (v := .agg #[.slice a0C C.voters.length k0C, .slice a1C C.learners.length k1C]) (by as_aux_lemma => kernel_rfl) (H.cells 2 rfl) rfl (by as_aux_lemma => kernel_rfl) ?_
 refine RW.runP 2 [2, 3, 4, 6, 11, 12, 14] [(4, .qui), (5, .qui), (2, .chn), (6, .chn), (7, .qui), (8, .qui)] [(2, .pointer (some ⟨b1, 0, none⟩)), (3, .pointer (some ⟨b3, 0, none⟩)), (4, .pointer (some ⟨b5, 0, none⟩)), (6, .int .i64 Z.node), (11, .agg #[.slice a0C C.voters.length k0C, .slice a1C C.learners.length k1C]), (12, .int .i64 Z.node), (14, .pointer (some ⟨b1, 1, none⟩))] (by as_aux_lemma => kernel_rfl) (by as_aux_lemma => kernel_rfl) ?_
 refine RW.load (κ := .qui) (d := some 15) (r := [(5, .qui), (2, .chn), (6, .chn), (7, .qui), (8, .qui)]) (T := 22) (b := b1) (o' := 1) (k := 1) (v := .slice a1C C.learners.length k1C) (by as_aux_lemma => kernel_rfl) (H.cells 2 rfl) rfl (by as_aux_lemma => kernel_rfl) ?_
 refine RW.runP 1 [2, 3, 4, 6, 11, 12, 15, 16] [(2, .chn), (6, .chn), (7, .qui), (8, .qui)] [(2, .pointer (some ⟨b1, 0, none⟩)), (3, .pointer (some ⟨b3, 0, none⟩)), (4, .pointer (some ⟨b5, 0, none⟩)), (6, .int .i64 Z.node), (11, .agg #[.slice a0C C.voters.length k0C, .slice a1C C.learners.length k1C]), (12, .int .i64 Z.node), (15, .slice a1C C.learners.length k1C), (16, .int .i64 Z.node)] (by as_aux_lemma => kernel_rfl) (by as_aux_lemma => kernel_rfl) ?_
 refine RW.call (κ := .chn) (d := some 13) (r := [(6, .chn), (7, .qui), (8, .qui)]) (g := 11) (args := #[.agg #[.slice a0C C.voters.length k0C, .slice a1C C.learners.length k1C], .int .i64 Z.node]) (by as_aux_lemma => kernel_rfl) (nofun) (votes_spec (C := C) (conf_mk (H.rp 0 rfl) (H.rp 1 rfl)) Z.node) ?_
 rintro _ w8 hE9 rfl
 have H := H.ext hE9
 refine RW.call (κ := .chn) (d := some 17) (r := [(7, .qui), (8, .qui)]) (g := 21) (args := #[.slice a1C C.learners.length k1C, .int .i64 Z.node]) (by as_aux_lemma => kernel_rfl) (nofun) (contains_spec Z.node (H.rp 1 rfl)) ?_
 rintro _ w10 hE11 rfl
 have H := H.ext hE11
 refine RW.fin 2 [2, 3, 4, 6, 7, 8] [(2, .pointer (some ⟨b1, 0, none⟩)), (3, .pointer (some ⟨b3, 0, none⟩)), (4, .pointer (some ⟨b5, 0, none⟩)), (6, .int .i64 Z.node), (7, .bool (decide (Z.node ∈ C.voters))), (8, .bool (decide (Z.node ∈ C.learners)))] (by as_aux_lemma => kernel_rfl) ?_
 refine WK.run 3 [2, 3, 4, 6, 7, 8] [.code (cd Try.prog 13 [3, 0, 0, 0]), .code (cd Try.prog 13 [3, 0, 0, 1]), .inBlock 0, .code (cd Try.prog 13 [4])] [(2, .pointer (some ⟨b1, 0, none⟩)), (3, .pointer (some ⟨b3, 0, none⟩)), (4, .pointer (some ⟨b5, 0, none⟩)), (6, .int .i64 Z.node), (7, .bool (decide (Z.node ∈ C.voters))), (8, .bool (decide (Z.node ∈ C.learners)))] (by as_aux_lemma => kernel_rfl) ?_
 refine WK.reg1 (l := sq 0 12) (by as_aux_lemma => kernel_rfl) (by as_aux_lemma => kernel_rfl) ?_
 refine RW.load (κ := .seq) (d := some 19) (r := (sq 1 12)) (T := 24) (b := b1) (o' := 0) (k := 0) (v := .agg #[.slice a0C C.voters.length k0C, .slice a1C C.learners.length k1C]) (by as_aux_lemma => kernel_rfl) (H.cells 2 rfl) rfl (by as_aux_lemma => kernel_rfl) ?_
 refine RW.call (κ := .seq) (d := some 20) (r := (sq 2 12)) (g := 7) (args := #[.agg #[.slice a0C C.voters.length k0C, .slice a1C C.learners.length k1C]]) (by as_aux_lemma => kernel_rfl) (nofun) (check_spec (C := C) (conf_mk (H.rp 0 rfl) (H.rp 1 rfl))) ?_
 rintro _ w12 hE13 rfl
 have H := H.ext hE13
 refine RW.runP 2 [2, 3, 4, 6, 7, 8, 22] (sq 4 12) [(2, .pointer (some ⟨b1, 0, none⟩)), (3, .pointer (some ⟨b3, 0, none⟩)), (4, .pointer (some ⟨b5, 0, none⟩)), (6, .int .i64 Z.node), (7, .bool (decide (Z.node ∈ C.voters))), (8, .bool (decide (Z.node ∈ C.learners))), (22, .bool ((errOf (okConf C)) != 0))] (by as_aux_lemma => kernel_rfl) (by as_aux_lemma => kernel_rfl) ?_
 refine RW.test (fun b_ => [(2, .pointer (some ⟨b1, 0, none⟩)), (3, .pointer (some ⟨b3, 0, none⟩)), (4, .pointer (some ⟨b5, 0, none⟩)), (6, .int .i64 Z.node), (7, .bool (decide (Z.node ∈ C.voters))), (8, .bool (decide (Z.node ∈ C.learners))), (22, .bool b_)]) ((errOf (okConf C)) != 0) (fun h14 => ?_) (fun h14 => ?_)
 ·
  replace h14 := bne_iff_ne.1 h14
  have hokC := errOf_ne h14
  refine RW.fin 8 [2, 3, 4, 6, 7, 8, 18] [(2, .pointer (some ⟨b1, 0, none⟩)), (3, .pointer (some ⟨b3, 0, none⟩)), (4, .pointer (some ⟨b5, 0, none⟩)), (6, .int .i64 Z.node), (7, .bool (decide (Z.node ∈ C.voters))), (8, .bool (decide (Z.node ∈ C.learners))), (18, .bool true)] (by as_aux_lemma => kernel_rfl) ?_
  refine WK.run 4 [4] [.code (cd Try.prog 13 [4, 0]), .code (cd Try.prog 13 [5])] [(4, .pointer (some ⟨b5, 0, none⟩))] (by as_aux_lemma => kernel_rfl) ?_
  refine WK.reg1 (l := sq 0 3) (by as_aux_lemma => kernel_rfl) (by as_aux_lemma => kernel_rfl) ?_
  refine RW.runP 1 [4, 91] (sq 1 3) [(4, .pointer (some ⟨b5, 0, none⟩)), (91, .agg #[.slice none 0 0, .slice none 0 0])] (by as_aux_lemma => kernel_rfl) (by as_aux_lemma => kernel_rfl) ?_
  refine RW.store (d := none) (r := (sq 2 3)) (T := 24) (b := b5) (k := 0) (v := .agg #[.slice none 0 0, .slice none 0 0]) (c' := #[.slice none 0 0, .slice none 0 0]) (M' := [(b5, .cells #[.slice none 0 0, .slice none 0 0] 24 (0, 0)), (b3, .cells #[.int .i64 Z.kind, .int .i64 Z.node] 34 (0, 0)), (b1, .cells #[.slice a0C C.voters.length k0C, .slice a1C C.learners.length k1C] 24 (0, 0))]) (by as_aux_lemma => kernel_rfl) H 0 rfl (by as_aux_lemma => kernel_rfl) (by as_aux_lemma => kernel_rfl) ?_
  intro w15 H
  refine RW.fin 1 [4, 5] [(4, .pointer (some ⟨b5, 0, none⟩)), (5, .int .i64 120)] (by as_aux_lemma => kernel_rfl) ?_
  refine WK.retBy (v := .tuple #[.agg #[.slice none 0 0, .slice none 0 0], .int .i64 120]) Try.func13 (by as_aux_lemma => kernel_rfl) (RV.res2 (x := .cell 4 24) (y := .tmp 5) (by as_aux_lemma => kernel_rfl) (RV.cell (k := 0) (by as_aux_lemma => kernel_rfl) (H.cells 0 rfl) rfl (by as_aux_lemma => kernel_rfl)) (RV.tmp (by as_aux_lemma => kernel_rfl))) ?_
  refine ⟨_, rfl, H.done, [.slice none 0 0, .slice none 0 0], ⟨[], []⟩, 120, rfl, H.out (conf_mk Shape.slice_nil Shape.slice_nil), ?_⟩
  clear H
  symm
  unfold stepOf stepOk
  first | (simp [*]; done) | (simp [*]; omega)
 ·
  replace h14 := (bne_eq_false_iff_eq.1 h14)
  have hokC := errOf_eq h14
  have hlC := ok_len hokC
  obtain ⟨hpos, hrv, hrl, hcm⟩ := okConf_iff.1 hokC
  refine RW.runP 4 [2, 3, 4, 6, 7, 8, 26] (sq 8 12) [(2, .pointer (some ⟨b1, 0, none⟩)), (3, .pointer (some ⟨b3, 0, none⟩)), (4, .pointer (some ⟨b5, 0, none⟩)), (6, .int .i64 Z.node), (7, .bool (decide (Z.node ∈ C.voters))), (8, .bool (decide (Z.node ∈ C.learners))), (26, .bool (decide ((Z.node : Int) < 1)))] (by as_aux_lemma => kernel_rfl) (by as_aux_lemma => kernel_rfl) ?_
  refine RW.test (fun b_ => [(2, .pointer (some ⟨b1, 0, none⟩)), (3, .pointer (some ⟨b3, 0, none⟩)), (4, .pointer (some ⟨b5, 0, none⟩)), (6, .int .i64 Z.node), (7, .bool (decide (Z.node ∈ C.voters))), (8, .bool (decide (Z.node ∈ C.learners))), (26, .bool b_)]) (decide ((Z.node : Int) < 1)) (fun h16 => ?_) (fun h16 => ?_)
  ·
   replace h16 := of_decide_eq_true h16
   refine RW.fin 4 [2, 3, 4, 6, 7, 8, 18] [(2, .pointer (some ⟨b1, 0, none⟩)), (3, .pointer (some ⟨b3, 0, none⟩)), (4, .pointer (some ⟨b5, 0, none⟩)), (6, .int .i64 Z.node), (7, .bool (decide (Z.node ∈ C.voters))), (8, .bool (decide (Z.node ∈ C.learners))), (18, .bool true)] (by as_aux_lemma => kernel_rfl) ?_
   refine WK.run 4 [4] [.code (cd Try.prog 13 [4, 0]), .code (cd Try.prog 13 [5])] [(4, .pointer (some ⟨b5, 0, none⟩))] (by as_aux_lemma => kernel_rfl) ?_
   refine WK.reg1 (l := sq 0 3) (by as_aux_lemma => kernel_rfl) (by as_aux_lemma => kernel_rfl) ?_
   refine RW.runP 1 [4, 91] (sq 1 3) [(4, .pointer (some ⟨b5, 0, none⟩)), (91, .agg #[.slice none 0 0, .slice none 0 0])] (by as_aux_lemma => kernel_rfl) (by as_aux_lemma => kernel_rfl) ?_
   refine RW.store (d := none) (r := (sq 2 3)) (T := 24) (b := b5) (k := 0) (v := .agg #[.slice none 0 0, .slice none 0 0]) (c' := #[.slice none 0 0, .slice none 0 0]) (M' := [(b5, .cells #[.slice none 0 0, .slice none 0 0] 24 (0, 0)), (b3, .cells #[.int .i64 Z.kind, .int .i64 Z.node] 34 (0, 0)), (b1, .cells #[.slice a0C C.voters.length k0C, .slice a1C C.learners.length k1C] 24 (0, 0))]) (by as_aux_lemma => kernel_rfl) H 0 rfl (by as_aux_lemma => kernel_rfl) (by as_aux_lemma => kernel_rfl) ?_
   intro w17 H
   refine RW.fin 1 [4, 5] [(4, .pointer (some ⟨b5, 0, none⟩)), (5, .int .i64 120)] (by as_aux_lemma => kernel_rfl) ?_
   refine WK.retBy (v := .tuple #[.agg #[.slice none 0 0, .slice none 0 0], .int .i64 120]) Try.func13 (by as_aux_lemma => kernel_rfl) (RV.res2 (x := .cell 4 24) (y := .tmp 5) (by as_aux_lemma => kernel_rfl) (RV.cell (k := 0) (by as_aux_lemma => kernel_rfl) (H.cells 0 rfl) rfl (by as_aux_lemma => kernel_rfl)) (RV.tmp (by as_aux_lemma => kernel_rfl))) ?_
   refine ⟨_, rfl, H.done, [.slice none 0 0, .slice none 0 0], ⟨[], []⟩, 120, rfl, H.out (conf_mk Shape.slice_nil Shape.slice_nil), ?_⟩
   clear H
   symm
   unfold stepOf stepOk
   first | (simp [*]; done) | (simp [*]; omega)
  ·
   replace h16 := of_decide_eq_false h16
   refine RW.fin 4 [2, 3, 4, 6, 7, 8, 18] [(2, .pointer (some ⟨b1, 0, none⟩)), (3, .pointer (some ⟨b3, 0, none⟩)), (4, .pointer (some ⟨b5, 0, none⟩)), (6, .int .i64 Z.node), (7, .bool (decide (Z.node ∈ C.voters))), (8, .bool (decide (Z.node ∈ C.learners))), (18, .bool (decide ((Z.node : Int) > 32)))] (by as_aux_lemma => kernel_rfl) ?_
   refine WK.cond1 (decide ((Z.node : Int) > 32)) (by as_aux_lemma => kernel_rfl) (by as_aux_lemma => kernel_rfl) (fun h18 => ?_) (fun h18 => ?_)
   ·
    replace h18 := of_decide_eq_true h18
    refine WK.run 3 [4] [.code (cd Try.prog 13 [4, 0]), .code (cd Try.prog 13 [5])] [(4, .pointer (some ⟨b5, 0, none⟩))] (by as_aux_lemma => kernel_rfl) ?_
    refine WK.reg1 (l := sq 0 3) (by as_aux_lemma => kernel_rfl) (by as_aux_lemma => kernel_rfl) ?_
    refine RW.runP 1 [4, 91] (sq 1 3) [(4, .pointer (some ⟨b5, 0, none⟩)), (91, .agg #[.slice none 0 0, .slice none 0 0])] (by as_aux_lemma => kernel_rfl) (by as_aux_lemma => kernel_rfl) ?_
    refine RW.store (d := none) (r := (sq 2 3)) (T := 24) (b := b5) (k := 0) (v := .agg #[.slice none 0 0, .slice none 0 0]) (c' := #[.slice none 0 0, .slice none 0 0]) (M' := [(b5, .cells #[.slice none 0 0, .slice none 0 0] 24 (0, 0)), (b3, .cells #[.int .i64 Z.kind, .int .i64 Z.node] 34 (0, 0)), (b1, .cells #[.slice a0C C.voters.length k0C, .slice a1C C.learners.length k1C] 24 (0, 0))]) (by as_aux_lemma => kernel_rfl) H 0 rfl (by as_aux_lemma => kernel_rfl) (by as_aux_lemma => kernel_rfl) ?_
    intro w19 H
    refine RW.fin 1 [4, 5] [(4, .pointer (some ⟨b5, 0, none⟩)), (5, .int .i64 120)] (by as_aux_lemma => kernel_rfl) ?_
    refine WK.retBy (v := .tuple #[.agg #[.slice none 0 0, .slice none 0 0], .int .i64 120]) Try.func13 (by as_aux_lemma => kernel_rfl) (RV.res2 (x := .cell 4 24) (y := .tmp 5) (by as_aux_lemma => kernel_rfl) (RV.cell (k := 0) (by as_aux_lemma => kernel_rfl) (H.cells 0 rfl) rfl (by as_aux_lemma => kernel_rfl)) (RV.tmp (by as_aux_lemma => kernel_rfl))) ?_
    refine ⟨_, rfl, H.done, [.slice none 0 0, .slice none 0 0], ⟨[], []⟩, 120, rfl, H.out (conf_mk Shape.slice_nil Shape.slice_nil), ?_⟩
    clear H
    symm
    unfold stepOf stepOk
    first | (simp [*]; done) | (simp [*]; omega)
   ·
    replace h18 := of_decide_eq_false h18
    refine WK.run 1 [2, 3, 4, 6, 7, 8] [.code (cd Try.prog 13 [3, 0, 0, 1, 1, 0]), .code (cd Try.prog 13 [3, 0, 0, 1, 1, 1]), .inBlock 0, .code (cd Try.prog 13 [4])] [(2, .pointer (some ⟨b1, 0, none⟩)), (3, .pointer (some ⟨b3, 0, none⟩)), (4, .pointer (some ⟨b5, 0, none⟩)), (6, .int .i64 Z.node), (7, .bool (decide (Z.node ∈ C.voters))), (8, .bool (decide (Z.node ∈ C.learners)))] (by as_aux_lemma => kernel_rfl) ?_
    refine WK.reg1 (l := sq 0 12) (by as_aux_lemma => kernel_rfl) (by as_aux_lemma => kernel_rfl) ?_
    refine RW.runP 1 [2, 3, 4, 6, 7, 8, 31] (sq 1 12) [(2, .pointer (some ⟨b1, 0, none⟩)), (3, .pointer (some ⟨b3, 0, none⟩)), (4, .pointer (some ⟨b5, 0, none⟩)), (6, .int .i64 Z.node), (7, .bool (decide (Z.node ∈ C.voters))), (8, .bool (decide (Z.node ∈ C.learners))), (31, .pointer (some ⟨b3, 0, none⟩))] (by as_aux_lemma => kernel_rfl) (by as_aux_lemma => kernel_rfl) ?_
    refine RW.load (κ := .seq) (d := some 32) (r := (sq 2 12)) (T := 32) (b := b3) (o' := 0) (k := 0) (v := .int .i64 Z.kind) (by as_aux_lemma => kernel_rfl) (H.cells 1 rfl) rfl (by as_aux_lemma => kernel_rfl) ?_
    refine RW.runP 2 [2, 3, 4, 6, 7, 8, 34] (sq 4 12) [(2, .pointer (some ⟨b1, 0, none⟩)), (3, .pointer (some ⟨b3, 0, none⟩)), (4, .pointer (some ⟨b5, 0, none⟩)), (6, .int .i64 Z.node), (7, .bool (decide (Z.node ∈ C.voters))), (8, .bool (decide (Z.node ∈ C.learners))), (34, .bool (Z.kind == 1))] (by as_aux_lemma => kernel_rfl) (by as_aux_lemma => kernel_rfl) ?_
    refine RW.test (fun b_ => [(2, .pointer (some ⟨b1, 0, none⟩)), (3, .pointer (some ⟨b3, 0, none⟩)), (4, .pointer (some ⟨b5, 0, none⟩)), (6, .int .i64 Z.node), (7, .bool (decide (Z.node ∈ C.voters))), (8, .bool (decide (Z.node ∈ C.learners))), (34, .bool b_)]) (Z.kind == 1) (fun h20 => ?_) (fun h20 => ?_)
    ·
     replace h20 := eq_of_beq h20
     refine RW.runP 4 [2, 3, 4, 6, 7, 8, 38] (sq 8 12) [(2, .pointer (some ⟨b1, 0, none⟩)), (3, .pointer (some ⟨b3, 0, none⟩)), (4, .pointer (some ⟨b5, 0, none⟩)), (6, .int .i64 Z.node), (7, .bool (decide (Z.node ∈ C.voters))), (8, .bool (decide (Z.node ∈ C.learners))), (38, .bool (!(decide (Z.node ∈ C.voters))))] (by as_aux_lemma => kernel_rfl) (by as_aux_lemma => kernel_rfl) ?_
     refine RW.test (fun b_ => [(2, .pointer (some ⟨b1, 0, none⟩)), (3, .pointer (some ⟨b3, 0, none⟩)), (4, .pointer (some ⟨b5, 0, none⟩)), (6, .int .i64 Z.node), (7, .bool (decide (Z.node ∈ C.voters))), (8, .bool (decide (Z.node ∈ C.learners))), (38, .bool b_)]) (!(decide (Z.node ∈ C.voters))) (fun h21 => ?_) (fun h21 => ?_)
     ·
      replace h21 : (decide (Z.node ∈ C.voters)) = false := by revert h21; cases (decide (Z.node ∈ C.voters)) <;> simp
      replace h21 := of_decide_eq_false h21
      refine RW.fin 4 [2, 3, 4, 6, 7, 8, 30] [(2, .pointer (some ⟨b1, 0, none⟩)), (3, .pointer (some ⟨b3, 0, none⟩)), (4, .pointer (some ⟨b5, 0, none⟩)), (6, .int .i64 Z.node), (7, .bool (decide (Z.node ∈ C.voters))), (8, .bool (decide (Z.node ∈ C.learners))), (30, .bool (!(decide (Z.node ∈ C.learners))))] (by as_aux_lemma => kernel_rfl) ?_
      refine WK.cond1 (!(decide (Z.node ∈ C.learners))) (by as_aux_lemma => kernel_rfl) (by as_aux_lemma => kernel_rfl) (fun h22 => ?_) (fun h22 => ?_)
      ·
       replace h22 : (decide (Z.node ∈ C.learners)) = false := by revert h22; cases (decide (Z.node ∈ C.learners)) <;> simp
       replace h22 := of_decide_eq_false h22
       refine WK.run 1 [2, 4, 6] [.code (cd Try.prog 13 [3, 0, 0, 1, 1, 1, 0, 0]), .code (cd Try.prog 13 [3, 0, 0, 1, 1, 1, 0, 1]), .inBlock 0, .code (cd Try.prog 13 [4])] [(2, .pointer (some ⟨b1, 0, none⟩)), (4, .pointer (some ⟨b5, 0, none⟩)), (6, .int .i64 Z.node)] (by as_aux_lemma => kernel_rfl) ?_
       refine WK.draw1 8 [(0, .qui), (1, .qui), (3, .qui), (4, .qui), (5, .qui), (2, .chn), (6, .chn), (7, .qui)] [(0, .qui), (1, .qui), (3, .qui), (4, .qui), (5, .qui), (2, .chn), (6, .chn), (7, .qui), (8, .seq), (9, .seq)] Try_mixed (by as_aux_lemma => kernel_rfl) (by as_aux_lemma => kernel_rfl) (by as_aux_lemma => kernel_rfl) ?_
       have H := H.draw
       generalize ({ w12 with drawn := w12.drawn + 1 } : World) = w23 at H ⊢
       refine RW.runP 1 [2, 4, 6, 42] [(1, .qui), (3, .qui), (4, .qui), (5, .qui), (2, .chn), (6, .chn), (7, .qui), (8, .seq), (9, .seq)] [(2, .pointer (some ⟨b1, 0, none⟩)), (4, .pointer (some ⟨b5, 0, none⟩)), (6, .int .i64 Z.node), (42, .pointer (some ⟨b1, 0, none⟩))] (by as_aux_lemma => kernel_rfl) (by as_aux_lemma => kernel_rfl) ?_
       refine RW.load (κ := .qui) (d := some 43) (r := [(3, .qui), (4, .qui), (5, .qui), (2, .chn), (6, .chn), (7, .qui), (8, .seq), (9, .seq)]) (T := 22) (b := b1) (o' := 0) (k := 0) (v := .slice a0C C.voters.length k0C) (by as_aux_lemma => kernel_rfl) (H.cells 2 rfl) rfl (by as_aux_lemma => kernel_rfl) ?_
       refine RW.runP 1 [4, 6, 43, 45] [(4, .qui), (5, .qui), (2, .chn), (6, .chn), (7, .qui), (8, .seq), (9, .seq)] [(4, .pointer (some ⟨b5, 0, none⟩)), (6, .int .i64 Z.node), (43, .slice a0C C.voters.length k0C), (45, .pointer (some ⟨b1, 1, none⟩))] (by as_aux_lemma => kernel_rfl) (by as_aux_lemma => kernel_rfl) ?_
       refine RW.load (κ := .qui) (d := some 46) (r := [(5, .qui), (2, .chn), (6, .chn), (7, .qui), (8, .seq), (9, .seq)]) (T := 22) (b := b1) (o' := 1) (k := 1) (v := .slice a1C C.learners.length k1C) (by as_aux_lemma => kernel_rfl) (H.cells 2 rfl) rfl (by as_aux_lemma => kernel_rfl) ?_
       refine RW.runP 1 [4, 43, 46, 47] [(2, .chn), (6, .chn), (7, .qui), (8, .seq), (9, .seq)] [(4, .pointer (some ⟨b5, 0, none⟩)), (43, .slice a0C C.voters.length k0C), (46, .slice a1C C.learners.length k1C), (47, .int .i64 Z.node)] (by as_aux_lemma => kernel_rfl) (by as_aux_lemma => kernel_rfl) ?_
       refine RW.call (κ := .chn) (d := some 44) (r := [(6, .chn), (7, .qui), (8, .seq), (9, .seq)]) (g := 22) (args := #[.slice a0C C.voters.length k0C]) (by as_aux_lemma => kernel_rfl) (nofun) (clone_spec (H.rp 0 rfl) (by omega)) ?_
       rintro v25 w24 - H'
       have H := H.back (M1 := []) (W1 := []) H'
       obtain ⟨a26, c27, rfl, hc28, hm29⟩ := H.ownForm 0 rfl
       have H : Hp w S [] [(b5, .cells #[.slice none 0 0, .slice none 0 0] 24 (0, 0)), (b3, .cells #[.int .i64 Z.kind, .int .i64 Z.node] 34 (0, 0)), (b1, .cells #[.slice a0C C.voters.length k0C, .slice a1C C.learners.length k1C] 24 (0, 0))] [⟨Shape.int .i64, 3, .slice a26 C.voters.length c27, C.voters⟩] [Rp (Shape.slice (Shape.int .i64)) [.slice a0C C.voters.length k0C] C.voters, Rp (Shape.slice (Shape.int .i64)) [.slice a1C C.learners.length k1C] C.learners] _ := H
       refine RW.call (κ := .chn) (d := some 48) (r := [(7, .qui), (8, .seq), (9, .seq)]) (g := 23) (args := #[.slice a1C C.learners.length k1C, .int .i64 Z.node]) (by as_aux_lemma => kernel_rfl) (nofun) (with2_spec (H.rp 1 rfl) Z.node (by omega) (by omega) (by assumption)) ?_
       rintro v31 w30 - H'
       have H := H.back (M1 := []) (W1 := []) H'
       obtain ⟨a32, c33, rfl, hc34, hm35⟩ := H.ownForm 0 rfl
       have H : Hp w S [] [(b5, .cells #[.slice none 0 0, .slice none 0 0] 24 (0, 0)), (b3, .cells #[.int .i64 Z.kind, .int .i64 Z.node] 34 (0, 0)), (b1, .cells #[.slice a0C C.voters.length k0C, .slice a1C C.learners.length k1C] 24 (0, 0))] [⟨Shape.int .i64, 3, .slice a32 ((ins Z.node C.learners).length) c33, ins Z.node C.learners⟩, ⟨Shape.int .i64, 3, .slice a26 C.voters.length c27, C.voters⟩] [Rp (Shape.slice (Shape.int .i64)) [.slice a0C C.voters.length k0C] C.voters, Rp (Shape.slice (Shape.int .i64)) [.slice a1C C.learners.length k1C] C.learners] _ := H
       refine RW.runP 1 [4, 49] [(8, .seq), (9, .seq)] [(4, .pointer (some ⟨b5, 0, none⟩)), (49, .agg #[.slice a26 C.voters.length c27, .slice a32 ((ins Z.node C.learners).length) c33])] (by as_aux_lemma => kernel_rfl) (by as_aux_lemma => kernel_rfl) ?_
       refine RW.store (d := none) (r := [(9, .seq)]) (T := 24) (b := b5) (k := 0) (v := .agg #[.slice a26 C.voters.length c27, .slice a32 ((ins Z.node C.learners).length) c33]) (c' := #[.slice a26 C.voters.length c27, .slice a32 ((ins Z.node C.learners).length) c33]) (M' := [(b5, .cells #[.slice a26 C.voters.length c27, .slice a32 ((ins Z.node C.learners).length) c33] 24 (0, 0)), (b3, .cells #[.int .i64 Z.kind, .int .i64 Z.node] 34 (0, 0)), (b1, .cells #[.slice a0C C.voters.length k0C, .slice a1C C.learners.length k1C] 24 (0, 0))]) (by as_aux_lemma => kernel_rfl) H 0 rfl (by as_aux_lemma => kernel_rfl) (by as_aux_lemma => kernel_rfl) ?_
       intro w36 H
       refine RW.fin 1 [4, 5] [(4, .pointer (some ⟨b5, 0, none⟩)), (5, .int .i64 0)] (by as_aux_lemma => kernel_rfl) ?_
       refine WK.retBy (v := .tuple #[.agg #[.slice a26 C.voters.length c27, .slice a32 ((ins Z.node C.learners).length) c33], .int .i64 0]) Try.func13 (by as_aux_lemma => kernel_rfl) (RV.res2 (x := .cell 4 24) (y := .tmp 5) (by as_aux_lemma => kernel_rfl) (RV.cell (k := 0) (by as_aux_lemma => kernel_rfl) (H.cells 0 rfl) rfl (by as_aux_lemma => kernel_rfl)) (RV.tmp (by as_aux_lemma => kernel_rfl))) ?_
       have H : Hp w S [] [(b5, .cells #[.slice a26 C.voters.length c27, .slice a32 ((ins Z.node C.learners).length) c33] 24 (0, 0)), (b3, .cells #[.int .i64 Z.kind, .int .i64 Z.node] 34 (0, 0)), (b1, .cells #[.slice a0C C.voters.length k0C, .slice a1C C.learners.length k1C] 24 (0, 0))] [⟨Shape.int .i64, 3, .slice a32 ((ins Z.node C.learners).length) c33, ins Z.node C.learners⟩] [Rp (Shape.slice (Shape.int .i64)) [.slice a26 C.voters.length c27] C.voters, Rp (Shape.slice (Shape.int .i64)) [.slice a0C C.voters.length k0C] C.voters, Rp (Shape.slice (Shape.int .i64)) [.slice a1C C.learners.length k1C] C.learners] _ := H.freezeW 1 rfl
       have H : Hp w S [] [(b5, .cells #[.slice a26 C.voters.length c27, .slice a32 ((ins Z.node C.learners).length) c33] 24 (0, 0)), (b3, .cells #[.int .i64 Z.kind, .int .i64 Z.node] 34 (0, 0)), (b1, .cells #[.slice a0C C.voters.length k0C, .slice a1C C.learners.length k1C] 24 (0, 0))] [] [Rp (Shape.slice (Shape.int .i64)) [.slice a32 ((ins Z.node C.learners).length) c33] (ins Z.node C.learners), Rp (Shape.slice (Shape.int .i64)) [.slice a26 C.voters.length c27] C.voters, Rp (Shape.slice (Shape.int .i64)) [.slice a0C C.voters.length k0C] C.voters, Rp (Shape.slice (Shape.int .i64)) [.slice a1C C.learners.length k1C] C.learners] _ := H.freezeW 0 rfl
       refine ⟨_, rfl, H.done, [.slice a26 C.voters.length c27, .slice a32 ((ins Z.node C.learners).length) c33], ⟨C.voters, ins Z.node C.learners⟩, 0, rfl, H.out (conf_mk (H.rp 1 rfl) (H.rp 0 rfl)), ?_⟩
       clear H
       symm
       unfold stepOf stepOk
       first | (simp [*]; done) | (simp [*]; omega)
      ·
       replace h22 : (decide (Z.node ∈ C.learners)) = true := by revert h22; cases (decide (Z.node ∈ C.learners)) <;> simp
       replace h22 := of_decide_eq_true h22
       refine WK.run 1 [2, 3, 4, 6, 7, 8] [.code (cd Try.prog 13 [3, 0, 0, 1, 1, 1, 1, 0]), .code (cd Try.prog 13 [3, 0, 0, 1, 1, 1, 1, 1]), .inBlock 0, .code (cd Try.prog 13 [4])] [(2, .pointer (some ⟨b1, 0, none⟩)), (3, .pointer (some ⟨b3, 0, none⟩)), (4, .pointer (some ⟨b5, 0, none⟩)), (6, .int .i64 Z.node), (7, .bool (decide (Z.node ∈ C.voters))), (8, .bool (decide (Z.node ∈ C.learners)))] (by as_aux_lemma => kernel_rfl) ?_
       refine WK.reg1 (l := sq 0 7) (by as_aux_lemma => kernel_rfl) (by as_aux_lemma => kernel_rfl) ?_
       refine RW.runP 1 [2, 3, 4, 6, 7, 8, 51] (sq 1 7) [(2, .pointer (some ⟨b1, 0, none⟩)), (3, .pointer (some ⟨b3, 0, none⟩)), (4, .pointer (some ⟨b5, 0, none⟩)), (6, .int .i64 Z.node), (7, .bool (decide (Z.node ∈ C.voters))), (8, .bool (decide (Z.node ∈ C.learners))), (51, .pointer (some ⟨b3, 0, none⟩))] (by as_aux_lemma => kernel_rfl) (by as_aux_lemma => kernel_rfl) ?_
       refine RW.load (κ := .seq) (d := some 52) (r := (sq 2 7)) (T := 32) (b := b3) (o' := 0) (k := 0) (v := .int .i64 Z.kind) (by as_aux_lemma => kernel_rfl) (H.cells 1 rfl) rfl (by as_aux_lemma => kernel_rfl) ?_
       refine RW.runP 2 [2, 3, 4, 6, 7, 8, 54] (sq 4 7) [(2, .pointer (some ⟨b1, 0, none⟩)), (3, .pointer (some ⟨b3, 0, none⟩)), (4, .pointer (some ⟨b5, 0, none⟩)), (6, .int .i64 Z.node), (7, .bool (decide (Z.node ∈ C.voters))), (8, .bool (decide (Z.node ∈ C.learners))), (54, .bool (Z.kind == 2))] (by as_aux_lemma => kernel_rfl) (by as_aux_lemma => kernel_rfl) ?_
       refine RW.test (fun b_ => [(2, .pointer (some ⟨b1, 0, none⟩)), (3, .pointer (some ⟨b3, 0, none⟩)), (4, .pointer (some ⟨b5, 0, none⟩)), (6, .int .i64 Z.node), (7, .bool (decide (Z.node ∈ C.voters))), (8, .bool (decide (Z.node ∈ C.learners))), (54, .bool b_)]) (Z.kind == 2) (fun h37 => ?_) (fun h37 => ?_)
       ·
        replace h37 := eq_of_beq h37
        refine RW.fin 3 [2, 3, 4, 6, 7, 8, 50] [(2, .pointer (some ⟨b1, 0, none⟩)), (3, .pointer (some ⟨b3, 0, none⟩)), (4, .pointer (some ⟨b5, 0, none⟩)), (6, .int .i64 Z.node), (7, .bool (decide (Z.node ∈ C.voters))), (8, .bool (decide (Z.node ∈ C.learners))), (50, .bool (decide (Z.node ∈ C.learners)))] (by as_aux_lemma => kernel_rfl) ?_
        refine WK.cond1 (decide (Z.node ∈ C.learners)) (by as_aux_lemma => kernel_rfl) (by as_aux_lemma => kernel_rfl) (fun h38 => ?_) (fun h38 => ?_)
        ·
         replace h38 := of_decide_eq_true h38
         refine WK.run 1 [2, 4, 6] [.code (cd Try.prog 13 [3, 0, 0, 1, 1, 1, 1, 1, 0, 0]), .code (cd Try.prog 13 [3, 0, 0, 1, 1, 1, 1, 1, 0, 1]), .inBlock 0, .code (cd Try.prog 13 [4])] [(2, .pointer (some ⟨b1, 0, none⟩)), (4, .pointer (some ⟨b5, 0, none⟩)), (6, .int .i64 Z.node)] (by as_aux_lemma => kernel_rfl) ?_
         refine WK.draw1 9 [(0, .qui), (1, .qui), (2, .qui), (4, .qui), (5, .qui), (6, .qui), (3, .chn), (7, .chn), (8, .qui)] [(0, .qui), (1, .qui), (2, .qui), (4, .qui), (5, .qui), (6, .qui), (3, .chn), (7, .chn), (8, .qui), (9, .seq), (10, .seq)] Try_mixed (by as_aux_lemma => kernel_rfl) (by as_aux_lemma => kernel_rfl) (by as_aux_lemma => kernel_rfl) ?_
         have H := H.draw
         generalize ({ w12 with drawn := w12.drawn + 1 } : World) = w39 at H ⊢
         refine RW.runP 1 [2, 4, 6, 57] [(1, .qui), (2, .qui), (4, .qui), (5, .qui), (6, .qui), (3, .chn), (7, .chn), (8, .qui), (9, .seq), (10, .seq)] [(2, .pointer (some ⟨b1, 0, none⟩)), (4, .pointer (some ⟨b5, 0, none⟩)), (6, .int .i64 Z.node), (57, .pointer (some ⟨b1, 0, none⟩))] (by as_aux_lemma => kernel_rfl) (by as_aux_lemma => kernel_rfl) ?_
         refine RW.load (κ := .qui) (d := some 58) (r := [(2, .qui), (4, .qui), (5, .qui), (6, .qui), (3, .chn), (7, .chn), (8, .qui), (9, .seq), (10, .seq)]) (T := 22) (b := b1) (o' := 0) (k := 0) (v := .slice a0C C.voters.length k0C) (by as_aux_lemma => kernel_rfl) (H.cells 2 rfl) rfl (by as_aux_lemma => kernel_rfl) ?_
         refine RW.runP 2 [4, 6, 58, 59, 61] [(5, .qui), (6, .qui), (3, .chn), (7, .chn), (8, .qui), (9, .seq), (10, .seq)] [(4, .pointer (some ⟨b5, 0, none⟩)), (6, .int .i64 Z.node), (58, .slice a0C C.voters.length k0C), (59, .int .i64 Z.node), (61, .pointer (some ⟨b1, 1, none⟩))] (by as_aux_lemma => kernel_rfl) (by as_aux_lemma => kernel_rfl) ?_
         refine RW.load (κ := .qui) (d := some 62) (r := [(6, .qui), (3, .chn), (7, .chn), (8, .qui), (9, .seq), (10, .seq)]) (T := 22) (b := b1) (o' := 1) (k := 1) (v := .slice a1C C.learners.length k1C) (by as_aux_lemma => kernel_rfl) (H.cells 2 rfl) rfl (by as_aux_lemma => kernel_rfl) ?_
         refine RW.runP 1 [4, 58, 59, 62, 63] [(3, .chn), (7, .chn), (8, .qui), (9, .seq), (10, .seq)] [(4, .pointer (some ⟨b5, 0, none⟩)), (58, .slice a0C C.voters.length k0C), (59, .int .i64 Z.node), (62, .slice a1C C.learners.length k1C), (63, .int .i64 Z.node)] (by as_aux_lemma => kernel_rfl) (by as_aux_lemma => kernel_rfl) ?_
         refine RW.call (κ := .chn) (d := some 60) (r := [(7, .chn), (8, .qui), (9, .seq), (10, .seq)]) (g := 23) (args := #[.slice a0C C.voters.length k0C, .int .i64 Z.node]) (by as_aux_lemma => kernel_rfl) (nofun) (with2_spec (H.rp 0 rfl) Z.node (by omega) (by omega) (by assumption)) ?_
         rintro v41 w40 - H'
         have H := H.back (M1 := []) (W1 := []) H'
         obtain ⟨a42, c43, rfl, hc44, hm45⟩ := H.ownForm 0 rfl
         have H : Hp w S [] [(b5, .cells #[.slice none 0 0, .slice none 0 0] 24 (0, 0)), (b3, .cells #[.int .i64 Z.kind, .int .i64 Z.node] 34 (0, 0)), (b1, .cells #[.slice a0C C.voters.length k0C, .slice a1C C.learners.length k1C] 24 (0, 0))] [⟨Shape.int .i64, 3, .slice a42 ((ins Z.node C.voters).length) c43, ins Z.node C.voters⟩] [Rp (Shape.slice (Shape.int .i64)) [.slice a0C C.voters.length k0C] C.voters, Rp (Shape.slice (Shape.int .i64)) [.slice a1C C.learners.length k1C] C.learners] _ := H
         refine RW.call (κ := .chn) (d := some 64) (r := [(8, .qui), (9, .seq), (10, .seq)]) (g := 24) (args := #[.slice a1C C.learners.length k1C, .int .i64 Z.node]) (by as_aux_lemma => kernel_rfl) (nofun) (without_spec (H.rp 1 rfl) Z.node (by omega)) ?_
         rintro v47 w46 - H'
         have H := H.back (M1 := []) (W1 := []) H'
         obtain ⟨a48, c49, rfl, hc50, hm51⟩ := H.ownForm 0 rfl
         have H : Hp w S [] [(b5, .cells #[.slice none 0 0, .slice none 0 0] 24 (0, 0)), (b3, .cells #[.int .i64 Z.kind, .int .i64 Z.node] 34 (0, 0)), (b1, .cells #[.slice a0C C.voters.length k0C, .slice a1C C.learners.length k1C] 24 (0, 0))] [⟨Shape.int .i64, 3, .slice a48 ((drp Z.node C.learners).length) c49, drp Z.node C.learners⟩, ⟨Shape.int .i64, 3, .slice a42 ((ins Z.node C.voters).length) c43, ins Z.node C.voters⟩] [Rp (Shape.slice (Shape.int .i64)) [.slice a0C C.voters.length k0C] C.voters, Rp (Shape.slice (Shape.int .i64)) [.slice a1C C.learners.length k1C] C.learners] _ := H
         refine RW.runP 1 [4, 65] [(9, .seq), (10, .seq)] [(4, .pointer (some ⟨b5, 0, none⟩)), (65, .agg #[.slice a42 ((ins Z.node C.voters).length) c43, .slice a48 ((drp Z.node C.learners).length) c49])] (by as_aux_lemma => kernel_rfl) (by as_aux_lemma => kernel_rfl) ?_
         refine RW.store (d := none) (r := [(10, .seq)]) (T := 24) (b := b5) (k := 0) (v := .agg #[.slice a42 ((ins Z.node C.voters).length) c43, .slice a48 ((drp Z.node C.learners).length) c49]) (c' := #[.slice a42 ((ins Z.node C.voters).length) c43, .slice a48 ((drp Z.node C.learners).length) c49]) (M' := [(b5, .cells #[.slice a42 ((ins Z.node C.voters).length) c43, .slice a48 ((drp Z.node C.learners).length) c49] 24 (0, 0)), (b3, .cells #[.int .i64 Z.kind, .int .i64 Z.node] 34 (0, 0)), (b1, .cells #[.slice a0C C.voters.length k0C, .slice a1C C.learners.length k1C] 24 (0, 0))]) (by as_aux_lemma => kernel_rfl) H 0 rfl (by as_aux_lemma => kernel_rfl) (by as_aux_lemma => kernel_rfl) ?_
         intro w52 H
         refine RW.fin 1 [4, 5] [(4, .pointer (some ⟨b5, 0, none⟩)), (5, .int .i64 0)] (by as_aux_lemma => kernel_rfl) ?_
         refine WK.retBy (v := .tuple #[.agg #[.slice a42 ((ins Z.node C.voters).length) c43, .slice a48 ((drp Z.node C.learners).length) c49], .int .i64 0]) Try.func13 (by as_aux_lemma => kernel_rfl) (RV.res2 (x := .cell 4 24) (y := .tmp 5) (by as_aux_lemma => kernel_rfl) (RV.cell (k := 0) (by as_aux_lemma => kernel_rfl) (H.cells 0 rfl) rfl (by as_aux_lemma => kernel_rfl)) (RV.tmp (by as_aux_lemma => kernel_rfl))) ?_
         have H : Hp w S [] [(b5, .cells #[.slice a42 ((ins Z.node C.voters).length) c43, .slice a48 ((drp Z.node C.learners).length) c49] 24 (0, 0)), (b3, .cells #[.int .i64 Z.kind, .int .i64 Z.node] 34 (0, 0)), (b1, .cells #[.slice a0C C.voters.length k0C, .slice a1C C.learners.length k1C] 24 (0, 0))] [⟨Shape.int .i64, 3, .slice a48 ((drp Z.node C.learners).length) c49, drp Z.node C.learners⟩] [Rp (Shape.slice (Shape.int .i64)) [.slice a42 ((ins Z.node C.voters).length) c43] (ins Z.node C.voters), Rp (Shape.slice (Shape.int .i64)) [.slice a0C C.voters.length k0C] C.voters, Rp (Shape.slice (Shape.int .i64)) [.slice a1C C.learners.length k1C] C.learners] _ := H.freezeW 1 rfl
         have H : Hp w S [] [(b5, .cells #[.slice a42 ((ins Z.node C.voters).length) c43, .slice a48 ((drp Z.node C.learners).length) c49] 24 (0, 0)), (b3, .cells #[.int .i64 Z.kind, .int .i64 Z.node] 34 (0, 0)), (b1, .cells #[.slice a0C C.voters.length k0C, .slice a1C C.learners.length k1C] 24 (0, 0))] [] [Rp (Shape.slice (Shape.int .i64)) [.slice a48 ((drp Z.node C.learners).length) c49] (drp Z.node C.learners), Rp (Shape.slice (Shape.int .i64)) [.slice a42 ((ins Z.node C.voters).length) c43] (ins Z.node C.voters), Rp (Shape.slice (Shape.int .i64)) [.slice a0C C.voters.length k0C] C.voters, Rp (Shape.slice (Shape.int .i64)) [.slice a1C C.learners.length k1C] C.learners] _ := H.freezeW 0 rfl
         refine ⟨_, rfl, H.done, [.slice a42 ((ins Z.node C.voters).length) c43, .slice a48 ((drp Z.node C.learners).length) c49], ⟨ins Z.node C.voters, drp Z.node C.learners⟩, 0, rfl, H.out (conf_mk (H.rp 1 rfl) (H.rp 0 rfl)), ?_⟩
         clear H
         symm
         unfold stepOf stepOk
         first | (simp [*]; done) | (simp [*]; omega)
        ·
         replace h38 := of_decide_eq_false h38
         refine WK.run 1 [2, 3, 4, 6, 7, 8] [.code (cd Try.prog 13 [3, 0, 0, 1, 1, 1, 1, 1, 1, 0]), .code (cd Try.prog 13 [3, 0, 0, 1, 1, 1, 1, 1, 1, 1]), .inBlock 0, .code (cd Try.prog 13 [4])] [(2, .pointer (some ⟨b1, 0, none⟩)), (3, .pointer (some ⟨b3, 0, none⟩)), (4, .pointer (some ⟨b5, 0, none⟩)), (6, .int .i64 Z.node), (7, .bool (decide (Z.node ∈ C.voters))), (8, .bool (decide (Z.node ∈ C.learners)))] (by as_aux_lemma => kernel_rfl) ?_
         refine WK.reg1 (l := sq 0 16) (by as_aux_lemma => kernel_rfl) (by as_aux_lemma => kernel_rfl) ?_
         refine RW.runP 1 [2, 4, 6, 7, 8, 67] (sq 1 16) [(2, .pointer (some ⟨b1, 0, none⟩)), (4, .pointer (some ⟨b5, 0, none⟩)), (6, .int .i64 Z.node), (7, .bool (decide (Z.node ∈ C.voters))), (8, .bool (decide (Z.node ∈ C.learners))), (67, .pointer (some ⟨b3, 0, none⟩))] (by as_aux_lemma => kernel_rfl) (by as_aux_lemma => kernel_rfl) ?_
         refine RW.load (κ := .seq) (d := some 68) (r := (sq 2 16)) (T := 32) (b := b3) (o' := 0) (k := 0) (v := .int .i64 Z.kind) (by as_aux_lemma => kernel_rfl) (H.cells 1 rfl) rfl (by as_aux_lemma => kernel_rfl) ?_
         refine RW.runP 2 [2, 4, 6, 7, 8, 70] (sq 4 16) [(2, .pointer (some ⟨b1, 0, none⟩)), (4, .pointer (some ⟨b5, 0, none⟩)), (6, .int .i64 Z.node), (7, .bool (decide (Z.node ∈ C.voters))), (8, .bool (decide (Z.node ∈ C.learners))), (70, .bool (Z.kind == 3))] (by as_aux_lemma => kernel_rfl) (by as_aux_lemma => kernel_rfl) ?_
         refine RW.test (fun b_ => [(2, .pointer (some ⟨b1, 0, none⟩)), (4, .pointer (some ⟨b5, 0, none⟩)), (6, .int .i64 Z.node), (7, .bool (decide (Z.node ∈ C.voters))), (8, .bool (decide (Z.node ∈ C.learners))), (70, .bool b_)]) (Z.kind == 3) (fun h53 => ?_) (fun h53 => ?_)
         ·
          replace h53 := eq_of_beq h53
          refine RW.runP 2 [2, 4, 6, 7, 70, 72] (sq 6 16) [(2, .pointer (some ⟨b1, 0, none⟩)), (4, .pointer (some ⟨b5, 0, none⟩)), (6, .int .i64 Z.node), (7, .bool (decide (Z.node ∈ C.voters))), (70, .bool true), (72, .bool (decide (Z.node ∈ C.learners)))] (by as_aux_lemma => kernel_rfl) (by as_aux_lemma => kernel_rfl) ?_
          refine RW.test (fun b_ => [(2, .pointer (some ⟨b1, 0, none⟩)), (4, .pointer (some ⟨b5, 0, none⟩)), (6, .int .i64 Z.node), (7, .bool (decide (Z.node ∈ C.voters))), (70, .bool true), (72, .bool b_)]) (decide (Z.node ∈ C.learners)) (fun h54 => ?_) (fun h54 => ?_)
          ·
           replace h54 := of_decide_eq_true h54
           refine RW.fin 10 [2, 4, 6, 66] [(2, .pointer (some ⟨b1, 0, none⟩)), (4, .pointer (some ⟨b5, 0, none⟩)), (6, .int .i64 Z.node), (66, .bool true)] (by as_aux_lemma => kernel_rfl) ?_
           refine WK.run 2 [2, 4, 6] [.code (cd Try.prog 13 [3, 0, 0, 1, 1, 1, 1, 1, 1, 1, 0, 0]), .code (cd Try.prog 13 [3, 0, 0, 1, 1, 1, 1, 1, 1, 1, 0, 1]), .inBlock 0, .code (cd Try.prog 13 [4])] [(2, .pointer (some ⟨b1, 0, none⟩)), (4, .pointer (some ⟨b5, 0, none⟩)), (6, .int .i64 Z.node)] (by as_aux_lemma => kernel_rfl) ?_
           refine WK.draw1 9 [(0, .qui), (1, .qui), (2, .qui), (4, .qui), (5, .qui), (6, .qui), (3, .chn), (7, .chn), (8, .qui)] [(0, .qui), (1, .qui), (2, .qui), (4, .qui), (5, .qui), (6, .qui), (3, .chn), (7, .chn), (8, .qui), (9, .seq), (10, .seq)] Try_mixed (by as_aux_lemma => kernel_rfl) (by as_aux_lemma => kernel_rfl) (by as_aux_lemma => kernel_rfl) ?_
           have H := H.draw
           generalize ({ w12 with drawn := w12.drawn + 1 } : World) = w55 at H ⊢
           refine RW.runP 1 [2, 4, 6, 82] [(1, .qui), (2, .qui), (4, .qui), (5, .qui), (6, .qui), (3, .chn), (7, .chn), (8, .qui), (9, .seq), (10, .seq)] [(2, .pointer (some ⟨b1, 0, none⟩)), (4, .pointer (some ⟨b5, 0, none⟩)), (6, .int .i64 Z.node), (82, .pointer (some ⟨b1, 0, none⟩))] (by as_aux_lemma => kernel_rfl) (by as_aux_lemma => kernel_rfl) ?_
           refine RW.load (κ := .qui) (d := some 83) (r := [(2, .qui), (4, .qui), (5, .qui), (6, .qui), (3, .chn), (7, .chn), (8, .qui), (9, .seq), (10, .seq)]) (T := 22) (b := b1) (o' := 0) (k := 0) (v := .slice a0C C.voters.length k0C) (by as_aux_lemma => kernel_rfl) (H.cells 2 rfl) rfl (by as_aux_lemma => kernel_rfl) ?_
           refine RW.runP 2 [4, 6, 83, 84, 86] [(5, .qui), (6, .qui), (3, .chn), (7, .chn), (8, .qui), (9, .seq), (10, .seq)] [(4, .pointer (some ⟨b5, 0, none⟩)), (6, .int .i64 Z.node), (83, .slice a0C C.voters.length k0C), (84, .int .i64 Z.node), (86, .pointer (some ⟨b1, 1, none⟩))] (by as_aux_lemma => kernel_rfl) (by as_aux_lemma => kernel_rfl) ?_
           refine RW.load (κ := .qui) (d := some 87) (r := [(6, .qui), (3, .chn), (7, .chn), (8, .qui), (9, .seq), (10, .seq)]) (T := 22) (b := b1) (o' := 1) (k := 1) (v := .slice a1C C.learners.length k1C) (by as_aux_lemma => kernel_rfl) (H.cells 2 rfl) rfl (by as_aux_lemma => kernel_rfl) ?_
           refine RW.runP 1 [4, 83, 84, 87, 88] [(3, .chn), (7, .chn), (8, .qui), (9, .seq), (10, .seq)] [(4, .pointer (some ⟨b5, 0, none⟩)), (83, .slice a0C C.voters.length k0C), (84, .int .i64 Z.node), (87, .slice a1C C.learners.length k1C), (88, .int .i64 Z.node)] (by as_aux_lemma => kernel_rfl) (by as_aux_lemma => kernel_rfl) ?_
           refine RW.call (κ := .chn) (d := some 85) (r := [(7, .chn), (8, .qui), (9, .seq), (10, .seq)]) (g := 24) (args := #[.slice a0C C.voters.length k0C, .int .i64 Z.node]) (by as_aux_lemma => kernel_rfl) (nofun) (without_spec (H.rp 0 rfl) Z.node (by omega)) ?_
           rintro v57 w56 - H'
           have H := H.back (M1 := []) (W1 := []) H'
           obtain ⟨a58, c59, rfl, hc60, hm61⟩ := H.ownForm 0 rfl
           have H : Hp w S [] [(b5, .cells #[.slice none 0 0, .slice none 0 0] 24 (0, 0)), (b3, .cells #[.int .i64 Z.kind, .int .i64 Z.node] 34 (0, 0)), (b1, .cells #[.slice a0C C.voters.length k0C, .slice a1C C.learners.length k1C] 24 (0, 0))] [⟨Shape.int .i64, 3, .slice a58 ((drp Z.node C.voters).length) c59, drp Z.node C.voters⟩] [Rp (Shape.slice (Shape.int .i64)) [.slice a0C C.voters.length k0C] C.voters, Rp (Shape.slice (Shape.int .i64)) [.slice a1C C.learners.length k1C] C.learners] _ := H
           refine RW.call (κ := .chn) (d := some 89) (r := [(8, .qui), (9, .seq), (10, .seq)]) (g := 24) (args := #[.slice a1C C.learners.length k1C, .int .i64 Z.node]) (by as_aux_lemma => kernel_rfl) (nofun) (without_spec (H.rp 1 rfl) Z.node (by omega)) ?_
           rintro v63 w62 - H'
           have H := H.back (M1 := []) (W1 := []) H'
           obtain ⟨a64, c65, rfl, hc66, hm67⟩ := H.ownForm 0 rfl
           have H : Hp w S [] [(b5, .cells #[.slice none 0 0, .slice none 0 0] 24 (0, 0)), (b3, .cells #[.int .i64 Z.kind, .int .i64 Z.node] 34 (0, 0)), (b1, .cells #[.slice a0C C.voters.length k0C, .slice a1C C.learners.length k1C] 24 (0, 0))] [⟨Shape.int .i64, 3, .slice a64 ((drp Z.node C.learners).length) c65, drp Z.node C.learners⟩, ⟨Shape.int .i64, 3, .slice a58 ((drp Z.node C.voters).length) c59, drp Z.node C.voters⟩] [Rp (Shape.slice (Shape.int .i64)) [.slice a0C C.voters.length k0C] C.voters, Rp (Shape.slice (Shape.int .i64)) [.slice a1C C.learners.length k1C] C.learners] _ := H
           refine RW.runP 1 [4, 90] [(9, .seq), (10, .seq)] [(4, .pointer (some ⟨b5, 0, none⟩)), (90, .agg #[.slice a58 ((drp Z.node C.voters).length) c59, .slice a64 ((drp Z.node C.learners).length) c65])] (by as_aux_lemma => kernel_rfl) (by as_aux_lemma => kernel_rfl) ?_
           refine RW.store (d := none) (r := [(10, .seq)]) (T := 24) (b := b5) (k := 0) (v := .agg #[.slice a58 ((drp Z.node C.voters).length) c59, .slice a64 ((drp Z.node C.learners).length) c65]) (c' := #[.slice a58 ((drp Z.node C.voters).length) c59, .slice a64 ((drp Z.node C.learners).length) c65]) (M' := [(b5, .cells #[.slice a58 ((drp Z.node C.voters).length) c59, .slice a64 ((drp Z.node C.learners).length) c65] 24 (0, 0)), (b3, .cells #[.int .i64 Z.kind, .int .i64 Z.node] 34 (0, 0)), (b1, .cells #[.slice a0C C.voters.length k0C, .slice a1C C.learners.length k1C] 24 (0, 0))]) (by as_aux_lemma => kernel_rfl) H 0 rfl (by as_aux_lemma => kernel_rfl) (by as_aux_lemma => kernel_rfl) ?_
           intro w68 H
           refine RW.fin 1 [4, 5] [(4, .pointer (some ⟨b5, 0, none⟩)), (5, .int .i64 0)] (by as_aux_lemma => kernel_rfl) ?_
           refine WK.retBy (v := .tuple #[.agg #[.slice a58 ((drp Z.node C.voters).length) c59, .slice a64 ((drp Z.node C.learners).length) c65], .int .i64 0]) Try.func13 (by as_aux_lemma => kernel_rfl) (RV.res2 (x := .cell 4 24) (y := .tmp 5) (by as_aux_lemma => kernel_rfl) (RV.cell (k := 0) (by as_aux_lemma => kernel_rfl) (H.cells 0 rfl) rfl (by as_aux_lemma => kernel_rfl)) (RV.tmp (by as_aux_lemma => kernel_rfl))) ?_
           have H : Hp w S [] [(b5, .cells #[.slice a58 ((drp Z.node C.voters).length) c59, .slice a64 ((drp Z.node C.learners).length) c65] 24 (0, 0)), (b3, .cells #[.int .i64 Z.kind, .int .i64 Z.node] 34 (0, 0)), (b1, .cells #[.slice a0C C.voters.length k0C, .slice a1C C.learners.length k1C] 24 (0, 0))] [⟨Shape.int .i64, 3, .slice a64 ((drp Z.node C.learners).length) c65, drp Z.node C.learners⟩] [Rp (Shape.slice (Shape.int .i64)) [.slice a58 ((drp Z.node C.voters).length) c59] (drp Z.node C.voters), Rp (Shape.slice (Shape.int .i64)) [.slice a0C C.voters.length k0C] C.voters, Rp (Shape.slice (Shape.int .i64)) [.slice a1C C.learners.length k1C] C.learners] _ := H.freezeW 1 rfl
           have H : Hp w S [] [(b5, .cells #[.slice a58 ((drp Z.node C.voters).length) c59, .slice a64 ((drp Z.node C.learners).length) c65] 24 (0, 0)), (b3, .cells #[.int .i64 Z.kind, .int .i64 Z.node] 34 (0, 0)), (b1, .cells #[.slice a0C C.voters.length k0C, .slice a1C C.learners.length k1C] 24 (0, 0))] [] [Rp (Shape.slice (Shape.int .i64)) [.slice a64 ((drp Z.node C.learners).length) c65] (drp Z.node C.learners), Rp (Shape.slice (Shape.int .i64)) [.slice a58 ((drp Z.node C.voters).length) c59] (drp Z.node C.voters), Rp (Shape.slice (Shape.int .i64)) [.slice a0C C.voters.length k0C] C.voters, Rp (Shape.slice (Shape.int .i64)) [.slice a1C C.learners.length k1C] C.learners] _ := H.freezeW 0 rfl
           refine ⟨_, rfl, H.done, [.slice a58 ((drp Z.node C.voters).length) c59, .slice a64 ((drp Z.node C.learners).length) c65], ⟨drp Z.node C.voters, drp Z.node C.learners⟩, 0, rfl, H.out (conf_mk (H.rp 1 rfl) (H.rp 0 rfl)), ?_⟩
           clear H
           symm
           unfold stepOf stepOk
           first | (simp [*]; done) | (simp [*]; omega)
          ·
           replace h54 := of_decide_eq_false h54
           refine RW.runP 2 [2, 4, 6, 70, 72, 74] (sq 8 16) [(2, .pointer (some ⟨b1, 0, none⟩)), (4, .pointer (some ⟨b5, 0, none⟩)), (6, .int .i64 Z.node), (70, .bool true), (72, .bool false), (74, .bool (decide (Z.node ∈ C.voters)))] (by as_aux_lemma => kernel_rfl) (by as_aux_lemma => kernel_rfl) ?_
           refine RW.test (fun b_ => [(2, .pointer (some ⟨b1, 0, none⟩)), (4, .pointer (some ⟨b5, 0, none⟩)), (6, .int .i64 Z.node), (70, .bool true), (72, .bool false), (74, .bool b_)]) (decide (Z.node ∈ C.voters)) (fun h69 => ?_) (fun h69 => ?_)
           ·
            replace h69 := of_decide_eq_true h69
            refine RW.runP 1 [2, 4, 6, 70, 72, 74, 75] (sq 9 16) [(2, .pointer (some ⟨b1, 0, none⟩)), (4, .pointer (some ⟨b5, 0, none⟩)), (6, .int .i64 Z.node), (70, .bool true), (72, .bool false), (74, .bool true), (75, .pointer (some ⟨b1, 0, none⟩))] (by as_aux_lemma => kernel_rfl) (by as_aux_lemma => kernel_rfl) ?_
            refine RW.load (κ := .seq) (d := some 76) (r := (sq 10 16)) (T := 22) (b := b1) (o' := 0) (k := 0) (v := .slice a0C C.voters.length k0C) (by as_aux_lemma => kernel_rfl) (H.cells 2 rfl) rfl (by as_aux_lemma => kernel_rfl) ?_
            refine RW.fin 6 [2, 4, 6, 66] [(2, .pointer (some ⟨b1, 0, none⟩)), (4, .pointer (some ⟨b5, 0, none⟩)), (6, .int .i64 Z.node), (66, .bool (decide ((((C.voters.length : Nat) : Int) : Int) > 1)))] (by as_aux_lemma => kernel_rfl) ?_
            refine WK.cond1 (decide ((((C.voters.length : Nat) : Int) : Int) > 1)) (by as_aux_lemma => kernel_rfl) (by as_aux_lemma => kernel_rfl) (fun h70 => ?_) (fun h70 => ?_)
            ·
             replace h70 := of_decide_eq_true h70
             refine WK.run 1 [2, 4, 6] [.code (cd Try.prog 13 [3, 0, 0, 1, 1, 1, 1, 1, 1, 1, 0, 0]), .code (cd Try.prog 13 [3, 0, 0, 1, 1, 1, 1, 1, 1, 1, 0, 1]), .inBlock 0, .code (cd Try.prog 13 [4])] [(2, .pointer (some ⟨b1, 0, none⟩)), (4, .pointer (some ⟨b5, 0, none⟩)), (6, .int .i64 Z.node)] (by as_aux_lemma => kernel_rfl) ?_
             refine WK.draw1 9 [(0, .qui), (1, .qui), (2, .qui), (4, .qui), (5, .qui), (6, .qui), (3, .chn), (7, .chn), (8, .qui)] [(0, .qui), (1, .qui), (2, .qui), (4, .qui), (5, .qui), (6, .qui), (3, .chn), (7, .chn), (8, .qui), (9, .seq), (10, .seq)] Try_mixed (by as_aux_lemma => kernel_rfl) (by as_aux_lemma => kernel_rfl) (by as_aux_lemma => kernel_rfl) ?_
             have H := H.draw
             generalize ({ w12 with drawn := w12.drawn + 1 } : World) = w71 at H ⊢
             refine RW.runP 1 [2, 4, 6, 82] [(1, .qui), (2, .qui), (4, .qui), (5, .qui), (6, .qui), (3, .chn), (7, .chn), (8, .qui), (9, .seq), (10, .seq)] [(2, .pointer (some ⟨b1, 0, none⟩)), (4, .pointer (some ⟨b5, 0, none⟩)), (6, .int .i64 Z.node), (82, .pointer (some ⟨b1, 0, none⟩))] (by as_aux_lemma => kernel_rfl) (by as_aux_lemma => kernel_rfl) ?_
             refine RW.load (κ := .qui) (d := some 83) (r := [(2, .qui), (4, .qui), (5, .qui), (6, .qui), (3, .chn), (7, .chn), (8, .qui), (9, .seq), (10, .seq)]) (T := 22) (b := b1) (o' := 0) (k := 0) (v := .slice a0C C.voters.length k0C) (by as_aux_lemma => kernel_rfl) (H.cells 2 rfl) rfl (by as_aux_lemma => kernel_rfl) ?_
             refine RW.runP 2 [4, 6, 83, 84, 86] [(5, .qui), (6, .qui), (3, .chn), (7, .chn), (8, .qui), (9, .seq), (10, .seq)] [(4, .pointer (some ⟨b5, 0, none⟩)), (6, .int .i64 Z.node), (83, .slice a0C C.voters.length k0C), (84, .int .i64 Z.node), (86, .pointer (some ⟨b1, 1, none⟩))] (by as_aux_lemma => kernel_rfl) (by as_aux_lemma => kernel_rfl) ?_
             refine RW.load (κ := .qui) (d := some 87) (r := [(6, .qui), (3, .chn), (7, .chn), (8, .qui), (9, .seq), (10, .seq)]) (T := 22) (b := b1) (o' := 1) (k := 1) (v := .slice a1C C.learners.length k1C) (by as_aux_lemma => kernel_rfl) (H.cells 2 rfl) rfl (by as_aux_lemma => kernel_rfl) ?_
             refine RW.runP 1 [4, 83, 84, 87, 88] [(3, .chn), (7, .chn), (8, .qui), (9, .seq), (10, .seq)] [(4, .pointer (some ⟨b5, 0, none⟩)), (83, .slice a0C C.voters.length k0C), (84, .int .i64 Z.node), (87, .slice a1C C.learners.length k1C), (88, .int .i64 Z.node)] (by as_aux_lemma => kernel_rfl) (by as_aux_lemma => kernel_rfl) ?_
             refine RW.call (κ := .chn) (d := some 85) (r := [(7, .chn), (8, .qui), (9, .seq), (10, .seq)]) (g := 24) (args := #[.slice a0C C.voters.length k0C, .int .i64 Z.node]) (by as_aux_lemma => kernel_rfl) (nofun) (without_spec (H.rp 0 rfl) Z.node (by omega)) ?_
             rintro v73 w72 - H'
             have H := H.back (M1 := []) (W1 := []) H'
             obtain ⟨a74, c75, rfl, hc76, hm77⟩ := H.ownForm 0 rfl
             have H : Hp w S [] [(b5, .cells #[.slice none 0 0, .slice none 0 0] 24 (0, 0)), (b3, .cells #[.int .i64 Z.kind, .int .i64 Z.node] 34 (0, 0)), (b1, .cells #[.slice a0C C.voters.length k0C, .slice a1C C.learners.length k1C] 24 (0, 0))] [⟨Shape.int .i64, 3, .slice a74 ((drp Z.node C.voters).length) c75, drp Z.node C.voters⟩] [Rp (Shape.slice (Shape.int .i64)) [.slice a0C C.voters.length k0C] C.voters, Rp (Shape.slice (Shape.int .i64)) [.slice a1C C.learners.length k1C] C.learners] _ := H
             refine RW.call (κ := .chn) (d := some 89) (r := [(8, .qui), (9, .seq), (10, .seq)]) (g := 24) (args := #[.slice a1C C.learners.length k1C, .int .i64 Z.node]) (by as_aux_lemma => kernel_rfl) (nofun) (without_spec (H.rp 1 rfl) Z.node (by omega)) ?_
             rintro v79 w78 - H'
             have H := H.back (M1 := []) (W1 := []) H'
             obtain ⟨a80, c81, rfl, hc82, hm83⟩ := H.ownForm 0 rfl
             have H : Hp w S [] [(b5, .cells #[.slice none 0 0, .slice none 0 0] 24 (0, 0)), (b3, .cells #[.int .i64 Z.kind, .int .i64 Z.node] 34 (0, 0)), (b1, .cells #[.slice a0C C.voters.length k0C, .slice a1C C.learners.length k1C] 24 (0, 0))] [⟨Shape.int .i64, 3, .slice a80 ((drp Z.node C.learners).length) c81, drp Z.node C.learners⟩, ⟨Shape.int .i64, 3, .slice a74 ((drp Z.node C.voters).length) c75, drp Z.node C.voters⟩] [Rp (Shape.slice (Shape.int .i64)) [.slice a0C C.voters.length k0C] C.voters, Rp (Shape.slice (Shape.int .i64)) [.slice a1C C.learners.length k1C] C.learners] _ := H
             refine RW.runP 1 [4, 90] [(9, .seq), (10, .seq)] [(4, .pointer (some ⟨b5, 0, none⟩)), (90, .agg #[.slice a74 ((drp Z.node C.voters).length) c75, .slice a80 ((drp Z.node C.learners).length) c81])] (by as_aux_lemma => kernel_rfl) (by as_aux_lemma => kernel_rfl) ?_
             refine RW.store (d := none) (r := [(10, .seq)]) (T := 24) (b := b5) (k := 0) (v := .agg #[.slice a74 ((drp Z.node C.voters).length) c75, .slice a80 ((drp Z.node C.learners).length) c81]) (c' := #[.slice a74 ((drp Z.node C.voters).length) c75, .slice a80 ((drp Z.node C.learners).length) c81]) (M' := [(b5, .cells #[.slice a74 ((drp Z.node C.voters).length) c75, .slice a80 ((drp Z.node C.learners).length) c81] 24 (0, 0)), (b3, .cells #[.int .i64 Z.kind, .int .i64 Z.node] 34 (0, 0)), (b1, .cells #[.slice a0C C.voters.length k0C, .slice a1C C.learners.length k1C] 24 (0, 0))]) (by as_aux_lemma => kernel_rfl) H 0 rfl (by as_aux_lemma => kernel_rfl) (by as_aux_lemma => kernel_rfl) ?_
             intro w84 H
             refine RW.fin 1 [4, 5] [(4, .pointer (some ⟨b5, 0, none⟩)), (5, .int .i64 0)] (by as_aux_lemma => kernel_rfl) ?_
             refine WK.retBy (v := .tuple #[.agg #[.slice a74 ((drp Z.node C.voters).length) c75, .slice a80 ((drp Z.node C.learners).length) c81], .int .i64 0]) Try.func13 (by as_aux_lemma => kernel_rfl) (RV.res2 (x := .cell 4 24) (y := .tmp 5) (by as_aux_lemma => kernel_rfl) (RV.cell (k := 0) (by as_aux_lemma => kernel_rfl) (H.cells 0 rfl) rfl (by as_aux_lemma => kernel_rfl)) (RV.tmp (by as_aux_lemma => kernel_rfl))) ?_
             have H : Hp w S [] [(b5, .cells #[.slice a74 ((drp Z.node C.voters).length) c75, .slice a80 ((drp Z.node C.learners).length) c81] 24 (0, 0)), (b3, .cells #[.int .i64 Z.kind, .int .i64 Z.node] 34 (0, 0)), (b1, .cells #[.slice a0C C.voters.length k0C, .slice a1C C.learners.length k1C] 24 (0, 0))] [⟨Shape.int .i64, 3, .slice a80 ((drp Z.node C.learners).length) c81, drp Z.node C.learners⟩] [Rp (Shape.slice (Shape.int .i64)) [.slice a74 ((drp Z.node C.voters).length) c75] (drp Z.node C.voters), Rp (Shape.slice (Shape.int .i64)) [.slice a0C C.voters.length k0C] C.voters, Rp (Shape.slice (Shape.int .i64)) [.slice a1C C.learners.length k1C] C.learners] _ := H.freezeW 1 rfl
             have H : Hp w S [] [(b5, .cells #[.slice a74 ((drp Z.node C.voters).length) c75, .slice a80 ((drp Z.node C.learners).length) c81] 24 (0, 0)), (b3, .cells #[.int .i64 Z.kind, .int .i64 Z.node] 34 (0, 0)), (b1, .cells #[.slice a0C C.voters.length k0C, .slice a1C C.learners.length k1C] 24 (0, 0))] [] [Rp (Shape.slice (Shape.int .i64)) [.slice a80 ((drp Z.node C.learners).length) c81] (drp Z.node C.learners), Rp (Shape.slice (Shape.int .i64)) [.slice a74 ((drp Z.node C.voters).length) c75] (drp Z.node C.voters), Rp (Shape.slice (Shape.int .i64)) [.slice a0C C.voters.length k0C] C.voters, Rp (Shape.slice (Shape.int .i64)) [.slice a1C C.learners.length k1C] C.learners] _ := H.freezeW 0 rfl
             refine ⟨_, rfl, H.done, [.slice a74 ((drp Z.node C.voters).length) c75, .slice a80 ((drp Z.node C.learners).length) c81], ⟨drp Z.node C.voters, drp Z.node C.learners⟩, 0, rfl, H.out (conf_mk (H.rp 1 rfl) (H.rp 0 rfl)), ?_⟩
             clear H
             symm
             unfold stepOf stepOk
             first | (simp [*]; done) | (simp [*]; omega)
            ·
             replace h70 := of_decide_eq_false h70
             refine WK.run 3 [4] [.code (cd Try.prog 13 [4, 0]), .code (cd Try.prog 13 [5])] [(4, .pointer (some ⟨b5, 0, none⟩))] (by as_aux_lemma => kernel_rfl) ?_
             refine WK.reg1 (l := sq 0 3) (by as_aux_lemma => kernel_rfl) (by as_aux_lemma => kernel_rfl) ?_
             refine RW.runP 1 [4, 91] (sq 1 3) [(4, .pointer (some ⟨b5, 0, none⟩)), (91, .agg #[.slice none 0 0, .slice none 0 0])] (by as_aux_lemma => kernel_rfl) (by as_aux_lemma => kernel_rfl) ?_
             refine RW.store (d := none) (r := (sq 2 3)) (T := 24) (b := b5) (k := 0) (v := .agg #[.slice none 0 0, .slice none 0 0]) (c' := #[.slice none 0 0, .slice none 0 0]) (M' := [(b5, .cells #[.slice none 0 0, .slice none 0 0] 24 (0, 0)), (b3, .cells #[.int .i64 Z.kind, .int .i64 Z.node] 34 (0, 0)), (b1, .cells #[.slice a0C C.voters.length k0C, .slice a1C C.learners.length k1C] 24 (0, 0))]) (by as_aux_lemma => kernel_rfl) H 0 rfl (by as_aux_lemma => kernel_rfl) (by as_aux_lemma => kernel_rfl) ?_
             intro w85 H
             refine RW.fin 1 [4, 5] [(4, .pointer (some ⟨b5, 0, none⟩)), (5, .int .i64 120)] (by as_aux_lemma => kernel_rfl) ?_
             refine WK.retBy (v := .tuple #[.agg #[.slice none 0 0, .slice none 0 0], .int .i64 120]) Try.func13 (by as_aux_lemma => kernel_rfl) (RV.res2 (x := .cell 4 24) (y := .tmp 5) (by as_aux_lemma => kernel_rfl) (RV.cell (k := 0) (by as_aux_lemma => kernel_rfl) (H.cells 0 rfl) rfl (by as_aux_lemma => kernel_rfl)) (RV.tmp (by as_aux_lemma => kernel_rfl))) ?_
             refine ⟨_, rfl, H.done, [.slice none 0 0, .slice none 0 0], ⟨[], []⟩, 120, rfl, H.out (conf_mk Shape.slice_nil Shape.slice_nil), ?_⟩
             clear H
             symm
             unfold stepOf stepOk
             first | (simp [*]; done) | (simp [*]; omega)
           ·
            replace h69 := of_decide_eq_false h69
            refine RW.fin 8 [2, 4, 6, 66] [(2, .pointer (some ⟨b1, 0, none⟩)), (4, .pointer (some ⟨b5, 0, none⟩)), (6, .int .i64 Z.node), (66, .bool false)] (by as_aux_lemma => kernel_rfl) ?_
            refine WK.run 4 [4] [.code (cd Try.prog 13 [4, 0]), .code (cd Try.prog 13 [5])] [(4, .pointer (some ⟨b5, 0, none⟩))] (by as_aux_lemma => kernel_rfl) ?_
            refine WK.reg1 (l := sq 0 3) (by as_aux_lemma => kernel_rfl) (by as_aux_lemma => kernel_rfl) ?_
            refine RW.runP 1 [4, 91] (sq 1 3) [(4, .pointer (some ⟨b5, 0, none⟩)), (91, .agg #[.slice none 0 0, .slice none 0 0])] (by as_aux_lemma => kernel_rfl) (by as_aux_lemma => kernel_rfl) ?_
            refine RW.store (d := none) (r := (sq 2 3)) (T := 24) (b := b5) (k := 0) (v := .agg #[.slice none 0 0, .slice none 0 0]) (c' := #[.slice none 0 0, .slice none 0 0]) (M' := [(b5, .cells #[.slice none 0 0, .slice none 0 0] 24 (0, 0)), (b3, .cells #[.int .i64 Z.kind, .int .i64 Z.node] 34 (0, 0)), (b1, .cells #[.slice a0C C.voters.length k0C, .slice a1C C.learners.length k1C] 24 (0, 0))]) (by as_aux_lemma => kernel_rfl) H 0 rfl (by as_aux_lemma => kernel_rfl) (by as_aux_lemma => kernel_rfl) ?_
            intro w86 H
            refine RW.fin 1 [4, 5] [(4, .pointer (some ⟨b5, 0, none⟩)), (5, .int .i64 120)] (by as_aux_lemma => kernel_rfl) ?_
            refine WK.retBy (v := .tuple #[.agg #[.slice none 0 0, .slice none 0 0], .int .i64 120]) Try.func13 (by as_aux_lemma => kernel_rfl) (RV.res2 (x := .cell 4 24) (y := .tmp 5) (by as_aux_lemma => kernel_rfl) (RV.cell (k := 0) (by as_aux_lemma => kernel_rfl) (H.cells 0 rfl) rfl (by as_aux_lemma => kernel_rfl)) (RV.tmp (by as_aux_lemma => kernel_rfl))) ?_
            refine ⟨_, rfl, H.done, [.slice none 0 0, .slice none 0 0], ⟨[], []⟩, 120, rfl, H.out (conf_mk Shape.slice_nil Shape.slice_nil), ?_⟩
            clear H
            symm
            unfold stepOf stepOk
            first | (simp [*]; done) | (simp [*]; omega)
         ·
          replace h53 := ne_of_beq_false h53
          refine RW.fin 12 [2, 4, 6, 66] [(2, .pointer (some ⟨b1, 0, none⟩)), (4, .pointer (some ⟨b5, 0, none⟩)), (6, .int .i64 Z.node), (66, .bool false)] (by as_aux_lemma => kernel_rfl) ?_
          refine WK.run 4 [4] [.code (cd Try.prog 13 [4, 0]), .code (cd Try.prog 13 [5])] [(4, .pointer (some ⟨b5, 0, none⟩))] (by as_aux_lemma => kernel_rfl) ?_
          refine WK.reg1 (l := sq 0 3) (by as_aux_lemma => kernel_rfl) (by as_aux_lemma => kernel_rfl) ?_
          refine RW.runP 1 [4, 91] (sq 1 3) [(4, .pointer (some ⟨b5, 0, none⟩)), (91, .agg #[.slice none 0 0, .slice none 0 0])] (by as_aux_lemma => kernel_rfl) (by as_aux_lemma => kernel_rfl) ?_
          refine RW.store (d := none) (r := (sq 2 3)) (T := 24) (b := b5) (k := 0) (v := .agg #[.slice none 0 0, .slice none 0 0]) (c' := #[.slice none 0 0, .slice none 0 0]) (M' := [(b5, .cells #[.slice none 0 0, .slice none 0 0] 24 (0, 0)), (b3, .cells #[.int .i64 Z.kind, .int .i64 Z.node] 34 (0, 0)), (b1, .cells #[.slice a0C C.voters.length k0C, .slice a1C C.learners.length k1C] 24 (0, 0))]) (by as_aux_lemma => kernel_rfl) H 0 rfl (by as_aux_lemma => kernel_rfl) (by as_aux_lemma => kernel_rfl) ?_
          intro w87 H
          refine RW.fin 1 [4, 5] [(4, .pointer (some ⟨b5, 0, none⟩)), (5, .int .i64 120)] (by as_aux_lemma => kernel_rfl) ?_
          refine WK.retBy (v := .tuple #[.agg #[.slice none 0 0, .slice none 0 0], .int .i64 120]) Try.func13 (by as_aux_lemma => kernel_rfl) (RV.res2 (x := .cell 4 24) (y := .tmp 5) (by as_aux_lemma => kernel_rfl) (RV.cell (k := 0) (by as_aux_lemma => kernel_rfl) (H.cells 0 rfl) rfl (by as_aux_lemma => kernel_rfl)) (RV.tmp (by as_aux_lemma => kernel_rfl))) ?_
          refine ⟨_, rfl, H.done, [.slice none 0 0, .slice none 0 0], ⟨[], []⟩, 120, rfl, H.out (conf_mk Shape.slice_nil Shape.slice_nil), ?_⟩
          clear H
          symm
          unfold stepOf stepOk
          first | (simp [*]; done) | (simp [*]; omega)
       ·
        replace h37 := ne_of_beq_false h37
        refine RW.fin 3 [2, 3, 4, 6, 7, 8, 50] [(2, .pointer (some ⟨b1, 0, none⟩)), (3, .pointer (some ⟨b3, 0, none⟩)), (4, .pointer (some ⟨b5, 0, none⟩)), (6, .int .i64 Z.node), (7, .bool (decide (Z.node ∈ C.voters))), (8, .bool (decide (Z.node ∈ C.learners))), (50, .bool false)] (by as_aux_lemma => kernel_rfl) ?_
        refine WK.run 2 [2, 3, 4, 6, 7, 8] [.code (cd Try.prog 13 [3, 0, 0, 1, 1, 1, 1, 1, 1, 0]), .code (cd Try.prog 13 [3, 0, 0, 1, 1, 1, 1, 1, 1, 1]), .inBlock 0, .code (cd Try.prog 13 [4])] [(2, .pointer (some ⟨b1, 0, none⟩)), (3, .pointer (some ⟨b3, 0, none⟩)), (4, .pointer (some ⟨b5, 0, none⟩)), (6, .int .i64 Z.node), (7, .bool (decide (Z.node ∈ C.voters))), (8, .bool (decide (Z.node ∈ C.learners)))] (by as_aux_lemma => kernel_rfl) ?_
        refine WK.reg1 (l := sq 0 16) (by as_aux_lemma => kernel_rfl) (by as_aux_lemma => kernel_rfl) ?_
        refine RW.runP 1 [2, 4, 6, 7, 8, 67] (sq 1 16) [(2, .pointer (some ⟨b1, 0, none⟩)), (4, .pointer (some ⟨b5, 0, none⟩)), (6, .int .i64 Z.node), (7, .bool (decide (Z.node ∈ C.voters))), (8, .bool (decide (Z.node ∈ C.learners))), (67, .pointer (some ⟨b3, 0, none⟩))] (by as_aux_lemma => kernel_rfl) (by as_aux_lemma => kernel_rfl) ?_
        refine RW.load (κ := .seq) (d := some 68) (r := (sq 2 16)) (T := 32) (b := b3) (o' := 0) (k := 0) (v := .int .i64 Z.kind) (by as_aux_lemma => kernel_rfl) (H.cells 1 rfl) rfl (by as_aux_lemma => kernel_rfl) ?_
        refine RW.runP 2 [2, 4, 6, 7, 8, 70] (sq 4 16) [(2, .pointer (some ⟨b1, 0, none⟩)), (4, .pointer (some ⟨b5, 0, none⟩)), (6, .int .i64 Z.node), (7, .bool (decide (Z.node ∈ C.voters))), (8, .bool (decide (Z.node ∈ C.learners))), (70, .bool (Z.kind == 3))] (by as_aux_lemma => kernel_rfl) (by as_aux_lemma => kernel_rfl) ?_
        refine RW.test (fun b_ => [(2, .pointer (some ⟨b1, 0, none⟩)), (4, .pointer (some ⟨b5, 0, none⟩)), (6, .int .i64 Z.node), (7, .bool (decide (Z.node ∈ C.voters))), (8, .bool (decide (Z.node ∈ C.learners))), (70, .bool b_)]) (Z.kind == 3) (fun h88 => ?_) (fun h88 => ?_)
        ·
         replace h88 := eq_of_beq h88
         refine RW.runP 2 [2, 4, 6, 7, 70, 72] (sq 6 16) [(2, .pointer (some ⟨b1, 0, none⟩)), (4, .pointer (some ⟨b5, 0, none⟩)), (6, .int .i64 Z.node), (7, .bool (decide (Z.node ∈ C.voters))), (70, .bool true), (72, .bool (decide (Z.node ∈ C.learners)))] (by as_aux_lemma => kernel_rfl) (by as_aux_lemma => kernel_rfl) ?_
         refine RW.test (fun b_ => [(2, .pointer (some ⟨b1, 0, none⟩)), (4, .pointer (some ⟨b5, 0, none⟩)), (6, .int .i64 Z.node), (7, .bool (decide (Z.node ∈ C.voters))), (70, .bool true), (72, .bool b_)]) (decide (Z.node ∈ C.learners)) (fun h89 => ?_) (fun h89 => ?_)
         ·
          replace h89 := of_decide_eq_true h89
          refine RW.fin 10 [2, 4, 6, 66] [(2, .pointer (some ⟨b1, 0, none⟩)), (4, .pointer (some ⟨b5, 0, none⟩)), (6, .int .i64 Z.node), (66, .bool true)] (by as_aux_lemma => kernel_rfl) ?_
          refine WK.run 2 [2, 4, 6] [.code (cd Try.prog 13 [3, 0, 0, 1, 1, 1, 1, 1, 1, 1, 0, 0]), .code (cd Try.prog 13 [3, 0, 0, 1, 1, 1, 1, 1, 1, 1, 0, 1]), .inBlock 0, .code (cd Try.prog 13 [4])] [(2, .pointer (some ⟨b1, 0, none⟩)), (4, .pointer (some ⟨b5, 0, none⟩)), (6, .int .i64 Z.node)] (by as_aux_lemma => kernel_rfl) ?_
          refine WK.draw1 9 [(0, .qui), (1, .qui), (2, .qui), (4, .qui), (5, .qui), (6, .qui), (3, .chn), (7, .chn), (8, .qui)] [(0, .qui), (1, .qui), (2, .qui), (4, .qui), (5, .qui), (6, .qui), (3, .chn), (7, .chn), (8, .qui), (9, .seq), (10, .seq)] Try_mixed (by as_aux_lemma => kernel_rfl) (by as_aux_lemma => kernel_rfl) (by as_aux_lemma => kernel_rfl) ?_
          have H := H.draw
          generalize ({ w12 with drawn := w12.drawn + 1 } : World) = w90 at H ⊢
          refine RW.runP 1 [2, 4, 6, 82] [(1, .qui), (2, .qui), (4, .qui), (5, .qui), (6, .qui), (3, .chn), (7, .chn), (8, .qui), (9, .seq), (10, .seq)] [(2, .pointer (some ⟨b1, 0, none⟩)), (4, .pointer (some ⟨b5, 0, none⟩)), (6, .int .i64 Z.node), (82, .pointer (some ⟨b1, 0, none⟩))] (by as_aux_lemma => kernel_rfl) (by as_aux_lemma => kernel_rfl) ?_
          refine RW.load (κ := .qui) (d := some 83) (r := [(2, .qui), (4, .qui), (5, .qui), (6, .qui), (3, .chn), (7, .chn), (8, .qui), (9, .seq), (10, .seq)]) (T := 22) (b := b1) (o' := 0) (k := 0) (v := .slice a0C C.voters.length k0C) (by as_aux_lemma => kernel_rfl) (H.cells 2 rfl) rfl (by as_aux_lemma => kernel_rfl) ?_
          refine RW.runP 2 [4, 6, 83, 84, 86] [(5, .qui), (6, .qui), (3, .chn), (7, .chn), (8, .qui), (9, .seq), (10, .seq)] [(4, .pointer (some ⟨b5, 0, none⟩)), (6, .int .i64 Z.node), (83, .slice a0C C.voters.length k0C), (84, .int .i64 Z.node), (86, .pointer (some ⟨b1, 1, none⟩))] (by as_aux_lemma => kernel_rfl) (by as_aux_lemma => kernel_rfl) ?_
          refine RW.load (κ := .qui) (d := some 87) (r := [(6, .qui), (3, .chn), (7, .chn), (8, .qui), (9, .seq), (10, .seq)]) (T := 22) (b := b1) (o' := 1) (k := 1) (v := .slice a1C C.learners.length k1C) (by as_aux_lemma => kernel_rfl) (H.cells 2 rfl) rfl (by as_aux_lemma => kernel_rfl) ?_
          refine RW.runP 1 [4, 83, 84, 87, 88] [(3, .chn), (7, .chn), (8, .qui), (9, .seq), (10, .seq)] [(4, .pointer (some ⟨b5, 0, none⟩)), (83, .slice a0C C.voters.length k0C), (84, .int .i64 Z.node), (87, .slice a1C C.learners.length k1C), (88, .int .i64 Z.node)] (by as_aux_lemma => kernel_rfl) (by as_aux_lemma => kernel_rfl) ?_
          refine RW.call (κ := .chn) (d := some 85) (r := [(7, .chn), (8, .qui), (9, .seq), (10, .seq)]) (g := 24) (args := #[.slice a0C C.voters.length k0C, .int .i64 Z.node]) (by as_aux_lemma => kernel_rfl) (nofun) (without_spec (H.rp 0 rfl) Z.node (by omega)) ?_
          rintro v92 w91 - H'
          have H := H.back (M1 := []) (W1 := []) H'
          obtain ⟨a93, c94, rfl, hc95, hm96⟩ := H.ownForm 0 rfl
          have H : Hp w S [] [(b5, .cells #[.slice none 0 0, .slice none 0 0] 24 (0, 0)), (b3, .cells #[.int .i64 Z.kind, .int .i64 Z.node] 34 (0, 0)), (b1, .cells #[.slice a0C C.voters.length k0C, .slice a1C C.learners.length k1C] 24 (0, 0))] [⟨Shape.int .i64, 3, .slice a93 ((drp Z.node C.voters).length) c94, drp Z.node C.voters⟩] [Rp (Shape.slice (Shape.int .i64)) [.slice a0C C.voters.length k0C] C.voters, Rp (Shape.slice (Shape.int .i64)) [.slice a1C C.learners.length k1C] C.learners] _ := H
          refine RW.call (κ := .chn) (d := some 89) (r := [(8, .qui), (9, .seq), (10, .seq)]) (g := 24) (args := #[.slice a1C C.learners.length k1C, .int .i64 Z.node]) (by as_aux_lemma => kernel_rfl) (nofun) (without_spec (H.rp 1 rfl) Z.node (by omega)) ?_
          rintro v98 w97 - H'
          have H := H.back (M1 := []) (W1 := []) H'
          obtain ⟨a99, c100, rfl, hc101, hm102⟩ := H.ownForm 0 rfl
          have H : Hp w S [] [(b5, .cells #[.slice none 0 0, .slice none 0 0] 24 (0, 0)), (b3, .cells #[.int .i64 Z.kind, .int .i64 Z.node] 34 (0, 0)), (b1, .cells #[.slice a0C C.voters.length k0C, .slice a1C C.learners.length k1C] 24 (0, 0))] [⟨Shape.int .i64, 3, .slice a99 ((drp Z.node C.learners).length) c100, drp Z.node C.learners⟩, ⟨Shape.int .i64, 3, .slice a93 ((drp Z.node C.voters).length) c94, drp Z.node C.voters⟩] [Rp (Shape.slice (Shape.int .i64)) [.slice a0C C.voters.length k0C] C.voters, Rp (Shape.slice (Shape.int .i64)) [.slice a1C C.learners.length k1C] C.learners] _ := H
          refine RW.runP 1 [4, 90] [(9, .seq), (10, .seq)] [(4, .pointer (some ⟨b5, 0, none⟩)), (90, .agg #[.slice a93 ((drp Z.node C.voters).length) c94, .slice a99 ((drp Z.node C.learners).length) c100])] (by as_aux_lemma => kernel_rfl) (by as_aux_lemma => kernel_rfl) ?_
          refine RW.store (d := none) (r := [(10, .seq)]) (T := 24) (b := b5) (k := 0) (v := .agg #[.slice a93 ((drp Z.node C.voters).length) c94, .slice a99 ((drp Z.node C.learners).length) c100]) (c' := #[.slice a93 ((drp Z.node C.voters).length) c94, .slice a99 ((drp Z.node C.learners).length) c100]) (M' := [(b5, .cells #[.slice a93 ((drp Z.node C.voters).length) c94, .slice a99 ((drp Z.node C.learners).length) c100] 24 (0, 0)), (b3, .cells #[.int .i64 Z.kind, .int .i64 Z.node] 34 (0, 0)), (b1, .cells #[.slice a0C C.voters.length k0C, .slice a1C C.learners.length k1C] 24 (0, 0))]) (by as_aux_lemma => kernel_rfl) H 0 rfl (by as_aux_lemma => kernel_rfl) (by as_aux_lemma => kernel_rfl) ?_
          intro w103 H
          refine RW.fin 1 [4, 5] [(4, .pointer (some ⟨b5, 0, none⟩)), (5, .int .i64 0)] (by as_aux_lemma => kernel_rfl) ?_
          refine WK.retBy (v := .tuple #[.agg #[.slice a93 ((drp Z.node C.voters).length) c94, .slice a99 ((drp Z.node C.learners).length) c100], .int .i64 0]) Try.func13 (by as_aux_lemma => kernel_rfl) (RV.res2 (x := .cell 4 24) (y := .tmp 5) (by as_aux_lemma => kernel_rfl) (RV.cell (k := 0) (by as_aux_lemma => kernel_rfl) (H.cells 0 rfl) rfl (by as_aux_lemma => kernel_rfl)) (RV.tmp (by as_aux_lemma => kernel_rfl))) ?_
          have H : Hp w S [] [(b5, .cells #[.slice a93 ((drp Z.node C.voters).length) c94, .slice a99 ((drp Z.node C.learners).length) c100] 24 (0, 0)), (b3, .cells #[.int .i64 Z.kind, .int .i64 Z.node] 34 (0, 0)), (b1, .cells #[.slice a0C C.voters.length k0C, .slice a1C C.learners.length k1C] 24 (0, 0))] [⟨Shape.int .i64, 3, .slice a99 ((drp Z.node C.learners).length) c100, drp Z.node C.learners⟩] [Rp (Shape.slice (Shape.int .i64)) [.slice a93 ((drp Z.node C.voters).length) c94] (drp Z.node C.voters), Rp (Shape.slice (Shape.int .i64)) [.slice a0C C.voters.length k0C] C.voters, Rp (Shape.slice (Shape.int .i64)) [.slice a1C C.learners.length k1C] C.learners] _ := H.freezeW 1 rfl
          have H : Hp w S [] [(b5, .cells #[.slice a93 ((drp Z.node C.voters).length) c94, .slice a99 ((drp Z.node C.learners).length) c100] 24 (0, 0)), (b3, .cells #[.int .i64 Z.kind, .int .i64 Z.node] 34 (0, 0)), (b1, .cells #[.slice a0C C.voters.length k0C, .slice a1C C.learners.length k1C] 24 (0, 0))] [] [Rp (Shape.slice (Shape.int .i64)) [.slice a99 ((drp Z.node C.learners).length) c100] (drp Z.node C.learners), Rp (Shape.slice (Shape.int .i64)) [.slice a93 ((drp Z.node C.voters).length) c94] (drp Z.node C.voters), Rp (Shape.slice (Shape.int .i64)) [.slice a0C C.voters.length k0C] C.voters, Rp (Shape.slice (Shape.int .i64)) [.slice a1C C.learners.length k1C] C.learners] _ := H.freezeW 0 rfl
          refine ⟨_, rfl, H.done, [.slice a93 ((drp Z.node C.voters).length) c94, .slice a99 ((drp Z.node C.learners).length) c100], ⟨drp Z.node C.voters, drp Z.node C.learners⟩, 0, rfl, H.out (conf_mk (H.rp 1 rfl) (H.rp 0 rfl)), ?_⟩
          clear H
          symm
          unfold stepOf stepOk
          first | (simp [*]; done) | (simp [*]; omega)
         ·
          replace h89 := of_decide_eq_false h89
          refine RW.runP 2 [2, 4, 6, 70, 72, 74] (sq 8 16) [(2, .pointer (some ⟨b1, 0, none⟩)), (4, .pointer (some ⟨b5, 0, none⟩)), (6, .int .i64 Z.node), (70, .bool true), (72, .bool false), (74, .bool (decide (Z.node ∈ C.voters)))] (by as_aux_lemma => kernel_rfl) (by as_aux_lemma => kernel_rfl) ?_
          refine RW.test (fun b_ => [(2, .pointer (some ⟨b1, 0, none⟩)), (4, .pointer (some ⟨b5, 0, none⟩)), (6, .int .i64 Z.node), (70, .bool true), (72, .bool false), (74, .bool b_)]) (decide (Z.node ∈ C.voters)) (fun h104 => ?_) (fun h104 => ?_)
          ·
           replace h104 := of_decide_eq_true h104
           refine RW.runP 1 [2, 4, 6, 70, 72, 74, 75] (sq 9 16) [(2, .pointer (some ⟨b1, 0, none⟩)), (4, .pointer (some ⟨b5, 0, none⟩)), (6, .int .i64 Z.node), (70, .bool true), (72, .bool false), (74, .bool true), (75, .pointer (some ⟨b1, 0, none⟩))] (by as_aux_lemma => kernel_rfl) (by as_aux_lemma => kernel_rfl) ?_
           refine RW.load (κ := .seq) (d := some 76) (r := (sq 10 16)) (T := 22) (b := b1) (o' := 0) (k := 0) (v := .slice a0C C.voters.length k0C) (by as_aux_lemma => kernel_rfl) (H.cells 2 rfl) rfl (by as_aux_lemma => kernel_rfl) ?_
           refine RW.fin 6 [2, 4, 6, 66] [(2, .pointer (some ⟨b1, 0, none⟩)), (4, .pointer (some ⟨b5, 0, none⟩)), (6, .int .i64 Z.node), (66, .bool (decide ((((C.voters.length : Nat) : Int) : Int) > 1)))] (by as_aux_lemma => kernel_rfl) ?_
           refine WK.cond1 (decide ((((C.voters.length : Nat) : Int) : Int) > 1)) (by as_aux_lemma => kernel_rfl) (by as_aux_lemma => kernel_rfl) (fun h105 => ?_) (fun h105 => ?_)
           ·
            replace h105 := of_decide_eq_true h105
            refine WK.run 1 [2, 4, 6] [.code (cd Try.prog 13 [3, 0, 0, 1, 1, 1, 1, 1, 1, 1, 0, 0]), .code (cd Try.prog 13 [3, 0, 0, 1, 1, 1, 1, 1, 1, 1, 0, 1]), .inBlock 0, .code (cd Try.prog 13 [4])] [(2, .pointer (some ⟨b1, 0, none⟩)), (4, .pointer (some ⟨b5, 0, none⟩)), (6, .int .i64 Z.node)] (by as_aux_lemma => kernel_rfl) ?_
            refine WK.draw1 9 [(0, .qui), (1, .qui), (2, .qui), (4, .qui), (5, .qui), (6, .qui), (3, .chn), (7, .chn), (8, .qui)] [(0, .qui), (1, .qui), (2, .qui), (4, .qui), (5, .qui), (6, .qui), (3, .chn), (7, .chn), (8, .qui), (9, .seq), (10, .seq)] Try_mixed (by as_aux_lemma => kernel_rfl) (by as_aux_lemma => kernel_rfl) (by as_aux_lemma => kernel_rfl) ?_
            have H := H.draw
            generalize ({ w12 with drawn := w12.drawn + 1 } : World) = w106 at H ⊢
            refine RW.runP 1 [2, 4, 6, 82] [(1, .qui), (2, .qui), (4, .qui), (5, .qui), (6, .qui), (3, .chn), (7, .chn), (8, .qui), (9, .seq), (10, .seq)] [(2, .pointer (some ⟨b1, 0, none⟩)), (4, .pointer (some ⟨b5, 0, none⟩)), (6, .int .i64 Z.node), (82, .pointer (some ⟨b1, 0, none⟩))] (by as_aux_lemma => kernel_rfl) (by as_aux_lemma => kernel_rfl) ?_
            refine RW.load (κ := .qui) (d := some 83) (r := [(2, .qui), (4, .qui), (5, .qui), (6, .qui), (3, .chn), (7, .chn), (8, .qui), (9, .seq), (10, .seq)]) (T := 22) (b := b1) (o' := 0) (k := 0) (v := .slice a0C C.voters.length k0C) (by as_aux_lemma => kernel_rfl) (H.cells 2 rfl) rfl (by as_aux_lemma => kernel_rfl) ?_
            refine RW.runP 2 [4, 6, 83, 84, 86] [(5, .qui), (6, .qui), (3, .chn), (7, .chn), (8, .qui), (9, .seq), (10, .seq)] [(4, .pointer (some ⟨b5, 0, none⟩)), (6, .int .i64 Z.node), (83, .slice a0C C.voters.length k0C), (84, .int .i64 Z.node), (86, .pointer (some ⟨b1, 1, none⟩))] (by as_aux_lemma => kernel_rfl) (by as_aux_lemma => kernel_rfl) ?_
            refine RW.load (κ := .qui) (d := some 87) (r := [(6, .qui), (3, .chn), (7, .chn), (8, .qui), (9, .seq), (10, .seq)]) (T := 22) (b := b1) (o' := 1) (k := 1) (v := .slice a1C C.learners.length k1C) (by as_aux_lemma => kernel_rfl) (H.cells 2 rfl) rfl (by as_aux_lemma => kernel_rfl) ?_
            refine RW.runP 1 [4, 83, 84, 87, 88] [(3, .chn), (7, .chn), (8, .qui), (9, .seq), (10, .seq)] [(4, .pointer (some ⟨b5, 0, none⟩)), (83, .slice a0C C.voters.length k0C), (84, .int .i64 Z.node), (87, .slice a1C C.learners.length k1C), (88, .int .i64 Z.node)] (by as_aux_lemma => kernel_rfl) (by as_aux_lemma => kernel_rfl) ?_
            refine RW.call (κ := .chn) (d := some 85) (r := [(7, .chn), (8, .qui), (9, .seq), (10, .seq)]) (g := 24) (args := #[.slice a0C C.voters.length k0C, .int .i64 Z.node]) (by as_aux_lemma => kernel_rfl) (nofun) (without_spec (H.rp 0 rfl) Z.node (by omega)) ?_
            rintro v108 w107 - H'
            have H := H.back (M1 := []) (W1 := []) H'
            obtain ⟨a109, c110, rfl, hc111, hm112⟩ := H.ownForm 0 rfl
            have H : Hp w S [] [(b5, .cells #[.slice none 0 0, .slice none 0 0] 24 (0, 0)), (b3, .cells #[.int .i64 Z.kind, .int .i64 Z.node] 34 (0, 0)), (b1, .cells #[.slice a0C C.voters.length k0C, .slice a1C C.learners.length k1C] 24 (0, 0))] [⟨Shape.int .i64, 3, .slice a109 ((drp Z.node C.voters).length) c110, drp Z.node C.voters⟩] [Rp (Shape.slice (Shape.int .i64)) [.slice a0C C.voters.length k0C] C.voters, Rp (Shape.slice (Shape.int .i64)) [.slice a1C C.learners.length k1C] C.learners] _ := H
            refine RW.call (κ := .chn) (d := some 89) (r := [(8, .qui), (9, .seq), (10, .seq)]) (g := 24) (args := #[.slice a1C C.learners.length k1C, .int .i64 Z.node]) (by as_aux_lemma => kernel_rfl) (nofun) (without_spec (H.rp 1 rfl) Z.node (by omega)) ?_
            rintro v114 w113 - H'
            have H := H.back (M1 := []) (W1 := []) H'
            obtain ⟨a115, c116, rfl, hc117, hm118⟩ := H.ownForm 0 rfl
            have H : Hp w S [] [(b5, .cells #[.slice none 0 0, .slice none 0 0] 24 (0, 0)), (b3, .cells #[.int .i64 Z.kind, .int .i64 Z.node] 34 (0, 0)), (b1, .cells #[.slice a0C C.voters.length k0C, .slice a1C C.learners.length k1C] 24 (0, 0))] [⟨Shape.int .i64, 3, .slice a115 ((drp Z.node C.learners).length) c116, drp Z.node C.learners⟩, ⟨Shape.int .i64, 3, .slice a109 ((drp Z.node C.voters).length) c110, drp Z.node C.voters⟩] [Rp (Shape.slice (Shape.int .i64)) [.slice a0C C.voters.length k0C] C.voters, Rp (Shape.slice (Shape.int .i64)) [.slice a1C C.learners.length k1C] C.learners] _ := H
            refine RW.runP 1 [4, 90] [(9, .seq), (10, .seq)] [(4, .pointer (some ⟨b5, 0, none⟩)), (90, .agg #[.slice a109 ((drp Z.node C.voters).length) c110, .slice a115 ((drp Z.node C.learners).length) c116])] (by as_aux_lemma => kernel_rfl) (by as_aux_lemma => kernel_rfl) ?_
            refine RW.store (d := none) (r := [(10, .seq)]) (T := 24) (b := b5) (k := 0) (v := .agg #[.slice a109 ((drp Z.node C.voters).length) c110, .slice a115 ((drp Z.node C.learners).length) c116]) (c' := #[.slice a109 ((drp Z.node C.voters).length) c110, .slice a115 ((drp Z.node C.learners).length) c116]) (M' := [(b5, .cells #[.slice a109 ((drp Z.node C.voters).length) c110, .slice a115 ((drp Z.node C.learners).length) c116] 24 (0, 0)), (b3, .cells #[.int .i64 Z.kind, .int .i64 Z.node] 34 (0, 0)), (b1, .cells #[.slice a0C C.voters.length k0C, .slice a1C C.learners.length k1C] 24 (0, 0))]) (by as_aux_lemma => kernel_rfl) H 0 rfl (by as_aux_lemma => kernel_rfl) (by as_aux_lemma => kernel_rfl) ?_
            intro w119 H
            refine RW.fin 1 [4, 5] [(4, .pointer (some ⟨b5, 0, none⟩)), (5, .int .i64 0)] (by as_aux_lemma => kernel_rfl) ?_
            refine WK.retBy (v := .tuple #[.agg #[.slice a109 ((drp Z.node C.voters).length) c110, .slice a115 ((drp Z.node C.learners).length) c116], .int .i64 0]) Try.func13 (by as_aux_lemma => kernel_rfl) (RV.res2 (x := .cell 4 24) (y := .tmp 5) (by as_aux_lemma => kernel_rfl) (RV.cell (k := 0) (by as_aux_lemma => kernel_rfl) (H.cells 0 rfl) rfl (by as_aux_lemma => kernel_rfl)) (RV.tmp (by as_aux_lemma => kernel_rfl))) ?_
            have H : Hp w S [] [(b5, .cells #[.slice a109 ((drp Z.node C.voters).length) c110, .slice a115 ((drp Z.node C.learners).length) c116] 24 (0, 0)), (b3, .cells #[.int .i64 Z.kind, .int .i64 Z.node] 34 (0, 0)), (b1, .cells #[.slice a0C C.voters.length k0C, .slice a1C C.learners.length k1C] 24 (0, 0))] [⟨Shape.int .i64, 3, .slice a115 ((drp Z.node C.learners).length) c116, drp Z.node C.learners⟩] [Rp (Shape.slice (Shape.int .i64)) [.slice a109 ((drp Z.node C.voters).length) c110] (drp Z.node C.voters), Rp (Shape.slice (Shape.int .i64)) [.slice a0C C.voters.length k0C] C.voters, Rp (Shape.slice (Shape.int .i64)) [.slice a1C C.learners.length k1C] C.learners] _ := H.freezeW 1 rfl
            have H : Hp w S [] [(b5, .cells #[.slice a109 ((drp Z.node C.voters).length) c110, .slice a115 ((drp Z.node C.learners).length) c116] 24 (0, 0)), (b3, .cells #[.int .i64 Z.kind, .int .i64 Z.node] 34 (0, 0)), (b1, .cells #[.slice a0C C.voters.length k0C, .slice a1C C.learners.length k1C] 24 (0, 0))] [] [Rp (Shape.slice (Shape.int .i64)) [.slice a115 ((drp Z.node C.learners).length) c116] (drp Z.node C.learners), Rp (Shape.slice (Shape.int .i64)) [.slice a109 ((drp Z.node C.voters).length) c110] (drp Z.node C.voters), Rp (Shape.slice (Shape.int .i64)) [.slice a0C C.voters.length k0C] C.voters, Rp (Shape.slice (Shape.int .i64)) [.slice a1C C.learners.length k1C] C.learners] _ := H.freezeW 0 rfl
            refine ⟨_, rfl, H.done, [.slice a109 ((drp Z.node C.voters).length) c110, .slice a115 ((drp Z.node C.learners).length) c116], ⟨drp Z.node C.voters, drp Z.node C.learners⟩, 0, rfl, H.out (conf_mk (H.rp 1 rfl) (H.rp 0 rfl)), ?_⟩
            clear H
            symm
            unfold stepOf stepOk
            first | (simp [*]; done) | (simp [*]; omega)
           ·
            replace h105 := of_decide_eq_false h105
            refine WK.run 3 [4] [.code (cd Try.prog 13 [4, 0]), .code (cd Try.prog 13 [5])] [(4, .pointer (some ⟨b5, 0, none⟩))] (by as_aux_lemma => kernel_rfl) ?_
            refine WK.reg1 (l := sq 0 3) (by as_aux_lemma => kernel_rfl) (by as_aux_lemma => kernel_rfl) ?_
            refine RW.runP 1 [4, 91] (sq 1 3) [(4, .pointer (some ⟨b5, 0, none⟩)), (91, .agg #[.slice none 0 0, .slice none 0 0])] (by as_aux_lemma => kernel_rfl) (by as_aux_lemma => kernel_rfl) ?_
            refine RW.store (d := none) (r := (sq 2 3)) (T := 24) (b := b5) (k := 0) (v := .agg #[.slice none 0 0, .slice none 0 0]) (c' := #[.slice none 0 0, .slice none 0 0]) (M' := [(b5, .cells #[.slice none 0 0, .slice none 0 0] 24 (0, 0)), (b3, .cells #[.int .i64 Z.kind, .int .i64 Z.node] 34 (0, 0)), (b1, .cells #[.slice a0C C.voters.length k0C, .slice a1C C.learners.length k1C] 24 (0, 0))]) (by as_aux_lemma => kernel_rfl) H 0 rfl (by as_aux_lemma => kernel_rfl) (by as_aux_lemma => kernel_rfl) ?_
            intro w120 H
            refine RW.fin 1 [4, 5] [(4, .pointer (some ⟨b5, 0, none⟩)), (5, .int .i64 120)] (by as_aux_lemma => kernel_rfl) ?_
            refine WK.retBy (v := .tuple #[.agg #[.slice none 0 0, .slice none 0 0], .int .i64 120]) Try.func13 (by as_aux_lemma => kernel_rfl) (RV.res2 (x := .cell 4 24) (y := .tmp 5) (by as_aux_lemma => kernel_rfl) (RV.cell (k := 0) (by as_aux_lemma => kernel_rfl) (H.cells 0 rfl) rfl (by as_aux_lemma => kernel_rfl)) (RV.tmp (by as_aux_lemma => kernel_rfl))) ?_
            refine ⟨_, rfl, H.done, [.slice none 0 0, .slice none 0 0], ⟨[], []⟩, 120, rfl, H.out (conf_mk Shape.slice_nil Shape.slice_nil), ?_⟩
            clear H
            symm
            unfold stepOf stepOk
            first | (simp [*]; done) | (simp [*]; omega)
          ·
           replace h104 := of_decide_eq_false h104
           refine RW.fin 8 [2, 4, 6, 66] [(2, .pointer (some ⟨b1, 0, none⟩)), (4, .pointer (some ⟨b5, 0, none⟩)), (6, .int .i64 Z.node), (66, .bool false)] (by as_aux_lemma => kernel_rfl) ?_
           refine WK.run 4 [4] [.code (cd Try.prog 13 [4, 0]), .code (cd Try.prog 13 [5])] [(4, .pointer (some ⟨b5, 0, none⟩))] (by as_aux_lemma => kernel_rfl) ?_
           refine WK.reg1 (l := sq 0 3) (by as_aux_lemma => kernel_rfl) (by as_aux_lemma => kernel_rfl) ?_
           refine RW.runP 1 [4, 91] (sq 1 3) [(4, .pointer (some ⟨b5, 0, none⟩)), (91, .agg #[.slice none 0 0, .slice none 0 0])] (by as_aux_lemma => kernel_rfl) (by as_aux_lemma => kernel_rfl) ?_
           refine RW.store (d := none) (r := (sq 2 3)) (T := 24) (b := b5) (k := 0) (v := .agg #[.slice none 0 0, .slice none 0 0]) (c' := #[.slice none 0 0, .slice none 0 0]) (M' := [(b5, .cells #[.slice none 0 0, .slice none 0 0] 24 (0, 0)), (b3, .cells #[.int .i64 Z.kind, .int .i64 Z.node] 34 (0, 0)), (b1, .cells #[.slice a0C C.voters.length k0C, .slice a1C C.learners.length k1C] 24 (0, 0))]) (by as_aux_lemma => kernel_rfl) H 0 rfl (by as_aux_lemma => kernel_rfl) (by as_aux_lemma => kernel_rfl) ?_
           intro w121 H
           refine RW.fin 1 [4, 5] [(4, .pointer (some ⟨b5, 0, none⟩)), (5, .int .i64 120)] (by as_aux_lemma => kernel_rfl) ?_
           refine WK.retBy (v := .tuple #[.agg #[.slice none 0 0, .slice none 0 0], .int .i64 120]) Try.func13 (by as_aux_lemma => kernel_rfl) (RV.res2 (x := .cell 4 24) (y := .tmp 5) (by as_aux_lemma => kernel_rfl) (RV.cell (k := 0) (by as_aux_lemma => kernel_rfl) (H.cells 0 rfl) rfl (by as_aux_lemma => kernel_rfl)) (RV.tmp (by as_aux_lemma => kernel_rfl))) ?_
           refine ⟨_, rfl, H.done, [.slice none 0 0, .slice none 0 0], ⟨[], []⟩, 120, rfl, H.out (conf_mk Shape.slice_nil Shape.slice_nil), ?_⟩
           clear H
           symm
           unfold stepOf stepOk
           first | (simp [*]; done) | (simp [*]; omega)
        ·
         replace h88 := ne_of_beq_false h88
         refine RW.fin 12 [2, 4, 6, 66] [(2, .pointer (some ⟨b1, 0, none⟩)), (4, .pointer (some ⟨b5, 0, none⟩)), (6, .int .i64 Z.node), (66, .bool false)] (by as_aux_lemma => kernel_rfl) ?_
         refine WK.run 4 [4] [.code (cd Try.prog 13 [4, 0]), .code (cd Try.prog 13 [5])] [(4, .pointer (some ⟨b5, 0, none⟩))] (by as_aux_lemma => kernel_rfl) ?_
         refine WK.reg1 (l := sq 0 3) (by as_aux_lemma => kernel_rfl) (by as_aux_lemma => kernel_rfl) ?_
         refine RW.runP 1 [4, 91] (sq 1 3) [(4, .pointer (some ⟨b5, 0, none⟩)), (91, .agg #[.slice none 0 0, .slice none 0 0])] (by as_aux_lemma => kernel_rfl) (by as_aux_lemma => kernel_rfl) ?_
         refine RW.store (d := none) (r := (sq 2 3)) (T := 24) (b := b5) (k := 0) (v := .agg #[.slice none 0 0, .slice none 0 0]) (c' := #[.slice none 0 0, .slice none 0 0]) (M' := [(b5, .cells #[.slice none 0 0, .slice none 0 0] 24 (0, 0)), (b3, .cells #[.int .i64 Z.kind, .int .i64 Z.node] 34 (0, 0)), (b1, .cells #[.slice a0C C.voters.length k0C, .slice a1C C.learners.length k1C] 24 (0, 0))]) (by as_aux_lemma => kernel_rfl) H 0 rfl (by as_aux_lemma => kernel_rfl) (by as_aux_lemma => kernel_rfl) ?_
         intro w122 H
         refine RW.fin 1 [4, 5] [(4, .pointer (some ⟨b5, 0, none⟩)), (5, .int .i64 120)] (by as_aux_lemma => kernel_rfl) ?_
         refine WK.retBy (v := .tuple #[.agg #[.slice none 0 0, .slice none 0 0], .int .i64 120]) Try.func13 (by as_aux_lemma => kernel_rfl) (RV.res2 (x := .cell 4 24) (y := .tmp 5) (by as_aux_lemma => kernel_rfl) (RV.cell (k := 0) (by as_aux_lemma => kernel_rfl) (H.cells 0 rfl) rfl (by as_aux_lemma => kernel_rfl)) (RV.tmp (by as_aux_lemma => kernel_rfl))) ?_
         refine ⟨_, rfl, H.done, [.slice none 0 0, .slice none 0 0], ⟨[], []⟩, 120, rfl, H.out (conf_mk Shape.slice_nil Shape.slice_nil), ?_⟩
         clear H
         symm
         unfold stepOf stepOk
         first | (simp [*]; done) | (simp [*]; omega)
     ·
      replace h21 : (decide (Z.node ∈ C.voters)) = true := by revert h21; cases (decide (Z.node ∈ C.voters)) <;> simp
      replace h21 := of_decide_eq_true h21
      refine RW.fin 4 [2, 3, 4, 6, 7, 8, 30] [(2, .pointer (some ⟨b1, 0, none⟩)), (3, .pointer (some ⟨b3, 0, none⟩)), (4, .pointer (some ⟨b5, 0, none⟩)), (6, .int .i64 Z.node), (7, .bool (decide (Z.node ∈ C.voters))), (8, .bool (decide (Z.node ∈ C.learners))), (30, .bool false)] (by as_aux_lemma => kernel_rfl) ?_
      refine WK.run 2 [2, 3, 4, 6, 7, 8] [.code (cd Try.prog 13 [3, 0, 0, 1, 1, 1, 1, 0]), .code (cd Try.prog 13 [3, 0, 0, 1, 1, 1, 1, 1]), .inBlock 0, .code (cd Try.prog 13 [4])] [(2, .pointer (some ⟨b1, 0, none⟩)), (3, .pointer (some ⟨b3, 0, none⟩)), (4, .pointer (some ⟨b5, 0, none⟩)), (6, .int .i64 Z.node), (7, .bool (decide (Z.node ∈ C.voters))), (8, .bool (decide (Z.node ∈ C.learners)))] (by as_aux_lemma => kernel_rfl) ?_
      refine WK.reg1 (l := sq 0 7) (by as_aux_lemma => kernel_rfl) (by as_aux_lemma => kernel_rfl) ?_
      refine RW.runP 1 [2, 3, 4, 6, 7, 8, 51] (sq 1 7) [(2, .pointer (some ⟨b1, 0, none⟩)), (3, .pointer (some ⟨b3, 0, none⟩)), (4, .pointer (some ⟨b5, 0, none⟩)), (6, .int .i64 Z.node), (7, .bool (decide (Z.node ∈ C.voters))), (8, .bool (decide (Z.node ∈ C.learners))), (51, .pointer (some ⟨b3, 0, none⟩))] (by as_aux_lemma => kernel_rfl) (by as_aux_lemma => kernel_rfl) ?_
      refine RW.load (κ := .seq) (d := some 52) (r := (sq 2 7)) (T := 32) (b := b3) (o' := 0) (k := 0) (v := .int .i64 Z.kind) (by as_aux_lemma => kernel_rfl) (H.cells 1 rfl) rfl (by as_aux_lemma => kernel_rfl) ?_
      refine RW.runP 2 [2, 3, 4, 6, 7, 8, 54] (sq 4 7) [(2, .pointer (some ⟨b1, 0, none⟩)), (3, .pointer (some ⟨b3, 0, none⟩)), (4, .pointer (some ⟨b5, 0, none⟩)), (6, .int .i64 Z.node), (7, .bool (decide (Z.node ∈ C.voters))), (8, .bool (decide (Z.node ∈ C.learners))), (54, .bool (Z.kind == 2))] (by as_aux_lemma => kernel_rfl) (by as_aux_lemma => kernel_rfl) ?_
      refine RW.test (fun b_ => [(2, .pointer (some ⟨b1, 0, none⟩)), (3, .pointer (some ⟨b3, 0, none⟩)), (4, .pointer (some ⟨b5, 0, none⟩)), (6, .int .i64 Z.node), (7, .bool (decide (Z.node ∈ C.voters))), (8, .bool (decide (Z.node ∈ C.learners))), (54, .bool b_)]) (Z.kind == 2) (fun h123 => ?_) (fun h123 => ?_)
      ·
       replace h123 := eq_of_beq h123
       refine RW.fin 3 [2, 3, 4, 6, 7, 8, 50] [(2, .pointer (some ⟨b1, 0, none⟩)), (3, .pointer (some ⟨b3, 0, none⟩)), (4, .pointer (some ⟨b5, 0, none⟩)), (6, .int .i64 Z.node), (7, .bool (decide (Z.node ∈ C.voters))), (8, .bool (decide (Z.node ∈ C.learners))), (50, .bool (decide (Z.node ∈ C.learners)))] (by as_aux_lemma => kernel_rfl) ?_
       refine WK.cond1 (decide (Z.node ∈ C.learners)) (by as_aux_lemma => kernel_rfl) (by as_aux_lemma => kernel_rfl) (fun h124 => ?_) (fun h124 => ?_)
       ·
        replace h124 := of_decide_eq_true h124
        refine WK.run 1 [2, 4, 6] [.code (cd Try.prog 13 [3, 0, 0, 1, 1, 1, 1, 1, 0, 0]), .code (cd Try.prog 13 [3, 0, 0, 1, 1, 1, 1, 1, 0, 1]), .inBlock 0, .code (cd Try.prog 13 [4])] [(2, .pointer (some ⟨b1, 0, none⟩)), (4, .pointer (some ⟨b5, 0, none⟩)), (6, .int .i64 Z.node)] (by as_aux_lemma => kernel_rfl) ?_
        refine WK.draw1 9 [(0, .qui), (1, .qui), (2, .qui), (4, .qui), (5, .qui), (6, .qui), (3, .chn), (7, .chn), (8, .qui)] [(0, .qui), (1, .qui), (2, .qui), (4, .qui), (5, .qui), (6, .qui), (3, .chn), (7, .chn), (8, .qui), (9, .seq), (10, .seq)] Try_mixed (by as_aux_lemma => kernel_rfl) (by as_aux_lemma => kernel_rfl) (by as_aux_lemma => kernel_rfl) ?_
        have H := H.draw
        generalize ({ w12 with drawn := w12.drawn + 1 } : World) = w125 at H ⊢
        refine RW.runP 1 [2, 4, 6, 57] [(1, .qui), (2, .qui), (4, .qui), (5, .qui), (6, .qui), (3, .chn), (7, .chn), (8, .qui), (9, .seq), (10, .seq)] [(2, .pointer (some ⟨b1, 0, none⟩)), (4, .pointer (some ⟨b5, 0, none⟩)), (6, .int .i64 Z.node), (57, .pointer (some ⟨b1, 0, none⟩))] (by as_aux_lemma => kernel_rfl) (by as_aux_lemma => kernel_rfl) ?_
        refine RW.load (κ := .qui) (d := some 58) (r := [(2, .qui), (4, .qui), (5, .qui), (6, .qui), (3, .chn), (7, .chn), (8, .qui), (9, .seq), (10, .seq)]) (T := 22) (b := b1) (o' := 0) (k := 0) (v := .slice a0C C.voters.length k0C) (by as_aux_lemma => kernel_rfl) (H.cells 2 rfl) rfl (by as_aux_lemma => kernel_rfl) ?_
        refine RW.runP 2 [4, 6, 58, 59, 61] [(5, .qui), (6, .qui), (3, .chn), (7, .chn), (8, .qui), (9, .seq), (10, .seq)] [(4, .pointer (some ⟨b5, 0, none⟩)), (6, .int .i64 Z.node), (58, .slice a0C C.voters.length k0C), (59, .int .i64 Z.node), (61, .pointer (some ⟨b1, 1, none⟩))] (by as_aux_lemma => kernel_rfl) (by as_aux_lemma => kernel_rfl) ?_
        refine RW.load (κ := .qui) (d := some 62) (r := [(6, .qui), (3, .chn), (7, .chn), (8, .qui), (9, .seq), (10, .seq)]) (T := 22) (b := b1) (o' := 1) (k := 1) (v := .slice a1C C.learners.length k1C) (by as_aux_lemma => kernel_rfl) (H.cells 2 rfl) rfl (by as_aux_lemma => kernel_rfl) ?_
        refine RW.runP 1 [4, 58, 59, 62, 63] [(3, .chn), (7, .chn), (8, .qui), (9, .seq), (10, .seq)] [(4, .pointer (some ⟨b5, 0, none⟩)), (58, .slice a0C C.voters.length k0C), (59, .int .i64 Z.node), (62, .slice a1C C.learners.length k1C), (63, .int .i64 Z.node)] (by as_aux_lemma => kernel_rfl) (by as_aux_lemma => kernel_rfl) ?_
        refine RW.call (κ := .chn) (d := some 60) (r := [(7, .chn), (8, .qui), (9, .seq), (10, .seq)]) (g := 23) (args := #[.slice a0C C.voters.length k0C, .int .i64 Z.node]) (by as_aux_lemma => kernel_rfl) (nofun) (with2_spec (H.rp 0 rfl) Z.node (by omega) (by omega) (by assumption)) ?_
        rintro v127 w126 - H'
        have H := H.back (M1 := []) (W1 := []) H'
        obtain ⟨a128, c129, rfl, hc130, hm131⟩ := H.ownForm 0 rfl
        have H : Hp w S [] [(b5, .cells #[.slice none 0 0, .slice none 0 0] 24 (0, 0)), (b3, .cells #[.int .i64 Z.kind, .int .i64 Z.node] 34 (0, 0)), (b1, .cells #[.slice a0C C.voters.length k0C, .slice a1C C.learners.length k1C] 24 (0, 0))] [⟨Shape.int .i64, 3, .slice a128 ((ins Z.node C.voters).length) c129, ins Z.node C.voters⟩] [Rp (Shape.slice (Shape.int .i64)) [.slice a0C C.voters.length k0C] C.voters, Rp (Shape.slice (Shape.int .i64)) [.slice a1C C.learners.length k1C] C.learners] _ := H
        refine RW.call (κ := .chn) (d := some 64) (r := [(8, .qui), (9, .seq), (10, .seq)]) (g := 24) (args := #[.slice a1C C.learners.length k1C, .int .i64 Z.node]) (by as_aux_lemma => kernel_rfl) (nofun) (without_spec (H.rp 1 rfl) Z.node (by omega)) ?_
        rintro v133 w132 - H'
        have H := H.back (M1 := []) (W1 := []) H'
        obtain ⟨a134, c135, rfl, hc136, hm137⟩ := H.ownForm 0 rfl
        have H : Hp w S [] [(b5, .cells #[.slice none 0 0, .slice none 0 0] 24 (0, 0)), (b3, .cells #[.int .i64 Z.kind, .int .i64 Z.node] 34 (0, 0)), (b1, .cells #[.slice a0C C.voters.length k0C, .slice a1C C.learners.length k1C] 24 (0, 0))] [⟨Shape.int .i64, 3, .slice a134 ((drp Z.node C.learners).length) c135, drp Z.node C.learners⟩, ⟨Shape.int .i64, 3, .slice a128 ((ins Z.node C.voters).length) c129, ins Z.node C.voters⟩] [Rp (Shape.slice (Shape.int .i64)) [.slice a0C C.voters.length k0C] C.voters, Rp (Shape.slice (Shape.int .i64)) [.slice a1C C.learners.length k1C] C.learners] _ := H
        refine RW.runP 1 [4, 65] [(9, .seq), (10, .seq)] [(4, .pointer (some ⟨b5, 0, none⟩)), (65, .agg #[.slice a128 ((ins Z.node C.voters).length) c129, .slice a134 ((drp Z.node C.learners).length) c135])] (by as_aux_lemma => kernel_rfl) (by as_aux_lemma => kernel_rfl) ?_
        refine RW.store (d := none) (r := [(10, .seq)]) (T := 24) (b := b5) (k := 0) (v := .agg #[.slice a128 ((ins Z.node C.voters).length) c129, .slice a134 ((drp Z.node C.learners).length) c135]) (c' := #[.slice a128 ((ins Z.node C.voters).length) c129, .slice a134 ((drp Z.node C.learners).length) c135]) (M' := [(b5, .cells #[.slice a128 ((ins Z.node C.voters).length) c129, .slice a134 ((drp Z.node C.learners).length) c135] 24 (0, 0)), (b3, .cells #[.int .i64 Z.kind, .int .i64 Z.node] 34 (0, 0)), (b1, .cells #[.slice a0C C.voters.length k0C, .slice a1C C.learners.length k1C] 24 (0, 0))]) (by as_aux_lemma => kernel_rfl) H 0 rfl (by as_aux_lemma => kernel_rfl) (by as_aux_lemma => kernel_rfl) ?_
        intro w138 H
        refine RW.fin 1 [4, 5] [(4, .pointer (some ⟨b5, 0, none⟩)), (5, .int .i64 0)] (by as_aux_lemma => kernel_rfl) ?_
        refine WK.retBy (v := .tuple #[.agg #[.slice a128 ((ins Z.node C.voters).length) c129, .slice a134 ((drp Z.node C.learners).length) c135], .int .i64 0]) Try.func13 (by as_aux_lemma => kernel_rfl) (RV.res2 (x := .cell 4 24) (y := .tmp 5) (by as_aux_lemma => kernel_rfl) (RV.cell (k := 0) (by as_aux_lemma => kernel_rfl) (H.cells 0 rfl) rfl (by as_aux_lemma => kernel_rfl)) (RV.tmp (by as_aux_lemma => kernel_rfl))) ?_
        have H : Hp w S [] [(b5, .cells #[.slice a128 ((ins Z.node C.voters).length) c129, .slice a134 ((drp Z.node C.learners).length) c135] 24 (0, 0)), (b3, .cells #[.int .i64 Z.kind, .int .i64 Z.node] 34 (0, 0)), (b1, .cells #[.slice a0C C.voters.length k0C, .slice a1C C.learners.length k1C] 24 (0, 0))] [⟨Shape.int .i64, 3, .slice a134 ((drp Z.node C.learners).length) c135, drp Z.node C.learners⟩] [Rp (Shape.slice (Shape.int .i64)) [.slice a128 ((ins Z.node C.voters).length) c129] (ins Z.node C.voters), Rp (Shape.slice (Shape.int .i64)) [.slice a0C C.voters.length k0C] C.voters, Rp (Shape.slice (Shape.int .i64)) [.slice a1C C.learners.length k1C] C.learners] _ := H.freezeW 1 rfl
        have H : Hp w S [] [(b5, .cells #[.slice a128 ((ins Z.node C.voters).length) c129, .slice a134 ((drp Z.node C.learners).length) c135] 24 (0, 0)), (b3, .cells #[.int .i64 Z.kind, .int .i64 Z.node] 34 (0, 0)), (b1, .cells #[.slice a0C C.voters.length k0C, .slice a1C C.learners.length k1C] 24 (0, 0))] [] [Rp (Shape.slice (Shape.int .i64)) [.slice a134 ((drp Z.node C.learners).length) c135] (drp Z.node C.learners), Rp (Shape.slice (Shape.int .i64)) [.slice a128 ((ins Z.node C.voters).length) c129] (ins Z.node C.voters), Rp (Shape.slice (Shape.int .i64)) [.slice a0C C.voters.length k0C] C.voters, Rp (Shape.slice (Shape.int .i64)) [.slice a1C C.learners.length k1C] C.learners] _ := H.freezeW 0 rfl
        refine ⟨_, rfl, H.done, [.slice a128 ((ins Z.node C.voters).length) c129, .slice a134 ((drp Z.node C.learners).length) c135], ⟨ins Z.node C.voters, drp Z.node C.learners⟩, 0, rfl, H.out (conf_mk (H.rp 1 rfl) (H.rp 0 rfl)), ?_⟩
        clear H
        symm
        unfold stepOf stepOk
        first | (simp [*]; done) | (simp [*]; omega)
       ·
        replace h124 := of_decide_eq_false h124
        refine WK.run 1 [2, 3, 4, 6, 7, 8] [.code (cd Try.prog 13 [3, 0, 0, 1, 1, 1, 1, 1, 1, 0]), .code (cd Try.prog 13 [3, 0, 0, 1, 1, 1, 1, 1, 1, 1]), .inBlock 0, .code (cd Try.prog 13 [4])] [(2, .pointer (some ⟨b1, 0, none⟩)), (3, .pointer (some ⟨b3, 0, none⟩)), (4, .pointer (some ⟨b5, 0, none⟩)), (6, .int .i64 Z.node), (7, .bool (decide (Z.node ∈ C.voters))), (8, .bool (decide (Z.node ∈ C.learners)))] (by as_aux_lemma => kernel_rfl) ?_
        refine WK.reg1 (l := sq 0 16) (by as_aux_lemma => kernel_rfl) (by as_aux_lemma => kernel_rfl) ?_
        refine RW.runP 1 [2, 4, 6, 7, 8, 67] (sq 1 16) [(2, .pointer (some ⟨b1, 0, none⟩)), (4, .pointer (some ⟨b5, 0, none⟩)), (6, .int .i64 Z.node), (7, .bool (decide (Z.node ∈ C.voters))), (8, .bool (decide (Z.node ∈ C.learners))), (67, .pointer (some ⟨b3, 0, none⟩))] (by as_aux_lemma => kernel_rfl) (by as_aux_lemma => kernel_rfl) ?_
        refine RW.load (κ := .seq) (d := some 68) (r := (sq 2 16)) (T := 32) (b := b3) (o' := 0) (k := 0) (v := .int .i64 Z.kind) (by as_aux_lemma => kernel_rfl) (H.cells 1 rfl) rfl (by as_aux_lemma => kernel_rfl) ?_
        refine RW.runP 2 [2, 4, 6, 7, 8, 70] (sq 4 16) [(2, .pointer (some ⟨b1, 0, none⟩)), (4, .pointer (some ⟨b5, 0, none⟩)), (6, .int .i64 Z.node), (7, .bool (decide (Z.node ∈ C.voters))), (8, .bool (decide (Z.node ∈ C.learners))), (70, .bool (Z.kind == 3))] (by as_aux_lemma => kernel_rfl) (by as_aux_lemma => kernel_rfl) ?_
        refine RW.test (fun b_ => [(2, .pointer (some ⟨b1, 0, none⟩)), (4, .pointer (some ⟨b5, 0, none⟩)), (6, .int .i64 Z.node), (7, .bool (decide (Z.node ∈ C.voters))), (8, .bool (decide (Z.node ∈ C.learners))), (70, .bool b_)]) (Z.kind == 3) (fun h139 => ?_) (fun h139 => ?_)
        ·
         replace h139 := eq_of_beq h139
         refine RW.runP 2 [2, 4, 6, 7, 70, 72] (sq 6 16) [(2, .pointer (some ⟨b1, 0, none⟩)), (4, .pointer (some ⟨b5, 0, none⟩)), (6, .int .i64 Z.node), (7, .bool (decide (Z.node ∈ C.voters))), (70, .bool true), (72, .bool (decide (Z.node ∈ C.learners)))] (by as_aux_lemma => kernel_rfl) (by as_aux_lemma => kernel_rfl) ?_
         refine RW.test (fun b_ => [(2, .pointer (some ⟨b1, 0, none⟩)), (4, .pointer (some ⟨b5, 0, none⟩)), (6, .int .i64 Z.node), (7, .bool (decide (Z.node ∈ C.voters))), (70, .bool true), (72, .bool b_)]) (decide (Z.node ∈ C.learners)) (fun h140 => ?_) (fun h140 => ?_)
         ·
          replace h140 := of_decide_eq_true h140
          refine RW.fin 10 [2, 4, 6, 66] [(2, .pointer (some ⟨b1, 0, none⟩)), (4, .pointer (some ⟨b5, 0, none⟩)), (6, .int .i64 Z.node), (66, .bool true)] (by as_aux_lemma => kernel_rfl) ?_
          refine WK.run 2 [2, 4, 6] [.code (cd Try.prog 13 [3, 0, 0, 1, 1, 1, 1, 1, 1, 1, 0, 0]), .code (cd Try.prog 13 [3, 0, 0, 1, 1, 1, 1, 1, 1, 1, 0, 1]), .inBlock 0, .code (cd Try.prog 13 [4])] [(2, .pointer (some ⟨b1, 0, none⟩)), (4, .pointer (some ⟨b5, 0, none⟩)), (6, .int .i64 Z.node)] (by as_aux_lemma => kernel_rfl) ?_
          refine WK.draw1 9 [(0, .qui), (1, .qui), (2, .qui), (4, .qui), (5, .qui), (6, .qui), (3, .chn), (7, .chn), (8, .qui)] [(0, .qui), (1, .qui), (2, .qui), (4, .qui), (5, .qui), (6, .qui), (3, .chn), (7, .chn), (8, .qui), (9, .seq), (10, .seq)] Try_mixed (by as_aux_lemma => kernel_rfl) (by as_aux_lemma => kernel_rfl) (by as_aux_lemma => kernel_rfl) ?_
          have H := H.draw
          generalize ({ w12 with drawn := w12.drawn + 1 } : World) = w141 at H ⊢
          refine RW.runP 1 [2, 4, 6, 82] [(1, .qui), (2, .qui), (4, .qui), (5, .qui), (6, .qui), (3, .chn), (7, .chn), (8, .qui), (9, .seq), (10, .seq)] [(2, .pointer (some ⟨b1, 0, none⟩)), (4, .pointer (some ⟨b5, 0, none⟩)), (6, .int .i64 Z.node), (82, .pointer (some ⟨b1, 0, none⟩))] (by as_aux_lemma => kernel_rfl) (by as_aux_lemma => kernel_rfl) ?_
          refine RW.load (κ := .qui) (d := some 83) (r := [(2, .qui), (4, .qui), (5, .qui), (6, .qui), (3, .chn), (7, .chn), (8, .qui), (9, .seq), (10, .seq)]) (T := 22) (b := b1) (o' := 0) (k := 0) (v := .slice a0C C.voters.length k0C) (by as_aux_lemma => kernel_rfl) (H.cells 2 rfl) rfl (by as_aux_lemma => kernel_rfl) ?_
          refine RW.runP 2 [4, 6, 83, 84, 86] [(5, .qui), (6, .qui), (3, .chn), (7, .chn), (8, .qui), (9, .seq), (10, .seq)] [(4, .pointer (some ⟨b5, 0, none⟩)), (6, .int .i64 Z.node), (83, .slice a0C C.voters.length k0C), (84, .int .i64 Z.node), (86, .pointer (some ⟨b1, 1, none⟩))] (by as_aux_lemma => kernel_rfl) (by as_aux_lemma => kernel_rfl) ?_
          refine RW.load (κ := .qui) (d := some 87) (r := [(6, .qui), (3, .chn), (7, .chn), (8, .qui), (9, .seq), (10, .seq)]) (T := 22) (b := b1) (o' := 1) (k := 1) (v := .slice a1C C.learners.length k1C) (by as_aux_lemma => kernel_rfl) (H.cells 2 rfl) rfl (by as_aux_lemma => kernel_rfl) ?_
          refine RW.runP 1 [4, 83, 84, 87, 88] [(3, .chn), (7, .chn), (8, .qui), (9, .seq), (10, .seq)] [(4, .pointer (some ⟨b5, 0, none⟩)), (83, .slice a0C C.voters.length k0C), (84, .int .i64 Z.node), (87, .slice a1C C.learners.length k1C), (88, .int .i64 Z.node)] (by as_aux_lemma => kernel_rfl) (by as_aux_lemma => kernel_rfl) ?_
          refine RW.call (κ := .chn) (d := some 85) (r := [(7, .chn), (8, .qui), (9, .seq), (10, .seq)]) (g := 24) (args := #[.slice a0C C.voters.length k0C, .int .i64 Z.node]) (by as_aux_lemma => kernel_rfl) (nofun) (without_spec (H.rp 0 rfl) Z.node (by omega)) ?_
          rintro v143 w142 - H'
          have H := H.back (M1 := []) (W1 := []) H'
          obtain ⟨a144, c145, rfl, hc146, hm147⟩ := H.ownForm 0 rfl
          have H : Hp w S [] [(b5, .cells #[.slice none 0 0, .slice none 0 0] 24 (0, 0)), (b3, .cells #[.int .i64 Z.kind, .int .i64 Z.node] 34 (0, 0)), (b1, .cells #[.slice a0C C.voters.length k0C, .slice a1C C.learners.length k1C] 24 (0, 0))] [⟨Shape.int .i64, 3, .slice a144 ((drp Z.node C.voters).length) c145, drp Z.node C.voters⟩] [Rp (Shape.slice (Shape.int .i64)) [.slice a0C C.voters.length k0C] C.voters, Rp (Shape.slice (Shape.int .i64)) [.slice a1C C.learners.length k1C] C.learners] _ := H
          refine RW.call (κ := .chn) (d := some 89) (r := [(8, .qui), (9, .seq), (10, .seq)]) (g := 24) (args := #[.slice a1C C.learners.length k1C, .int .i64 Z.node]) (by as_aux_lemma => kernel_rfl) (nofun) (without_spec (H.rp 1 rfl) Z.node (by omega)) ?_
          rintro v149 w148 - H'
          have H := H.back (M1 := []) (W1 := []) H'
          obtain ⟨a150, c151, rfl, hc152, hm153⟩ := H.ownForm 0 rfl
          have H : Hp w S [] [(b5, .cells #[.slice none 0 0, .slice none 0 0] 24 (0, 0)), (b3, .cells #[.int .i64 Z.kind, .int .i64 Z.node] 34 (0, 0)), (b1, .cells #[.slice a0C C.voters.length k0C, .slice a1C C.learners.length k1C] 24 (0, 0))] [⟨Shape.int .i64, 3, .slice a150 ((drp Z.node C.learners).length) c151, drp Z.node C.learners⟩, ⟨Shape.int .i64, 3, .slice a144 ((drp Z.node C.voters).length) c145, drp Z.node C.voters⟩] [Rp (Shape.slice (Shape.int .i64)) [.slice a0C C.voters.length k0C] C.voters, Rp (Shape.slice (Shape.int .i64)) [.slice a1C C.learners.length k1C] C.learners] _ := H
          refine RW.runP 1 [4, 90] [(9, .seq), (10, .seq)] [(4, .pointer (some ⟨b5, 0, none⟩)), (90, .agg #[.slice a144 ((drp Z.node C.voters).length) c145, .slice a150 ((drp Z.node C.learners).length) c151])] (by as_aux_lemma => kernel_rfl) (by as_aux_lemma => kernel_rfl) ?_
          refine RW.store (d := none) (r := [(10, .seq)]) (T := 24) (b := b5) (k := 0) (v := .agg #[.slice a144 ((drp Z.node C.voters).length) c145, .slice a150 ((drp Z.node C.learners).length) c151]) (c' := #[.slice a144 ((drp Z.node C.voters).length) c145, .slice a150 ((drp Z.node C.learners).length) c151]) (M' := [(b5, .cells #[.slice a144 ((drp Z.node C.voters).length) c145, .slice a150 ((drp Z.node C.learners).length) c151] 24 (0, 0)), (b3, .cells #[.int .i64 Z.kind, .int .i64 Z.node] 34 (0, 0)), (b1, .cells #[.slice a0C C.voters.length k0C, .slice a1C C.learners.length k1C] 24 (0, 0))]) (by as_aux_lemma => kernel_rfl) H 0 rfl (by as_aux_lemma => kernel_rfl) (by as_aux_lemma => kernel_rfl) ?_
          intro w154 H
          refine RW.fin 1 [4, 5] [(4, .pointer (some ⟨b5, 0, none⟩)), (5, .int .i64 0)] (by as_aux_lemma => kernel_rfl) ?_
          refine WK.retBy (v := .tuple #[.agg #[.slice a144 ((drp Z.node C.voters).length) c145, .slice a150 ((drp Z.node C.learners).length) c151], .int .i64 0]) Try.func13 (by as_aux_lemma => kernel_rfl) (RV.res2 (x := .cell 4 24) (y := .tmp 5) (by as_aux_lemma => kernel_rfl) (RV.cell (k := 0) (by as_aux_lemma => kernel_rfl) (H.cells 0 rfl) rfl (by as_aux_lemma => kernel_rfl)) (RV.tmp (by as_aux_lemma => kernel_rfl))) ?_
          have H : Hp w S [] [(b5, .cells #[.slice a144 ((drp Z.node C.voters).length) c145, .slice a150 ((drp Z.node C.learners).length) c151] 24 (0, 0)), (b3, .cells #[.int .i64 Z.kind, .int .i64 Z.node] 34 (0, 0)), (b1, .cells #[.slice a0C C.voters.length k0C, .slice a1C C.learners.length k1C] 24 (0, 0))] [⟨Shape.int .i64, 3, .slice a150 ((drp Z.node C.learners).length) c151, drp Z.node C.learners⟩] [Rp (Shape.slice (Shape.int .i64)) [.slice a144 ((drp Z.node C.voters).length) c145] (drp Z.node C.voters), Rp (Shape.slice (Shape.int .i64)) [.slice a0C C.voters.length k0C] C.voters, Rp (Shape.slice (Shape.int .i64)) [.slice a1C C.learners.length k1C] C.learners] _ := H.freezeW 1 rfl
          have H : Hp w S [] [(b5, .cells #[.slice a144 ((drp Z.node C.voters).length) c145, .slice a150 ((drp Z.node C.learners).length) c151] 24 (0, 0)), (b3, .cells #[.int .i64 Z.kind, .int .i64 Z.node] 34 (0, 0)), (b1, .cells #[.slice a0C C.voters.length k0C, .slice a1C C.learners.length k1C] 24 (0, 0))] [] [Rp (Shape.slice (Shape.int .i64)) [.slice a150 ((drp Z.node C.learners).length) c151] (drp Z.node C.learners), Rp (Shape.slice (Shape.int .i64)) [.slice a144 ((drp Z.node C.voters).length) c145] (drp Z.node C.voters), Rp (Shape.slice (Shape.int .i64)) [.slice a0C C.voters.length k0C] C.voters, Rp (Shape.slice (Shape.int .i64)) [.slice a1C C.learners.length k1C] C.learners] _ := H.freezeW 0 rfl
          refine ⟨_, rfl, H.done, [.slice a144 ((drp Z.node C.voters).length) c145, .slice a150 ((drp Z.node C.learners).length) c151], ⟨drp Z.node C.voters, drp Z.node C.learners⟩, 0, rfl, H.out (conf_mk (H.rp 1 rfl) (H.rp 0 rfl)), ?_⟩
          clear H
          symm
          unfold stepOf stepOk
          first | (simp [*]; done) | (simp [*]; omega)
         ·
          replace h140 := of_decide_eq_false h140
          refine RW.runP 2 [2, 4, 6, 70, 72, 74] (sq 8 16) [(2, .pointer (some ⟨b1, 0, none⟩)), (4, .pointer (some ⟨b5, 0, none⟩)), (6, .int .i64 Z.node), (70, .bool true), (72, .bool false), (74, .bool (decide (Z.node ∈ C.voters)))] (by as_aux_lemma => kernel_rfl) (by as_aux_lemma => kernel_rfl) ?_
          refine RW.test (fun b_ => [(2, .pointer (some ⟨b1, 0, none⟩)), (4, .pointer (some ⟨b5, 0, none⟩)), (6, .int .i64 Z.node), (70, .bool true), (72, .bool false), (74, .bool b_)]) (decide (Z.node ∈ C.voters)) (fun h155 => ?_) (fun h155 => ?_)
          ·
           replace h155 := of_decide_eq_true h155
           refine RW.runP 1 [2, 4, 6, 70, 72, 74, 75] (sq 9 16) [(2, .pointer (some ⟨b1, 0, none⟩)), (4, .pointer (some ⟨b5, 0, none⟩)), (6, .int .i64 Z.node), (70, .bool true), (72, .bool false), (74, .bool true), (75, .pointer (some ⟨b1, 0, none⟩))] (by as_aux_lemma => kernel_rfl) (by as_aux_lemma => kernel_rfl) ?_
           refine RW.load (κ := .seq) (d := some 76) (r := (sq 10 16)) (T := 22) (b := b1) (o' := 0) (k := 0) (v := .slice a0C C.voters.length k0C) (by as_aux_lemma => kernel_rfl) (H.cells 2 rfl) rfl (by as_aux_lemma => kernel_rfl) ?_
           refine RW.fin 6 [2, 4, 6, 66] [(2, .pointer (some ⟨b1, 0, none⟩)), (4, .pointer (some ⟨b5, 0, none⟩)), (6, .int .i64 Z.node), (66, .bool (decide ((((C.voters.length : Nat) : Int) : Int) > 1)))] (by as_aux_lemma => kernel_rfl) ?_
           refine WK.cond1 (decide ((((C.voters.length : Nat) : Int) : Int) > 1)) (by as_aux_lemma => kernel_rfl) (by as_aux_lemma => kernel_rfl) (fun h156 => ?_) (fun h156 => ?_)
           ·
            replace h156 := of_decide_eq_true h156
            refine WK.run 1 [2, 4, 6] [.code (cd Try.prog 13 [3, 0, 0, 1, 1, 1, 1, 1, 1, 1, 0, 0]), .code (cd Try.prog 13 [3, 0, 0, 1, 1, 1, 1, 1, 1, 1, 0, 1]), .inBlock 0, .code (cd Try.prog 13 [4])] [(2, .pointer (some ⟨b1, 0, none⟩)), (4, .pointer (some ⟨b5, 0, none⟩)), (6, .int .i64 Z.node)] (by as_aux_lemma => kernel_rfl) ?_
            refine WK.draw1 9 [(0, .qui), (1, .qui), (2, .qui), (4, .qui), (5, .qui), (6, .qui), (3, .chn), (7, .chn), (8, .qui)] [(0, .qui), (1, .qui), (2, .qui), (4, .qui), (5, .qui), (6, .qui), (3, .chn), (7, .chn), (8, .qui), (9, .seq), (10, .seq)] Try_mixed (by as_aux_lemma => kernel_rfl) (by as_aux_lemma => kernel_rfl) (by as_aux_lemma => kernel_rfl) ?_
            have H := H.draw
            generalize ({ w12 with drawn := w12.drawn + 1 } : World) = w157 at H ⊢
            refine RW.runP 1 [2, 4, 6, 82] [(1, .qui), (2, .qui), (4, .qui), (5, .qui), (6, .qui), (3, .chn), (7, .chn), (8, .qui), (9, .seq), (10, .seq)] [(2, .pointer (some ⟨b1, 0, none⟩)), (4, .pointer (some ⟨b5, 0, none⟩)), (6, .int .i64 Z.node), (82, .pointer (some ⟨b1, 0, none⟩))] (by as_aux_lemma => kernel_rfl) (by as_aux_lemma => kernel_rfl) ?_
            refine RW.load (κ := .qui) (d := some 83) (r := [(2, .qui), (4, .qui), (5, .qui), (6, .qui), (3, .chn), (7, .chn), (8, .qui), (9, .seq), (10, .seq)]) (T := 22) (b := b1) (o' := 0) (k := 0) (v := .slice a0C C.voters.length k0C) (by as_aux_lemma => kernel_rfl) (H.cells 2 rfl) rfl (by as_aux_lemma => kernel_rfl) ?_
            refine RW.runP 2 [4, 6, 83, 84, 86] [(5, .qui), (6, .qui), (3, .chn), (7, .chn), (8, .qui), (9, .seq), (10, .seq)] [(4, .pointer (some ⟨b5, 0, none⟩)), (6, .int .i64 Z.node), (83, .slice a0C C.voters.length k0C), (84, .int .i64 Z.node), (86, .pointer (some ⟨b1, 1, none⟩))] (by as_aux_lemma => kernel_rfl) (by as_aux_lemma => kernel_rfl) ?_
            refine RW.load (κ := .qui) (d := some 87) (r := [(6, .qui), (3, .chn), (7, .chn), (8, .qui), (9, .seq), (10, .seq)]) (T := 22) (b := b1) (o' := 1) (k := 1) (v := .slice a1C C.learners.length k1C) (by as_aux_lemma => kernel_rfl) (H.cells 2 rfl) rfl (by as_aux_lemma => kernel_rfl) ?_
            refine RW.runP 1 [4, 83, 84, 87, 88] [(3, .chn), (7, .chn), (8, .qui), (9, .seq), (10, .seq)] [(4, .pointer (some ⟨b5, 0, none⟩)), (83, .slice a0C C.voters.length k0C), (84, .int .i64 Z.node), (87, .slice a1C C.learners.length k1C), (88, .int .i64 Z.node)] (by as_aux_lemma => kernel_rfl) (by as_aux_lemma => kernel_rfl) ?_
            refine RW.call (κ := .chn) (d := some 85) (r := [(7, .chn), (8, .qui), (9, .seq), (10, .seq)]) (g := 24) (args := #[.slice a0C C.voters.length k0C, .int .i64 Z.node]) (by as_aux_lemma => kernel_rfl) (nofun) (without_spec (H.rp 0 rfl) Z.node (by omega)) ?_
            rintro v159 w158 - H'
            have H := H.back (M1 := []) (W1 := []) H'
            obtain ⟨a160, c161, rfl, hc162, hm163⟩ := H.ownForm 0 rfl
            have H : Hp w S [] [(b5, .cells #[.slice none 0 0, .slice none 0 0] 24 (0, 0)), (b3, .cells #[.int .i64 Z.kind, .int .i64 Z.node] 34 (0, 0)), (b1, .cells #[.slice a0C C.voters.length k0C, .slice a1C C.learners.length k1C] 24 (0, 0))] [⟨Shape.int .i64, 3, .slice a160 ((drp Z.node C.voters).length) c161, drp Z.node C.voters⟩] [Rp (Shape.slice (Shape.int .i64)) [.slice a0C C.voters.length k0C] C.voters, Rp (Shape.slice (Shape.int .i64)) [.slice a1C C.learners.length k1C] C.learners] _ := H
            refine RW.call (κ := .chn) (d := some 89) (r := [(8, .qui), (9, .seq), (10, .seq)]) (g := 24) (args := #[.slice a1C C.learners.length k1C, .int .i64 Z.node]) (by as_aux_lemma => kernel_rfl) (nofun) (without_spec (H.rp 1 rfl) Z.node (by omega)) ?_
            rintro v165 w164 - H'
            have H := H.back (M1 := []) (W1 := []) H'
            obtain ⟨a166, c167, rfl, hc168, hm169⟩ := H.ownForm 0 rfl
            have H : Hp w S [] [(b5, .cells #[.slice none 0 0, .slice none 0 0] 24 (0, 0)), (b3, .cells #[.int .i64 Z.kind, .int .i64 Z.node] 34 (0, 0)), (b1, .cells #[.slice a0C C.voters.length k0C, .slice a1C C.learners.length k1C] 24 (0, 0))] [⟨Shape.int .i64, 3, .slice a166 ((drp Z.node C.learners).length) c167, drp Z.node C.learners⟩, ⟨Shape.int .i64, 3, .slice a160 ((drp Z.node C.voters).length) c161, drp Z.node C.voters⟩] [Rp (Shape.slice (Shape.int .i64)) [.slice a0C C.voters.length k0C] C.voters, Rp (Shape.slice (Shape.int .i64)) [.slice a1C C.learners.length k1C] C.learners] _ := H
            refine RW.runP 1 [4, 90] [(9, .seq), (10, .seq)] [(4, .pointer (some ⟨b5, 0, none⟩)), (90, .agg #[.slice a160 ((drp Z.node C.voters).length) c161, .slice a166 ((drp Z.node C.learners).length) c167])] (by as_aux_lemma => kernel_rfl) (by as_aux_lemma => kernel_rfl) ?_
            refine RW.store (d := none) (r := [(10, .seq)]) (T := 24) (b := b5) (k := 0) (v := .agg #[.slice a160 ((drp Z.node C.voters).length) c161, .slice a166 ((drp Z.node C.learners).length) c167]) (c' := #[.slice a160 ((drp Z.node C.voters).length) c161, .slice a166 ((drp Z.node C.learners).length) c167]) (M' := [(b5, .cells #[.slice a160 ((drp Z.node C.voters).length) c161, .slice a166 ((drp Z.node C.learners).length) c167] 24 (0, 0)), (b3, .cells #[.int .i64 Z.kind, .int .i64 Z.node] 34 (0, 0)), (b1, .cells #[.slice a0C C.voters.length k0C, .slice a1C C.learners.length k1C] 24 (0, 0))]) (by as_aux_lemma => kernel_rfl) H 0 rfl (by as_aux_lemma => kernel_rfl) (by as_aux_lemma => kernel_rfl) ?_
            intro w170 H
            refine RW.fin 1 [4, 5] [(4, .pointer (some ⟨b5, 0, none⟩)), (5, .int .i64 0)] (by as_aux_lemma => kernel_rfl) ?_
            refine WK.retBy (v := .tuple #[.agg #[.slice a160 ((drp Z.node C.voters).length) c161, .slice a166 ((drp Z.node C.learners).length) c167], .int .i64 0]) Try.func13 (by as_aux_lemma => kernel_rfl) (RV.res2 (x := .cell 4 24) (y := .tmp 5) (by as_aux_lemma => kernel_rfl) (RV.cell (k := 0) (by as_aux_lemma => kernel_rfl) (H.cells 0 rfl) rfl (by as_aux_lemma => kernel_rfl)) (RV.tmp (by as_aux_lemma => kernel_rfl))) ?_
            have H : Hp w S [] [(b5, .cells #[.slice a160 ((drp Z.node C.voters).length) c161, .slice a166 ((drp Z.node C.learners).length) c167] 24 (0, 0)), (b3, .cells #[.int .i64 Z.kind, .int .i64 Z.node] 34 (0, 0)), (b1, .cells #[.slice a0C C.voters.length k0C, .slice a1C C.learners.length k1C] 24 (0, 0))] [⟨Shape.int .i64, 3, .slice a166 ((drp Z.node C.learners).length) c167, drp Z.node C.learners⟩] [Rp (Shape.slice (Shape.int .i64)) [.slice a160 ((drp Z.node C.voters).length) c161] (drp Z.node C.voters), Rp (Shape.slice (Shape.int .i64)) [.slice a0C C.voters.length k0C] C.voters, Rp (Shape.slice (Shape.int .i64)) [.slice a1C C.learners.length k1C] C.learners] _ := H.freezeW 1 rfl
            have H : Hp w S [] [(b5, .cells #[.slice a160 ((drp Z.node C.voters).length) c161, .slice a166 ((drp Z.node C.learners).length) c167] 24 (0, 0)), (b3, .cells #[.int .i64 Z.kind, .int .i64 Z.node] 34 (0, 0)), (b1, .cells #[.slice a0C C.voters.length k0C, .slice a1C C.learners.length k1C] 24 (0, 0))] [] [Rp (Shape.slice (Shape.int .i64)) [.slice a166 ((drp Z.node C.learners).length) c167] (drp Z.node C.learners), Rp (Shape.slice (Shape.int .i64)) [.slice a160 ((drp Z.node C.voters).length) c161] (drp Z.node C.voters), Rp (Shape.slice (Shape.int .i64)) [.slice a0C C.voters.length k0C] C.voters, Rp (Shape.slice (Shape.int .i64)) [.slice a1C C.learners.length k1C] C.learners] _ := H.freezeW 0 rfl
            refine ⟨_, rfl, H.done, [.slice a160 ((drp Z.node C.voters).length) c161, .slice a166 ((drp Z.node C.learners).length) c167], ⟨drp Z.node C.voters, drp Z.node C.learners⟩, 0, rfl, H.out (conf_mk (H.rp 1 rfl) (H.rp 0 rfl)), ?_⟩
            clear H
            symm
            unfold stepOf stepOk
            first | (simp [*]; done) | (simp [*]; omega)
           ·
            replace h156 := of_decide_eq_false h156
            refine WK.run 3 [4] [.code (cd Try.prog 13 [4, 0]), .code (cd Try.prog 13 [5])] [(4, .pointer (some ⟨b5, 0, none⟩))] (by as_aux_lemma => kernel_rfl) ?_
            refine WK.reg1 (l := sq 0 3) (by as_aux_lemma => kernel_rfl) (by as_aux_lemma => kernel_rfl) ?_
            refine RW.runP 1 [4, 91] (sq 1 3) [(4, .pointer (some ⟨b5, 0, none⟩)), (91, .agg #[.slice none 0 0, .slice none 0 0])] (by as_aux_lemma => kernel_rfl) (by as_aux_lemma => kernel_rfl) ?_
            refine RW.store (d := none) (r := (sq 2 3)) (T := 24) (b := b5) (k := 0) (v := .agg #[.slice none 0 0, .slice none 0 0]) (c' := #[.slice none 0 0, .slice none 0 0]) (M' := [(b5, .cells #[.slice none 0 0, .slice none 0 0] 24 (0, 0)), (b3, .cells #[.int .i64 Z.kind, .int .i64 Z.node] 34 (0, 0)), (b1, .cells #[.slice a0C C.voters.length k0C, .slice a1C C.learners.length k1C] 24 (0, 0))]) (by as_aux_lemma => kernel_rfl) H 0 rfl (by as_aux_lemma => kernel_rfl) (by as_aux_lemma => kernel_rfl) ?_
            intro w171 H
            refine RW.fin 1 [4, 5] [(4, .pointer (some ⟨b5, 0, none⟩)), (5, .int .i64 120)] (by as_aux_lemma => kernel_rfl) ?_
            refine WK.retBy (v := .tuple #[.agg #[.slice none 0 0, .slice none 0 0], .int .i64 120]) Try.func13 (by as_aux_lemma => kernel_rfl) (RV.res2 (x := .cell 4 24) (y := .tmp 5) (by as_aux_lemma => kernel_rfl) (RV.cell (k := 0) (by as_aux_lemma => kernel_rfl) (H.cells 0 rfl) rfl (by as_aux_lemma => kernel_rfl)) (RV.tmp (by as_aux_lemma => kernel_rfl))) ?_
            refine ⟨_, rfl, H.done, [.slice none 0 0, .slice none 0 0], ⟨[], []⟩, 120, rfl, H.out (conf_mk Shape.slice_nil Shape.slice_nil), ?_⟩
            clear H
            symm
            unfold stepOf stepOk
            first | (simp [*]; done) | (simp [*]; omega)
          ·
           replace h155 := of_decide_eq_false h155
           refine RW.fin 8 [2, 4, 6, 66] [(2, .pointer (some ⟨b1, 0, none⟩)), (4, .pointer (some ⟨b5, 0, none⟩)), (6, .int .i64 Z.node), (66, .bool false)] (by as_aux_lemma => kernel_rfl) ?_
           refine WK.run 4 [4] [.code (cd Try.prog 13 [4, 0]), .code (cd Try.prog 13 [5])] [(4, .pointer (some ⟨b5, 0, none⟩))] (by as_aux_lemma => kernel_rfl) ?_
           refine WK.reg1 (l := sq 0 3) (by as_aux_lemma => kernel_rfl) (by as_aux_lemma => kernel_rfl) ?_
           refine RW.runP 1 [4, 91] (sq 1 3) [(4, .pointer (some ⟨b5, 0, none⟩)), (91, .agg #[.slice none 0 0, .slice none 0 0])] (by as_aux_lemma => kernel_rfl) (by as_aux_lemma => kernel_rfl) ?_
           refine RW.store (d := none) (r := (sq 2 3)) (T := 24) (b := b5) (k := 0) (v := .agg #[.slice none 0 0, .slice none 0 0]) (c' := #[.slice none 0 0, .slice none 0 0]) (M' := [(b5, .cells #[.slice none 0 0, .slice none 0 0] 24 (0, 0)), (b3, .cells #[.int .i64 Z.kind, .int .i64 Z.node] 34 (0, 0)), (b1, .cells #[.slice a0C C.voters.length k0C, .slice a1C C.learners.length k1C] 24 (0, 0))]) (by as_aux_lemma => kernel_rfl) H 0 rfl (by as_aux_lemma => kernel_rfl) (by as_aux_lemma => kernel_rfl) ?_
           intro w172 H
           refine RW.fin 1 [4, 5] [(4, .pointer (some ⟨b5, 0, none⟩)), (5, .int .i64 120)] (by as_aux_lemma => kernel_rfl) ?_
           refine WK.retBy (v := .tuple #[.agg #[.slice none 0 0, .slice none 0 0], .int .i64 120]) Try.func13 (by as_aux_lemma => kernel_rfl) (RV.res2 (x := .cell 4 24) (y := .tmp 5) (by as_aux_lemma => kernel_rfl) (RV.cell (k := 0) (by as_aux_lemma => kernel_rfl) (H.cells 0 rfl) rfl (by as_aux_lemma => kernel_rfl)) (RV.tmp (by as_aux_lemma => kernel_rfl))) ?_
           refine ⟨_, rfl, H.done, [.slice none 0 0, .slice none 0 0], ⟨[], []⟩, 120, rfl, H.out (conf_mk Shape.slice_nil Shape.slice_nil), ?_⟩
           clear H
           symm
           unfold stepOf stepOk
           first | (simp [*]; done) | (simp [*]; omega)
        ·
         replace h139 := ne_of_beq_false h139
         refine RW.fin 12 [2, 4, 6, 66] [(2, .pointer (some ⟨b1, 0, none⟩)), (4, .pointer (some ⟨b5, 0, none⟩)), (6, .int .i64 Z.node), (66, .bool false)] (by as_aux_lemma => kernel_rfl) ?_
         refine WK.run 4 [4] [.code (cd Try.prog 13 [4, 0]), .code (cd Try.prog 13 [5])] [(4, .pointer (some ⟨b5, 0, none⟩))] (by as_aux_lemma => kernel_rfl) ?_
         refine WK.reg1 (l := sq 0 3) (by as_aux_lemma => kernel_rfl) (by as_aux_lemma => kernel_rfl) ?_
         refine RW.runP 1 [4, 91] (sq 1 3) [(4, .pointer (some ⟨b5, 0, none⟩)), (91, .agg #[.slice none 0 0, .slice none 0 0])] (by as_aux_lemma => kernel_rfl) (by as_aux_lemma => kernel_rfl) ?_
         refine RW.store (d := none) (r := (sq 2 3)) (T := 24) (b := b5) (k := 0) (v := .agg #[.slice none 0 0, .slice none 0 0]) (c' := #[.slice none 0 0, .slice none 0 0]) (M' := [(b5, .cells #[.slice none 0 0, .slice none 0 0] 24 (0, 0)), (b3, .cells #[.int .i64 Z.kind, .int .i64 Z.node] 34 (0, 0)), (b1, .cells #[.slice a0C C.voters.length k0C, .slice a1C C.learners.length k1C] 24 (0, 0))]) (by as_aux_lemma => kernel_rfl) H 0 rfl (by as_aux_lemma => kernel_rfl) (by as_aux_lemma => kernel_rfl) ?_
         intro w173 H
         refine RW.fin 1 [4, 5] [(4, .pointer (some ⟨b5, 0, none⟩)), (5, .int .i64 120)] (by as_aux_lemma => kernel_rfl) ?_
         refine WK.retBy (v := .tuple #[.agg #[.slice none 0 0, .slice none 0 0], .int .i64 120]) Try.func13 (by as_aux_lemma => kernel_rfl) (RV.res2 (x := .cell 4 24) (y := .tmp 5) (by as_aux_lemma => kernel_rfl) (RV.cell (k := 0) (by as_aux_lemma => kernel_rfl) (H.cells 0 rfl) rfl (by as_aux_lemma => kernel_rfl)) (RV.tmp (by as_aux_lemma => kernel_rfl))) ?_
         refine ⟨_, rfl, H.done, [.slice none 0 0, .slice none 0 0], ⟨[], []⟩, 120, rfl, H.out (conf_mk Shape.slice_nil Shape.slice_nil), ?_⟩
         clear H
         symm
         unfold stepOf stepOk
         first | (simp [*]; done) | (simp [*]; omega)
      ·
       replace h123 := ne_of_beq_false h123
       refine RW.fin 3 [2, 3, 4, 6, 7, 8, 50] [(2, .pointer (some ⟨b1, 0, none⟩)), (3, .pointer (some ⟨b3, 0, none⟩)), (4, .pointer (some ⟨b5, 0, none⟩)), (6, .int .i64 Z.node), (7, .bool (decide (Z.node ∈ C.voters))), (8, .bool (decide (Z.node ∈ C.learners))), (50, .bool false)] (by as_aux_lemma => kernel_rfl) ?_
       refine WK.run 2 [2, 3, 4, 6, 7, 8] [.code (cd Try.prog 13 [3, 0, 0, 1, 1, 1, 1, 1, 1, 0]), .code (cd Try.prog 13 [3, 0, 0, 1, 1, 1, 1, 1, 1, 1]), .inBlock 0, .code (cd Try.prog 13 [4])] [(2, .pointer (some ⟨b1, 0, none⟩)), (3, .pointer (some ⟨b3, 0, none⟩)), (4, .pointer (some ⟨b5, 0, none⟩)), (6, .int .i64 Z.node), (7, .bool (decide (Z.node ∈ C.voters))), (8, .bool (decide (Z.node ∈ C.learners)))] (by as_aux_lemma => kernel_rfl) ?_
       refine WK.reg1 (l := sq 0 16) (by as_aux_lemma => kernel_rfl) (by as_aux_lemma => kernel_rfl) ?_
       refine RW.runP 1 [2, 4, 6, 7, 8, 67] (sq 1 16) [(2, .pointer (some ⟨b1, 0, none⟩)), (4, .pointer (some ⟨b5, 0, none⟩)), (6, .int .i64 Z.node), (7, .bool (decide (Z.node ∈ C.voters))), (8, .bool (decide (Z.node ∈ C.learners))), (67, .pointer (some ⟨b3, 0, none⟩))] (by as_aux_lemma => kernel_rfl) (by as_aux_lemma => kernel_rfl) ?_
       refine RW.load (κ := .seq) (d := some 68) (r := (sq 2 16)) (T := 32) (b := b3) (o' := 0) (k := 0) (v := .int .i64 Z.kind) (by as_aux_lemma => kernel_rfl) (H.cells 1 rfl) rfl (by as_aux_lemma => kernel_rfl) ?_
       refine RW.runP 2 [2, 4, 6, 7, 8, 70] (sq 4 16) [(2, .pointer (some ⟨b1, 0, none⟩)), (4, .pointer (some ⟨b5, 0, none⟩)), (6, .int .i64 Z.node), (7, .bool (decide (Z.node ∈ C.voters))), (8, .bool (decide (Z.node ∈ C.learners))), (70, .bool (Z.kind == 3))] (by as_aux_lemma => kernel_rfl) (by as_aux_lemma => kernel_rfl) ?_
       refine RW.test (fun b_ => [(2, .pointer (some ⟨b1, 0, none⟩)), (4, .pointer (some ⟨b5, 0, none⟩)), (6, .int .i64 Z.node), (7, .bool (decide (Z.node ∈ C.voters))), (8, .bool (decide (Z.node ∈ C.learners))), (70, .bool b_)]) (Z.kind == 3) (fun h174 => ?_) (fun h174 => ?_)
       ·
        replace h174 := eq_of_beq h174
        refine RW.runP 2 [2, 4, 6, 7, 70, 72] (sq 6 16) [(2, .pointer (some ⟨b1, 0, none⟩)), (4, .pointer (some ⟨b5, 0, none⟩)), (6, .int .i64 Z.node), (7, .bool (decide (Z.node ∈ C.voters))), (70, .bool true), (72, .bool (decide (Z.node ∈ C.learners)))] (by as_aux_lemma => kernel_rfl) (by as_aux_lemma => kernel_rfl) ?_
        refine RW.test (fun b_ => [(2, .pointer (some ⟨b1, 0, none⟩)), (4, .pointer (some ⟨b5, 0, none⟩)), (6, .int .i64 Z.node), (7, .bool (decide (Z.node ∈ C.voters))), (70, .bool true), (72, .bool b_)]) (decide (Z.node ∈ C.learners)) (fun h175 => ?_) (fun h175 => ?_)
        ·
         replace h175 := of_decide_eq_true h175
         refine RW.fin 10 [2, 4, 6, 66] [(2, .pointer (some ⟨b1, 0, none⟩)), (4, .pointer (some ⟨b5, 0, none⟩)), (6, .int .i64 Z.node), (66, .bool true)] (by as_aux_lemma => kernel_rfl) ?_
         refine WK.run 2 [2, 4, 6] [.code (cd Try.prog 13 [3, 0, 0, 1, 1, 1, 1, 1, 1, 1, 0, 0]), .code (cd Try.prog 13 [3, 0, 0, 1, 1, 1, 1, 1, 1, 1, 0, 1]), .inBlock 0, .code (cd Try.prog 13 [4])] [(2, .pointer (some ⟨b1, 0, none⟩)), (4, .pointer (some ⟨b5, 0, none⟩)), (6, .int .i64 Z.node)] (by as_aux_lemma => kernel_rfl) ?_
         refine WK.draw1 9 [(0, .qui), (1, .qui), (2, .qui), (4, .qui), (5, .qui), (6, .qui), (3, .chn), (7, .chn), (8, .qui)] [(0, .qui), (1, .qui), (2, .qui), (4, .qui), (5, .qui), (6, .qui), (3, .chn), (7, .chn), (8, .qui), (9, .seq), (10, .seq)] Try_mixed (by as_aux_lemma => kernel_rfl) (by as_aux_lemma => kernel_rfl) (by as_aux_lemma => kernel_rfl) ?_
         have H := H.draw
         generalize ({ w12 with drawn := w12.drawn + 1 } : World) = w176 at H ⊢
         refine RW.runP 1 [2, 4, 6, 82] [(1, .qui), (2, .qui), (4, .qui), (5, .qui), (6, .qui), (3, .chn), (7, .chn), (8, .qui), (9, .seq), (10, .seq)] [(2, .pointer (some ⟨b1, 0, none⟩)), (4, .pointer (some ⟨b5, 0, none⟩)), (6, .int .i64 Z.node), (82, .pointer (some ⟨b1, 0, none⟩))] (by as_aux_lemma => kernel_rfl) (by as_aux_lemma => kernel_rfl) ?_
         refine RW.load (κ := .qui) (d := some 83) (r := [(2, .qui), (4, .qui), (5, .qui), (6, .qui), (3, .chn), (7, .chn), (8, .qui), (9, .seq), (10, .seq)]) (T := 22) (b := b1) (o' := 0) (k := 0) (v := .slice a0C C.voters.length k0C) (by as_aux_lemma => kernel_rfl) (H.cells 2 rfl) rfl (by as_aux_lemma => kernel_rfl) ?_
         refine RW.runP 2 [4, 6, 83, 84, 86] [(5, .qui), (6, .qui), (3, .chn), (7, .chn), (8, .qui), (9, .seq), (10, .seq)] [(4, .pointer (some ⟨b5, 0, none⟩)), (6, .int .i64 Z.node), (83, .slice a0C C.voters.length k0C), (84, .int .i64 Z.node), (86, .pointer (some ⟨b1, 1, none⟩))] (by as_aux_lemma => kernel_rfl) (by as_aux_lemma => kernel_rfl) ?_
         refine RW.load (κ := .qui) (d := some 87) (r := [(6, .qui), (3, .chn), (7, .chn), (8, .qui), (9, .seq), (10, .seq)]) (T := 22) (b := b1) (o' := 1) (k := 1) (v := .slice a1C C.learners.length k1C) (by as_aux_lemma => kernel_rfl) (H.cells 2 rfl) rfl (by as_aux_lemma => kernel_rfl) ?_
         refine RW.runP 1 [4, 83, 84, 87, 88] [(3, .chn), (7, .chn), (8, .qui), (9, .seq), (10, .seq)] [(4, .pointer (some ⟨b5, 0, none⟩)), (83, .slice a0C C.voters.length k0C), (84, .int .i64 Z.node), (87, .slice a1C C.learners.length k1C), (88, .int .i64 Z.node)] (by as_aux_lemma => kernel_rfl) (by as_aux_lemma => kernel_rfl) ?_
         refine RW.call (κ := .chn) (d := some 85) (r := [(7, .chn), (8, .qui), (9, .seq), (10, .seq)]) (g := 24) (args := #[.slice a0C C.voters.length k0C, .int .i64 Z.node]) (by as_aux_lemma => kernel_rfl) (nofun) (without_spec (H.rp 0 rfl) Z.node (by omega)) ?_
         rintro v178 w177 - H'
         have H := H.back (M1 := []) (W1 := []) H'
         obtain ⟨a179, c180, rfl, hc181, hm182⟩ := H.ownForm 0 rfl
         have H : Hp w S [] [(b5, .cells #[.slice none 0 0, .slice none 0 0] 24 (0, 0)), (b3, .cells #[.int .i64 Z.kind, .int .i64 Z.node] 34 (0, 0)), (b1, .cells #[.slice a0C C.voters.length k0C, .slice a1C C.learners.length k1C] 24 (0, 0))] [⟨Shape.int .i64, 3, .slice a179 ((drp Z.node C.voters).length) c180, drp Z.node C.voters⟩] [Rp (Shape.slice (Shape.int .i64)) [.slice a0C C.voters.length k0C] C.voters, Rp (Shape.slice (Shape.int .i64)) [.slice a1C C.learners.length k1C] C.learners] _ := H
         refine RW.call (κ := .chn) (d := some 89) (r := [(8, .qui), (9, .seq), (10, .seq)]) (g := 24) (args := #[.slice a1C C.learners.length k1C, .int .i64 Z.node]) (by as_aux_lemma => kernel_rfl) (nofun) (without_spec (H.rp 1 rfl) Z.node (by omega)) ?_
         rintro v184 w183 - H'
         have H := H.back (M1 := []) (W1 := []) H'
         obtain ⟨a185, c186, rfl, hc187, hm188⟩ := H.ownForm 0 rfl
         have H : Hp w S [] [(b5, .cells #[.slice none 0 0, .slice none 0 0] 24 (0, 0)), (b3, .cells #[.int .i64 Z.kind, .int .i64 Z.node] 34 (0, 0)), (b1, .cells #[.slice a0C C.voters.length k0C, .slice a1C C.learners.length k1C] 24 (0, 0))] [⟨Shape.int .i64, 3, .slice a185 ((drp Z.node C.learners).length) c186, drp Z.node C.learners⟩, ⟨Shape.int .i64, 3, .slice a179 ((drp Z.node C.voters).length) c180, drp Z.node C.voters⟩] [Rp (Shape.slice (Shape.int .i64)) [.slice a0C C.voters.length k0C] C.voters, Rp (Shape.slice (Shape.int .i64)) [.slice a1C C.learners.length k1C] C.learners] _ := H
         refine RW.runP 1 [4, 90] [(9, .seq), (10, .seq)] [(4, .pointer (some ⟨b5, 0, none⟩)), (90, .agg #[.slice a179 ((drp Z.node C.voters).length) c180, .slice a185 ((drp Z.node C.learners).length) c186])] (by as_aux_lemma => kernel_rfl) (by as_aux_lemma => kernel_rfl) ?_
         refine RW.store (d := none) (r := [(10, .seq)]) (T := 24) (b := b5) (k := 0) (v := .agg #[.slice a179 ((drp Z.node C.voters).length) c180, .slice a185 ((drp Z.node C.learners).length) c186]) (c' := #[.slice a179 ((drp Z.node C.voters).length) c180, .slice a185 ((drp Z.node C.learners).length) c186]) (M' := [(b5, .cells #[.slice a179 ((drp Z.node C.voters).length) c180, .slice a185 ((drp Z.node C.learners).length) c186] 24 (0, 0)), (b3, .cells #[.int .i64 Z.kind, .int .i64 Z.node] 34 (0, 0)), (b1, .cells #[.slice a0C C.voters.length k0C, .slice a1C C.learners.length k1C] 24 (0, 0))]) (by as_aux_lemma => kernel_rfl) H 0 rfl (by as_aux_lemma => kernel_rfl) (by as_aux_lemma => kernel_rfl) ?_
         intro w189 H
         refine RW.fin 1 [4, 5] [(4, .pointer (some ⟨b5, 0, none⟩)), (5, .int .i64 0)] (by as_aux_lemma => kernel_rfl) ?_
         refine WK.retBy (v := .tuple #[.agg #[.slice a179 ((drp Z.node C.voters).length) c180, .slice a185 ((drp Z.node C.learners).length) c186], .int .i64 0]) Try.func13 (by as_aux_lemma => kernel_rfl) (RV.res2 (x := .cell 4 24) (y := .tmp 5) (by as_aux_lemma => kernel_rfl) (RV.cell (k := 0) (by as_aux_lemma => kernel_rfl) (H.cells 0 rfl) rfl (by as_aux_lemma => kernel_rfl)) (RV.tmp (by as_aux_lemma => kernel_rfl))) ?_
         have H : Hp w S [] [(b5, .cells #[.slice a179 ((drp Z.node C.voters).length) c180, .slice a185 ((drp Z.node C.learners).length) c186] 24 (0, 0)), (b3, .cells #[.int .i64 Z.kind, .int .i64 Z.node] 34 (0, 0)), (b1, .cells #[.slice a0C C.voters.length k0C, .slice a1C C.learners.length k1C] 24 (0, 0))] [⟨Shape.int .i64, 3, .slice a185 ((drp Z.node C.learners).length) c186, drp Z.node C.learners⟩] [Rp (Shape.slice (Shape.int .i64)) [.slice a179 ((drp Z.node C.voters).length) c180] (drp Z.node C.voters), Rp (Shape.slice (Shape.int .i64)) [.slice a0C C.voters.length k0C] C.voters, Rp (Shape.slice (Shape.int .i64)) [.slice a1C C.learners.length k1C] C.learners] _ := H.freezeW 1 rfl
         have H : Hp w S [] [(b5, .cells #[.slice a179 ((drp Z.node C.voters).length) c180, .slice a185 ((drp Z.node C.learners).length) c186] 24 (0, 0)), (b3, .cells #[.int .i64 Z.kind, .int .i64 Z.node] 34 (0, 0)), (b1, .cells #[.slice a0C C.voters.length k0C, .slice a1C C.learners.length k1C] 24 (0, 0))] [] [Rp (Shape.slice (Shape.int .i64)) [.slice a185 ((drp Z.node C.learners).length) c186] (drp Z.node C.learners), Rp (Shape.slice (Shape.int .i64)) [.slice a179 ((drp Z.node C.voters).length) c180] (drp Z.node C.voters), Rp (Shape.slice (Shape.int .i64)) [.slice a0C C.voters.length k0C] C.voters, Rp (Shape.slice (Shape.int .i64)) [.slice a1C C.learners.length k1C] C.learners] _ := H.freezeW 0 rfl
         refine ⟨_, rfl, H.done, [.slice a179 ((drp Z.node C.voters).length) c180, .slice a185 ((drp Z.node C.learners).length) c186], ⟨drp Z.node C.voters, drp Z.node C.learners⟩, 0, rfl, H.out (conf_mk (H.rp 1 rfl) (H.rp 0 rfl)), ?_⟩
         clear H
         symm
         unfold stepOf stepOk
         first | (simp [*]; done) | (simp [*]; omega)
        ·
         replace h175 := of_decide_eq_false h175
         refine RW.runP 2 [2, 4, 6, 70, 72, 74] (sq 8 16) [(2, .pointer (some ⟨b1, 0, none⟩)), (4, .pointer (some ⟨b5, 0, none⟩)), (6, .int .i64 Z.node), (70, .bool true), (72, .bool false), (74, .bool (decide (Z.node ∈ C.voters)))] (by as_aux_lemma => kernel_rfl) (by as_aux_lemma => kernel_rfl) ?_
         refine RW.test (fun b_ => [(2, .pointer (some ⟨b1, 0, none⟩)), (4, .pointer (some ⟨b5, 0, none⟩)), (6, .int .i64 Z.node), (70, .bool true), (72, .bool false), (74, .bool b_)]) (decide (Z.node ∈ C.voters)) (fun h190 => ?_) (fun h190 => ?_)
         ·
          replace h190 := of_decide_eq_true h190
          refine RW.runP 1 [2, 4, 6, 70, 72, 74, 75] (sq 9 16) [(2, .pointer (some ⟨b1, 0, none⟩)), (4, .pointer (some ⟨b5, 0, none⟩)), (6, .int .i64 Z.node), (70, .bool true), (72, .bool false), (74, .bool true), (75, .pointer (some ⟨b1, 0, none⟩))] (by as_aux_lemma => kernel_rfl) (by as_aux_lemma => kernel_rfl) ?_
          refine RW.load (κ := .seq) (d := some 76) (r := (sq 10 16)) (T := 22) (b := b1) (o' := 0) (k := 0) (v := .slice a0C C.voters.length k0C) (by as_aux_lemma => kernel_rfl) (H.cells 2 rfl) rfl (by as_aux_lemma => kernel_rfl) ?_
          refine RW.fin 6 [2, 4, 6, 66] [(2, .pointer (some ⟨b1, 0, none⟩)), (4, .pointer (some ⟨b5, 0, none⟩)), (6, .int .i64 Z.node), (66, .bool (decide ((((C.voters.length : Nat) : Int) : Int) > 1)))] (by as_aux_lemma => kernel_rfl) ?_
          refine WK.cond1 (decide ((((C.voters.length : Nat) : Int) : Int) > 1)) (by as_aux_lemma => kernel_rfl) (by as_aux_lemma => kernel_rfl) (fun h191 => ?_) (fun h191 => ?_)
          ·
           replace h191 := of_decide_eq_true h191
           refine WK.run 1 [2, 4, 6] [.code (cd Try.prog 13 [3, 0, 0, 1, 1, 1, 1, 1, 1, 1, 0, 0]), .code (cd Try.prog 13 [3, 0, 0, 1, 1, 1, 1, 1, 1, 1, 0, 1]), .inBlock 0, .code (cd Try.prog 13 [4])] [(2, .pointer (some ⟨b1, 0, none⟩)), (4, .pointer (some ⟨b5, 0, none⟩)), (6, .int .i64 Z.node)] (by as_aux_lemma => kernel_rfl) ?_
           refine WK.draw1 9 [(0, .qui), (1, .qui), (2, .qui), (4, .qui), (5, .qui), (6, .qui), (3, .chn), (7, .chn), (8, .qui)] [(0, .qui), (1, .qui), (2, .qui), (4, .qui), (5, .qui), (6, .qui), (3, .chn), (7, .chn), (8, .qui), (9, .seq), (10, .seq)] Try_mixed (by as_aux_lemma => kernel_rfl) (by as_aux_lemma => kernel_rfl) (by as_aux_lemma => kernel_rfl) ?_
           have H := H.draw
           generalize ({ w12 with drawn := w12.drawn + 1 } : World) = w192 at H ⊢
           refine RW.runP 1 [2, 4, 6, 82] [(1, .qui), (2, .qui), (4, .qui), (5, .qui), (6, .qui), (3, .chn), (7, .chn), (8, .qui), (9, .seq), (10, .seq)] [(2, .pointer (some ⟨b1, 0, none⟩)), (4, .pointer (some ⟨b5, 0, none⟩)), (6, .int .i64 Z.node), (82, .pointer (some ⟨b1, 0, none⟩))] (by as_aux_lemma => kernel_rfl) (by as_aux_lemma => kernel_rfl) ?_
           refine RW.load (κ := .qui) (d := some 83) (r := [(2, .qui), (4, .qui), (5, .qui), (6, .qui), (3, .chn), (7, .chn), (8, .qui), (9, .seq), (10, .seq)]) (T := 22) (b := b1) (o' := 0) (k := 0) (v := .slice a0C C.voters.length k0C) (by as_aux_lemma => kernel_rfl) (H.cells 2 rfl) rfl (by as_aux_lemma => kernel_rfl) ?_
           refine RW.runP 2 [4, 6, 83, 84, 86] [(5, .qui), (6, .qui), (3, .chn), (7, .chn), (8, .qui), (9, .seq), (10, .seq)] [(4, .pointer (some ⟨b5, 0, none⟩)), (6, .int .i64 Z.node), (83, .slice a0C C.voters.length k0C), (84, .int .i64 Z.node), (86, .pointer (some ⟨b1, 1, none⟩))] (by as_aux_lemma => kernel_rfl) (by as_aux_lemma => kernel_rfl) ?_
           refine RW.load (κ := .qui) (d := some 87) (r := [(6, .qui), (3, .chn), (7, .chn), (8, .qui), (9, .seq), (10, .seq)]) (T := 22) (b := b1) (o' := 1) (k := 1) (v := .slice a1C C.learners.length k1C) (by as_aux_lemma => kernel_rfl) (H.cells 2 rfl) rfl (by as_aux_lemma => kernel_rfl) ?_
           refine RW.runP 1 [4, 83, 84, 87, 88] [(3, .chn), (7, .chn), (8, .qui), (9, .seq), (10, .seq)] [(4, .pointer (some ⟨b5, 0, none⟩)), (83, .slice a0C C.voters.length k0C), (84, .int .i64 Z.node), (87, .slice a1C C.learners.length k1C), (88, .int .i64 Z.node)] (by as_aux_lemma => kernel_rfl) (by as_aux_lemma => kernel_rfl) ?_
           refine RW.call (κ := .chn) (d := some 85) (r := [(7, .chn), (8, .qui), (9, .seq), (10, .seq)]) (g := 24) (args := #[.slice a0C C.voters.length k0C, .int .i64 Z.node]) (by as_aux_lemma => kernel_rfl) (nofun) (without_spec (H.rp 0 rfl) Z.node (by omega)) ?_
           rintro v194 w193 - H'
           have H := H.back (M1 := []) (W1 := []) H'
           obtain ⟨a195, c196, rfl, hc197, hm198⟩ := H.ownForm 0 rfl
           have H : Hp w S [] [(b5, .cells #[.slice none 0 0, .slice none 0 0] 24 (0, 0)), (b3, .cells #[.int .i64 Z.kind, .int .i64 Z.node] 34 (0, 0)), (b1, .cells #[.slice a0C C.voters.length k0C, .slice a1C C.learners.length k1C] 24 (0, 0))] [⟨Shape.int .i64, 3, .slice a195 ((drp Z.node C.voters).length) c196, drp Z.node C.voters⟩] [Rp (Shape.slice (Shape.int .i64)) [.slice a0C C.voters.length k0C] C.voters, Rp (Shape.slice (Shape.int .i64)) [.slice a1C C.learners.length k1C] C.learners] _ := H
           refine RW.call (κ := .chn) (d := some 89) (r := [(8, .qui), (9, .seq), (10, .seq)]) (g := 24) (args := #[.slice a1C C.learners.length k1C, .int .i64 Z.node]) (by as_aux_lemma => kernel_rfl) (nofun) (without_spec (H.rp 1 rfl) Z.node (by omega)) ?_
           rintro v200 w199 - H'
           have H := H.back (M1 := []) (W1 := []) H'
           obtain ⟨a201, c202, rfl, hc203, hm204⟩ := H.ownForm 0 rfl
           have H : Hp w S [] [(b5, .cells #[.slice none 0 0, .slice none 0 0] 24 (0, 0)), (b3, .cells #[.int .i64 Z.kind, .int .i64 Z.node] 34 (0, 0)), (b1, .cells #[.slice a0C C.voters.length k0C, .slice a1C C.learners.length k1C] 24 (0, 0))] [⟨Shape.int .i64, 3, .slice a201 ((drp Z.node C.learners).length) c202, drp Z.node C.learners⟩, ⟨Shape.int .i64, 3, .slice a195 ((drp Z.node C.voters).length) c196, drp Z.node C.voters⟩] [Rp (Shape.slice (Shape.int .i64)) [.slice a0C C.voters.length k0C] C.voters, Rp (Shape.slice (Shape.int .i64)) [.slice a1C C.learners.length k1C] C.learners] _ := H
           refine RW.runP 1 [4, 90] [(9, .seq), (10, .seq)] [(4, .pointer (some ⟨b5, 0, none⟩)), (90, .agg #[.slice a195 ((drp Z.node C.voters).length) c196, .slice a201 ((drp Z.node C.learners).length) c202])] (by as_aux_lemma => kernel_rfl) (by as_aux_lemma => kernel_rfl) ?_
           refine RW.store (d := none) (r := [(10, .seq)]) (T := 24) (b := b5) (k := 0) (v := .agg #[.slice a195 ((drp Z.node C.voters).length) c196, .slice a201 ((drp Z.node C.learners).length) c202]) (c' := #[.slice a195 ((drp Z.node C.voters).length) c196, .slice a201 ((drp Z.node C.learners).length) c202]) (M' := [(b5, .cells #[.slice a195 ((drp Z.node C.voters).length) c196, .slice a201 ((drp Z.node C.learners).length) c202] 24 (0, 0)), (b3, .cells #[.int .i64 Z.kind, .int .i64 Z.node] 34 (0, 0)), (b1, .cells #[.slice a0C C.voters.length k0C, .slice a1C C.learners.length k1C] 24 (0, 0))]) (by as_aux_lemma => kernel_rfl) H 0 rfl (by as_aux_lemma => kernel_rfl) (by as_aux_lemma => kernel_rfl) ?_
           intro w205 H
           refine RW.fin 1 [4, 5] [(4, .pointer (some ⟨b5, 0, none⟩)), (5, .int .i64 0)] (by as_aux_lemma => kernel_rfl) ?_
           refine WK.retBy (v := .tuple #[.agg #[.slice a195 ((drp Z.node C.voters).length) c196, .slice a201 ((drp Z.node C.learners).length) c202], .int .i64 0]) Try.func13 (by as_aux_lemma => kernel_rfl) (RV.res2 (x := .cell 4 24) (y := .tmp 5) (by as_aux_lemma => kernel_rfl) (RV.cell (k := 0) (by as_aux_lemma => kernel_rfl) (H.cells 0 rfl) rfl (by as_aux_lemma => kernel_rfl)) (RV.tmp (by as_aux_lemma => kernel_rfl))) ?_
           have H : Hp w S [] [(b5, .cells #[.slice a195 ((drp Z.node C.voters).length) c196, .slice a201 ((drp Z.node C.learners).length) c202] 24 (0, 0)), (b3, .cells #[.int .i64 Z.kind, .int .i64 Z.node] 34 (0, 0)), (b1, .cells #[.slice a0C C.voters.length k0C, .slice a1C C.learners.length k1C] 24 (0, 0))] [⟨Shape.int .i64, 3, .slice a201 ((drp Z.node C.learners).length) c202, drp Z.node C.learners⟩] [Rp (Shape.slice (Shape.int .i64)) [.slice a195 ((drp Z.node C.voters).length) c196] (drp Z.node C.voters), Rp (Shape.slice (Shape.int .i64)) [.slice a0C C.voters.length k0C] C.voters, Rp (Shape.slice (Shape.int .i64)) [.slice a1C C.learners.length k1C] C.learners] _ := H.freezeW 1 rfl
           have H : Hp w S [] [(b5, .cells #[.slice a195 ((drp Z.node C.voters).length) c196, .slice a201 ((drp Z.node C.learners).length) c202] 24 (0, 0)), (b3, .cells #[.int .i64 Z.kind, .int .i64 Z.node] 34 (0, 0)), (b1, .cells #[.slice a0C C.voters.length k0C, .slice a1C C.learners.length k1C] 24 (0, 0))] [] [Rp (Shape.slice (Shape.int .i64)) [.slice a201 ((drp Z.node C.learners).length) c202] (drp Z.node C.learners), Rp (Shape.slice (Shape.int .i64)) [.slice a195 ((drp Z.node C.voters).length) c196] (drp Z.node C.voters), Rp (Shape.slice (Shape.int .i64)) [.slice a0C C.voters.length k0C] C.voters, Rp (Shape.slice (Shape.int .i64)) [.slice a1C C.learners.length k1C] C.learners] _ := H.freezeW 0 rfl
           refine ⟨_, rfl, H.done, [.slice a195 ((drp Z.node C.voters).length) c196, .slice a201 ((drp Z.node C.learners).length) c202], ⟨drp Z.node C.voters, drp Z.node C.learners⟩, 0, rfl, H.out (conf_mk (H.rp 1 rfl) (H.rp 0 rfl)), ?_⟩
           clear H
           symm
           unfold stepOf stepOk
           first | (simp [*]; done) | (simp [*]; omega)
          ·
           replace h191 := of_decide_eq_false h191
           refine WK.run 3 [4] [.code (cd Try.prog 13 [4, 0]), .code (cd Try.prog 13 [5])] [(4, .pointer (some ⟨b5, 0, none⟩))] (by as_aux_lemma => kernel_rfl) ?_
           refine WK.reg1 (l := sq 0 3) (by as_aux_lemma => kernel_rfl) (by as_aux_lemma => kernel_rfl) ?_
           refine RW.runP 1 [4, 91] (sq 1 3) [(4, .pointer (some ⟨b5, 0, none⟩)), (91, .agg #[.slice none 0 0, .slice none 0 0])] (by as_aux_lemma => kernel_rfl) (by as_aux_lemma => kernel_rfl) ?_
           refine RW.store (d := none) (r := (sq 2 3)) (T := 24) (b := b5) (k := 0) (v := .agg #[.slice none 0 0, .slice none 0 0]) (c' := #[.slice none 0 0, .slice none 0 0]) (M' := [(b5, .cells #[.slice none 0 0, .slice none 0 0] 24 (0, 0)), (b3, .cells #[.int .i64 Z.kind, .int .i64 Z.node] 34 (0, 0)), (b1, .cells #[.slice a0C C.voters.length k0C, .slice a1C C.learners.length k1C] 24 (0, 0))]) (by as_aux_lemma => kernel_rfl) H 0 rfl (by as_aux_lemma => kernel_rfl) (by as_aux_lemma => kernel_rfl) ?_
           intro w206 H
           refine RW.fin 1 [4, 5] [(4, .pointer (some ⟨b5, 0, none⟩)), (5, .int .i64 120)] (by as_aux_lemma => kernel_rfl) ?_
           refine WK.retBy (v := .tuple #[.agg #[.slice none 0 0, .slice none 0 0], .int .i64 120]) Try.func13 (by as_aux_lemma => kernel_rfl) (RV.res2 (x := .cell 4 24) (y := .tmp 5) (by as_aux_lemma => kernel_rfl) (RV.cell (k := 0) (by as_aux_lemma => kernel_rfl) (H.cells 0 rfl) rfl (by as_aux_lemma => kernel_rfl)) (RV.tmp (by as_aux_lemma => kernel_rfl))) ?_
           refine ⟨_, rfl, H.done, [.slice none 0 0, .slice none 0 0], ⟨[], []⟩, 120, rfl, H.out (conf_mk Shape.slice_nil Shape.slice_nil), ?_⟩
           clear H
           symm
           unfold stepOf stepOk
           first | (simp [*]; done) | (simp [*]; omega)
         ·
          replace h190 := of_decide_eq_false h190
          refine RW.fin 8 [2, 4, 6, 66] [(2, .pointer (some ⟨b1, 0, none⟩)), (4, .pointer (some ⟨b5, 0, none⟩)), (6, .int .i64 Z.node), (66, .bool false)] (by as_aux_lemma => kernel_rfl) ?_
          refine WK.run 4 [4] [.code (cd Try.prog 13 [4, 0]), .code (cd Try.prog 13 [5])] [(4, .pointer (some ⟨b5, 0, none⟩))] (by as_aux_lemma => kernel_rfl) ?_
          refine WK.reg1 (l := sq 0 3) (by as_aux_lemma => kernel_rfl) (by as_aux_lemma => kernel_rfl) ?_
          refine RW.runP 1 [4, 91] (sq 1 3) [(4, .pointer (some ⟨b5, 0, none⟩)), (91, .agg #[.slice none 0 0, .slice none 0 0])] (by as_aux_lemma => kernel_rfl) (by as_aux_lemma => kernel_rfl) ?_
          refine RW.store (d := none) (r := (sq 2 3)) (T := 24) (b := b5) (k := 0) (v := .agg #[.slice none 0 0, .slice none 0 0]) (c' := #[.slice none 0 0, .slice none 0 0]) (M' := [(b5, .cells #[.slice none 0 0, .slice none 0 0] 24 (0, 0)), (b3, .cells #[.int .i64 Z.kind, .int .i64 Z.node] 34 (0, 0)), (b1, .cells #[.slice a0C C.voters.length k0C, .slice a1C C.learners.length k1C] 24 (0, 0))]) (by as_aux_lemma => kernel_rfl) H 0 rfl (by as_aux_lemma => kernel_rfl) (by as_aux_lemma => kernel_rfl) ?_
          intro w207 H
          refine RW.fin 1 [4, 5] [(4, .pointer (some ⟨b5, 0, none⟩)), (5, .int .i64 120)] (by as_aux_lemma => kernel_rfl) ?_
          refine WK.retBy (v := .tuple #[.agg #[.slice none 0 0, .slice none 0 0], .int .i64 120]) Try.func13 (by as_aux_lemma => kernel_rfl) (RV.res2 (x := .cell 4 24) (y := .tmp 5) (by as_aux_lemma => kernel_rfl) (RV.cell (k := 0) (by as_aux_lemma => kernel_rfl) (H.cells 0 rfl) rfl (by as_aux_lemma => kernel_rfl)) (RV.tmp (by as_aux_lemma => kernel_rfl))) ?_
          refine ⟨_, rfl, H.done, [.slice none 0 0, .slice none 0 0], ⟨[], []⟩, 120, rfl, H.out (conf_mk Shape.slice_nil Shape.slice_nil), ?_⟩
          clear H
          symm
          unfold stepOf stepOk
          first | (simp [*]; done) | (simp [*]; omega)
       ·
        replace h174 := ne_of_beq_false h174
        refine RW.fin 12 [2, 4, 6, 66] [(2, .pointer (some ⟨b1, 0, none⟩)), (4, .pointer (some ⟨b5, 0, none⟩)), (6, .int .i64 Z.node), (66, .bool false)] (by as_aux_lemma => kernel_rfl) ?_
        refine WK.run 4 [4] [.code (cd Try.prog 13 [4, 0]), .code (cd Try.prog 13 [5])] [(4, .pointer (some ⟨b5, 0, none⟩))] (by as_aux_lemma => kernel_rfl) ?_
        refine WK.reg1 (l := sq 0 3) (by as_aux_lemma => kernel_rfl) (by as_aux_lemma => kernel_rfl) ?_
        refine RW.runP 1 [4, 91] (sq 1 3) [(4, .pointer (some ⟨b5, 0, none⟩)), (91, .agg #[.slice none 0 0, .slice none 0 0])] (by as_aux_lemma => kernel_rfl) (by as_aux_lemma => kernel_rfl) ?_
        refine RW.store (d := none) (r := (sq 2 3)) (T := 24) (b := b5) (k := 0) (v := .agg #[.slice none 0 0, .slice none 0 0]) (c' := #[.slice none 0 0, .slice none 0 0]) (M' := [(b5, .cells #[.slice none 0 0, .slice none 0 0] 24 (0, 0)), (b3, .cells #[.int .i64 Z.kind, .int .i64 Z.node] 34 (0, 0)), (b1, .cells #[.slice a0C C.voters.length k0C, .slice a1C C.learners.length k1C] 24 (0, 0))]) (by as_aux_lemma => kernel_rfl) H 0 rfl (by as_aux_lemma => kernel_rfl) (by as_aux_lemma => kernel_rfl) ?_
        intro w208 H
        refine RW.fin 1 [4, 5] [(4, .pointer (some ⟨b5, 0, none⟩)), (5, .int .i64 120)] (by as_aux_lemma => kernel_rfl) ?_
        refine WK.retBy (v := .tuple #[.agg #[.slice none 0 0, .slice none 0 0], .int .i64 120]) Try.func13 (by as_aux_lemma => kernel_rfl) (RV.res2 (x := .cell 4 24) (y := .tmp 5) (by as_aux_lemma => kernel_rfl) (RV.cell (k := 0) (by as_aux_lemma => kernel_rfl) (H.cells 0 rfl) rfl (by as_aux_lemma => kernel_rfl)) (RV.tmp (by as_aux_lemma => kernel_rfl))) ?_
        refine ⟨_, rfl, H.done, [.slice none 0 0, .slice none 0 0], ⟨[], []⟩, 120, rfl, H.out (conf_mk Shape.slice_nil Shape.slice_nil), ?_⟩
        clear H
        symm
        unfold stepOf stepOk
        first | (simp [*]; done) | (simp [*]; omega)
    ·
     replace h20 := ne_of_beq_false h20
     refine RW.fin 8 [2, 3, 4, 6, 7, 8, 30] [(2, .pointer (some ⟨b1, 0, none⟩)), (3, .pointer (some ⟨b3, 0, none⟩)), (4, .pointer (some ⟨b5, 0, none⟩)), (6, .int .i64 Z.node), (7, .bool (decide (Z.node ∈ C.voters))), (8, .bool (decide (Z.node ∈ C.learners))), (30, .bool false)] (by as_aux_lemma => kernel_rfl) ?_
     refine WK.run 2 [2, 3, 4, 6, 7, 8] [.code (cd Try.prog 13 [3, 0, 0, 1, 1, 1, 1, 0]), .code (cd Try.prog 13 [3, 0, 0, 1, 1, 1, 1, 1]), .inBlock 0, .code (cd Try.prog 13 [4])] [(2, .pointer (some ⟨b1, 0, none⟩)), (3, .pointer (some ⟨b3, 0, none⟩)), (4, .pointer (some ⟨b5, 0, none⟩)), (6, .int .i64 Z.node), (7, .bool (decide (Z.node ∈ C.voters))), (8, .bool (decide (Z.node ∈ C.learners)))] (by as_aux_lemma => kernel_rfl) ?_
     refine WK.reg1 (l := sq 0 7) (by as_aux_lemma => kernel_rfl) (by as_aux_lemma => kernel_rfl) ?_
     refine RW.runP 1 [2, 3, 4, 6, 7, 8, 51] (sq 1 7) [(2, .pointer (some ⟨b1, 0, none⟩)), (3, .pointer (some ⟨b3, 0, none⟩)), (4, .pointer (some ⟨b5, 0, none⟩)), (6, .int .i64 Z.node), (7, .bool (decide (Z.node ∈ C.voters))), (8, .bool (decide (Z.node ∈ C.learners))), (51, .pointer (some ⟨b3, 0, none⟩))] (by as_aux_lemma => kernel_rfl) (by as_aux_lemma => kernel_rfl) ?_
     refine RW.load (κ := .seq) (d := some 52) (r := (sq 2 7)) (T := 32) (b := b3) (o' := 0) (k := 0) (v := .int .i64 Z.kind) (by as_aux_lemma => kernel_rfl) (H.cells 1 rfl) rfl (by as_aux_lemma => kernel_rfl) ?_
     refine RW.runP 2 [2, 3, 4, 6, 7, 8, 54] (sq 4 7) [(2, .pointer (some ⟨b1, 0, none⟩)), (3, .pointer (some ⟨b3, 0, none⟩)), (4, .pointer (some ⟨b5, 0, none⟩)), (6, .int .i64 Z.node), (7, .bool (decide (Z.node ∈ C.voters))), (8, .bool (decide (Z.node ∈ C.learners))), (54, .bool (Z.kind == 2))] (by as_aux_lemma => kernel_rfl) (by as_aux_lemma => kernel_rfl) ?_
     refine RW.test (fun b_ => [(2, .pointer (some ⟨b1, 0, none⟩)), (3, .pointer (some ⟨b3, 0, none⟩)), (4, .pointer (some ⟨b5, 0, none⟩)), (6, .int .i64 Z.node), (7, .bool (decide (Z.node ∈ C.voters))), (8, .bool (decide (Z.node ∈ C.learners))), (54, .bool b_)]) (Z.kind == 2) (fun h209 => ?_) (fun h209 => ?_)
     ·
      replace h209 := eq_of_beq h209
      refine RW.fin 3 [2, 3, 4, 6, 7, 8, 50] [(2, .pointer (some ⟨b1, 0, none⟩)), (3, .pointer (some ⟨b3, 0, none⟩)), (4, .pointer (some ⟨b5, 0, none⟩)), (6, .int .i64 Z.node), (7, .bool (decide (Z.node ∈ C.voters))), (8, .bool (decide (Z.node ∈ C.learners))), (50, .bool (decide (Z.node ∈ C.learners)))] (by as_aux_lemma => kernel_rfl) ?_
      refine WK.cond1 (decide (Z.node ∈ C.learners)) (by as_aux_lemma => kernel_rfl) (by as_aux_lemma => kernel_rfl) (fun h210 => ?_) (fun h210 => ?_)
      ·
       replace h210 := of_decide_eq_true h210
       refine WK.run 1 [2, 4, 6] [.code (cd Try.prog 13 [3, 0, 0, 1, 1, 1, 1, 1, 0, 0]), .code (cd Try.prog 13 [3, 0, 0, 1, 1, 1, 1, 1, 0, 1]), .inBlock 0, .code (cd Try.prog 13 [4])] [(2, .pointer (some ⟨b1, 0, none⟩)), (4, .pointer (some ⟨b5, 0, none⟩)), (6, .int .i64 Z.node)] (by as_aux_lemma => kernel_rfl) ?_
       refine WK.draw1 9 [(0, .qui), (1, .qui), (2, .qui), (4, .qui), (5, .qui), (6, .qui), (3, .chn), (7, .chn), (8, .qui)] [(0, .qui), (1, .qui), (2, .qui), (4, .qui), (5, .qui), (6, .qui), (3, .chn), (7, .chn), (8, .qui), (9, .seq), (10, .seq)] Try_mixed (by as_aux_lemma => kernel_rfl) (by as_aux_lemma => kernel_rfl) (by as_aux_lemma => kernel_rfl) ?_
       have H := H.draw
       generalize ({ w12 with drawn := w12.drawn + 1 } : World) = w211 at H ⊢
       refine RW.runP 1 [2, 4, 6, 57] [(1, .qui), (2, .qui), (4, .qui), (5, .qui), (6, .qui), (3, .chn), (7, .chn), (8, .qui), (9, .seq), (10, .seq)] [(2, .pointer (some ⟨b1, 0, none⟩)), (4, .pointer (some ⟨b5, 0, none⟩)), (6, .int .i64 Z.node), (57, .pointer (some ⟨b1, 0, none⟩))] (by as_aux_lemma => kernel_rfl) (by as_aux_lemma => kernel_rfl) ?_
       refine RW.load (κ := .qui) (d := some 58) (r := [(2, .qui), (4, .qui), (5, .qui), (6, .qui), (3, .chn), (7, .chn), (8, .qui), (9, .seq), (10, .seq)]) (T := 22) (b := b1) (o' := 0) (k := 0) (v := .slice a0C C.voters.length k0C) (by as_aux_lemma => kernel_rfl) (H.cells 2 rfl) rfl (by as_aux_lemma => kernel_rfl) ?_
       refine RW.runP 2 [4, 6, 58, 59, 61] [(5, .qui), (6, .qui), (3, .chn), (7, .chn), (8, .qui), (9, .seq), (10, .seq)] [(4, .pointer (some ⟨b5, 0, none⟩)), (6, .int .i64 Z.node), (58, .slice a0C C.voters.length k0C), (59, .int .i64 Z.node), (61, .pointer (some ⟨b1, 1, none⟩))] (by as_aux_lemma => kernel_rfl) (by as_aux_lemma => kernel_rfl) ?_
       refine RW.load (κ := .qui) (d := some 62) (r := [(6, .qui), (3, .chn), (7, .chn), (8, .qui), (9, .seq), (10, .seq)]) (T := 22) (b := b1) (o' := 1) (k := 1) (v := .slice a1C C.learners.length k1C) (by as_aux_lemma => kernel_rfl) (H.cells 2 rfl) rfl (by as_aux_lemma => kernel_rfl) ?_
       refine RW.runP 1 [4, 58, 59, 62, 63] [(3, .chn), (7, .chn), (8, .qui), (9, .seq), (10, .seq)] [(4, .pointer (some ⟨b5, 0, none⟩)), (58, .slice a0C C.voters.length k0C), (59, .int .i64 Z.node), (62, .slice a1C C.learners.length k1C), (63, .int .i64 Z.node)] (by as_aux_lemma => kernel_rfl) (by as_aux_lemma => kernel_rfl) ?_
       refine RW.call (κ := .chn) (d := some 60) (r := [(7, .chn), (8, .qui), (9, .seq), (10, .seq)]) (g := 23) (args := #[.slice a0C C.voters.length k0C, .int .i64 Z.node]) (by as_aux_lemma => kernel_rfl) (nofun) (with2_spec (H.rp 0 rfl) Z.node (by omega) (by omega) (by assumption)) ?_
       rintro v213 w212 - H'
       have H := H.back (M1 := []) (W1 := []) H'
       obtain ⟨a214, c215, rfl, hc216, hm217⟩ := H.ownForm 0 rfl
       have H : Hp w S [] [(b5, .cells #[.slice none 0 0, .slice none 0 0] 24 (0, 0)), (b3, .cells #[.int .i64 Z.kind, .int .i64 Z.node] 34 (0, 0)), (b1, .cells #[.slice a0C C.voters.length k0C, .slice a1C C.learners.length k1C] 24 (0, 0))] [⟨Shape.int .i64, 3, .slice a214 ((ins Z.node C.voters).length) c215, ins Z.node C.voters⟩] [Rp (Shape.slice (Shape.int .i64)) [.slice a0C C.voters.length k0C] C.voters, Rp (Shape.slice (Shape.int .i64)) [.slice a1C C.learners.length k1C] C.learners] _ := H
       refine RW.call (κ := .chn) (d := some 64) (r := [(8, .qui), (9, .seq), (10, .seq)]) (g := 24) (args := #[.slice a1C C.learners.length k1C, .int .i64 Z.node]) (by as_aux_lemma => kernel_rfl) (nofun) (without_spec (H.rp 1 rfl) Z.node (by omega)) ?_
       rintro v219 w218 - H'
       have H := H.back (M1 := []) (W1 := []) H'
       obtain ⟨a220, c221, rfl, hc222, hm223⟩ := H.ownForm 0 rfl
       have H : Hp w S [] [(b5, .cells #[.slice none 0 0, .slice none 0 0] 24 (0, 0)), (b3, .cells #[.int .i64 Z.kind, .int .i64 Z.node] 34 (0, 0)), (b1, .cells #[.slice a0C C.voters.length k0C, .slice a1C C.learners.length k1C] 24 (0, 0))] [⟨Shape.int .i64, 3, .slice a220 ((drp Z.node C.learners).length) c221, drp Z.node C.learners⟩, ⟨Shape.int .i64, 3, .slice a214 ((ins Z.node C.voters).length) c215, ins Z.node C.voters⟩] [Rp (Shape.slice (Shape.int .i64)) [.slice a0C C.voters.length k0C] C.voters, Rp (Shape.slice (Shape.int .i64)) [.slice a1C C.learners.length k1C] C.learners] _ := H
       refine RW.runP 1 [4, 65] [(9, .seq), (10, .seq)] [(4, .pointer (some ⟨b5, 0, none⟩)), (65, .agg #[.slice a214 ((ins Z.node C.voters).length) c215, .slice a220 ((drp Z.node C.learners).length) c221])] (by as_aux_lemma => kernel_rfl) (by as_aux_lemma => kernel_rfl) ?_
       refine RW.store (d := none) (r := [(10, .seq)]) (T := 24) (b := b5) (k := 0) (v := .agg #[.slice a214 ((ins Z.node C.voters).length) c215, .slice a220 ((drp Z.node C.learners).length) c221]) (c' := #[.slice a214 ((ins Z.node C.voters).length) c215, .slice a220 ((drp Z.node C.learners).length) c221]) (M' := [(b5, .cells #[.slice a214 ((ins Z.node C.voters).length) c215, .slice a220 ((drp Z.node C.learners).length) c221] 24 (0, 0)), (b3, .cells #[.int .i64 Z.kind, .int .i64 Z.node] 34 (0, 0)), (b1, .cells #[.slice a0C C.voters.length k0C, .slice a1C C.learners.length k1C] 24 (0, 0))]) (by as_aux_lemma => kernel_rfl) H 0 rfl (by as_aux_lemma => kernel_rfl) (by as_aux_lemma => kernel_rfl) ?_
       intro w224 H
       refine RW.fin 1 [4, 5] [(4, .pointer (some ⟨b5, 0, none⟩)), (5, .int .i64 0)] (by as_aux_lemma => kernel_rfl) ?_
       refine WK.retBy (v := .tuple #[.agg #[.slice a214 ((ins Z.node C.voters).length) c215, .slice a220 ((drp Z.node C.learners).length) c221], .int .i64 0]) Try.func13 (by as_aux_lemma => kernel_rfl) (RV.res2 (x := .cell 4 24) (y := .tmp 5) (by as_aux_lemma => kernel_rfl) (RV.cell (k := 0) (by as_aux_lemma => kernel_rfl) (H.cells 0 rfl) rfl (by as_aux_lemma => kernel_rfl)) (RV.tmp (by as_aux_lemma => kernel_rfl))) ?_
       have H : Hp w S [] [(b5, .cells #[.slice a214 ((ins Z.node C.voters).length) c215, .slice a220 ((drp Z.node C.learners).length) c221] 24 (0, 0)), (b3, .cells #[.int .i64 Z.kind, .int .i64 Z.node] 34 (0, 0)), (b1, .cells #[.slice a0C C.voters.length k0C, .slice a1C C.learners.length k1C] 24 (0, 0))] [⟨Shape.int .i64, 3, .slice a220 ((drp Z.node C.learners).length) c221, drp Z.node C.learners⟩] [Rp (Shape.slice (Shape.int .i64)) [.slice a214 ((ins Z.node C.voters).length) c215] (ins Z.node C.voters), Rp (Shape.slice (Shape.int .i64)) [.slice a0C C.voters.length k0C] C.voters, Rp (Shape.slice (Shape.int .i64)) [.slice a1C C.learners.length k1C] C.learners] _ := H.freezeW 1 rfl
       have H : Hp w S [] [(b5, .cells #[.slice a214 ((ins Z.node C.voters).length) c215, .slice a220 ((drp Z.node C.learners).length) c221] 24 (0, 0)), (b3, .cells #[.int .i64 Z.kind, .int .i64 Z.node] 34 (0, 0)), (b1, .cells #[.slice a0C C.voters.length k0C, .slice a1C C.learners.length k1C] 24 (0, 0))] [] [Rp (Shape.slice (Shape.int .i64)) [.slice a220 ((drp Z.node C.learners).length) c221] (drp Z.node C.learners), Rp (Shape.slice (Shape.int .i64)) [.slice a214 ((ins Z.node C.voters).length) c215] (ins Z.node C.voters), Rp (Shape.slice (Shape.int .i64)) [.slice a0C C.voters.length k0C] C.voters, Rp (Shape.slice (Shape.int .i64)) [.slice a1C C.learners.length k1C] C.learners] _ := H.freezeW 0 rfl
       refine ⟨_, rfl, H.done, [.slice a214 ((ins Z.node C.voters).length) c215, .slice a220 ((drp Z.node C.learners).length) c221], ⟨ins Z.node C.voters, drp Z.node C.learners⟩, 0, rfl, H.out (conf_mk (H.rp 1 rfl) (H.rp 0 rfl)), ?_⟩
       clear H
       symm
       unfold stepOf stepOk
       first | (simp [*]; done) | (simp [*]; omega)
      ·
       replace h210 := of_decide_eq_false h210
       refine WK.run 1 [2, 3, 4, 6, 7, 8] [.code (cd Try.prog 13 [3, 0, 0, 1, 1, 1, 1, 1, 1, 0]), .code (cd Try.prog 13 [3, 0, 0, 1, 1, 1, 1, 1, 1, 1]), .inBlock 0, .code (cd Try.prog 13 [4])] [(2, .pointer (some ⟨b1, 0, none⟩)), (3, .pointer (some ⟨b3, 0, none⟩)), (4, .pointer (some ⟨b5, 0, none⟩)), (6, .int .i64 Z.node), (7, .bool (decide (Z.node ∈ C.voters))), (8, .bool (decide (Z.node ∈ C.learners)))] (by as_aux_lemma => kernel_rfl) ?_
       refine WK.reg1 (l := sq 0 16) (by as_aux_lemma => kernel_rfl) (by as_aux_lemma => kernel_rfl) ?_
       refine RW.runP 1 [2, 4, 6, 7, 8, 67] (sq 1 16) [(2, .pointer (some ⟨b1, 0, none⟩)), (4, .pointer (some ⟨b5, 0, none⟩)), (6, .int .i64 Z.node), (7, .bool (decide (Z.node ∈ C.voters))), (8, .bool (decide (Z.node ∈ C.learners))), (67, .pointer (some ⟨b3, 0, none⟩))] (by as_aux_lemma => kernel_rfl) (by as_aux_lemma => kernel_rfl) ?_
       refine RW.load (κ := .seq) (d := some 68) (r := (sq 2 16)) (T := 32) (b := b3) (o' := 0) (k := 0) (v := .int .i64 Z.kind) (by as_aux_lemma => kernel_rfl) (H.cells 1 rfl) rfl (by as_aux_lemma => kernel_rfl) ?_
       refine RW.runP 2 [2, 4, 6, 7, 8, 70] (sq 4 16) [(2, .pointer (some ⟨b1, 0, none⟩)), (4, .pointer (some ⟨b5, 0, none⟩)), (6, .int .i64 Z.node), (7, .bool (decide (Z.node ∈ C.voters))), (8, .bool (decide (Z.node ∈ C.learners))), (70, .bool (Z.kind == 3))] (by as_aux_lemma => kernel_rfl) (by as_aux_lemma => kernel_rfl) ?_
       refine RW.test (fun b_ => [(2, .pointer (some ⟨b1, 0, none⟩)), (4, .pointer (some ⟨b5, 0, none⟩)), (6, .int .i64 Z.node), (7, .bool (decide (Z.node ∈ C.voters))), (8, .bool (decide (Z.node ∈ C.learners))), (70, .bool b_)]) (Z.kind == 3) (fun h225 => ?_) (fun h225 => ?_)
       ·
        replace h225 := eq_of_beq h225
        refine RW.runP 2 [2, 4, 6, 7, 70, 72] (sq 6 16) [(2, .pointer (some ⟨b1, 0, none⟩)), (4, .pointer (some ⟨b5, 0, none⟩)), (6, .int .i64 Z.node), (7, .bool (decide (Z.node ∈ C.voters))), (70, .bool true), (72, .bool (decide (Z.node ∈ C.learners)))] (by as_aux_lemma => kernel_rfl) (by as_aux_lemma => kernel_rfl) ?_
        refine RW.test (fun b_ => [(2, .pointer (some ⟨b1, 0, none⟩)), (4, .pointer (some ⟨b5, 0, none⟩)), (6, .int .i64 Z.node), (7, .bool (decide (Z.node ∈ C.voters))), (70, .bool true), (72, .bool b_)]) (decide (Z.node ∈ C.learners)) (fun h226 => ?_) (fun h226 => ?_)
        ·
         replace h226 := of_decide_eq_true h226
         refine RW.fin 10 [2, 4, 6, 66] [(2, .pointer (some ⟨b1, 0, none⟩)), (4, .pointer (some ⟨b5, 0, none⟩)), (6, .int .i64 Z.node), (66, .bool true)] (by as_aux_lemma => kernel_rfl) ?_
         refine WK.run 2 [2, 4, 6] [.code (cd Try.prog 13 [3, 0, 0, 1, 1, 1, 1, 1, 1, 1, 0, 0]), .code (cd Try.prog 13 [3, 0, 0, 1, 1, 1, 1, 1, 1, 1, 0, 1]), .inBlock 0, .code (cd Try.prog 13 [4])] [(2, .pointer (some ⟨b1, 0, none⟩)), (4, .pointer (some ⟨b5, 0, none⟩)), (6, .int .i64 Z.node)] (by as_aux_lemma => kernel_rfl) ?_
         refine WK.draw1 9 [(0, .qui), (1, .qui), (2, .qui), (4, .qui), (5, .qui), (6, .qui), (3, .chn), (7, .chn), (8, .qui)] [(0, .qui), (1, .qui), (2, .qui), (4, .qui), (5, .qui), (6, .qui), (3, .chn), (7, .chn), (8, .qui), (9, .seq), (10, .seq)] Try_mixed (by as_aux_lemma => kernel_rfl) (by as_aux_lemma => kernel_rfl) (by as_aux_lemma => kernel_rfl) ?_
         have H := H.draw
         generalize ({ w12 with drawn := w12.drawn + 1 } : World) = w227 at H ⊢
         refine RW.runP 1 [2, 4, 6, 82] [(1, .qui), (2, .qui), (4, .qui), (5, .qui), (6, .qui), (3, .chn), (7, .chn), (8, .qui), (9, .seq), (10, .seq)] [(2, .pointer (some ⟨b1, 0, none⟩)), (4, .pointer (some ⟨b5, 0, none⟩)), (6, .int .i64 Z.node), (82, .pointer (some ⟨b1, 0, none⟩))] (by as_aux_lemma => kernel_rfl) (by as_aux_lemma => kernel_rfl) ?_
         refine RW.load (κ := .qui) (d := some 83) (r := [(2, .qui), (4, .qui), (5, .qui), (6, .qui), (3, .chn), (7, .chn), (8, .qui), (9, .seq), (10, .seq)]) (T := 22) (b := b1) (o' := 0) (k := 0) (v := .slice a0C C.voters.length k0C) (by as_aux_lemma => kernel_rfl) (H.cells 2 rfl) rfl (by as_aux_lemma => kernel_rfl) ?_
         refine RW.runP 2 [4, 6, 83, 84, 86] [(5, .qui), (6, .qui), (3, .chn), (7, .chn), (8, .qui), (9, .seq), (10, .seq)] [(4, .pointer (some ⟨b5, 0, none⟩)), (6, .int .i64 Z.node), (83, .slice a0C C.voters.length k0C), (84, .int .i64 Z.node), (86, .pointer (some ⟨b1, 1, none⟩))] (by as_aux_lemma => kernel_rfl) (by as_aux_lemma => kernel_rfl) ?_
         refine RW.load (κ := .qui) (d := some 87) (r := [(6, .qui), (3, .chn), (7, .chn), (8, .qui), (9, .seq), (10, .seq)]) (T := 22) (b := b1) (o' := 1) (k := 1) (v := .slice a1C C.learners.length k1C) (by as_aux_lemma => kernel_rfl) (H.cells 2 rfl) rfl (by as_aux_lemma => kernel_rfl) ?_
         refine RW.runP 1 [4, 83, 84, 87, 88] [(3, .chn), (7, .chn), (8, .qui), (9, .seq), (10, .seq)] [(4, .pointer (some ⟨b5, 0, none⟩)), (83, .slice a0C C.voters.length k0C), (84, .int .i64 Z.node), (87, .slice a1C C.learners.length k1C), (88, .int .i64 Z.node)] (by as_aux_lemma => kernel_rfl) (by as_aux_lemma => kernel_rfl) ?_
         refine RW.call (κ := .chn) (d := some 85) (r := [(7, .chn), (8, .qui), (9, .seq), (10, .seq)]) (g := 24) (args := #[.slice a0C C.voters.length k0C, .int .i64 Z.node]) (by as_aux_lemma => kernel_rfl) (nofun) (without_spec (H.rp 0 rfl) Z.node (by omega)) ?_
         rintro v229 w228 - H'
         have H := H.back (M1 := []) (W1 := []) H'
         obtain ⟨a230, c231, rfl, hc232, hm233⟩ := H.ownForm 0 rfl
         have H : Hp w S [] [(b5, .cells #[.slice none 0 0, .slice none 0 0] 24 (0, 0)), (b3, .cells #[.int .i64 Z.kind, .int .i64 Z.node] 34 (0, 0)), (b1, .cells #[.slice a0C C.voters.length k0C, .slice a1C C.learners.length k1C] 24 (0, 0))] [⟨Shape.int .i64, 3, .slice a230 ((drp Z.node C.voters).length) c231, drp Z.node C.voters⟩] [Rp (Shape.slice (Shape.int .i64)) [.slice a0C C.voters.length k0C] C.voters, Rp (Shape.slice (Shape.int .i64)) [.slice a1C C.learners.length k1C] C.learners] _ := H
         refine RW.call (κ := .chn) (d := some 89) (r := [(8, .qui), (9, .seq), (10, .seq)]) (g := 24) (args := #[.slice a1C C.learners.length k1C, .int .i64 Z.node]) (by as_aux_lemma => kernel_rfl) (nofun) (without_spec (H.rp 1 rfl) Z.node (by omega)) ?_
         rintro v235 w234 - H'
         have H := H.back (M1 := []) (W1 := []) H'
         obtain ⟨a236, c237, rfl, hc238, hm239⟩ := H.ownForm 0 rfl
         have H : Hp w S [] [(b5, .cells #[.slice none 0 0, .slice none 0 0] 24 (0, 0)), (b3, .cells #[.int .i64 Z.kind, .int .i64 Z.node] 34 (0, 0)), (b1, .cells #[.slice a0C C.voters.length k0C, .slice a1C C.learners.length k1C] 24 (0, 0))] [⟨Shape.int .i64, 3, .slice a236 ((drp Z.node C.learners).length) c237, drp Z.node C.learners⟩, ⟨Shape.int .i64, 3, .slice a230 ((drp Z.node C.voters).length) c231, drp Z.node C.voters⟩] [Rp (Shape.slice (Shape.int .i64)) [.slice a0C C.voters.length k0C] C.voters, Rp (Shape.slice (Shape.int .i64)) [.slice a1C C.learners.length k1C] C.learners] _ := H
         refine RW.runP 1 [4, 90] [(9, .seq), (10, .seq)] [(4, .pointer (some ⟨b5, 0, none⟩)), (90, .agg #[.slice a230 ((drp Z.node C.voters).length) c231, .slice a236 ((drp Z.node C.learners).length) c237])] (by as_aux_lemma => kernel_rfl) (by as_aux_lemma => kernel_rfl) ?_
         refine RW.store (d := none) (r := [(10, .seq)]) (T := 24) (b := b5) (k := 0) (v := .agg #[.slice a230 ((drp Z.node C.voters).length) c231, .slice a236 ((drp Z.node C.learners).length) c237]) (c' := #[.slice a230 ((drp Z.node C.voters).length) c231, .slice a236 ((drp Z.node C.learners).length) c237]) (M' := [(b5, .cells #[.slice a230 ((drp Z.node C.voters).length) c231, .slice a236 ((drp Z.node C.learners).length) c237] 24 (0, 0)), (b3, .cells #[.int .i64 Z.kind, .int .i64 Z.node] 34 (0, 0)), (b1, .cells #[.slice a0C C.voters.length k0C, .slice a1C C.learners.length k1C] 24 (0, 0))]) (by as_aux_lemma => kernel_rfl) H 0 rfl (by as_aux_lemma => kernel_rfl) (by as_aux_lemma => kernel_rfl) ?_
         intro w240 H
         refine RW.fin 1 [4, 5] [(4, .pointer (some ⟨b5, 0, none⟩)), (5, .int .i64 0)] (by as_aux_lemma => kernel_rfl) ?_
         refine WK.retBy (v := .tuple #[.agg #[.slice a230 ((drp Z.node C.voters).length) c231, .slice a236 ((drp Z.node C.learners).length) c237], .int .i64 0]) Try.func13 (by as_aux_lemma => kernel_rfl) (RV.res2 (x := .cell 4 24) (y := .tmp 5) (by as_aux_lemma => kernel_rfl) (RV.cell (k := 0) (by as_aux_lemma => kernel_rfl) (H.cells 0 rfl) rfl (by as_aux_lemma => kernel_rfl)) (RV.tmp (by as_aux_lemma => kernel_rfl))) ?_
         have H : Hp w S [] [(b5, .cells #[.slice a230 ((drp Z.node C.voters).length) c231, .slice a236 ((drp Z.node C.learners).length) c237] 24 (0, 0)), (b3, .cells #[.int .i64 Z.kind, .int .i64 Z.node] 34 (0, 0)), (b1, .cells #[.slice a0C C.voters.length k0C, .slice a1C C.learners.length k1C] 24 (0, 0))] [⟨Shape.int .i64, 3, .slice a236 ((drp Z.node C.learners).length) c237, drp Z.node C.learners⟩] [Rp (Shape.slice (Shape.int .i64)) [.slice a230 ((drp Z.node C.voters).length) c231] (drp Z.node C.voters), Rp (Shape.slice (Shape.int .i64)) [.slice a0C C.voters.length k0C] C.voters, Rp (Shape.slice (Shape.int .i64)) [.slice a1C C.learners.length k1C] C.learners] _ := H.freezeW 1 rfl
         have H : Hp w S [] [(b5, .cells #[.slice a230 ((drp Z.node C.voters).length) c231, .slice a236 ((drp Z.node C.learners).length) c237] 24 (0, 0)), (b3, .cells #[.int .i64 Z.kind, .int .i64 Z.node] 34 (0, 0)), (b1, .cells #[.slice a0C C.voters.length k0C, .slice a1C C.learners.length k1C] 24 (0, 0))] [] [Rp (Shape.slice (Shape.int .i64)) [.slice a236 ((drp Z.node C.learners).length) c237] (drp Z.node C.learners), Rp (Shape.slice (Shape.int .i64)) [.slice a230 ((drp Z.node C.voters).length) c231] (drp Z.node C.voters), Rp (Shape.slice (Shape.int .i64)) [.slice a0C C.voters.length k0C] C.voters, Rp (Shape.slice (Shape.int .i64)) [.slice a1C C.learners.length k1C] C.learners] _ := H.freezeW 0 rfl
         refine ⟨_, rfl, H.done, [.slice a230 ((drp Z.node C.voters).length) c231, .slice a236 ((drp Z.node C.learners).length) c237], ⟨drp Z.node C.voters, drp Z.node C.learners⟩, 0, rfl, H.out (conf_mk (H.rp 1 rfl) (H.rp 0 rfl)), ?_⟩
         clear H
         symm
         unfold stepOf stepOk
         first | (simp [*]; done) | (simp [*]; omega)
        ·
         replace h226 := of_decide_eq_false h226
         refine RW.runP 2 [2, 4, 6, 70, 72, 74] (sq 8 16) [(2, .pointer (some ⟨b1, 0, none⟩)), (4, .pointer (some ⟨b5, 0, none⟩)), (6, .int .i64 Z.node), (70, .bool true), (72, .bool false), (74, .bool (decide (Z.node ∈ C.voters)))] (by as_aux_lemma => kernel_rfl) (by as_aux_lemma => kernel_rfl) ?_
         refine RW.test (fun b_ => [(2, .pointer (some ⟨b1, 0, none⟩)), (4, .pointer (some ⟨b5, 0, none⟩)), (6, .int .i64 Z.node), (70, .bool true), (72, .bool false), (74, .bool b_)]) (decide (Z.node ∈ C.voters)) (fun h241 => ?_) (fun h241 => ?_)
         ·
          replace h241 := of_decide_eq_true h241
          refine RW.runP 1 [2, 4, 6, 70, 72, 74, 75] (sq 9 16) [(2, .pointer (some ⟨b1, 0, none⟩)), (4, .pointer (some ⟨b5, 0, none⟩)), (6, .int .i64 Z.node), (70, .bool true), (72, .bool false), (74, .bool true), (75, .pointer (some ⟨b1, 0, none⟩))] (by as_aux_lemma => kernel_rfl) (by as_aux_lemma => kernel_rfl) ?_
          refine RW.load (κ := .seq) (d := some 76) (r := (sq 10 16)) (T := 22) (b := b1) (o' := 0) (k := 0) (v := .slice a0C C.voters.length k0C) (by as_aux_lemma => kernel_rfl) (H.cells 2 rfl) rfl (by as_aux_lemma => kernel_rfl) ?_
          refine RW.fin 6 [2, 4, 6, 66] [(2, .pointer (some ⟨b1, 0, none⟩)), (4, .pointer (some ⟨b5, 0, none⟩)), (6, .int .i64 Z.node), (66, .bool (decide ((((C.voters.length : Nat) : Int) : Int) > 1)))] (by as_aux_lemma => kernel_rfl) ?_
          refine WK.cond1 (decide ((((C.voters.length : Nat) : Int) : Int) > 1)) (by as_aux_lemma => kernel_rfl) (by as_aux_lemma => kernel_rfl) (fun h242 => ?_) (fun h242 => ?_)
          ·
           replace h242 := of_decide_eq_true h242
           refine WK.run 1 [2, 4, 6] [.code (cd Try.prog 13 [3, 0, 0, 1, 1, 1, 1, 1, 1, 1, 0, 0]), .code (cd Try.prog 13 [3, 0, 0, 1, 1, 1, 1, 1, 1, 1, 0, 1]), .inBlock 0, .code (cd Try.prog 13 [4])] [(2, .pointer (some ⟨b1, 0, none⟩)), (4, .pointer (some ⟨b5, 0, none⟩)), (6, .int .i64 Z.node)] (by as_aux_lemma => kernel_rfl) ?_
           refine WK.draw1 9 [(0, .qui), (1, .qui), (2, .qui), (4, .qui), (5, .qui), (6, .qui), (3, .chn), (7, .chn), (8, .qui)] [(0, .qui), (1, .qui), (2, .qui), (4, .qui), (5, .qui), (6, .qui), (3, .chn), (7, .chn), (8, .qui), (9, .seq), (10, .seq)] Try_mixed (by as_aux_lemma => kernel_rfl) (by as_aux_lemma => kernel_rfl) (by as_aux_lemma => kernel_rfl) ?_
           have H := H.draw
           generalize ({ w12 with drawn := w12.drawn + 1 } : World) = w243 at H ⊢
           refine RW.runP 1 [2, 4, 6, 82] [(1, .qui), (2, .qui), (4, .qui), (5, .qui), (6, .qui), (3, .chn), (7, .chn), (8, .qui), (9, .seq), (10, .seq)] [(2, .pointer (some ⟨b1, 0, none⟩)), (4, .pointer (some ⟨b5, 0, none⟩)), (6, .int .i64 Z.node), (82, .pointer (some ⟨b1, 0, none⟩))] (by as_aux_lemma => kernel_rfl) (by as_aux_lemma => kernel_rfl) ?_
           refine RW.load (κ := .qui) (d := some 83) (r := [(2, .qui), (4, .qui), (5, .qui), (6, .qui), (3, .chn), (7, .chn), (8, .qui), (9, .seq), (10, .seq)]) (T := 22) (b := b1) (o' := 0) (k := 0) (v := .slice a0C C.voters.length k0C) (by as_aux_lemma => kernel_rfl) (H.cells 2 rfl) rfl (by as_aux_lemma => kernel_rfl) ?_
           refine RW.runP 2 [4, 6, 83, 84, 86] [(5, .qui), (6, .qui), (3, .chn), (7, .chn), (8, .qui), (9, .seq), (10, .seq)] [(4, .pointer (some ⟨b5, 0, none⟩)), (6, .int .i64 Z.node), (83, .slice a0C C.voters.length k0C), (84, .int .i64 Z.node), (86, .pointer (some ⟨b1, 1, none⟩))] (by as_aux_lemma => kernel_rfl) (by as_aux_lemma => kernel_rfl) ?_
           refine RW.load (κ := .qui) (d := some 87) (r := [(6, .qui), (3, .chn), (7, .chn), (8, .qui), (9, .seq), (10, .seq)]) (T := 22) (b := b1) (o' := 1) (k := 1) (v := .slice a1C C.learners.length k1C) (by as_aux_lemma => kernel_rfl) (H.cells 2 rfl) rfl (by as_aux_lemma => kernel_rfl) ?_
           refine RW.runP 1 [4, 83, 84, 87, 88] [(3, .chn), (7, .chn), (8, .qui), (9, .seq), (10, .seq)] [(4, .pointer (some ⟨b5, 0, none⟩)), (83, .slice a0C C.voters.length k0C), (84, .int .i64 Z.node), (87, .slice a1C C.learners.length k1C), (88, .int .i64 Z.node)] (by as_aux_lemma => kernel_rfl) (by as_aux_lemma => kernel_rfl) ?_
           refine RW.call (κ := .chn) (d := some 85) (r := [(7, .chn), (8, .qui), (9, .seq), (10, .seq)]) (g := 24) (args := #[.slice a0C C.voters.length k0C, .int .i64 Z.node]) (by as_aux_lemma => kernel_rfl) (nofun) (without_spec (H.rp 0 rfl) Z.node (by omega)) ?_
           rintro v245 w244 - H'
           have H := H.back (M1 := []) (W1 := []) H'
           obtain ⟨a246, c247, rfl, hc248, hm249⟩ := H.ownForm 0 rfl
           have H : Hp w S [] [(b5, .cells #[.slice none 0 0, .slice none 0 0] 24 (0, 0)), (b3, .cells #[.int .i64 Z.kind, .int .i64 Z.node] 34 (0, 0)), (b1, .cells #[.slice a0C C.voters.length k0C, .slice a1C C.learners.length k1C] 24 (0, 0))] [⟨Shape.int .i64, 3, .slice a246 ((drp Z.node C.voters).length) c247, drp Z.node C.voters⟩] [Rp (Shape.slice (Shape.int .i64)) [.slice a0C C.voters.length k0C] C.voters, Rp (Shape.slice (Shape.int .i64)) [.slice a1C C.learners.length k1C] C.learners] _ := H
           refine RW.call (κ := .chn) (d := some 89) (r := [(8, .qui), (9, .seq), (10, .seq)]) (g := 24) (args := #[.slice a1C C.learners.length k1C, .int .i64 Z.node]) (by as_aux_lemma => kernel_rfl) (nofun) (without_spec (H.rp 1 rfl) Z.node (by omega)) ?_
           rintro v251 w250 - H'
           have H := H.back (M1 := []) (W1 := []) H'
           obtain ⟨a252, c253, rfl, hc254, hm255⟩ := H.ownForm 0 rfl
           have H : Hp w S [] [(b5, .cells #[.slice none 0 0, .slice none 0 0] 24 (0, 0)), (b3, .cells #[.int .i64 Z.kind, .int .i64 Z.node] 34 (0, 0)), (b1, .cells #[.slice a0C C.voters.length k0C, .slice a1C C.learners.length k1C] 24 (0, 0))] [⟨Shape.int .i64, 3, .slice a252 ((drp Z.node C.learners).length) c253, drp Z.node C.learners⟩, ⟨Shape.int .i64, 3, .slice a246 ((drp Z.node C.voters).length) c247, drp Z.node C.voters⟩] [Rp (Shape.slice (Shape.int .i64)) [.slice a0C C.voters.length k0C] C.voters, Rp (Shape.slice (Shape.int .i64)) [.slice a1C C.learners.length k1C] C.learners] _ := H
           refine RW.runP 1 [4, 90] [(9, .seq), (10, .seq)] [(4, .pointer (some ⟨b5, 0, none⟩)), (90, .agg #[.slice a246 ((drp Z.node C.voters).length) c247, .slice a252 ((drp Z.node C.learners).length) c253])] (by as_aux_lemma => kernel_rfl) (by as_aux_lemma => kernel_rfl) ?_
           refine RW.store (d := none) (r := [(10, .seq)]) (T := 24) (b := b5) (k := 0) (v := .agg #[.slice a246 ((drp Z.node C.voters).length) c247, .slice a252 ((drp Z.node C.learners).length) c253]) (c' := #[.slice a246 ((drp Z.node C.voters).length) c247, .slice a252 ((drp Z.node C.learners).length) c253]) (M' := [(b5, .cells #[.slice a246 ((drp Z.node C.voters).length) c247, .slice a252 ((drp Z.node C.learners).length) c253] 24 (0, 0)), (b3, .cells #[.int .i64 Z.kind, .int .i64 Z.node] 34 (0, 0)), (b1, .cells #[.slice a0C C.voters.length k0C, .slice a1C C.learners.length k1C] 24 (0, 0))]) (by as_aux_lemma => kernel_rfl) H 0 rfl (by as_aux_lemma => kernel_rfl) (by as_aux_lemma => kernel_rfl) ?_
           intro w256 H
           refine RW.fin 1 [4, 5] [(4, .pointer (some ⟨b5, 0, none⟩)), (5, .int .i64 0)] (by as_aux_lemma => kernel_rfl) ?_
           refine WK.retBy (v := .tuple #[.agg #[.slice a246 ((drp Z.node C.voters).length) c247, .slice a252 ((drp Z.node C.learners).length) c253], .int .i64 0]) Try.func13 (by as_aux_lemma => kernel_rfl) (RV.res2 (x := .cell 4 24) (y := .tmp 5) (by as_aux_lemma => kernel_rfl) (RV.cell (k := 0) (by as_aux_lemma => kernel_rfl) (H.cells 0 rfl) rfl (by as_aux_lemma => kernel_rfl)) (RV.tmp (by as_aux_lemma => kernel_rfl))) ?_
           have H : Hp w S [] [(b5, .cells #[.slice a246 ((drp Z.node C.voters).length) c247, .slice a252 ((drp Z.node C.learners).length) c253] 24 (0, 0)), (b3, .cells #[.int .i64 Z.kind, .int .i64 Z.node] 34 (0, 0)), (b1, .cells #[.slice a0C C.voters.length k0C, .slice a1C C.learners.length k1C] 24 (0, 0))] [⟨Shape.int .i64, 3, .slice a252 ((drp Z.node C.learners).length) c253, drp Z.node C.learners⟩] [Rp (Shape.slice (Shape.int .i64)) [.slice a246 ((drp Z.node C.voters).length) c247] (drp Z.node C.voters), Rp (Shape.slice (Shape.int .i64)) [.slice a0C C.voters.length k0C] C.voters, Rp (Shape.slice (Shape.int .i64)) [.slice a1C C.learners.length k1C] C.learners] _ := H.freezeW 1 rfl
           have H : Hp w S [] [(b5, .cells #[.slice a246 ((drp Z.node C.voters).length) c247, .slice a252 ((drp Z.node C.learners).length) c253] 24 (0, 0)), (b3, .cells #[.int .i64 Z.kind, .int .i64 Z.node] 34 (0, 0)), (b1, .cells #[.slice a0C C.voters.length k0C, .slice a1C C.learners.length k1C] 24 (0, 0))] [] [Rp (Shape.slice (Shape.int .i64)) [.slice a252 ((drp Z.node C.learners).length) c253] (drp Z.node C.learners), Rp (Shape.slice (Shape.int .i64)) [.slice a246 ((drp Z.node C.voters).length) c247] (drp Z.node C.voters), Rp (Shape.slice (Shape.int .i64)) [.slice a0C C.voters.length k0C] C.voters, Rp (Shape.slice (Shape.int .i64)) [.slice a1C C.learners.length k1C] C.learners] _ := H.freezeW 0 rfl
           refine ⟨_, rfl, H.done, [.slice a246 ((drp Z.node C.voters).length) c247, .slice a252 ((drp Z.node C.learners).length) c253], ⟨drp Z.node C.voters, drp Z.node C.learners⟩, 0, rfl, H.out (conf_mk (H.rp 1 rfl) (H.rp 0 rfl)), ?_⟩
           clear H
           symm
           unfold stepOf stepOk
           first | (simp [*]; done) | (simp [*]; omega)
          ·
           replace h242 := of_decide_eq_false h242
           refine WK.run 3 [4] [.code (cd Try.prog 13 [4, 0]), .code (cd Try.prog 13 [5])] [(4, .pointer (some ⟨b5, 0, none⟩))] (by as_aux_lemma => kernel_rfl) ?_
           refine WK.reg1 (l := sq 0 3) (by as_aux_lemma => kernel_rfl) (by as_aux_lemma => kernel_rfl) ?_
           refine RW.runP 1 [4, 91] (sq 1 3) [(4, .pointer (some ⟨b5, 0, none⟩)), (91, .agg #[.slice none 0 0, .slice none 0 0])] (by as_aux_lemma => kernel_rfl) (by as_aux_lemma => kernel_rfl) ?_
           refine RW.store (d := none) (r := (sq 2 3)) (T := 24) (b := b5) (k := 0) (v := .agg #[.slice none 0 0, .slice none 0 0]) (c' := #[.slice none 0 0, .slice none 0 0]) (M' := [(b5, .cells #[.slice none 0 0, .slice none 0 0] 24 (0, 0)), (b3, .cells #[.int .i64 Z.kind, .int .i64 Z.node] 34 (0, 0)), (b1, .cells #[.slice a0C C.voters.length k0C, .slice a1C C.learners.length k1C] 24 (0, 0))]) (by as_aux_lemma => kernel_rfl) H 0 rfl (by as_aux_lemma => kernel_rfl) (by as_aux_lemma => kernel_rfl) ?_
           intro w257 H
           refine RW.fin 1 [4, 5] [(4, .pointer (some ⟨b5, 0, none⟩)), (5, .int .i64 120)] (by as_aux_lemma => kernel_rfl) ?_
           refine WK.retBy (v := .tuple #[.agg #[.slice none 0 0, .slice none 0 0], .int .i64 120]) Try.func13 (by as_aux_lemma => kernel_rfl) (RV.res2 (x := .cell 4 24) (y := .tmp 5) (by as_aux_lemma => kernel_rfl) (RV.cell (k := 0) (by as_aux_lemma => kernel_rfl) (H.cells 0 rfl) rfl (by as_aux_lemma => kernel_rfl)) (RV.tmp (by as_aux_lemma => kernel_rfl))) ?_
           refine ⟨_, rfl, H.done, [.slice none 0 0, .slice none 0 0], ⟨[], []⟩, 120, rfl, H.out (conf_mk Shape.slice_nil Shape.slice_nil), ?_⟩
           clear H
           symm
           unfold stepOf stepOk
           first | (simp [*]; done) | (simp [*]; omega)
         ·
          replace h241 := of_decide_eq_false h241
          refine RW.fin 8 [2, 4, 6, 66] [(2, .pointer (some ⟨b1, 0, none⟩)), (4, .pointer (some ⟨b5, 0, none⟩)), (6, .int .i64 Z.node), (66, .bool false)] (by as_aux_lemma => kernel_rfl) ?_
          refine WK.run 4 [4] [.code (cd Try.prog 13 [4, 0]), .code (cd Try.prog 13 [5])] [(4, .pointer (some ⟨b5, 0, none⟩))] (by as_aux_lemma => kernel_rfl) ?_
          refine WK.reg1 (l := sq 0 3) (by as_aux_lemma => kernel_rfl) (by as_aux_lemma => kernel_rfl) ?_
          refine RW.runP 1 [4, 91] (sq 1 3) [(4, .pointer (some ⟨b5, 0, none⟩)), (91, .agg #[.slice none 0 0, .slice none 0 0])] (by as_aux_lemma => kernel_rfl) (by as_aux_lemma => kernel_rfl) ?_
          refine RW.store (d := none) (r := (sq 2 3)) (T := 24) (b := b5) (k := 0) (v := .agg #[.slice none 0 0, .slice none 0 0]) (c' := #[.slice none 0 0, .slice none 0 0]) (M' := [(b5, .cells #[.slice none 0 0, .slice none 0 0] 24 (0, 0)), (b3, .cells #[.int .i64 Z.kind, .int .i64 Z.node] 34 (0, 0)), (b1, .cells #[.slice a0C C.voters.length k0C, .slice a1C C.learners.length k1C] 24 (0, 0))]) (by as_aux_lemma => kernel_rfl) H 0 rfl (by as_aux_lemma => kernel_rfl) (by as_aux_lemma => kernel_rfl) ?_
          intro w258 H
          refine RW.fin 1 [4, 5] [(4, .pointer (some ⟨b5, 0, none⟩)), (5, .int .i64 120)] (by as_aux_lemma => kernel_rfl) ?_
          refine WK.retBy (v := .tuple #[.agg #[.slice none 0 0, .slice none 0 0], .int .i64 120]) Try.func13 (by as_aux_lemma => kernel_rfl) (RV.res2 (x := .cell 4 24) (y := .tmp 5) (by as_aux_lemma => kernel_rfl) (RV.cell (k := 0) (by as_aux_lemma => kernel_rfl) (H.cells 0 rfl) rfl (by as_aux_lemma => kernel_rfl)) (RV.tmp (by as_aux_lemma => kernel_rfl))) ?_
          refine ⟨_, rfl, H.done, [.slice none 0 0, .slice none 0 0], ⟨[], []⟩, 120, rfl, H.out (conf_mk Shape.slice_nil Shape.slice_nil), ?_⟩
          clear H
          symm
          unfold stepOf stepOk
          first | (simp [*]; done) | (simp [*]; omega)
       ·
        replace h225 := ne_of_beq_false h225
        refine RW.fin 12 [2, 4, 6, 66] [(2, .pointer (some ⟨b1, 0, none⟩)), (4, .pointer (some ⟨b5, 0, none⟩)), (6, .int .i64 Z.node), (66, .bool false)] (by as_aux_lemma => kernel_rfl) ?_
        refine WK.run 4 [4] [.code (cd Try.prog 13 [4, 0]), .code (cd Try.prog 13 [5])] [(4, .pointer (some ⟨b5, 0, none⟩))] (by as_aux_lemma => kernel_rfl) ?_
        refine WK.reg1 (l := sq 0 3) (by as_aux_lemma => kernel_rfl) (by as_aux_lemma => kernel_rfl) ?_
        refine RW.runP 1 [4, 91] (sq 1 3) [(4, .pointer (some ⟨b5, 0, none⟩)), (91, .agg #[.slice none 0 0, .slice none 0 0])] (by as_aux_lemma => kernel_rfl) (by as_aux_lemma => kernel_rfl) ?_
        refine RW.store (d := none) (r := (sq 2 3)) (T := 24) (b := b5) (k := 0) (v := .agg #[.slice none 0 0, .slice none 0 0]) (c' := #[.slice none 0 0, .slice none 0 0]) (M' := [(b5, .cells #[.slice none 0 0, .slice none 0 0] 24 (0, 0)), (b3, .cells #[.int .i64 Z.kind, .int .i64 Z.node] 34 (0, 0)), (b1, .cells #[.slice a0C C.voters.length k0C, .slice a1C C.learners.length k1C] 24 (0, 0))]) (by as_aux_lemma => kernel_rfl) H 0 rfl (by as_aux_lemma => kernel_rfl) (by as_aux_lemma => kernel_rfl) ?_
        intro w259 H
        refine RW.fin 1 [4, 5] [(4, .pointer (some ⟨b5, 0, none⟩)), (5, .int .i64 120)] (by as_aux_lemma => kernel_rfl) ?_
        refine WK.retBy (v := .tuple #[.agg #[.slice none 0 0, .slice none 0 0], .int .i64 120]) Try.func13 (by as_aux_lemma => kernel_rfl) (RV.res2 (x := .cell 4 24) (y := .tmp 5) (by as_aux_lemma => kernel_rfl) (RV.cell (k := 0) (by as_aux_lemma => kernel_rfl) (H.cells 0 rfl) rfl (by as_aux_lemma => kernel_rfl)) (RV.tmp (by as_aux_lemma => kernel_rfl))) ?_
        refine ⟨_, rfl, H.done, [.slice none 0 0, .slice none 0 0], ⟨[], []⟩, 120, rfl, H.out (conf_mk Shape.slice_nil Shape.slice_nil), ?_⟩
        clear H
        symm
        unfold stepOf stepOk
        first | (simp [*]; done) | (simp [*]; omega)
     ·
      replace h209 := ne_of_beq_false h209
      refine RW.fin 3 [2, 3, 4, 6, 7, 8, 50] [(2, .pointer (some ⟨b1, 0, none⟩)), (3, .pointer (some ⟨b3, 0, none⟩)), (4, .pointer (some ⟨b5, 0, none⟩)), (6, .int .i64 Z.node), (7, .bool (decide (Z.node ∈ C.voters))), (8, .bool (decide (Z.node ∈ C.learners))), (50, .bool false)] (by as_aux_lemma => kernel_rfl) ?_
      refine WK.run 2 [2, 3, 4, 6, 7, 8] [.code (cd Try.prog 13 [3, 0, 0, 1, 1, 1, 1, 1, 1, 0]), .code (cd Try.prog 13 [3, 0, 0, 1, 1, 1, 1, 1, 1, 1]), .inBlock 0, .code (cd Try.prog 13 [4])] [(2, .pointer (some ⟨b1, 0, none⟩)), (3, .pointer (some ⟨b3, 0, none⟩)), (4, .pointer (some ⟨b5, 0, none⟩)), (6, .int .i64 Z.node), (7, .bool (decide (Z.node ∈ C.voters))), (8, .bool (decide (Z.node ∈ C.learners)))] (by as_aux_lemma => kernel_rfl) ?_
      refine WK.reg1 (l := sq 0 16) (by as_aux_lemma => kernel_rfl) (by as_aux_lemma => kernel_rfl) ?_
      refine RW.runP 1 [2, 4, 6, 7, 8, 67] (sq 1 16) [(2, .pointer (some ⟨b1, 0, none⟩)), (4, .pointer (some ⟨b5, 0, none⟩)), (6, .int .i64 Z.node), (7, .bool (decide (Z.node ∈ C.voters))), (8, .bool (decide (Z.node ∈ C.learners))), (67, .pointer (some ⟨b3, 0, none⟩))] (by as_aux_lemma => kernel_rfl) (by as_aux_lemma => kernel_rfl) ?_
      refine RW.load (κ := .seq) (d := some 68) (r := (sq 2 16)) (T := 32) (b := b3) (o' := 0) (k := 0) (v := .int .i64 Z.kind) (by as_aux_lemma => kernel_rfl) (H.cells 1 rfl) rfl (by as_aux_lemma => kernel_rfl) ?_
      refine RW.runP 2 [2, 4, 6, 7, 8, 70] (sq 4 16) [(2, .pointer (some ⟨b1, 0, none⟩)), (4, .pointer (some ⟨b5, 0, none⟩)), (6, .int .i64 Z.node), (7, .bool (decide (Z.node ∈ C.voters))), (8, .bool (decide (Z.node ∈ C.learners))), (70, .bool (Z.kind == 3))] (by as_aux_lemma => kernel_rfl) (by as_aux_lemma => kernel_rfl) ?_
      refine RW.test (fun b_ => [(2, .pointer (some ⟨b1, 0, none⟩)), (4, .pointer (some ⟨b5, 0, none⟩)), (6, .int .i64 Z.node), (7, .bool (decide (Z.node ∈ C.voters))), (8, .bool (decide (Z.node ∈ C.learners))), (70, .bool b_)]) (Z.kind == 3) (fun h260 => ?_) (fun h260 => ?_)
      ·
       replace h260 := eq_of_beq h260
       refine RW.runP 2 [2, 4, 6, 7, 70, 72] (sq 6 16) [(2, .pointer (some ⟨b1, 0, none⟩)), (4, .pointer (some ⟨b5, 0, none⟩)), (6, .int .i64 Z.node), (7, .bool (decide (Z.node ∈ C.voters))), (70, .bool true), (72, .bool (decide (Z.node ∈ C.learners)))] (by as_aux_lemma => kernel_rfl) (by as_aux_lemma => kernel_rfl) ?_
       refine RW.test (fun b_ => [(2, .pointer (some ⟨b1, 0, none⟩)), (4, .pointer (some ⟨b5, 0, none⟩)), (6, .int .i64 Z.node), (7, .bool (decide (Z.node ∈ C.voters))), (70, .bool true), (72, .bool b_)]) (decide (Z.node ∈ C.learners)) (fun h261 => ?_) (fun h261 => ?_)
       ·
        replace h261 := of_decide_eq_true h261
        refine RW.fin 10 [2, 4, 6, 66] [(2, .pointer (some ⟨b1, 0, none⟩)), (4, .pointer (some ⟨b5, 0, none⟩)), (6, .int .i64 Z.node), (66, .bool true)] (by as_aux_lemma => kernel_rfl) ?_
        refine WK.run 2 [2, 4, 6] [.code (cd Try.prog 13 [3, 0, 0, 1, 1, 1, 1, 1, 1, 1, 0, 0]), .code (cd Try.prog 13 [3, 0, 0, 1, 1, 1, 1, 1, 1, 1, 0, 1]), .inBlock 0, .code (cd Try.prog 13 [4])] [(2, .pointer (some ⟨b1, 0, none⟩)), (4, .pointer (some ⟨b5, 0, none⟩)), (6, .int .i64 Z.node)] (by as_aux_lemma => kernel_rfl) ?_
        refine WK.draw1 9 [(0, .qui), (1, .qui), (2, .qui), (4, .qui), (5, .qui), (6, .qui), (3, .chn), (7, .chn), (8, .qui)] [(0, .qui), (1, .qui), (2, .qui), (4, .qui), (5, .qui), (6, .qui), (3, .chn), (7, .chn), (8, .qui), (9, .seq), (10, .seq)] Try_mixed (by as_aux_lemma => kernel_rfl) (by as_aux_lemma => kernel_rfl) (by as_aux_lemma => kernel_rfl) ?_
        have H := H.draw
        generalize ({ w12 with drawn := w12.drawn + 1 } : World) = w262 at H ⊢
        refine RW.runP 1 [2, 4, 6, 82] [(1, .qui), (2, .qui), (4, .qui), (5, .qui), (6, .qui), (3, .chn), (7, .chn), (8, .qui), (9, .seq), (10, .seq)] [(2, .pointer (some ⟨b1, 0, none⟩)), (4, .pointer (some ⟨b5, 0, none⟩)), (6, .int .i64 Z.node), (82, .pointer (some ⟨b1, 0, none⟩))] (by as_aux_lemma => kernel_rfl) (by as_aux_lemma => kernel_rfl) ?_
        refine RW.load (κ := .qui) (d := some 83) (r := [(2, .qui), (4, .qui), (5, .qui), (6, .qui), (3, .chn), (7, .chn), (8, .qui), (9, .seq), (10, .seq)]) (T := 22) (b := b1) (o' := 0) (k := 0) (v := .slice a0C C.voters.length k0C) (by as_aux_lemma => kernel_rfl) (H.cells 2 rfl) rfl (by as_aux_lemma => kernel_rfl) ?_
        refine RW.runP 2 [4, 6, 83, 84, 86] [(5, .qui), (6, .qui), (3, .chn), (7, .chn), (8, .qui), (9, .seq), (10, .seq)] [(4, .pointer (some ⟨b5, 0, none⟩)), (6, .int .i64 Z.node), (83, .slice a0C C.voters.length k0C), (84, .int .i64 Z.node), (86, .pointer (some ⟨b1, 1, none⟩))] (by as_aux_lemma => kernel_rfl) (by as_aux_lemma => kernel_rfl) ?_
        refine RW.load (κ := .qui) (d := some 87) (r := [(6, .qui), (3, .chn), (7, .chn), (8, .qui), (9, .seq), (10, .seq)]) (T := 22) (b := b1) (o' := 1) (k := 1) (v := .slice a1C C.learners.length k1C) (by as_aux_lemma => kernel_rfl) (H.cells 2 rfl) rfl (by as_aux_lemma => kernel_rfl) ?_
        refine RW.runP 1 [4, 83, 84, 87, 88] [(3, .chn), (7, .chn), (8, .qui), (9, .seq), (10, .seq)] [(4, .pointer (some ⟨b5, 0, none⟩)), (83, .slice a0C C.voters.length k0C), (84, .int .i64 Z.node), (87, .slice a1C C.learners.length k1C), (88, .int .i64 Z.node)] (by as_aux_lemma => kernel_rfl) (by as_aux_lemma => kernel_rfl) ?_
        refine RW.call (κ := .chn) (d := some 85) (r := [(7, .chn), (8, .qui), (9, .seq), (10, .seq)]) (g := 24) (args := #[.slice a0C C.voters.length k0C, .int .i64 Z.node]) (by as_aux_lemma => kernel_rfl) (nofun) (without_spec (H.rp 0 rfl) Z.node (by omega)) ?_
        rintro v264 w263 - H'
        have H := H.back (M1 := []) (W1 := []) H'
        obtain ⟨a265, c266, rfl, hc267, hm268⟩ := H.ownForm 0 rfl
        have H : Hp w S [] [(b5, .cells #[.slice none 0 0, .slice none 0 0] 24 (0, 0)), (b3, .cells #[.int .i64 Z.kind, .int .i64 Z.node] 34 (0, 0)), (b1, .cells #[.slice a0C C.voters.length k0C, .slice a1C C.learners.length k1C] 24 (0, 0))] [⟨Shape.int .i64, 3, .slice a265 ((drp Z.node C.voters).length) c266, drp Z.node C.voters⟩] [Rp (Shape.slice (Shape.int .i64)) [.slice a0C C.voters.length k0C] C.voters, Rp (Shape.slice (Shape.int .i64)) [.slice a1C C.learners.length k1C] C.learners] _ := H
        refine RW.call (κ := .chn) (d := some 89) (r := [(8, .qui), (9, .seq), (10, .seq)]) (g := 24) (args := #[.slice a1C C.learners.length k1C, .int .i64 Z.node]) (by as_aux_lemma => kernel_rfl) (nofun) (without_spec (H.rp 1 rfl) Z.node (by omega)) ?_
        rintro v270 w269 - H'
        have H := H.back (M1 := []) (W1 := []) H'
        obtain ⟨a271, c272, rfl, hc273, hm274⟩ := H.ownForm 0 rfl
        have H : Hp w S [] [(b5, .cells #[.slice none 0 0, .slice none 0 0] 24 (0, 0)), (b3, .cells #[.int .i64 Z.kind, .int .i64 Z.node] 34 (0, 0)), (b1, .cells #[.slice a0C C.voters.length k0C, .slice a1C C.learners.length k1C] 24 (0, 0))] [⟨Shape.int .i64, 3, .slice a271 ((drp Z.node C.learners).length) c272, drp Z.node C.learners⟩, ⟨Shape.int .i64, 3, .slice a265 ((drp Z.node C.voters).length) c266, drp Z.node C.voters⟩] [Rp (Shape.slice (Shape.int .i64)) [.slice a0C C.voters.length k0C] C.voters, Rp (Shape.slice (Shape.int .i64)) [.slice a1C C.learners.length k1C] C.learners] _ := H
        refine RW.runP 1 [4, 90] [(9, .seq), (10, .seq)] [(4, .pointer (some ⟨b5, 0, none⟩)), (90, .agg #[.slice a265 ((drp Z.node C.voters).length) c266, .slice a271 ((drp Z.node C.learners).length) c272])] (by as_aux_lemma => kernel_rfl) (by as_aux_lemma => kernel_rfl) ?_
        refine RW.store (d := none) (r := [(10, .seq)]) (T := 24) (b := b5) (k := 0) (v := .agg #[.slice a265 ((drp Z.node C.voters).length) c266, .slice a271 ((drp Z.node C.learners).length) c272]) (c' := #[.slice a265 ((drp Z.node C.voters).length) c266, .slice a271 ((drp Z.node C.learners).length) c272]) (M' := [(b5, .cells #[.slice a265 ((drp Z.node C.voters).length) c266, .slice a271 ((drp Z.node C.learners).length) c272] 24 (0, 0)), (b3, .cells #[.int .i64 Z.kind, .int .i64 Z.node] 34 (0, 0)), (b1, .cells #[.slice a0C C.voters.length k0C, .slice a1C C.learners.length k1C] 24 (0, 0))]) (by as_aux_lemma => kernel_rfl) H 0 rfl (by as_aux_lemma => kernel_rfl) (by as_aux_lemma => kernel_rfl) ?_
        intro w275 H
        refine RW.fin 1 [4, 5] [(4, .pointer (some ⟨b5, 0, none⟩)), (5, .int .i64 0)] (by as_aux_lemma => kernel_rfl) ?_
        refine WK.retBy (v := .tuple #[.agg #[.slice a265 ((drp Z.node C.voters).length) c266, .slice a271 ((drp Z.node C.learners).length) c272], .int .i64 0]) Try.func13 (by as_aux_lemma => kernel_rfl) (RV.res2 (x := .cell 4 24) (y := .tmp 5) (by as_aux_lemma => kernel_rfl) (RV.cell (k := 0) (by as_aux_lemma => kernel_rfl) (H.cells 0 rfl) rfl (by as_aux_lemma => kernel_rfl)) (RV.tmp (by as_aux_lemma => kernel_rfl))) ?_
        have H : Hp w S [] [(b5, .cells #[.slice a265 ((drp Z.node C.voters).length) c266, .slice a271 ((drp Z.node C.learners).length) c272] 24 (0, 0)), (b3, .cells #[.int .i64 Z.kind, .int .i64 Z.node] 34 (0, 0)), (b1, .cells #[.slice a0C C.voters.length k0C, .slice a1C C.learners.length k1C] 24 (0, 0))] [⟨Shape.int .i64, 3, .slice a271 ((drp Z.node C.learners).length) c272, drp Z.node C.learners⟩] [Rp (Shape.slice (Shape.int .i64)) [.slice a265 ((drp Z.node C.voters).length) c266] (drp Z.node C.voters), Rp (Shape.slice (Shape.int .i64)) [.slice a0C C.voters.length k0C] C.voters, Rp (Shape.slice (Shape.int .i64)) [.slice a1C C.learners.length k1C] C.learners] _ := H.freezeW 1 rfl
        have H : Hp w S [] [(b5, .cells #[.slice a265 ((drp Z.node C.voters).length) c266, .slice a271 ((drp Z.node C.learners).length) c272] 24 (0, 0)), (b3, .cells #[.int .i64 Z.kind, .int .i64 Z.node] 34 (0, 0)), (b1, .cells #[.slice a0C C.voters.length k0C, .slice a1C C.learners.length k1C] 24 (0, 0))] [] [Rp (Shape.slice (Shape.int .i64)) [.slice a271 ((drp Z.node C.learners).length) c272] (drp Z.node C.learners), Rp (Shape.slice (Shape.int .i64)) [.slice a265 ((drp Z.node C.voters).length) c266] (drp Z.node C.voters), Rp (Shape.slice (Shape.int .i64)) [.slice a0C C.voters.length k0C] C.voters, Rp (Shape.slice (Shape.int .i64)) [.slice a1C C.learners.length k1C] C.learners] _ := H.freezeW 0 rfl
        refine ⟨_, rfl, H.done, [.slice a265 ((drp Z.node C.voters).length) c266, .slice a271 ((drp Z.node C.learners).length) c272], ⟨drp Z.node C.voters, drp Z.node C.learners⟩, 0, rfl, H.out (conf_mk (H.rp 1 rfl) (H.rp 0 rfl)), ?_⟩
        clear H
        symm
        unfold stepOf stepOk
        first | (simp [*]; done) | (simp [*]; omega)
       ·
        replace h261 := of_decide_eq_false h261
        refine RW.runP 2 [2, 4, 6, 70, 72, 74] (sq 8 16) [(2, .pointer (some ⟨b1, 0, none⟩)), (4, .pointer (some ⟨b5, 0, none⟩)), (6, .int .i64 Z.node), (70, .bool true), (72, .bool false), (74, .bool (decide (Z.node ∈ C.voters)))] (by as_aux_lemma => kernel_rfl) (by as_aux_lemma => kernel_rfl) ?_
        refine RW.test (fun b_ => [(2, .pointer (some ⟨b1, 0, none⟩)), (4, .pointer (some ⟨b5, 0, none⟩)), (6, .int .i64 Z.node), (70, .bool true), (72, .bool false), (74, .bool b_)]) (decide (Z.node ∈ C.voters)) (fun h276 => ?_) (fun h276 => ?_)
        ·
         replace h276 := of_decide_eq_true h276
         refine RW.runP 1 [2, 4, 6, 70, 72, 74, 75] (sq 9 16) [(2, .pointer (some ⟨b1, 0, none⟩)), (4, .pointer (some ⟨b5, 0, none⟩)), (6, .int .i64 Z.node), (70, .bool true), (72, .bool false), (74, .bool true), (75, .pointer (some ⟨b1, 0, none⟩))] (by as_aux_lemma => kernel_rfl) (by as_aux_lemma => kernel_rfl) ?_
         refine RW.load (κ := .seq) (d := some 76) (r := (sq 10 16)) (T := 22) (b := b1) (o' := 0) (k := 0) (v := .slice a0C C.voters.length k0C) (by as_aux_lemma => kernel_rfl) (H.cells 2 rfl) rfl (by as_aux_lemma => kernel_rfl) ?_
         refine RW.fin 6 [2, 4, 6, 66] [(2, .pointer (some ⟨b1, 0, none⟩)), (4, .pointer (some ⟨b5, 0, none⟩)), (6, .int .i64 Z.node), (66, .bool (decide ((((C.voters.length : Nat) : Int) : Int) > 1)))] (by as_aux_lemma => kernel_rfl) ?_
         refine WK.cond1 (decide ((((C.voters.length : Nat) : Int) : Int) > 1)) (by as_aux_lemma => kernel_rfl) (by as_aux_lemma => kernel_rfl) (fun h277 => ?_) (fun h277 => ?_)
         ·
          replace h277 := of_decide_eq_true h277
          refine WK.run 1 [2, 4, 6] [.code (cd Try.prog 13 [3, 0, 0, 1, 1, 1, 1, 1, 1, 1, 0, 0]), .code (cd Try.prog 13 [3, 0, 0, 1, 1, 1, 1, 1, 1, 1, 0, 1]), .inBlock 0, .code (cd Try.prog 13 [4])] [(2, .pointer (some ⟨b1, 0, none⟩)), (4, .pointer (some ⟨b5, 0, none⟩)), (6, .int .i64 Z.node)] (by as_aux_lemma => kernel_rfl) ?_
          refine WK.draw1 9 [(0, .qui), (1, .qui), (2, .qui), (4, .qui), (5, .qui), (6, .qui), (3, .chn), (7, .chn), (8, .qui)] [(0, .qui), (1, .qui), (2, .qui), (4, .qui), (5, .qui), (6, .qui), (3, .chn), (7, .chn), (8, .qui), (9, .seq), (10, .seq)] Try_mixed (by as_aux_lemma => kernel_rfl) (by as_aux_lemma => kernel_rfl) (by as_aux_lemma => kernel_rfl) ?_
          have H := H.draw
          generalize ({ w12 with drawn := w12.drawn + 1 } : World) = w278 at H ⊢
          refine RW.runP 1 [2, 4, 6, 82] [(1, .qui), (2, .qui), (4, .qui), (5, .qui), (6, .qui), (3, .chn), (7, .chn), (8, .qui), (9, .seq), (10, .seq)] [(2, .pointer (some ⟨b1, 0, none⟩)), (4, .pointer (some ⟨b5, 0, none⟩)), (6, .int .i64 Z.node), (82, .pointer (some ⟨b1, 0, none⟩))] (by as_aux_lemma => kernel_rfl) (by as_aux_lemma => kernel_rfl) ?_
          refine RW.load (κ := .qui) (d := some 83) (r := [(2, .qui), (4, .qui), (5, .qui), (6, .qui), (3, .chn), (7, .chn), (8, .qui), (9, .seq), (10, .seq)]) (T := 22) (b := b1) (o' := 0) (k := 0) (v := .slice a0C C.voters.length k0C) (by as_aux_lemma => kernel_rfl) (H.cells 2 rfl) rfl (by as_aux_lemma => kernel_rfl) ?_
          refine RW.runP 2 [4, 6, 83, 84, 86] [(5, .qui), (6, .qui), (3, .chn), (7, .chn), (8, .qui), (9, .seq), (10, .seq)] [(4, .pointer (some ⟨b5, 0, none⟩)), (6, .int .i64 Z.node), (83, .slice a0C C.voters.length k0C), (84, .int .i64 Z.node), (86, .pointer (some ⟨b1, 1, none⟩))] (by as_aux_lemma => kernel_rfl) (by as_aux_lemma => kernel_rfl) ?_
          refine RW.load (κ := .qui) (d := some 87) (r := [(6, .qui), (3, .chn), (7, .chn), (8, .qui), (9, .seq), (10, .seq)]) (T := 22) (b := b1) (o' := 1) (k := 1) (v := .slice a1C C.learners.length k1C) (by as_aux_lemma => kernel_rfl) (H.cells 2 rfl) rfl (by as_aux_lemma => kernel_rfl) ?_
          refine RW.runP 1 [4, 83, 84, 87, 88] [(3, .chn), (7, .chn), (8, .qui), (9, .seq), (10, .seq)] [(4, .pointer (some ⟨b5, 0, none⟩)), (83, .slice a0C C.voters.length k0C), (84, .int .i64 Z.node), (87, .slice a1C C.learners.length k1C), (88, .int .i64 Z.node)] (by as_aux_lemma => kernel_rfl) (by as_aux_lemma => kernel_rfl) ?_
          refine RW.call (κ := .chn) (d := some 85) (r := [(7, .chn), (8, .qui), (9, .seq), (10, .seq)]) (g := 24) (args := #[.slice a0C C.voters.length k0C, .int .i64 Z.node]) (by as_aux_lemma => kernel_rfl) (nofun) (without_spec (H.rp 0 rfl) Z.node (by omega)) ?_
          rintro v280 w279 - H'
          have H := H.back (M1 := []) (W1 := []) H'
          obtain ⟨a281, c282, rfl, hc283, hm284⟩ := H.ownForm 0 rfl
          have H : Hp w S [] [(b5, .cells #[.slice none 0 0, .slice none 0 0] 24 (0, 0)), (b3, .cells #[.int .i64 Z.kind, .int .i64 Z.node] 34 (0, 0)), (b1, .cells #[.slice a0C C.voters.length k0C, .slice a1C C.learners.length k1C] 24 (0, 0))] [⟨Shape.int .i64, 3, .slice a281 ((drp Z.node C.voters).length) c282, drp Z.node C.voters⟩] [Rp (Shape.slice (Shape.int .i64)) [.slice a0C C.voters.length k0C] C.voters, Rp (Shape.slice (Shape.int .i64)) [.slice a1C C.learners.length k1C] C.learners] _ := H
          refine RW.call (κ := .chn) (d := some 89) (r := [(8, .qui), (9, .seq), (10, .seq)]) (g := 24) (args := #[.slice a1C C.learners.length k1C, .int .i64 Z.node]) (by as_aux_lemma => kernel_rfl) (nofun) (without_spec (H.rp 1 rfl) Z.node (by omega)) ?_
          rintro v286 w285 - H'
          have H := H.back (M1 := []) (W1 := []) H'
          obtain ⟨a287, c288, rfl, hc289, hm290⟩ := H.ownForm 0 rfl
          have H : Hp w S [] [(b5, .cells #[.slice none 0 0, .slice none 0 0] 24 (0, 0)), (b3, .cells #[.int .i64 Z.kind, .int .i64 Z.node] 34 (0, 0)), (b1, .cells #[.slice a0C C.voters.length k0C, .slice a1C C.learners.length k1C] 24 (0, 0))] [⟨Shape.int .i64, 3, .slice a287 ((drp Z.node C.learners).length) c288, drp Z.node C.learners⟩, ⟨Shape.int .i64, 3, .slice a281 ((drp Z.node C.voters).length) c282, drp Z.node C.voters⟩] [Rp (Shape.slice (Shape.int .i64)) [.slice a0C C.voters.length k0C] C.voters, Rp (Shape.slice (Shape.int .i64)) [.slice a1C C.learners.length k1C] C.learners] _ := H
          refine RW.runP 1 [4, 90] [(9, .seq), (10, .seq)] [(4, .pointer (some ⟨b5, 0, none⟩)), (90, .agg #[.slice a281 ((drp Z.node C.voters).length) c282, .slice a287 ((drp Z.node C.learners).length) c288])] (by as_aux_lemma => kernel_rfl) (by as_aux_lemma => kernel_rfl) ?_
          refine RW.store (d := none) (r := [(10, .seq)]) (T := 24) (b := b5) (k := 0) (v := .agg #[.slice a281 ((drp Z.node C.voters).length) c282, .slice a287 ((drp Z.node C.learners).length) c288]) (c' := #[.slice a281 ((drp Z.node C.voters).length) c282, .slice a287 ((drp Z.node C.learners).length) c288]) (M' := [(b5, .cells #[.slice a281 ((drp Z.node C.voters).length) c282, .slice a287 ((drp Z.node C.learners).length) c288] 24 (0, 0)), (b3, .cells #[.int .i64 Z.kind, .int .i64 Z.node] 34 (0, 0)), (b1, .cells #[.slice a0C C.voters.length k0C, .slice a1C C.learners.length k1C] 24 (0, 0))]) (by as_aux_lemma => kernel_rfl) H 0 rfl (by as_aux_lemma => kernel_rfl) (by as_aux_lemma => kernel_rfl) ?_
          intro w291 H
          refine RW.fin 1 [4, 5] [(4, .pointer (some ⟨b5, 0, none⟩)), (5, .int .i64 0)] (by as_aux_lemma => kernel_rfl) ?_
          refine WK.retBy (v := .tuple #[.agg #[.slice a281 ((drp Z.node C.voters).length) c282, .slice a287 ((drp Z.node C.learners).length) c288], .int .i64 0]) Try.func13 (by as_aux_lemma => kernel_rfl) (RV.res2 (x := .cell 4 24) (y := .tmp 5) (by as_aux_lemma => kernel_rfl) (RV.cell (k := 0) (by as_aux_lemma => kernel_rfl) (H.cells 0 rfl) rfl (by as_aux_lemma => kernel_rfl)) (RV.tmp (by as_aux_lemma => kernel_rfl))) ?_
          have H : Hp w S [] [(b5, .cells #[.slice a281 ((drp Z.node C.voters).length) c282, .slice a287 ((drp Z.node C.learners).length) c288] 24 (0, 0)), (b3, .cells #[.int .i64 Z.kind, .int .i64 Z.node] 34 (0, 0)), (b1, .cells #[.slice a0C C.voters.length k0C, .slice a1C C.learners.length k1C] 24 (0, 0))] [⟨Shape.int .i64, 3, .slice a287 ((drp Z.node C.learners).length) c288, drp Z.node C.learners⟩] [Rp (Shape.slice (Shape.int .i64)) [.slice a281 ((drp Z.node C.voters).length) c282] (drp Z.node C.voters), Rp (Shape.slice (Shape.int .i64)) [.slice a0C C.voters.length k0C] C.voters, Rp (Shape.slice (Shape.int .i64)) [.slice a1C C.learners.length k1C] C.learners] _ := H.freezeW 1 rfl
          have H : Hp w S [] [(b5, .cells #[.slice a281 ((drp Z.node C.voters).length) c282, .slice a287 ((drp Z.node C.learners).length) c288] 24 (0, 0)), (b3, .cells #[.int .i64 Z.kind, .int .i64 Z.node] 34 (0, 0)), (b1, .cells #[.slice a0C C.voters.length k0C, .slice a1C C.learners.length k1C] 24 (0, 0))] [] [Rp (Shape.slice (Shape.int .i64)) [.slice a287 ((drp Z.node C.learners).length) c288] (drp Z.node C.learners), Rp (Shape.slice (Shape.int .i64)) [.slice a281 ((drp Z.node C.voters).length) c282] (drp Z.node C.voters), Rp (Shape.slice (Shape.int .i64)) [.slice a0C C.voters.length k0C] C.voters, Rp (Shape.slice (Shape.int .i64)) [.slice a1C C.learners.length k1C] C.learners] _ := H.freezeW 0 rfl
          refine ⟨_, rfl, H.done, [.slice a281 ((drp Z.node C.voters).length) c282, .slice a287 ((drp Z.node C.learners).length) c288], ⟨drp Z.node C.voters, drp Z.node C.learners⟩, 0, rfl, H.out (conf_mk (H.rp 1 rfl) (H.rp 0 rfl)), ?_⟩
          clear H
          symm
          unfold stepOf stepOk
          first | (simp [*]; done) | (simp [*]; omega)
         ·
          replace h277 := of_decide_eq_false h277
          refine WK.run 3 [4] [.code (cd Try.prog 13 [4, 0]), .code (cd Try.prog 13 [5])] [(4, .pointer (some ⟨b5, 0, none⟩))] (by as_aux_lemma => kernel_rfl) ?_
          refine WK.reg1 (l := sq 0 3) (by as_aux_lemma => kernel_rfl) (by as_aux_lemma => kernel_rfl) ?_
          refine RW.runP 1 [4, 91] (sq 1 3) [(4, .pointer (some ⟨b5, 0, none⟩)), (91, .agg #[.slice none 0 0, .slice none 0 0])] (by as_aux_lemma => kernel_rfl) (by as_aux_lemma => kernel_rfl) ?_
          refine RW.store (d := none) (r := (sq 2 3)) (T := 24) (b := b5) (k := 0) (v := .agg #[.slice none 0 0, .slice none 0 0]) (c' := #[.slice none 0 0, .slice none 0 0]) (M' := [(b5, .cells #[.slice none 0 0, .slice none 0 0] 24 (0, 0)), (b3, .cells #[.int .i64 Z.kind, .int .i64 Z.node] 34 (0, 0)), (b1, .cells #[.slice a0C C.voters.length k0C, .slice a1C C.learners.length k1C] 24 (0, 0))]) (by as_aux_lemma => kernel_rfl) H 0 rfl (by as_aux_lemma => kernel_rfl) (by as_aux_lemma => kernel_rfl) ?_
          intro w292 H
          refine RW.fin 1 [4, 5] [(4, .pointer (some ⟨b5, 0, none⟩)), (5, .int .i64 120)] (by as_aux_lemma => kernel_rfl) ?_
          refine WK.retBy (v := .tuple #[.agg #[.slice none 0 0, .slice none 0 0], .int .i64 120]) Try.func13 (by as_aux_lemma => kernel_rfl) (RV.res2 (x := .cell 4 24) (y := .tmp 5) (by as_aux_lemma => kernel_rfl) (RV.cell (k := 0) (by as_aux_lemma => kernel_rfl) (H.cells 0 rfl) rfl (by as_aux_lemma => kernel_rfl)) (RV.tmp (by as_aux_lemma => kernel_rfl))) ?_
          refine ⟨_, rfl, H.done, [.slice none 0 0, .slice none 0 0], ⟨[], []⟩, 120, rfl, H.out (conf_mk Shape.slice_nil Shape.slice_nil), ?_⟩
          clear H
          symm
          unfold stepOf stepOk
          first | (simp [*]; done) | (simp [*]; omega)
        ·
         replace h276 := of_decide_eq_false h276
         refine RW.fin 8 [2, 4, 6, 66] [(2, .pointer (some ⟨b1, 0, none⟩)), (4, .pointer (some ⟨b5, 0, none⟩)), (6, .int .i64 Z.node), (66, .bool false)] (by as_aux_lemma => kernel_rfl) ?_
         refine WK.run 4 [4] [.code (cd Try.prog 13 [4, 0]), .code (cd Try.prog 13 [5])] [(4, .pointer (some ⟨b5, 0, none⟩))] (by as_aux_lemma => kernel_rfl) ?_
         refine WK.reg1 (l := sq 0 3) (by as_aux_lemma => kernel_rfl) (by as_aux_lemma => kernel_rfl) ?_
         refine RW.runP 1 [4, 91] (sq 1 3) [(4, .pointer (some ⟨b5, 0, none⟩)), (91, .agg #[.slice none 0 0, .slice none 0 0])] (by as_aux_lemma => kernel_rfl) (by as_aux_lemma => kernel_rfl) ?_
         refine RW.store (d := none) (r := (sq 2 3)) (T := 24) (b := b5) (k := 0) (v := .agg #[.slice none 0 0, .slice none 0 0]) (c' := #[.slice none 0 0, .slice none 0 0]) (M' := [(b5, .cells #[.slice none 0 0, .slice none 0 0] 24 (0, 0)), (b3, .cells #[.int .i64 Z.kind, .int .i64 Z.node] 34 (0, 0)), (b1, .cells #[.slice a0C C.voters.length k0C, .slice a1C C.learners.length k1C] 24 (0, 0))]) (by as_aux_lemma => kernel_rfl) H 0 rfl (by as_aux_lemma => kernel_rfl) (by as_aux_lemma => kernel_rfl) ?_
         intro w293 H
         refine RW.fin 1 [4, 5] [(4, .pointer (some ⟨b5, 0, none⟩)), (5, .int .i64 120)] (by as_aux_lemma => kernel_rfl) ?_
         refine WK.retBy (v := .tuple #[.agg #[.slice none 0 0, .slice none 0 0], .int .i64 120]) Try.func13 (by as_aux_lemma => kernel_rfl) (RV.res2 (x := .cell 4 24) (y := .tmp 5) (by as_aux_lemma => kernel_rfl) (RV.cell (k := 0) (by as_aux_lemma => kernel_rfl) (H.cells 0 rfl) rfl (by as_aux_lemma => kernel_rfl)) (RV.tmp (by as_aux_lemma => kernel_rfl))) ?_
         refine ⟨_, rfl, H.done, [.slice none 0 0, .slice none 0 0], ⟨[], []⟩, 120, rfl, H.out (conf_mk Shape.slice_nil Shape.slice_nil), ?_⟩
         clear H
         symm
         unfold stepOf stepOk
         first | (simp [*]; done) | (simp [*]; omega)
      ·
       replace h260 := ne_of_beq_false h260
       refine RW.fin 12 [2, 4, 6, 66] [(2, .pointer (some ⟨b1, 0, none⟩)), (4, .pointer (some ⟨b5, 0, none⟩)), (6, .int .i64 Z.node), (66, .bool false)] (by as_aux_lemma => kernel_rfl) ?_
       refine WK.run 4 [4] [.code (cd Try.prog 13 [4, 0]), .code (cd Try.prog 13 [5])] [(4, .pointer (some ⟨b5, 0, none⟩))] (by as_aux_lemma => kernel_rfl) ?_
       refine WK.reg1 (l := sq 0 3) (by as_aux_lemma => kernel_rfl) (by as_aux_lemma => kernel_rfl) ?_
       refine RW.runP 1 [4, 91] (sq 1 3) [(4, .pointer (some ⟨b5, 0, none⟩)), (91, .agg #[.slice none 0 0, .slice none 0 0])] (by as_aux_lemma => kernel_rfl) (by as_aux_lemma => kernel_rfl) ?_
       refine RW.store (d := none) (r := (sq 2 3)) (T := 24) (b := b5) (k := 0) (v := .agg #[.slice none 0 0, .slice none 0 0]) (c' := #[.slice none 0 0, .slice none 0 0]) (M' := [(b5, .cells #[.slice none 0 0, .slice none 0 0] 24 (0, 0)), (b3, .cells #[.int .i64 Z.kind, .int .i64 Z.node] 34 (0, 0)), (b1, .cells #[.slice a0C C.voters.length k0C, .slice a1C C.learners.length k1C] 24 (0, 0))]) (by as_aux_lemma => kernel_rfl) H 0 rfl (by as_aux_lemma => kernel_rfl) (by as_aux_lemma => kernel_rfl) ?_
       intro w294 H
       refine RW.fin 1 [4, 5] [(4, .pointer (some ⟨b5, 0, none⟩)), (5, .int .i64 120)] (by as_aux_lemma => kernel_rfl) ?_
       refine WK.retBy (v := .tuple #[.agg #[.slice none 0 0, .slice none 0 0], .int .i64 120]) Try.func13 (by as_aux_lemma => kernel_rfl) (RV.res2 (x := .cell 4 24) (y := .tmp 5) (by as_aux_lemma => kernel_rfl) (RV.cell (k := 0) (by as_aux_lemma => kernel_rfl) (H.cells 0 rfl) rfl (by as_aux_lemma => kernel_rfl)) (RV.tmp (by as_aux_lemma => kernel_rfl))) ?_
       refine ⟨_, rfl, H.done, [.slice none 0 0, .slice none 0 0], ⟨[], []⟩, 120, rfl, H.out (conf_mk Shape.slice_nil Shape.slice_nil), ?_⟩
       clear H
       symm
       unfold stepOf stepOk
       first | (simp [*]; done) | (simp [*]; omega)
end Go.Proofs.Ythbegjaoifghlaa
