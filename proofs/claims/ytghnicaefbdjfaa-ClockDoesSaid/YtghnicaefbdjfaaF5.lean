import Derived.Test.YtghnicaefbdjfaaF4
namespace Go.Proofs.Ytghnicaefbdjfaa
open Go.BX

theorem can_in {S : Nat → Prop} {w : World} {O : List Nat} {cb nc tc mb cl : Nat} {na ta : Option Addr} {now : List Int} {num den slack : Int} {bs : List Nat} {L : List (Int × Int × Nat)} {i : Nat} (id : Int) (H0 : Hp w S O [(cb, .cells #[.slice na now.length nc, .int .i64 num, .int .i64 den, .int .i64 slack, .slice ta bs.length tc] 47 (0, 0)), (mb, mapO (Value.int .i64) (Value.int .i64) L cl)] [⟨Shape.mref, 50, .slice ta bs.length tc, bs⟩] [] w) (hi : i < now.length) (hnl : now.length ≤ 32) (hbi : bs[i]? = some mb) :
    Calls Try.prog 18 #[.pointer (some ⟨cb, 0, none⟩), .int .i64 ((i : Int) + 1), .int .i64 id] w (Ret fun v w' => v = .bool (mfind id L).isSome ∧ Hp w S O [(cb, .cells #[.slice na now.length nc, .int .i64 num, .int .i64 den, .int .i64 slack, .slice ta bs.length tc] 47 (0, 0)), (mb, mapO (Value.int .i64) (Value.int .i64) (mdel id L) cl)] [⟨Shape.mref, 50, .slice ta bs.length tc, bs⟩] [] w') := by
  obtain ⟨hib, hbe⟩ := List.getElem?_eq_some_iff.1 hbi
  refine WK.calls1 (fn := Try.f18) (n := 36) (σ := [(0, .pointer (some ⟨cb, 0, none⟩)), (1, .int .i64 ((i : Int) + 1)), (2, .int .i64 id)]) Try.func18 rfl (by as_aux_lemma => kernel_rfl) (by as_aux_lemma => kernel_rfl) (by as_aux_lemma => kernel_rfl) ?_
  have H := H0
  refine WK.run 4 [0, 1, 2] [.code (cd Try.prog 18 [1, 0, 0]), .code (cd Try.prog 18 [1, 0, 1]), .code (cd Try.prog 18 [2])] [(0, .pointer (some ⟨cb, 0, none⟩)), (1, .int .i64 ((i : Int) + 1)), (2, .int .i64 id)] (by as_aux_lemma => kernel_rfl) ?_
  refine WK.reg1 (l := sq 0 4) (by as_aux_lemma => kernel_rfl) (by as_aux_lemma => kernel_rfl) ?_
  refine RW.runP 2 [0, 1, 2, 9, 10] (sq 2 4) [(0, .pointer (some ⟨cb, 0, none⟩)), (1, .int .i64 ((i : Int) + 1)), (2, .int .i64 id), (9, .pointer (some ⟨cb, 0, none⟩)), (10, .int .i64 ((i : Int) + 1))] (by as_aux_lemma => kernel_rfl) (by as_aux_lemma => kernel_rfl) ?_
  refine RW.call (κ := .seq) (d := some 11) (r := (sq 3 4)) (g := 23) (args := #[.pointer (some ⟨cb, 0, none⟩), .int .i64 ((i : Int) + 1)]) (by as_aux_lemma => kernel_rfl) (nofun) (state_in (S := fun _ => True) (now := now) (H.viewM 0 rfl (by simp)) (by omega)) ?_
  rintro _ w1 hE2 rfl
  have H := H.ext hE2
  refine RW.fin 1 [0, 1, 2, 12] [(0, .pointer (some ⟨cb, 0, none⟩)), (1, .int .i64 ((i : Int) + 1)), (2, .int .i64 id), (12, .bool false)] (by as_aux_lemma => kernel_rfl) ?_
  refine WK.run 3 [0, 1, 2] [.code (cd Try.prog 18 [2, 0]), .code (cd Try.prog 18 [3])] [(0, .pointer (some ⟨cb, 0, none⟩)), (1, .int .i64 ((i : Int) + 1)), (2, .int .i64 id)] (by as_aux_lemma => kernel_rfl) ?_
  refine WK.reg1 (l := sq 0 15) (by as_aux_lemma => kernel_rfl) (by as_aux_lemma => kernel_rfl) ?_
  refine RW.runP 3 [0, 1, 2, 16] (sq 3 15) [(0, .pointer (some ⟨cb, 0, none⟩)), (1, .int .i64 ((i : Int) + 1)), (2, .int .i64 id), (16, .pointer (some ⟨cb, 4, none⟩))] (by as_aux_lemma => kernel_rfl) (by as_aux_lemma => kernel_rfl) ?_
  refine RW.load (κ := .seq) (d := some 17) (r := (sq 4 15)) (T := 45) (b := cb) (o' := 4) (k := 4) (v := .slice ta bs.length tc) (by as_aux_lemma => kernel_rfl) (H.cells 0 rfl) rfl (by as_aux_lemma => kernel_rfl) ?_
  refine RW.runP 1 [0, 1, 2, 17, 18] (sq 5 15) [(0, .pointer (some ⟨cb, 0, none⟩)), (1, .int .i64 ((i : Int) + 1)), (2, .int .i64 id), (17, .slice ta bs.length tc), (18, .int .i64 ((i : Int) + 1))] (by as_aux_lemma => kernel_rfl) (by as_aux_lemma => kernel_rfl) ?_
  refine RW.pv (κ := .seq) (d := some 19) (r := (sq 6 15)) (v' := .int .i64 (i : Int)) (v := .int .i64 (IntKind.i64.wrap (((i : Int) + 1) - 1))) (by as_aux_lemma => kernel_rfl) (by rw [IntKind.wrap_i64]; congr 1; omega) ?_
  have hn4 : bs.length = bs.length := rfl
  have hx3 : i < bs.length := by omega
  refine RW.indexW (κ := .seq) (d := some 20) (r := (sq 7 15)) (T := 45) (e := 50) (m := 1) (ik := .i64) (ix := (i : Int)) (sh := Shape.mref) (xs := bs) (a := ta) (len := bs.length) (cap := tc) (by as_aux_lemma => kernel_rfl) (by as_aux_lemma => kernel_rfl) rfl H i (by omega) hx3 hn4 ?_
  intro b5 es6 ha7 hcell8 hr9
  rw [hbe] at hr9
  obtain rfl := Shape.mref_at hr9
  refine RW.load (κ := .seq) (d := some 21) (r := (sq 8 15)) (T := 50) (b := b5) (o' := i * 1) (k := 0) (v := .map (some mb)) (by as_aux_lemma => kernel_rfl) hcell8 rfl (by as_aux_lemma => kernel_rfl) ?_
  refine RW.runP 1 [0, 1, 2, 21, 22] (sq 9 15) [(0, .pointer (some ⟨cb, 0, none⟩)), (1, .int .i64 ((i : Int) + 1)), (2, .int .i64 id), (21, .map (some mb)), (22, .int .i64 id)] (by as_aux_lemma => kernel_rfl) (by as_aux_lemma => kernel_rfl) ?_
  refine RW.mapGet (κ := .seq) (d := some 23) (r := (sq 10 15)) (T := 50) (mk := (Value.int .i64)) (vk := (Value.int .i64)) (Kt := 3) (E := 3) (z := 0) id true (by as_aux_lemma => kernel_rfl) H 1 rfl (KeyOk.int (by as_aux_lemma => kernel_rfl)) (by as_aux_lemma => kernel_rfl) (fun w_ => zeroE_run (by as_aux_lemma => kernel_rfl) w_) ?_
  refine RW.fin 5 [0, 1, 2, 8] [(0, .pointer (some ⟨cb, 0, none⟩)), (1, .int .i64 ((i : Int) + 1)), (2, .int .i64 id), (8, .bool ((mfind id L).isSome))] (by as_aux_lemma => kernel_rfl) ?_
  refine WK.run 1 [0, 1, 2, 8] [.code (cd Try.prog 18 [3, 0]), .code (cd Try.prog 18 [4])] [(0, .pointer (some ⟨cb, 0, none⟩)), (1, .int .i64 ((i : Int) + 1)), (2, .int .i64 id), (8, .bool ((mfind id L).isSome))] (by as_aux_lemma => kernel_rfl) ?_
  refine WK.reg1 (l := sq 0 10) (by as_aux_lemma => kernel_rfl) (by as_aux_lemma => kernel_rfl) ?_
  refine RW.runP 3 [1, 2, 8, 28] (sq 3 10) [(1, .int .i64 ((i : Int) + 1)), (2, .int .i64 id), (8, .bool ((mfind id L).isSome)), (28, .pointer (some ⟨cb, 4, none⟩))] (by as_aux_lemma => kernel_rfl) (by as_aux_lemma => kernel_rfl) ?_
  refine RW.load (κ := .seq) (d := some 29) (r := (sq 4 10)) (T := 45) (b := cb) (o' := 4) (k := 4) (v := .slice ta bs.length tc) (by as_aux_lemma => kernel_rfl) (H.cells 0 rfl) rfl (by as_aux_lemma => kernel_rfl) ?_
  refine RW.runP 1 [2, 8, 29, 30] (sq 5 10) [(2, .int .i64 id), (8, .bool ((mfind id L).isSome)), (29, .slice ta bs.length tc), (30, .int .i64 ((i : Int) + 1))] (by as_aux_lemma => kernel_rfl) (by as_aux_lemma => kernel_rfl) ?_
  refine RW.pv (κ := .seq) (d := some 31) (r := (sq 6 10)) (v' := .int .i64 (i : Int)) (v := .int .i64 (IntKind.i64.wrap (((i : Int) + 1) - 1))) (by as_aux_lemma => kernel_rfl) (by rw [IntKind.wrap_i64]; congr 1; omega) ?_
  have hn11 : bs.length = bs.length := rfl
  have hx10 : i < bs.length := by omega
  refine RW.indexW (κ := .seq) (d := some 32) (r := (sq 7 10)) (T := 45) (e := 50) (m := 1) (ik := .i64) (ix := (i : Int)) (sh := Shape.mref) (xs := bs) (a := ta) (len := bs.length) (cap := tc) (by as_aux_lemma => kernel_rfl) (by as_aux_lemma => kernel_rfl) rfl H i (by omega) hx10 hn11 ?_
  intro b12 es13 ha14 hcell15 hr16
  rw [hbe] at hr16
  obtain rfl := Shape.mref_at hr16
  refine RW.load (κ := .seq) (d := some 33) (r := (sq 8 10)) (T := 50) (b := b12) (o' := i * 1) (k := 0) (v := .map (some mb)) (by as_aux_lemma => kernel_rfl) hcell15 rfl (by as_aux_lemma => kernel_rfl) ?_
  refine RW.runP 1 [8, 33, 34] (sq 9 10) [(8, .bool ((mfind id L).isSome)), (33, .map (some mb)), (34, .int .i64 id)] (by as_aux_lemma => kernel_rfl) (by as_aux_lemma => kernel_rfl) ?_
  refine RW.mapDel (d := none) (r := (sq 10 10)) (T := 50) (ts := #[50, 3]) (t := 0) (mk := (Value.int .i64)) (vk := (Value.int .i64)) (Kt := 3) (E := 3) (M' := [(cb, .cells #[.slice na now.length nc, .int .i64 num, .int .i64 den, .int .i64 slack, .slice ta bs.length tc] 47 (0, 0)), (mb, mapO (Value.int .i64) (Value.int .i64) (mdel id L) cl)]) id (by as_aux_lemma => kernel_rfl) H 1 rfl (KeyOk.int (by as_aux_lemma => kernel_rfl)) (by as_aux_lemma => kernel_rfl) (by as_aux_lemma => kernel_rfl) rfl ?_
  intro w17 hCw17 H
  refine RW.fin 0 [8] [(8, .bool ((mfind id L).isSome))] (by as_aux_lemma => kernel_rfl) ?_
  refine WK.run 2 [6] [.code (cd Try.prog 18 [5])] [(6, .bool ((mfind id L).isSome))] (by as_aux_lemma => kernel_rfl) ?_
  refine WK.ret (v := .bool ((mfind id L).isSome)) Try.func18 (by as_aux_lemma => kernel_rfl) (by as_aux_lemma => kernel_rfl) ?_
  exact ⟨_, rfl, rfl, H.pick [] rfl⟩

theorem can_out {S : Nat → Prop} {w : World} {cb nc tn tc : Nat} {na ta : Option Addr} {now : List Int} {num den slack : Int} (hF : (Fc cb 0 [.slice na now.length nc, .int .i64 num, .int .i64 den, .int .i64 slack, .slice ta tn tc]).p S w) {node : Int} (hst : stE now.length node ≠ 0) (id : Int) :
    Calls Try.prog 18 #[.pointer (some ⟨cb, 0, none⟩), .int .i64 node, .int .i64 id] w (Ret fun v w' => Ext w w' ∧ v = .bool false) := by
  refine WK.calls1 (fn := Try.f18) (n := 36) (σ := [(0, .pointer (some ⟨cb, 0, none⟩)), (1, .int .i64 node), (2, .int .i64 id)]) Try.func18 rfl (by as_aux_lemma => kernel_rfl) (by as_aux_lemma => kernel_rfl) (by as_aux_lemma => kernel_rfl) ?_
  have H := Hp.startF (w := w) (S := S) (G := [Fc cb 0 [.slice na now.length nc, .int .i64 num, .int .i64 den, .int .i64 slack, .slice ta tn tc]]) (.cons hF .nil)
  refine WK.run 4 [0, 1, 2] [.code (cd Try.prog 18 [1, 0, 0]), .code (cd Try.prog 18 [1, 0, 1]), .code (cd Try.prog 18 [2])] [(0, .pointer (some ⟨cb, 0, none⟩)), (1, .int .i64 node), (2, .int .i64 id)] (by as_aux_lemma => kernel_rfl) ?_
  refine WK.reg1 (l := sq 0 4) (by as_aux_lemma => kernel_rfl) (by as_aux_lemma => kernel_rfl) ?_
  refine RW.runP 2 [0, 1, 2, 9, 10] (sq 2 4) [(0, .pointer (some ⟨cb, 0, none⟩)), (1, .int .i64 node), (2, .int .i64 id), (9, .pointer (some ⟨cb, 0, none⟩)), (10, .int .i64 node)] (by as_aux_lemma => kernel_rfl) (by as_aux_lemma => kernel_rfl) ?_
  refine RW.call (κ := .seq) (d := some 11) (r := (sq 3 4)) (g := 23) (args := #[.pointer (some ⟨cb, 0, none⟩), .int .i64 node]) (by as_aux_lemma => kernel_rfl) (nofun) (state_spec (S := fun _ => True) (now := now) (H.viewF 0 rfl) node) ?_
  rintro _ w1 hE2 rfl
  have H := H.ext hE2
  refine RW.fin 1 [0, 1, 2, 12] [(0, .pointer (some ⟨cb, 0, none⟩)), (1, .int .i64 node), (2, .int .i64 id), (12, .bool ((stE now.length node) != 0))] (by as_aux_lemma => kernel_rfl) ?_
  refine WK.cond1 ((stE now.length node) != 0) (by as_aux_lemma => kernel_rfl) (by as_aux_lemma => kernel_rfl) (fun h3 => ?_) (fun h3 => ?_)
  · skip
    replace h3 := bne_iff_ne.1 h3
    refine WK.run 2 [6] [.code (cd Try.prog 18 [1, 0, 1, 0, 1]), .code (cd Try.prog 18 [2])] [(6, .bool false)] (by as_aux_lemma => kernel_rfl) ?_
    refine WK.ret (v := .bool false) Try.func18 (by as_aux_lemma => kernel_rfl) (by as_aux_lemma => kernel_rfl) ?_
    exact ⟨_, rfl, H.done, rfl⟩
  · skip
    replace h3 := (bne_eq_false_iff_eq.1 h3)
    exact absurd h3 hst

theorem set_out {S : Nat → Prop} {w : World} {cb nc tn tc : Nat} {na ta : Option Addr} {now : List Int} {num den slack : Int} (hF : (Fc cb 0 [.slice na now.length nc, .int .i64 num, .int .i64 den, .int .i64 slack, .slice ta tn tc]).p S w) {node : Int} (hst : stE now.length node ≠ 0) (id at_ : Int) :
    Calls Try.prog 12 #[.pointer (some ⟨cb, 0, none⟩), .int .i64 node, .int .i64 id, .int .i64 at_] w (Ret fun v w' => Ext w w' ∧ v = .int .i64 (stE now.length node)) := by
  refine WK.calls1 (fn := Try.f12) (n := 51) (σ := [(0, .pointer (some ⟨cb, 0, none⟩)), (1, .int .i64 node), (2, .int .i64 id), (3, .int .i64 at_)]) Try.func12 rfl (by as_aux_lemma => kernel_rfl) (by as_aux_lemma => kernel_rfl) (by as_aux_lemma => kernel_rfl) ?_
  have H := Hp.startF (w := w) (S := S) (G := [Fc cb 0 [.slice na now.length nc, .int .i64 num, .int .i64 den, .int .i64 slack, .slice ta tn tc]]) (.cons hF .nil)
  refine WK.run 4 [0, 1, 2, 3] [.code (cd Try.prog 12 [1, 0, 0]), .code (cd Try.prog 12 [1, 0, 1]), .code (cd Try.prog 12 [2])] [(0, .pointer (some ⟨cb, 0, none⟩)), (1, .int .i64 node), (2, .int .i64 id), (3, .int .i64 at_)] (by as_aux_lemma => kernel_rfl) ?_
  refine WK.reg1 (l := sq 0 4) (by as_aux_lemma => kernel_rfl) (by as_aux_lemma => kernel_rfl) ?_
  refine RW.runP 2 [0, 1, 2, 3, 13, 14] (sq 2 4) [(0, .pointer (some ⟨cb, 0, none⟩)), (1, .int .i64 node), (2, .int .i64 id), (3, .int .i64 at_), (13, .pointer (some ⟨cb, 0, none⟩)), (14, .int .i64 node)] (by as_aux_lemma => kernel_rfl) (by as_aux_lemma => kernel_rfl) ?_
  refine RW.call (κ := .seq) (d := some 15) (r := (sq 3 4)) (g := 23) (args := #[.pointer (some ⟨cb, 0, none⟩), .int .i64 node]) (by as_aux_lemma => kernel_rfl) (nofun) (state_spec (S := fun _ => True) (now := now) (H.viewF 0 rfl) node) ?_
  rintro _ w1 hE2 rfl
  have H := H.ext hE2
  refine RW.fin 1 [0, 1, 2, 3, 9] [(0, .pointer (some ⟨cb, 0, none⟩)), (1, .int .i64 node), (2, .int .i64 id), (3, .int .i64 at_), (9, .int .i64 (stE now.length node))] (by as_aux_lemma => kernel_rfl) ?_
  refine WK.run 2 [0, 1, 2, 3, 9, 17] [.code (cd Try.prog 12 [1, 0, 2]), .code (cd Try.prog 12 [2])] [(0, .pointer (some ⟨cb, 0, none⟩)), (1, .int .i64 node), (2, .int .i64 id), (3, .int .i64 at_), (9, .int .i64 (stE now.length node)), (17, .bool ((stE now.length node) != 0))] (by as_aux_lemma => kernel_rfl) ?_
  refine WK.cond1 ((stE now.length node) != 0) (by as_aux_lemma => kernel_rfl) (by as_aux_lemma => kernel_rfl) (fun h3 => ?_) (fun h3 => ?_)
  · skip
    replace h3 := bne_iff_ne.1 h3
    refine WK.run 2 [8] [.code (cd Try.prog 12 [1, 0, 2, 0, 1]), .code (cd Try.prog 12 [2])] [(8, .int .i64 (stE now.length node))] (by as_aux_lemma => kernel_rfl) ?_
    refine WK.ret (v := .int .i64 (stE now.length node)) Try.func12 (by as_aux_lemma => kernel_rfl) (by as_aux_lemma => kernel_rfl) ?_
    exact ⟨_, rfl, H.done, rfl⟩
  · skip
    replace h3 := (bne_eq_false_iff_eq.1 h3)
    exact absurd h3 hst

theorem due_out {S : Nat → Prop} {w : World} {cb nc tn tc : Nat} {na ta : Option Addr} {now : List Int} {num den slack : Int} (hF : (Fc cb 0 [.slice na now.length nc, .int .i64 num, .int .i64 den, .int .i64 slack, .slice ta tn tc]).p S w) {node : Int} (hst : stE now.length node ≠ 0) :
    Calls Try.prog 13 #[.pointer (some ⟨cb, 0, none⟩), .int .i64 node] w (Ret fun v w' => Ext w w' ∧ v = .slice none 0 0) := by
  refine WK.calls1 (fn := Try.f13) (n := 64) (σ := [(0, .pointer (some ⟨cb, 0, none⟩)), (1, .int .i64 node)]) Try.func13 rfl (by as_aux_lemma => kernel_rfl) (by as_aux_lemma => kernel_rfl) (by as_aux_lemma => kernel_rfl) ?_
  have H := Hp.startF (w := w) (S := S) (G := [Fc cb 0 [.slice na now.length nc, .int .i64 num, .int .i64 den, .int .i64 slack, .slice ta tn tc]]) (.cons hF .nil)
  refine WK.run 4 [0, 1] [.code (cd Try.prog 13 [1, 0, 0]), .code (cd Try.prog 13 [1, 0, 1]), .code (cd Try.prog 13 [2])] [(0, .pointer (some ⟨cb, 0, none⟩)), (1, .int .i64 node)] (by as_aux_lemma => kernel_rfl) ?_
  refine WK.reg1 (l := sq 0 4) (by as_aux_lemma => kernel_rfl) (by as_aux_lemma => kernel_rfl) ?_
  refine RW.runP 2 [0, 1, 12, 13] (sq 2 4) [(0, .pointer (some ⟨cb, 0, none⟩)), (1, .int .i64 node), (12, .pointer (some ⟨cb, 0, none⟩)), (13, .int .i64 node)] (by as_aux_lemma => kernel_rfl) (by as_aux_lemma => kernel_rfl) ?_
  refine RW.call (κ := .seq) (d := some 14) (r := (sq 3 4)) (g := 23) (args := #[.pointer (some ⟨cb, 0, none⟩), .int .i64 node]) (by as_aux_lemma => kernel_rfl) (nofun) (state_spec (S := fun _ => True) (now := now) (H.viewF 0 rfl) node) ?_
  rintro _ w1 hE2 rfl
  have H := H.ext hE2
  refine RW.fin 1 [0, 1, 15] [(0, .pointer (some ⟨cb, 0, none⟩)), (1, .int .i64 node), (15, .bool ((stE now.length node) != 0))] (by as_aux_lemma => kernel_rfl) ?_
  refine WK.cond1 ((stE now.length node) != 0) (by as_aux_lemma => kernel_rfl) (by as_aux_lemma => kernel_rfl) (fun h3 => ?_) (fun h3 => ?_)
  · skip
    replace h3 := bne_iff_ne.1 h3
    refine WK.run 2 [4] [.code (cd Try.prog 13 [1, 0, 1, 0, 1]), .code (cd Try.prog 13 [2])] [(4, .slice none 0 0)] (by as_aux_lemma => kernel_rfl) ?_
    refine WK.ret (v := .slice none 0 0) Try.func13 (by as_aux_lemma => kernel_rfl) (by as_aux_lemma => kernel_rfl) ?_
    exact ⟨_, rfl, H.done, rfl⟩
  · skip
    replace h3 := (bne_eq_false_iff_eq.1 h3)
    exact absurd h3 hst

def mapsH (bs : List Nat) (Ls : List (List (Int × Int × Nat) × Nat)) : Heap := List.zipWith (fun b p => (b, mapO (Value.int .i64) (Value.int .i64) p.1 p.2)) bs Ls
theorem mapsH_new : ∀ (bs : List Nat), newsH bs = mapsH bs (List.replicate bs.length ([], 0))
  | [] => rfl
  | b :: bs => by
    show _ :: newsH bs = _ :: mapsH bs (List.replicate bs.length ([], 0))
    rw [mapsH_new bs]
theorem mapsH_pick : ∀ {bs : List Nat} {Ls : List (List (Int × Int × Nat) × Nat)} {i b : Nat} {p : List (Int × Int × Nat) × Nat}, bs[i]? = some b → Ls[i]? = some p →
    (mapsH bs Ls).Perm ((b, mapO (Value.int .i64) (Value.int .i64) p.1 p.2) :: mapsH (bs.eraseIdx i) (Ls.eraseIdx i))
  | [], _, _, _, _, h, _ => by simp at h
  | _ :: _, [], _, _, _, _, h => by simp at h
  | a :: bs, q :: Ls, 0, b, p, h1, h2 => by
    simp only [List.getElem?_cons_zero, Option.some.injEq] at h1 h2
    subst h1
    subst h2
    exact List.Perm.refl _
  | a :: bs, q :: Ls, i + 1, b, p, h1, h2 => by
    simp only [List.getElem?_cons_succ] at h1 h2
    exact ((mapsH_pick h1 h2).cons _).trans (List.Perm.swap _ _ _)
theorem mapsH_put {bs : List Nat} {Ls : List (List (Int × Int × Nat) × Nat)} {i b : Nat} (p : List (Int × Int × Nat) × Nat) (h1 : bs[i]? = some b) (h2 : i < Ls.length) :
    (mapsH bs (Ls.set i p)).Perm ((b, mapO (Value.int .i64) (Value.int .i64) p.1 p.2) :: mapsH (bs.eraseIdx i) (Ls.eraseIdx i)) := by
  have := mapsH_pick (Ls := Ls.set i p) (p := p) h1 (by rw [List.getElem?_set_self h2])
  rwa [List.eraseIdx_set_eq] at this

theorem oset_spec {S : Nat → Prop} {w : World} {O : List Nat} {cb nc tc : Nat} {na ta : Option Addr} {now : List Int} {num den slack : Int} {bs : List Nat} {Ls : List (List (Int × Int × Nat) × Nat)} (H0 : Hp w S O ((cb, .cells #[.slice na now.length nc, .int .i64 num, .int .i64 den, .int .i64 slack, .slice ta bs.length tc] 47 (0, 0)) :: mapsH bs Ls) [⟨Shape.mref, 50, .slice ta bs.length tc, bs⟩, ⟨Shape.int .i64, 3, .slice na now.length nc, now⟩] [] w) (hn : 0 < now.length) (hnl : now.length ≤ 32) (hbl : bs.length = now.length) (hLl : Ls.length = now.length) (node id at_ : Int) : Calls Try.prog 12 #[.pointer (some ⟨cb, 0, none⟩), .int .i64 node, .int .i64 id, .int .i64 at_] w (Ret fun v w' => v = .int .i64 (osetR now.length Ls node id at_) ∧ Hp w S O ((cb, .cells #[.slice na now.length nc, .int .i64 num, .int .i64 den, .int .i64 slack, .slice ta bs.length tc] 47 (0, 0)) :: mapsH bs (osetL now.length Ls node id at_)) [⟨Shape.mref, 50, .slice ta bs.length tc, bs⟩, ⟨Shape.int .i64, 3, .slice na now.length nc, now⟩] [] w') := by
  rcases st_cases hn node with ⟨hs, h1⟩ | ⟨hs, h1⟩
  · have hib : (node - 1).toNat < bs.length := by omega
    have hiL : (node - 1).toNat < Ls.length := by omega
    obtain ⟨mb, hmb⟩ : ∃ z, bs[(node - 1).toNat]? = some z := ⟨_, List.getElem?_eq_getElem hib⟩
    obtain ⟨p, hp⟩ : ∃ z, Ls[(node - 1).toNat]? = some z := ⟨_, List.getElem?_eq_getElem hiL⟩
    have e : node = ((node - 1).toNat : Int) + 1 := by omega
    have H1 := H0.perms (M' := (cb, .cells #[.slice na now.length nc, .int .i64 num, .int .i64 den, .int .i64 slack, .slice ta bs.length tc] 47 (0, 0)) :: (mb, mapO (Value.int .i64) (Value.int .i64) p.1 p.2) :: mapsH (bs.eraseIdx (node - 1).toNat) (Ls.eraseIdx (node - 1).toNat)) (W' := [⟨Shape.mref, 50, .slice ta bs.length tc, bs⟩, ⟨Shape.int .i64, 3, .slice na now.length nc, now⟩]) ((mapsH_pick hmb hp).symm.cons _) (List.Perm.refl _)
    have H2 := (H1.lend (M1 := [(cb, .cells #[.slice na now.length nc, .int .i64 num, .int .i64 den, .int .i64 slack, .slice ta bs.length tc] 47 (0, 0)), (mb, mapO (Value.int .i64) (Value.int .i64) p.1 p.2)]) (W1 := [⟨Shape.mref, 50, .slice ta bs.length tc, bs⟩])).pick [] rfl
    have hc := set_in (i := (node - 1).toNat) id at_ H2 (by omega) hnl hmb
    rw [← e] at hc
    refine hc.mono fun e_ w' hh => ?_
    obtain ⟨v, he, hv, H'⟩ := hh
    have H3 := (H1.back (M1 := [(cb, .cells #[.slice na now.length nc, .int .i64 num, .int .i64 den, .int .i64 slack, .slice ta bs.length tc] 47 (0, 0)), (mb, mapO (Value.int .i64) (Value.int .i64) p.1 p.2)]) (W1 := [⟨Shape.mref, 50, .slice ta bs.length tc, bs⟩]) H')
    refine ⟨v, he, ?_, ?_⟩
    · unfold osetR
      rw [if_pos hs, hp, Option.getD_some]
      exact hv
    · unfold osetL
      rw [if_pos hs, hp, Option.getD_some]
      exact (H3.perms ((mapsH_put _ hmb hiL).cons _) (List.Perm.refl _)).pick [] rfl
  · refine (set_out (S := fun _ => True) (node := node) (now := now) (H0.viewM 0 rfl (by simp)) (by omega) id at_).mono fun e_ w' hh => ?_
    obtain ⟨v, he, hx, hv⟩ := hh
    refine ⟨v, he, ?_, ?_⟩
    · unfold osetR
      rw [if_neg (show ¬ stE now.length node = 0 by omega)]
      exact hv
    · unfold osetL
      rw [if_neg (show ¬ stE now.length node = 0 by omega)]
      exact H0.ext hx

theorem ocan_spec {S : Nat → Prop} {w : World} {O : List Nat} {cb nc tc : Nat} {na ta : Option Addr} {now : List Int} {num den slack : Int} {bs : List Nat} {Ls : List (List (Int × Int × Nat) × Nat)} (H0 : Hp w S O ((cb, .cells #[.slice na now.length nc, .int .i64 num, .int .i64 den, .int .i64 slack, .slice ta bs.length tc] 47 (0, 0)) :: mapsH bs Ls) [⟨Shape.mref, 50, .slice ta bs.length tc, bs⟩, ⟨Shape.int .i64, 3, .slice na now.length nc, now⟩] [] w) (hn : 0 < now.length) (hnl : now.length ≤ 32) (hbl : bs.length = now.length) (hLl : Ls.length = now.length) (node id : Int) : Calls Try.prog 18 #[.pointer (some ⟨cb, 0, none⟩), .int .i64 node, .int .i64 id] w (Ret fun v w' => v = .bool (ocanR now.length Ls node id) ∧ Hp w S O ((cb, .cells #[.slice na now.length nc, .int .i64 num, .int .i64 den, .int .i64 slack, .slice ta bs.length tc] 47 (0, 0)) :: mapsH bs (ocanL now.length Ls node id)) [⟨Shape.mref, 50, .slice ta bs.length tc, bs⟩, ⟨Shape.int .i64, 3, .slice na now.length nc, now⟩] [] w') := by
  rcases st_cases hn node with ⟨hs, h1⟩ | ⟨hs, h1⟩
  · have hib : (node - 1).toNat < bs.length := by omega
    have hiL : (node - 1).toNat < Ls.length := by omega
    obtain ⟨mb, hmb⟩ : ∃ z, bs[(node - 1).toNat]? = some z := ⟨_, List.getElem?_eq_getElem hib⟩
    obtain ⟨p, hp⟩ : ∃ z, Ls[(node - 1).toNat]? = some z := ⟨_, List.getElem?_eq_getElem hiL⟩
    have e : node = ((node - 1).toNat : Int) + 1 := by omega
    have H1 := H0.perms (M' := (cb, .cells #[.slice na now.length nc, .int .i64 num, .int .i64 den, .int .i64 slack, .slice ta bs.length tc] 47 (0, 0)) :: (mb, mapO (Value.int .i64) (Value.int .i64) p.1 p.2) :: mapsH (bs.eraseIdx (node - 1).toNat) (Ls.eraseIdx (node - 1).toNat)) (W' := [⟨Shape.mref, 50, .slice ta bs.length tc, bs⟩, ⟨Shape.int .i64, 3, .slice na now.length nc, now⟩]) ((mapsH_pick hmb hp).symm.cons _) (List.Perm.refl _)
    have H2 := (H1.lend (M1 := [(cb, .cells #[.slice na now.length nc, .int .i64 num, .int .i64 den, .int .i64 slack, .slice ta bs.length tc] 47 (0, 0)), (mb, mapO (Value.int .i64) (Value.int .i64) p.1 p.2)]) (W1 := [⟨Shape.mref, 50, .slice ta bs.length tc, bs⟩])).pick [] rfl
    have hc := can_in (i := (node - 1).toNat) id H2 (by omega) hnl hmb
    rw [← e] at hc
    refine hc.mono fun e_ w' hh => ?_
    obtain ⟨v, he, hv, H'⟩ := hh
    have H3 := (H1.back (M1 := [(cb, .cells #[.slice na now.length nc, .int .i64 num, .int .i64 den, .int .i64 slack, .slice ta bs.length tc] 47 (0, 0)), (mb, mapO (Value.int .i64) (Value.int .i64) p.1 p.2)]) (W1 := [⟨Shape.mref, 50, .slice ta bs.length tc, bs⟩]) H')
    refine ⟨v, he, ?_, ?_⟩
    · unfold ocanR
      rw [if_pos hs, hp, Option.getD_some]
      exact hv
    · unfold ocanL
      rw [if_pos hs, hp, Option.getD_some]
      exact (H3.perms ((mapsH_put _ hmb hiL).cons _) (List.Perm.refl _)).pick [] rfl
  · refine (can_out (S := fun _ => True) (node := node) (now := now) (H0.viewM 0 rfl (by simp)) (by omega) id).mono fun e_ w' hh => ?_
    obtain ⟨v, he, hx, hv⟩ := hh
    refine ⟨v, he, ?_, ?_⟩
    · unfold ocanR
      rw [if_neg (show ¬ stE now.length node = 0 by omega)]
      exact hv
    · unfold ocanL
      rw [if_neg (show ¬ stE now.length node = 0 by omega)]
      exact H0.ext hx

theorem odue_spec {S : Nat → Prop} {w : World} {O : List Nat} {cb nc tc : Nat} {na ta : Option Addr} {now : List Int} {num den slack : Int} {bs : List Nat} {Ls : List (List (Int × Int × Nat) × Nat)} (H0 : Hp w S O ((cb, .cells #[.slice na now.length nc, .int .i64 num, .int .i64 den, .int .i64 slack, .slice ta bs.length tc] 47 (0, 0)) :: mapsH bs Ls) [⟨Shape.mref, 50, .slice ta bs.length tc, bs⟩, ⟨Shape.int .i64, 3, .slice na now.length nc, now⟩] [] w) (hn : 0 < now.length) (hnl : now.length ≤ 32) (hbl : bs.length = now.length) (hLl : Ls.length = now.length) {ts : List Rt} (hrel : Rel now.length Ls ts) (node : Int) : Calls Try.prog 13 #[.pointer (some ⟨cb, 0, none⟩), .int .i64 node] w (Ret fun v w' => ∃ (a : Option Addr) (c : Nat) (ids : List Int) (Ls' : List (List (Int × Int × Nat) × Nat)), v = .slice a ids.length c ∧ ODue now.length Ls node (nowE now node) ids Ls' ∧ Hp w S O ((cb, .cells #[.slice na now.length nc, .int .i64 num, .int .i64 den, .int .i64 slack, .slice ta bs.length tc] 47 (0, 0)) :: mapsH bs Ls') [⟨Shape.int .i64, 3, .slice a ids.length c, ids⟩, ⟨Shape.mref, 50, .slice ta bs.length tc, bs⟩, ⟨Shape.int .i64, 3, .slice na now.length nc, now⟩] [] w') := by
  rcases st_cases hn node with ⟨hs, h1⟩ | ⟨hs, h1⟩
  · have hib : (node - 1).toNat < bs.length := by omega
    have hiL : (node - 1).toNat < Ls.length := by omega
    obtain ⟨mb, hmb⟩ : ∃ z, bs[(node - 1).toNat]? = some z := ⟨_, List.getElem?_eq_getElem hib⟩
    obtain ⟨p, hp⟩ : ∃ z, Ls[(node - 1).toNat]? = some z := ⟨_, List.getElem?_eq_getElem hiL⟩
    have e : node = ((node - 1).toNat : Int) + 1 := by omega
    obtain ⟨p_, hp_, _, hk⟩ := hrel.node h1
    have hpe : p_ = p := Option.some.inj (hp_.symm.trans hp)
    rw [hpe] at hk
    have H1 := H0.perms (M' := (cb, .cells #[.slice na now.length nc, .int .i64 num, .int .i64 den, .int .i64 slack, .slice ta bs.length tc] 47 (0, 0)) :: (mb, mapO (Value.int .i64) (Value.int .i64) p.1 p.2) :: mapsH (bs.eraseIdx (node - 1).toNat) (Ls.eraseIdx (node - 1).toNat)) (W' := [⟨Shape.mref, 50, .slice ta bs.length tc, bs⟩, ⟨Shape.int .i64, 3, .slice na now.length nc, now⟩]) ((mapsH_pick hmb hp).symm.cons _) (List.Perm.refl _)
    have H2 := (H1.lend (M1 := [(cb, .cells #[.slice na now.length nc, .int .i64 num, .int .i64 den, .int .i64 slack, .slice ta bs.length tc] 47 (0, 0)), (mb, mapO (Value.int .i64) (Value.int .i64) p.1 p.2)]) (W1 := [⟨Shape.mref, 50, .slice ta bs.length tc, bs⟩, ⟨Shape.int .i64, 3, .slice na now.length nc, now⟩])).pick [] rfl
    have hc := due_in (i := (node - 1).toNat) H2 (by omega) hnl hmb hk.ok hk.len (fun q hq => ⟨(hk.bd q hq).1, by have := (hk.bd q hq).2; omega, by have := (hk.bd q hq).2; omega⟩)
    rw [← e] at hc
    refine hc.mono fun e_ w' hh => ?_
    obtain ⟨v, he, a, c, ids, ys, hv, hys, hord, hids, H'⟩ := hh
    have H3 := (H1.back (M1 := [(cb, .cells #[.slice na now.length nc, .int .i64 num, .int .i64 den, .int .i64 slack, .slice ta bs.length tc] 47 (0, 0)), (mb, mapO (Value.int .i64) (Value.int .i64) p.1 p.2)]) (W1 := [⟨Shape.mref, 50, .slice ta bs.length tc, bs⟩, ⟨Shape.int .i64, 3, .slice na now.length nc, now⟩]) H')
    have hne : nowE now node = now[(node - 1).toNat] := by unfold nowE; rw [if_pos hs, List.getElem?_eq_getElem (by omega)]; rfl
    refine ⟨v, he, a, c, ids, Ls.set (node - 1).toNat (delAll ids p.1, p.2), hv, ?_, (H3.perms ((mapsH_put _ hmb hiL).cons _) (List.Perm.refl _)).pick [] rfl⟩
    unfold ODue
    rw [if_pos hs, hp, Option.getD_some, hne]
    exact ⟨ys, hys, hord, hids, rfl⟩
  · refine (due_out (S := fun _ => True) (node := node) (now := now) (H0.viewM 0 rfl (by simp)) (by omega)).mono fun e_ w' hh => ?_
    obtain ⟨v, he, hx, hv⟩ := hh
    refine ⟨v, he, none, 0, [], Ls, hv, ?_, (H0.ext hx).ownNil (Shape.int .i64) 3⟩
    unfold ODue
    rw [if_neg (show ¬ stE now.length node = 0 by omega)]
    exact ⟨rfl, rfl⟩


end Go.Proofs.Ytghnicaefbdjfaa
