import Derived.Test.YtghnicaefbdjfaaC4
namespace Go.Proofs.Ytghnicaefbdjfaa
open Go.BX

def setB (L : List (Int × Int × Nat)) (id at_ : Int) : Bool := decide (at_ < 0 ∨ at_ > 1048576 ∨ ((mfind id L).isSome = false ∧ 1000 ≤ L.length))
def setL (L : List (Int × Int × Nat)) (c : Nat) (id at_ : Int) : List (Int × Int × Nat) := if setB L id at_ = true then L else mset id at_ c L
def setC (L : List (Int × Int × Nat)) (c : Nat) (id at_ : Int) : Nat := if setB L id at_ = true then c else mclk id c L

theorem set_in {S : Nat → Prop} {w : World} {O : List Nat} {cb nc tc mb cl : Nat} {na ta : Option Addr} {now : List Int} {num den slack : Int} {bs : List Nat} {L : List (Int × Int × Nat)} {i : Nat} (id at_ : Int) (H0 : Hp w S O [(cb, .cells #[.slice na now.length nc, .int .i64 num, .int .i64 den, .int .i64 slack, .slice ta bs.length tc] 47 (0, 0)), (mb, mapO (Value.int .i64) (Value.int .i64) L cl)] [⟨Shape.mref, 50, .slice ta bs.length tc, bs⟩] [] w) (hi : i < now.length) (hnl : now.length ≤ 32) (hbi : bs[i]? = some mb) :
    Calls Try.prog 12 #[.pointer (some ⟨cb, 0, none⟩), .int .i64 ((i : Int) + 1), .int .i64 id, .int .i64 at_] w (Ret fun v w' => v = .int .i64 (if setB L id at_ = true then 2 else 0) ∧ Hp w S O [(cb, .cells #[.slice na now.length nc, .int .i64 num, .int .i64 den, .int .i64 slack, .slice ta bs.length tc] 47 (0, 0)), (mb, mapO (Value.int .i64) (Value.int .i64) (setL L cl id at_) (setC L cl id at_))] [⟨Shape.mref, 50, .slice ta bs.length tc, bs⟩] [] w') := by
  obtain ⟨hib, hbe⟩ := List.getElem?_eq_some_iff.1 hbi
  refine WK.calls1 (fn := Try.f12) (n := 51) (σ := [(0, .pointer (some ⟨cb, 0, none⟩)), (1, .int .i64 ((i : Int) + 1)), (2, .int .i64 id), (3, .int .i64 at_)]) Try.func12 rfl (by as_aux_lemma => kernel_rfl) (by as_aux_lemma => kernel_rfl) (by as_aux_lemma => kernel_rfl) ?_
  have H := H0
  refine WK.run 4 [0, 1, 2, 3] [.code (cd Try.prog 12 [1, 0, 0]), .code (cd Try.prog 12 [1, 0, 1]), .code (cd Try.prog 12 [2])] [(0, .pointer (some ⟨cb, 0, none⟩)), (1, .int .i64 ((i : Int) + 1)), (2, .int .i64 id), (3, .int .i64 at_)] (by as_aux_lemma => kernel_rfl) ?_
  refine WK.reg1 (l := sq 0 4) (by as_aux_lemma => kernel_rfl) (by as_aux_lemma => kernel_rfl) ?_
  refine RW.runP 2 [0, 1, 2, 3, 13, 14] (sq 2 4) [(0, .pointer (some ⟨cb, 0, none⟩)), (1, .int .i64 ((i : Int) + 1)), (2, .int .i64 id), (3, .int .i64 at_), (13, .pointer (some ⟨cb, 0, none⟩)), (14, .int .i64 ((i : Int) + 1))] (by as_aux_lemma => kernel_rfl) (by as_aux_lemma => kernel_rfl) ?_
  refine RW.call (κ := .seq) (d := some 15) (r := (sq 3 4)) (g := 23) (args := #[.pointer (some ⟨cb, 0, none⟩), .int .i64 ((i : Int) + 1)]) (by as_aux_lemma => kernel_rfl) (nofun) (state_in (S := fun _ => True) (now := now) (H.viewM 0 rfl (by simp)) (by omega)) ?_
  rintro _ w1 hE2 rfl
  have H := H.ext hE2
  refine RW.fin 1 [0, 1, 2, 3, 9] [(0, .pointer (some ⟨cb, 0, none⟩)), (1, .int .i64 ((i : Int) + 1)), (2, .int .i64 id), (3, .int .i64 at_), (9, .int .i64 0)] (by as_aux_lemma => kernel_rfl) ?_
  refine WK.run 5 [0, 1, 2, 3] [.code (cd Try.prog 12 [2, 0]), .code (cd Try.prog 12 [3])] [(0, .pointer (some ⟨cb, 0, none⟩)), (1, .int .i64 ((i : Int) + 1)), (2, .int .i64 id), (3, .int .i64 at_)] (by as_aux_lemma => kernel_rfl) ?_
  refine WK.reg1 (l := sq 0 9) (by as_aux_lemma => kernel_rfl) (by as_aux_lemma => kernel_rfl) ?_
  refine RW.runP 3 [1, 2, 3, 21] (sq 3 9) [(1, .int .i64 ((i : Int) + 1)), (2, .int .i64 id), (3, .int .i64 at_), (21, .pointer (some ⟨cb, 4, none⟩))] (by as_aux_lemma => kernel_rfl) (by as_aux_lemma => kernel_rfl) ?_
  refine RW.load (κ := .seq) (d := some 22) (r := (sq 4 9)) (T := 45) (b := cb) (o' := 4) (k := 4) (v := .slice ta bs.length tc) (by as_aux_lemma => kernel_rfl) (H.cells 0 rfl) rfl (by as_aux_lemma => kernel_rfl) ?_
  refine RW.runP 1 [2, 3, 22, 23] (sq 5 9) [(2, .int .i64 id), (3, .int .i64 at_), (22, .slice ta bs.length tc), (23, .int .i64 ((i : Int) + 1))] (by as_aux_lemma => kernel_rfl) (by as_aux_lemma => kernel_rfl) ?_
  refine RW.pv (κ := .seq) (d := some 24) (r := (sq 6 9)) (v' := .int .i64 (i : Int)) (v := .int .i64 (IntKind.i64.wrap (((i : Int) + 1) - 1))) (by as_aux_lemma => kernel_rfl) (by rw [IntKind.wrap_i64]; congr 1; omega) ?_
  have hn4 : bs.length = bs.length := rfl
  have hx3 : i < bs.length := by omega
  refine RW.indexW (κ := .seq) (d := some 25) (r := (sq 7 9)) (T := 45) (e := 50) (m := 1) (ik := .i64) (ix := (i : Int)) (sh := Shape.mref) (xs := bs) (a := ta) (len := bs.length) (cap := tc) (by as_aux_lemma => kernel_rfl) (by as_aux_lemma => kernel_rfl) rfl H i (by omega) hx3 hn4 ?_
  intro b5 es6 ha7 hcell8 hr9
  rw [hbe] at hr9
  obtain rfl := Shape.mref_at hr9
  refine RW.load (κ := .seq) (d := some 26) (r := (sq 8 9)) (T := 50) (b := b5) (o' := i * 1) (k := 0) (v := .map (some mb)) (by as_aux_lemma => kernel_rfl) hcell8 rfl (by as_aux_lemma => kernel_rfl) ?_
  refine RW.fin 1 [2, 3, 10] [(2, .int .i64 id), (3, .int .i64 at_), (10, .map (some mb))] (by as_aux_lemma => kernel_rfl) ?_
  refine WK.run 2 [2, 3, 10] [.code (cd Try.prog 12 [3, 0, 0]), .code (cd Try.prog 12 [3, 0, 1]), .code (cd Try.prog 12 [4])] [(2, .int .i64 id), (3, .int .i64 at_), (10, .map (some mb))] (by as_aux_lemma => kernel_rfl) ?_
  refine WK.reg1 (l := sq 0 8) (by as_aux_lemma => kernel_rfl) (by as_aux_lemma => kernel_rfl) ?_
  refine RW.runP 2 [2, 3, 10, 28, 29] (sq 2 8) [(2, .int .i64 id), (3, .int .i64 at_), (10, .map (some mb)), (28, .map (some mb)), (29, .int .i64 id)] (by as_aux_lemma => kernel_rfl) (by as_aux_lemma => kernel_rfl) ?_
  refine RW.mapGet (κ := .seq) (d := some 30) (r := (sq 3 8)) (T := 50) (mk := (Value.int .i64)) (vk := (Value.int .i64)) (Kt := 3) (E := 3) (z := 0) id true (by as_aux_lemma => kernel_rfl) H 1 rfl (KeyOk.int (by as_aux_lemma => kernel_rfl)) (by as_aux_lemma => kernel_rfl) (fun w_ => zeroE_run (by as_aux_lemma => kernel_rfl) w_) ?_
  refine RW.fin 5 [2, 3, 10, 12] [(2, .int .i64 id), (3, .int .i64 at_), (10, .map (some mb)), (12, .bool ((mfind id L).isSome))] (by as_aux_lemma => kernel_rfl) ?_
  refine WK.run 1 [2, 3, 10, 12] [.code (cd Try.prog 12 [3, 0, 1, 0]), .code (cd Try.prog 12 [3, 0, 2]), .code (cd Try.prog 12 [4])] [(2, .int .i64 id), (3, .int .i64 at_), (10, .map (some mb)), (12, .bool ((mfind id L).isSome))] (by as_aux_lemma => kernel_rfl) ?_
  refine WK.reg1 (l := sq 0 15) (by as_aux_lemma => kernel_rfl) (by as_aux_lemma => kernel_rfl) ?_
  refine RW.runP 3 [2, 3, 10, 12, 35] (sq 3 15) [(2, .int .i64 id), (3, .int .i64 at_), (10, .map (some mb)), (12, .bool ((mfind id L).isSome)), (35, .bool (decide ((at_ : Int) < 0)))] (by as_aux_lemma => kernel_rfl) (by as_aux_lemma => kernel_rfl) ?_
  refine RW.test (fun b_ => [(2, .int .i64 id), (3, .int .i64 at_), (10, .map (some mb)), (12, .bool ((mfind id L).isSome)), (35, .bool b_)]) (decide ((at_ : Int) < 0)) (fun h10 => ?_) (fun h10 => ?_)
  · skip
    replace h10 := of_decide_eq_true h10
    refine RW.fin 12 [2, 3, 10, 47] [(2, .int .i64 id), (3, .int .i64 at_), (10, .map (some mb)), (47, .bool true)] (by as_aux_lemma => kernel_rfl) ?_
    refine WK.run 3 [8] [.code (cd Try.prog 12 [3, 0, 2, 0, 1]), .code (cd Try.prog 12 [4])] [(8, .int .i64 2)] (by as_aux_lemma => kernel_rfl) ?_
    refine WK.ret (v := .int .i64 2) Try.func12 (by as_aux_lemma => kernel_rfl) (by as_aux_lemma => kernel_rfl) ?_
    have hb : setB L id at_ = true := decide_eq_true (by first | (left; omega) | (right; left; omega) | (right; right; exact ⟨by simp_all, by omega⟩))
    refine ⟨_, rfl, ?_, ?_⟩
    · rw [hb]; rfl
    · unfold setL setC
      rw [hb]
      exact H.pick [] rfl
  · skip
    replace h10 := of_decide_eq_false h10
    refine RW.runP 4 [2, 3, 10, 12, 39] (sq 7 15) [(2, .int .i64 id), (3, .int .i64 at_), (10, .map (some mb)), (12, .bool ((mfind id L).isSome)), (39, .bool (decide ((at_ : Int) > 1048576)))] (by as_aux_lemma => kernel_rfl) (by as_aux_lemma => kernel_rfl) ?_
    refine RW.test (fun b_ => [(2, .int .i64 id), (3, .int .i64 at_), (10, .map (some mb)), (12, .bool ((mfind id L).isSome)), (39, .bool b_)]) (decide ((at_ : Int) > 1048576)) (fun h11 => ?_) (fun h11 => ?_)
    · skip
      replace h11 := of_decide_eq_true h11
      refine RW.fin 8 [2, 3, 10, 47] [(2, .int .i64 id), (3, .int .i64 at_), (10, .map (some mb)), (47, .bool true)] (by as_aux_lemma => kernel_rfl) ?_
      refine WK.run 3 [8] [.code (cd Try.prog 12 [3, 0, 2, 0, 1]), .code (cd Try.prog 12 [4])] [(8, .int .i64 2)] (by as_aux_lemma => kernel_rfl) ?_
      refine WK.ret (v := .int .i64 2) Try.func12 (by as_aux_lemma => kernel_rfl) (by as_aux_lemma => kernel_rfl) ?_
      have hb : setB L id at_ = true := decide_eq_true (by first | (left; omega) | (right; left; omega) | (right; right; exact ⟨by simp_all, by omega⟩))
      refine ⟨_, rfl, ?_, ?_⟩
      · rw [hb]; rfl
      · unfold setL setC
        rw [hb]
        exact H.pick [] rfl
    · skip
      replace h11 := of_decide_eq_false h11
      refine RW.runP 3 [2, 3, 10, 39, 42] (sq 10 15) [(2, .int .i64 id), (3, .int .i64 at_), (10, .map (some mb)), (39, .bool false), (42, .bool (!((mfind id L).isSome)))] (by as_aux_lemma => kernel_rfl) (by as_aux_lemma => kernel_rfl) ?_
      refine RW.test (fun b_ => [(2, .int .i64 id), (3, .int .i64 at_), (10, .map (some mb)), (39, .bool false), (42, .bool b_)]) (!((mfind id L).isSome)) (fun h12 => ?_) (fun h12 => ?_)
      · skip
        replace h12 : ((mfind id L).isSome) = false := by revert h12; cases ((mfind id L).isSome) <;> simp
        refine RW.runP 1 [2, 3, 10, 39, 42, 43] (sq 11 15) [(2, .int .i64 id), (3, .int .i64 at_), (10, .map (some mb)), (39, .bool false), (42, .bool true), (43, .map (some mb))] (by as_aux_lemma => kernel_rfl) (by as_aux_lemma => kernel_rfl) ?_
        refine RW.mapLen (κ := .seq) (d := some 44) (r := (sq 12 15)) (T := 50) (ts := #[50]) (t := 3) (mk := (Value.int .i64)) (vk := (Value.int .i64)) (Kt := 3) (E := 3) (by as_aux_lemma => kernel_rfl) H 1 rfl (by as_aux_lemma => kernel_rfl) (by as_aux_lemma => kernel_rfl) ?_
        refine RW.fin 3 [2, 3, 10, 47] [(2, .int .i64 id), (3, .int .i64 at_), (10, .map (some mb)), (47, .bool (decide ((((L.length : Nat) : Int) : Int) ≥ 1000)))] (by as_aux_lemma => kernel_rfl) ?_
        refine WK.cond1 (decide ((((L.length : Nat) : Int) : Int) ≥ 1000)) (by as_aux_lemma => kernel_rfl) (by as_aux_lemma => kernel_rfl) (fun h13 => ?_) (fun h13 => ?_)
        · skip
          replace h13 := of_decide_eq_true h13
          refine WK.run 2 [8] [.code (cd Try.prog 12 [3, 0, 2, 0, 1]), .code (cd Try.prog 12 [4])] [(8, .int .i64 2)] (by as_aux_lemma => kernel_rfl) ?_
          refine WK.ret (v := .int .i64 2) Try.func12 (by as_aux_lemma => kernel_rfl) (by as_aux_lemma => kernel_rfl) ?_
          have hb : setB L id at_ = true := decide_eq_true (by first | (left; omega) | (right; left; omega) | (right; right; exact ⟨by simp_all, by omega⟩))
          refine ⟨_, rfl, ?_, ?_⟩
          · rw [hb]; rfl
          · unfold setL setC
            rw [hb]
            exact H.pick [] rfl
        · skip
          replace h13 := of_decide_eq_false h13
          refine WK.run 2 [2, 3, 10] [.code (cd Try.prog 12 [4, 0]), .code (cd Try.prog 12 [5])] [(2, .int .i64 id), (3, .int .i64 at_), (10, .map (some mb))] (by as_aux_lemma => kernel_rfl) ?_
          refine WK.reg1 (l := sq 0 4) (by as_aux_lemma => kernel_rfl) (by as_aux_lemma => kernel_rfl) ?_
          refine RW.runP 3 [48, 49, 50] (sq 3 4) [(48, .map (some mb)), (49, .int .i64 id), (50, .int .i64 at_)] (by as_aux_lemma => kernel_rfl) (by as_aux_lemma => kernel_rfl) ?_
          refine RW.mapSet (d := none) (r := (sq 4 4)) (T := 50) (mk := (Value.int .i64)) (vk := (Value.int .i64)) (Kt := 3) (E := 3) (M' := [(cb, .cells #[.slice na now.length nc, .int .i64 num, .int .i64 den, .int .i64 slack, .slice ta bs.length tc] 47 (0, 0)), (mb, mapO (Value.int .i64) (Value.int .i64) (mset id at_ cl L) (mclk id cl L))]) id at_ (by as_aux_lemma => kernel_rfl) H 1 rfl (KeyOk.int (by as_aux_lemma => kernel_rfl)) (by as_aux_lemma => kernel_rfl) rfl ?_
          intro w14 hCw14 H
          refine RW.fin 0 [] [] (by as_aux_lemma => kernel_rfl) ?_
          refine WK.run 2 [8] [.code (cd Try.prog 12 [6])] [(8, .int .i64 0)] (by as_aux_lemma => kernel_rfl) ?_
          refine WK.ret (v := .int .i64 0) Try.func12 (by as_aux_lemma => kernel_rfl) (by as_aux_lemma => kernel_rfl) ?_
          have hb : setB L id at_ = false := decide_eq_false (by intro hh; rcases hh with hh | hh | ⟨hh, hh2⟩ <;> first | omega | simp_all)
          refine ⟨_, rfl, ?_, ?_⟩
          · rw [hb]; rfl
          · unfold setL setC
            rw [hb]
            exact H.pick [] rfl
      · skip
        replace h12 : ((mfind id L).isSome) = true := by revert h12; cases ((mfind id L).isSome) <;> simp
        refine RW.fin 5 [2, 3, 10, 47] [(2, .int .i64 id), (3, .int .i64 at_), (10, .map (some mb)), (47, .bool false)] (by as_aux_lemma => kernel_rfl) ?_
        refine WK.run 3 [2, 3, 10] [.code (cd Try.prog 12 [4, 0]), .code (cd Try.prog 12 [5])] [(2, .int .i64 id), (3, .int .i64 at_), (10, .map (some mb))] (by as_aux_lemma => kernel_rfl) ?_
        refine WK.reg1 (l := sq 0 4) (by as_aux_lemma => kernel_rfl) (by as_aux_lemma => kernel_rfl) ?_
        refine RW.runP 3 [48, 49, 50] (sq 3 4) [(48, .map (some mb)), (49, .int .i64 id), (50, .int .i64 at_)] (by as_aux_lemma => kernel_rfl) (by as_aux_lemma => kernel_rfl) ?_
        refine RW.mapSet (d := none) (r := (sq 4 4)) (T := 50) (mk := (Value.int .i64)) (vk := (Value.int .i64)) (Kt := 3) (E := 3) (M' := [(cb, .cells #[.slice na now.length nc, .int .i64 num, .int .i64 den, .int .i64 slack, .slice ta bs.length tc] 47 (0, 0)), (mb, mapO (Value.int .i64) (Value.int .i64) (mset id at_ cl L) (mclk id cl L))]) id at_ (by as_aux_lemma => kernel_rfl) H 1 rfl (KeyOk.int (by as_aux_lemma => kernel_rfl)) (by as_aux_lemma => kernel_rfl) rfl ?_
        intro w15 hCw15 H
        refine RW.fin 0 [] [] (by as_aux_lemma => kernel_rfl) ?_
        refine WK.run 2 [8] [.code (cd Try.prog 12 [6])] [(8, .int .i64 0)] (by as_aux_lemma => kernel_rfl) ?_
        refine WK.ret (v := .int .i64 0) Try.func12 (by as_aux_lemma => kernel_rfl) (by as_aux_lemma => kernel_rfl) ?_
        have hb : setB L id at_ = false := decide_eq_false (by intro hh; rcases hh with hh | hh | ⟨hh, hh2⟩ <;> first | omega | simp_all)
        refine ⟨_, rfl, ?_, ?_⟩
        · rw [hb]; rfl
        · unfold setL setC
          rw [hb]
          exact H.pick [] rfl

theorem due_one {S : Nat → Prop} {w : World} {O : List Nat} {cb nc tc mb cl : Nat} {na ta : Option Addr} {now : List Int} {num den slack : Int} {bs : List Nat} {i s : Nat} {x t : Int} (H0 : Hp w S O [(cb, .cells #[.slice na now.length nc, .int .i64 num, .int .i64 den, .int .i64 slack, .slice ta bs.length tc] 47 (0, 0)), (mb, mapO (Value.int .i64) (Value.int .i64) ([(x, t, s)] : List (Int × Int × Nat)) cl)] [⟨Shape.mref, 50, .slice ta bs.length tc, bs⟩, ⟨Shape.int .i64, 3, .slice na now.length nc, now⟩] [] w) (hi : i < now.length) (hnl : now.length ≤ 32) (hbi : bs[i]? = some mb) (ht : t ≤ now[i]) (hs : s < cl) (hx : -9223372036854775808 ≤ x ∧ x ≤ 9223372036854775807) (ht0 : 0 ≤ t ∧ t ≤ 1048576) :
    Calls Try.prog 13 #[.pointer (some ⟨cb, 0, none⟩), .int .i64 ((i : Int) + 1)] w (Ret fun v w' => ∃ (a : Option Addr) (c : Nat), v = .slice a ([x] : List Int).length c ∧ Hp w S O [(cb, .cells #[.slice na now.length nc, .int .i64 num, .int .i64 den, .int .i64 slack, .slice ta bs.length tc] 47 (0, 0)), (mb, mapO (Value.int .i64) (Value.int .i64) ([] : List (Int × Int × Nat)) cl)] [⟨Shape.int .i64, 3, .slice a ([x] : List Int).length c, [x]⟩, ⟨Shape.mref, 50, .slice ta bs.length tc, bs⟩, ⟨Shape.int .i64, 3, .slice na now.length nc, now⟩] [] w') := by
  obtain ⟨hib, hbe⟩ := List.getElem?_eq_some_iff.1 hbi
  refine WK.calls1 (fn := Try.f13) (n := 64) (σ := [(0, .pointer (some ⟨cb, 0, none⟩)), (1, .int .i64 ((i : Int) + 1))]) Try.func13 rfl (by as_aux_lemma => kernel_rfl) (by as_aux_lemma => kernel_rfl) (by as_aux_lemma => kernel_rfl) ?_
  have H := H0
  refine WK.run 4 [0, 1] [.code (cd Try.prog 13 [1, 0, 0]), .code (cd Try.prog 13 [1, 0, 1]), .code (cd Try.prog 13 [2])] [(0, .pointer (some ⟨cb, 0, none⟩)), (1, .int .i64 ((i : Int) + 1))] (by as_aux_lemma => kernel_rfl) ?_
  refine WK.reg1 (l := sq 0 4) (by as_aux_lemma => kernel_rfl) (by as_aux_lemma => kernel_rfl) ?_
  refine RW.runP 2 [0, 1, 12, 13] (sq 2 4) [(0, .pointer (some ⟨cb, 0, none⟩)), (1, .int .i64 ((i : Int) + 1)), (12, .pointer (some ⟨cb, 0, none⟩)), (13, .int .i64 ((i : Int) + 1))] (by as_aux_lemma => kernel_rfl) (by as_aux_lemma => kernel_rfl) ?_
  refine RW.call (κ := .seq) (d := some 14) (r := (sq 3 4)) (g := 23) (args := #[.pointer (some ⟨cb, 0, none⟩), .int .i64 ((i : Int) + 1)]) (by as_aux_lemma => kernel_rfl) (nofun) (state_in (S := fun _ => True) (now := now) (H.viewM 0 rfl (by simp)) (by omega)) ?_
  rintro _ w1 hE2 rfl
  have H := H.ext hE2
  refine RW.fin 1 [0, 1, 15] [(0, .pointer (some ⟨cb, 0, none⟩)), (1, .int .i64 ((i : Int) + 1)), (15, .bool false)] (by as_aux_lemma => kernel_rfl) ?_
  refine WK.run 3 [0, 1] [.code (cd Try.prog 13 [2, 0]), .code (cd Try.prog 13 [3])] [(0, .pointer (some ⟨cb, 0, none⟩)), (1, .int .i64 ((i : Int) + 1))] (by as_aux_lemma => kernel_rfl) ?_
  refine WK.reg1 (l := sq 0 9) (by as_aux_lemma => kernel_rfl) (by as_aux_lemma => kernel_rfl) ?_
  refine RW.runP 3 [0, 1, 18] (sq 3 9) [(0, .pointer (some ⟨cb, 0, none⟩)), (1, .int .i64 ((i : Int) + 1)), (18, .pointer (some ⟨cb, 4, none⟩))] (by as_aux_lemma => kernel_rfl) (by as_aux_lemma => kernel_rfl) ?_
  refine RW.load (κ := .seq) (d := some 19) (r := (sq 4 9)) (T := 45) (b := cb) (o' := 4) (k := 4) (v := .slice ta bs.length tc) (by as_aux_lemma => kernel_rfl) (H.cells 0 rfl) rfl (by as_aux_lemma => kernel_rfl) ?_
  refine RW.runP 1 [0, 1, 19, 20] (sq 5 9) [(0, .pointer (some ⟨cb, 0, none⟩)), (1, .int .i64 ((i : Int) + 1)), (19, .slice ta bs.length tc), (20, .int .i64 ((i : Int) + 1))] (by as_aux_lemma => kernel_rfl) (by as_aux_lemma => kernel_rfl) ?_
  refine RW.pv (κ := .seq) (d := some 21) (r := (sq 6 9)) (v' := .int .i64 (i : Int)) (v := .int .i64 (IntKind.i64.wrap (((i : Int) + 1) - 1))) (by as_aux_lemma => kernel_rfl) (by rw [IntKind.wrap_i64]; congr 1; omega) ?_
  have hn4 : bs.length = bs.length := rfl
  have hx3 : i < bs.length := by omega
  refine RW.indexW (κ := .seq) (d := some 22) (r := (sq 7 9)) (T := 45) (e := 50) (m := 1) (ik := .i64) (ix := (i : Int)) (sh := Shape.mref) (xs := bs) (a := ta) (len := bs.length) (cap := tc) (by as_aux_lemma => kernel_rfl) (by as_aux_lemma => kernel_rfl) rfl H i (by omega) hx3 hn4 ?_
  intro b5 es6 ha7 hcell8 hr9
  rw [hbe] at hr9
  obtain rfl := Shape.mref_at hr9
  refine RW.load (κ := .seq) (d := some 23) (r := (sq 8 9)) (T := 50) (b := b5) (o' := i * 1) (k := 0) (v := .map (some mb)) (by as_aux_lemma => kernel_rfl) hcell8 rfl (by as_aux_lemma => kernel_rfl) ?_
  refine RW.fin 1 [0, 1, 5] [(0, .pointer (some ⟨cb, 0, none⟩)), (1, .int .i64 ((i : Int) + 1)), (5, .map (some mb))] (by as_aux_lemma => kernel_rfl) ?_
  refine WK.run 4 [0, 1, 5, 6] [.code (cd Try.prog 13 [4, 0, 0]), .code (cd Try.prog 13 [4, 0, 1]), .code (cd Try.prog 13 [5])] [(0, .pointer (some ⟨cb, 0, none⟩)), (1, .int .i64 ((i : Int) + 1)), (5, .map (some mb)), (6, .slice none 0 0)] (by as_aux_lemma => kernel_rfl) ?_
  refine WK.reg1 (l := sq 0 2) (by as_aux_lemma => kernel_rfl) (by as_aux_lemma => kernel_rfl) ?_
  refine RW.runP 1 [0, 1, 5, 6, 24] (sq 1 2) [(0, .pointer (some ⟨cb, 0, none⟩)), (1, .int .i64 ((i : Int) + 1)), (5, .map (some mb)), (6, .slice none 0 0), (24, .map (some mb))] (by as_aux_lemma => kernel_rfl) (by as_aux_lemma => kernel_rfl) ?_
  refine RW.mapRange (κ := .seq) (d := some 25) (r := (sq 2 2)) (T := 50) (mk := (Value.int .i64)) (vk := (Value.int .i64)) (Kt := 3) (E := 3) (by as_aux_lemma => kernel_rfl) (nofun) H 1 rfl (by as_aux_lemma => kernel_rfl) ?_
  intro q10 w11 hNw11 H
  refine RW.fin 0 [0, 1, 5, 6, 25] [(0, .pointer (some ⟨cb, 0, none⟩)), (1, .int .i64 ((i : Int) + 1)), (5, .map (some mb)), (6, .slice none 0 0), (25, .pointer (some ⟨q10, 0, none⟩))] (by as_aux_lemma => kernel_rfl) ?_
  refine WK.run 1 [0, 1, 5, 6, 25] [.code (cd Try.prog 13 [4, 0, 1, 0]), .inBlock 0, .code (cd Try.prog 13 [5])] [(0, .pointer (some ⟨cb, 0, none⟩)), (1, .int .i64 ((i : Int) + 1)), (5, .map (some mb)), (6, .slice none 0 0), (25, .pointer (some ⟨q10, 0, none⟩))] (by as_aux_lemma => kernel_rfl) ?_
  have H := H.ownNil tmrS 57
  have H : Hp w S O [(q10, iterO mb cl ([] : List (Int × Int × Nat)) cl), (cb, .cells #[.slice na now.length nc, .int .i64 num, .int .i64 den, .int .i64 slack, .slice ta bs.length tc] 47 (0, 0)), (mb, mapO (Value.int .i64) (Value.int .i64) ([(x, t, s)] : List (Int × Int × Nat)) cl)] [⟨tmrS, 57, .slice none (([] : List Tmr).length) 0, ([] : List Tmr)⟩, ⟨Shape.mref, 50, .slice ta bs.length tc, bs⟩, ⟨Shape.int .i64, 3, .slice na now.length nc, now⟩] [] w11 := H
  have hok : MOk ([(x, t, s)] : List (Int × Int × Nat)) cl := ⟨by simp, by simp, by intro e he; simp at he; subst he; exact hs⟩
  refine WK.loop (α := List (Int × Int × Nat) × List (Int × Int × Nat) × List Tmr × Option Addr × Nat) (b := cd Try.prog 13 [4, 0, 1, 0, 0]) (by as_aux_lemma => kernel_rfl) (fun st_ => match st_ with | (dn, lf, due, da, dc) => [(0, .pointer (some ⟨cb, 0, none⟩)), (1, .int .i64 ((i : Int) + 1)), (5, .map (some mb)), (6, .slice da due.length dc), (25, .pointer (some ⟨q10, 0, none⟩))]) (fun st_ w' => match st_ with | (dn, lf, due, da, dc) => Hp w S O [(q10, iterO mb cl dn cl), (cb, .cells #[.slice na now.length nc, .int .i64 num, .int .i64 den, .int .i64 slack, .slice ta bs.length tc] 47 (0, 0)), (mb, mapO (Value.int .i64) (Value.int .i64) ([(x, t, s)] : List (Int × Int × Nat)) cl)] [⟨tmrS, 57, .slice da due.length dc, due⟩, ⟨Shape.mref, 50, .slice ta bs.length tc, bs⟩, ⟨Shape.int .i64, 3, .slice na now.length nc, now⟩] [] w' ∧ (dn ++ lf).Perm ([(x, t, s)] : List (Int × Int × Nat)) ∧ due = dn.map (fun e => (⟨e.2.1, e.1⟩ : Tmr))) (fun st_ => match st_ with | (dn, lf, due, da, dc) => lf.length) (([] : List (Int × Int × Nat)), ([(x, t, s)] : List (Int × Int × Nat)), ([] : List Tmr), none, 0) ⟨H, by simp⟩ (rfl) ?_
  rintro ⟨dn, lf, due, da, dc⟩ w13 ⟨H, hinv0⟩ hback12
  refine WK.run 1 [0, 1, 5, 6, 25] [.code (cd Try.prog 13 [4, 0, 1, 0, 0, 0]), .code (cd Try.prog 13 [4, 0, 1, 0, 0, 1]), .inLoop (cd Try.prog 13 [4, 0, 1, 0, 0]), .inBlock 0, .code (cd Try.prog 13 [5])] [(0, .pointer (some ⟨cb, 0, none⟩)), (1, .int .i64 ((i : Int) + 1)), (5, .map (some mb)), (6, .slice da due.length dc), (25, .pointer (some ⟨q10, 0, none⟩))] (by as_aux_lemma => kernel_rfl) ?_
  refine WK.reg1 (l := sq 0 2) (by as_aux_lemma => kernel_rfl) (by as_aux_lemma => kernel_rfl) ?_
  refine RW.mapNext (d := some 26) (r := (sq 1 2)) (ty := 0) (mk := (Value.int .i64)) (vk := (Value.int .i64)) (lf := lf) (by as_aux_lemma => kernel_rfl) H 2 rfl 0 rfl hinv0.1 hok.borns hok.old (Nat.le_refl _) (fun ho17 => ?_) (fun e14 lf15 hl16 => ?_)
  · skip
    subst ho17
    obtain ⟨hp0, hdue⟩ := hinv0
    obtain rfl : dn = ([(x, t, s)] : List (Int × Int × Nat)) := by simpa using hp0
    obtain rfl : due = [⟨t, x⟩] := hdue
    have H : Hp w S O [(q10, iterO mb cl ([(x, t, s)] : List (Int × Int × Nat)) cl), (cb, .cells #[.slice na now.length nc, .int .i64 num, .int .i64 den, .int .i64 slack, .slice ta bs.length tc] 47 (0, 0)), (mb, mapO (Value.int .i64) (Value.int .i64) ([(x, t, s)] : List (Int × Int × Nat)) cl)] [⟨tmrS, 57, .slice da (([⟨t, x⟩] : List Tmr).length) dc, ([⟨t, x⟩] : List Tmr)⟩, ⟨Shape.mref, 50, .slice ta bs.length tc, bs⟩, ⟨Shape.int .i64, 3, .slice na now.length nc, now⟩] [] w13 := H
    refine RW.fin 1 [0, 1, 5, 6, 25, 27] [(0, .pointer (some ⟨cb, 0, none⟩)), (1, .int .i64 ((i : Int) + 1)), (5, .map (some mb)), (6, .slice da (([⟨t, x⟩] : List Tmr).length) dc), (25, .pointer (some ⟨q10, 0, none⟩)), (27, .bool false)] (by as_aux_lemma => kernel_rfl) ?_
    refine WK.run 7 [5, 6, 9] [.code (cd Try.prog 13 [6, 0, 0]), .code (cd Try.prog 13 [6, 0, 1]), .code (cd Try.prog 13 [7])] [(5, .map (some mb)), (6, .slice da (([⟨t, x⟩] : List Tmr).length) dc), (9, .slice none 0 0)] (by as_aux_lemma => kernel_rfl) ?_
    refine WK.reg1 (l := sq 0 4) (by as_aux_lemma => kernel_rfl) (by as_aux_lemma => kernel_rfl) ?_
    refine RW.runP 1 [5, 9, 47] (sq 1 4) [(5, .map (some mb)), (9, .slice none 0 0), (47, .slice da (([⟨t, x⟩] : List Tmr).length) dc)] (by as_aux_lemma => kernel_rfl) (by as_aux_lemma => kernel_rfl) ?_
    have H : Hp w S O [(q10, iterO mb cl ([(x, t, s)] : List (Int × Int × Nat)) cl), (cb, .cells #[.slice na now.length nc, .int .i64 num, .int .i64 den, .int .i64 slack, .slice ta bs.length tc] 47 (0, 0)), (mb, mapO (Value.int .i64) (Value.int .i64) ([(x, t, s)] : List (Int × Int × Nat)) cl)] [⟨Shape.mref, 50, .slice ta bs.length tc, bs⟩, ⟨Shape.int .i64, 3, .slice na now.length nc, now⟩] [Rp (Shape.slice tmrS) [.slice da (([⟨t, x⟩] : List Tmr).length) dc] ([⟨t, x⟩] : List Tmr)] _ := H.freezeW 0 rfl
    refine RW.call (κ := .seq) (d := some 48) (r := (sq 2 4)) (g := 27) (args := #[.slice da (([⟨t, x⟩] : List Tmr).length) dc, .func (.func 28) #[] #[]]) (by as_aux_lemma => kernel_rfl) (nofun) (sorted_1 (S := fun _ => True)) ?_
    rintro _ w18 hE19 rfl
    have H := H.ext hE19
    refine RW.fin 2 [5, 9, 48, 49, 50] [(5, .map (some mb)), (9, .slice none 0 0), (48, .slice da (([⟨t, x⟩] : List Tmr).length) dc), (49, .int .i64 ((([⟨t, x⟩] : List Tmr).length : Nat) : Int)), (50, .int .i64 0)] (by as_aux_lemma => kernel_rfl) ?_
    refine WK.run 1 [5, 9, 48, 49, 50] [.code (cd Try.prog 13 [6, 0, 1, 0]), .inBlock 2, .code (cd Try.prog 13 [7])] [(5, .map (some mb)), (9, .slice none 0 0), (48, .slice da (([⟨t, x⟩] : List Tmr).length) dc), (49, .int .i64 ((([⟨t, x⟩] : List Tmr).length : Nat) : Int)), (50, .int .i64 0)] (by as_aux_lemma => kernel_rfl) ?_
    have H := H.ownNil (Shape.int .i64) 3
    have H : Hp w S O [(q10, iterO mb cl ([(x, t, s)] : List (Int × Int × Nat)) cl), (cb, .cells #[.slice na now.length nc, .int .i64 num, .int .i64 den, .int .i64 slack, .slice ta bs.length tc] 47 (0, 0)), (mb, mapO (Value.int .i64) (Value.int .i64) ([(x, t, s)] : List (Int × Int × Nat)) cl)] [⟨Shape.int .i64, 3, .slice none (([] : List Int).length) 0, ([] : List Int)⟩, ⟨Shape.mref, 50, .slice ta bs.length tc, bs⟩, ⟨Shape.int .i64, 3, .slice na now.length nc, now⟩] [Rp (Shape.slice tmrS) [.slice da (([⟨t, x⟩] : List Tmr).length) dc] ([⟨t, x⟩] : List Tmr)] w18 := H
    have H := H.perms (M' := [(mb, mapO (Value.int .i64) (Value.int .i64) ([(x, t, s)] : List (Int × Int × Nat)) cl), (q10, iterO mb cl ([(x, t, s)] : List (Int × Int × Nat)) cl), (cb, .cells #[.slice na now.length nc, .int .i64 num, .int .i64 den, .int .i64 slack, .slice ta bs.length tc] 47 (0, 0))]) (W' := [⟨Shape.int .i64, 3, .slice none (([] : List Int).length) 0, ([] : List Int)⟩, ⟨Shape.mref, 50, .slice ta bs.length tc, bs⟩, ⟨Shape.int .i64, 3, .slice na now.length nc, now⟩]) (List.perm_middle (l₁ := ([(q10, iterO mb cl ([(x, t, s)] : List (Int × Int × Nat)) cl), (cb, .cells #[.slice na now.length nc, .int .i64 num, .int .i64 den, .int .i64 slack, .slice ta bs.length tc] 47 (0, 0))] : Heap))).symm (List.Perm.refl _)
    have H := H.perms (M' := [(cb, .cells #[.slice na now.length nc, .int .i64 num, .int .i64 den, .int .i64 slack, .slice ta bs.length tc] 47 (0, 0)), (mb, mapO (Value.int .i64) (Value.int .i64) ([(x, t, s)] : List (Int × Int × Nat)) cl), (q10, iterO mb cl ([(x, t, s)] : List (Int × Int × Nat)) cl)]) (W' := [⟨Shape.int .i64, 3, .slice none (([] : List Int).length) 0, ([] : List Int)⟩, ⟨Shape.mref, 50, .slice ta bs.length tc, bs⟩, ⟨Shape.int .i64, 3, .slice na now.length nc, now⟩]) (List.perm_middle (l₁ := ([(mb, mapO (Value.int .i64) (Value.int .i64) ([(x, t, s)] : List (Int × Int × Nat)) cl), (q10, iterO mb cl ([(x, t, s)] : List (Int × Int × Nat)) cl)] : Heap))).symm (List.Perm.refl _)
    have H := H.drop (M' := [(cb, .cells #[.slice na now.length nc, .int .i64 num, .int .i64 den, .int .i64 slack, .slice ta bs.length tc] 47 (0, 0)), (mb, mapO (Value.int .i64) (Value.int .i64) ([(x, t, s)] : List (Int × Int × Nat)) cl)]) (W' := [⟨Shape.int .i64, 3, .slice none ([] : List Int).length 0, ([] : List Int)⟩, ⟨Shape.mref, 50, .slice ta bs.length tc, bs⟩, ⟨Shape.int .i64, 3, .slice na now.length nc, now⟩]) (by repeat (first | exact List.Sublist.refl _ | exact List.nil_sublist _ | apply List.Sublist.cons_cons | apply List.Sublist.cons)) (by repeat (first | exact List.Sublist.refl _ | exact List.nil_sublist _ | apply List.Sublist.cons_cons | apply List.Sublist.cons))
    refine WK.loop (α := Nat × List Int × List (Int × Int × Nat) × Option Addr × Nat) (b := cd Try.prog 13 [6, 0, 1, 0, 0]) (by as_aux_lemma => kernel_rfl) (fun st_ => match st_ with | (k, ou, Lm, oa, oc) => [(5, .map (some mb)), (9, .slice oa ou.length oc), (48, .slice da (([⟨t, x⟩] : List Tmr).length) dc), (49, .int .i64 ((([⟨t, x⟩] : List Tmr).length : Nat) : Int)), (50, .int .i64 (k : Int))]) (fun st_ w' => match st_ with | (k, ou, Lm, oa, oc) => Hp w S O [(cb, .cells #[.slice na now.length nc, .int .i64 num, .int .i64 den, .int .i64 slack, .slice ta bs.length tc] 47 (0, 0)), (mb, mapO (Value.int .i64) (Value.int .i64) Lm cl)] [⟨Shape.int .i64, 3, .slice oa ou.length oc, ou⟩, ⟨Shape.mref, 50, .slice ta bs.length tc, bs⟩, ⟨Shape.int .i64, 3, .slice na now.length nc, now⟩] [Rp (Shape.slice tmrS) [.slice da (([⟨t, x⟩] : List Tmr).length) dc] ([⟨t, x⟩] : List Tmr)] w' ∧ (k = 0 ∧ ou = [] ∧ Lm = ([(x, t, s)] : List (Int × Int × Nat)) ∨ k = 1 ∧ ou = [x] ∧ Lm = [])) (fun st_ => match st_ with | (k, ou, Lm, oa, oc) => 1 - k) (0, ([] : List Int), ([(x, t, s)] : List (Int × Int × Nat)), none, 0) ⟨H, by simp⟩ (rfl) ?_
    rintro ⟨k, ou, Lm, oa, oc⟩ w21 ⟨H, hinv1⟩ hback20
    refine WK.run 3 [5, 9, 48, 49, 50, 51] [.code (cd Try.prog 13 [6, 0, 1, 0, 0, 1, 0]), .code (cd Try.prog 13 [6, 0, 1, 0, 0, 2]), .inLoop (cd Try.prog 13 [6, 0, 1, 0, 0]), .inBlock 2, .code (cd Try.prog 13 [7])] [(5, .map (some mb)), (9, .slice oa ou.length oc), (48, .slice da (([⟨t, x⟩] : List Tmr).length) dc), (49, .int .i64 ((([⟨t, x⟩] : List Tmr).length : Nat) : Int)), (50, .int .i64 (k : Int)), (51, .bool (decide (((k : Int) : Int) < ((([⟨t, x⟩] : List Tmr).length : Nat) : Int))))] (by as_aux_lemma => kernel_rfl) ?_
    refine WK.cond1 (decide (((k : Int) : Int) < ((([⟨t, x⟩] : List Tmr).length : Nat) : Int))) (by as_aux_lemma => kernel_rfl) (by as_aux_lemma => kernel_rfl) (fun h22 => ?_) (fun h22 => ?_)
    · skip
      replace h22 := of_decide_eq_true h22
      have hk0 : k = 0 ∧ ou = [] ∧ Lm = ([(x, t, s)] : List (Int × Int × Nat)) := by
        rcases hinv1 with h | h
        · exact h
        · exfalso; have := h.1; simp only [List.length_cons, List.length_nil] at h22; omega
      refine WK.run 4 [5, 9, 48, 49, 50] [.code (cd Try.prog 13 [6, 0, 1, 0, 0, 2, 0, 0, 0]), .code (cd Try.prog 13 [6, 0, 1, 0, 0, 2, 0, 0, 1]), .inBlock 3, .code (cd Try.prog 13 [6, 0, 1, 0, 0, 3]), .inLoop (cd Try.prog 13 [6, 0, 1, 0, 0]), .inBlock 2, .code (cd Try.prog 13 [7])] [(5, .map (some mb)), (9, .slice oa ou.length oc), (48, .slice da (([⟨t, x⟩] : List Tmr).length) dc), (49, .int .i64 ((([⟨t, x⟩] : List Tmr).length : Nat) : Int)), (50, .int .i64 (k : Int))] (by as_aux_lemma => kernel_rfl) ?_
      refine WK.reg1 (l := sq 0 4) (by as_aux_lemma => kernel_rfl) (by as_aux_lemma => kernel_rfl) ?_
      have hx23 : k < ([⟨t, x⟩] : List Tmr).length := by simp; omega
      refine RW.index (κ := .seq) (d := some 52) (r := (sq 1 4)) (T := 55) (e := 57) (ik := .i64) (ix := (k : Int)) (sh := tmrS) (x := ([⟨t, x⟩] : List Tmr)[k]) (by as_aux_lemma => kernel_rfl) (by as_aux_lemma => kernel_rfl) H 0 rfl k (by omega) (List.getElem?_eq_getElem hx23) ?_
      intro b24 o25 es26 hr27 H
      obtain ⟨rfl, hf29, hf30⟩ := tmr_open hr27
      refine RW.load (κ := .seq) (d := some 53) (r := (sq 2 4)) (T := 57) (b := b24) (o' := o25) (k := 0) (v := .agg #[.int .i64 ((([⟨t, x⟩] : List Tmr)[k]).when), .int .i64 ((([⟨t, x⟩] : List Tmr)[k]).id)]) (by as_aux_lemma => kernel_rfl) (H.fc 0 rfl) rfl (by as_aux_lemma => kernel_rfl) ?_
      refine RW.new (κ := .seq) (d := some 11) (r := (sq 3 4)) (o := .cells #[.int .i64 0, .int .i64 0] 57 (0, 0)) (v := fun b => .pointer (some ⟨b, 0, none⟩)) (fun b => by as_aux_lemma => kernel_rfl) (nofun) H ?_
      intro b31 w32 H
      refine RW.store (d := none) (r := (sq 4 4)) (T := 57) (b := b31) (k := 0) (v := .agg #[.int .i64 ((([⟨t, x⟩] : List Tmr)[k]).when), .int .i64 ((([⟨t, x⟩] : List Tmr)[k]).id)]) (c' := #[.int .i64 ((([⟨t, x⟩] : List Tmr)[k]).when), .int .i64 ((([⟨t, x⟩] : List Tmr)[k]).id)]) (M' := [(b31, .cells #[.int .i64 ((([⟨t, x⟩] : List Tmr)[k]).when), .int .i64 ((([⟨t, x⟩] : List Tmr)[k]).id)] 57 (0, 0)), (cb, .cells #[.slice na now.length nc, .int .i64 num, .int .i64 den, .int .i64 slack, .slice ta bs.length tc] 47 (0, 0)), (mb, mapO (Value.int .i64) (Value.int .i64) Lm cl)]) (by as_aux_lemma => kernel_rfl) H 0 rfl (by as_aux_lemma => kernel_rfl) (by as_aux_lemma => kernel_rfl) ?_
      intro w33 H
      refine RW.fin 0 [5, 9, 11, 48, 49, 50] [(5, .map (some mb)), (9, .slice oa ou.length oc), (11, .pointer (some ⟨b31, 0, none⟩)), (48, .slice da (([⟨t, x⟩] : List Tmr).length) dc), (49, .int .i64 ((([⟨t, x⟩] : List Tmr).length : Nat) : Int)), (50, .int .i64 (k : Int))] (by as_aux_lemma => kernel_rfl) ?_
      refine WK.run 1 [5, 9, 11, 48, 49, 50] [.code (cd Try.prog 13 [6, 0, 1, 0, 0, 2, 0, 0, 1, 0]), .code (cd Try.prog 13 [6, 0, 1, 0, 0, 2, 0, 0, 2]), .inBlock 3, .code (cd Try.prog 13 [6, 0, 1, 0, 0, 3]), .inLoop (cd Try.prog 13 [6, 0, 1, 0, 0]), .inBlock 2, .code (cd Try.prog 13 [7])] [(5, .map (some mb)), (9, .slice oa ou.length oc), (11, .pointer (some ⟨b31, 0, none⟩)), (48, .slice da (([⟨t, x⟩] : List Tmr).length) dc), (49, .int .i64 ((([⟨t, x⟩] : List Tmr).length : Nat) : Int)), (50, .int .i64 (k : Int))] (by as_aux_lemma => kernel_rfl) ?_
      refine WK.reg1 (l := sq 0 6) (by as_aux_lemma => kernel_rfl) (by as_aux_lemma => kernel_rfl) ?_
      refine RW.runP 2 [5, 9, 11, 48, 49, 50, 54, 55] (sq 2 6) [(5, .map (some mb)), (9, .slice oa ou.length oc), (11, .pointer (some ⟨b31, 0, none⟩)), (48, .slice da (([⟨t, x⟩] : List Tmr).length) dc), (49, .int .i64 ((([⟨t, x⟩] : List Tmr).length : Nat) : Int)), (50, .int .i64 (k : Int)), (54, .slice oa ou.length oc), (55, .pointer (some ⟨b31, 1, none⟩))] (by as_aux_lemma => kernel_rfl) (by as_aux_lemma => kernel_rfl) ?_
      refine RW.load (κ := .seq) (d := some 56) (r := (sq 3 6)) (T := 3) (b := b31) (o' := 1) (k := 1) (v := .int .i64 ((([⟨t, x⟩] : List Tmr)[k]).id)) (by as_aux_lemma => kernel_rfl) (H.cells 0 rfl) rfl (by as_aux_lemma => kernel_rfl) ?_
      refine RW.new (κ := .seq) (d := some 57) (r := (sq 4 6)) (o := .cells #[.int .i64 ((([⟨t, x⟩] : List Tmr)[k]).id)] 3 (0, 0)) (v := fun b => .slice (some ⟨b, 0, none⟩) 1 1) (fun b => by as_aux_lemma => kernel_rfl) (nofun) H ?_
      intro b34 w35 H
      have H := H.freeze 0 rfl (Shape.int .i64) ([(([⟨t, x⟩] : List Tmr)[k]).id] : List Int) 1 (by simp [maxLen]) (by first | exact Nat.le_refl _ | simp) (EsP.cons (c := [.int .i64 ((([⟨t, x⟩] : List Tmr)[k]).id)]) (Shape.i64_in (by first | omega | (simp <;> omega)) (by first | omega | (simp <;> omega))) EsP.nil)
      have H : Hp w S O [(b31, .cells #[.int .i64 ((([⟨t, x⟩] : List Tmr)[k]).when), .int .i64 ((([⟨t, x⟩] : List Tmr)[k]).id)] 57 (0, 0)), (cb, .cells #[.slice na now.length nc, .int .i64 num, .int .i64 den, .int .i64 slack, .slice ta bs.length tc] 47 (0, 0)), (mb, mapO (Value.int .i64) (Value.int .i64) Lm cl)] [⟨Shape.int .i64, 3, .slice oa ou.length oc, ou⟩, ⟨Shape.mref, 50, .slice ta bs.length tc, bs⟩, ⟨Shape.int .i64, 3, .slice na now.length nc, now⟩] [Rp (Shape.slice (Shape.int .i64)) [.slice (some ⟨b34, 0, none⟩) 1 1] ([(([⟨t, x⟩] : List Tmr)[k]).id] : List Int), Fc b24 o25 [.int .i64 ((([⟨t, x⟩] : List Tmr)[k]).when), .int .i64 ((([⟨t, x⟩] : List Tmr)[k]).id)], Rp (Shape.slice tmrS) [.slice da (([⟨t, x⟩] : List Tmr).length) dc] ([⟨t, x⟩] : List Tmr)] _ := H
      refine RW.appendW (d := some 58) (r := (sq 5 6)) (T := 22) (ty := 22) (e := 3) (m := 1) (by_ := 8) (v := .slice oa ou.length oc) (a2 := (some ⟨b34, 0, none⟩)) (l2 := 1) (c2 := 1) (zs := ou ++ ([(([⟨t, x⟩] : List Tmr)[k]).id] : List Int)) (by as_aux_lemma => kernel_rfl) (by as_aux_lemma => kernel_rfl) rfl H 0 rfl 0 rfl (rfl) (by rw [hk0.2.1]; simp) ?_
      intro a36 c37 w39 H hc38
      have H : Hp w S O [(b31, .cells #[.int .i64 ((([⟨t, x⟩] : List Tmr)[k]).when), .int .i64 ((([⟨t, x⟩] : List Tmr)[k]).id)] 57 (0, 0)), (cb, .cells #[.slice na now.length nc, .int .i64 num, .int .i64 den, .int .i64 slack, .slice ta bs.length tc] 47 (0, 0)), (mb, mapO (Value.int .i64) (Value.int .i64) Lm cl)] [⟨Shape.int .i64, 3, .slice a36 ((ou ++ ([(([⟨t, x⟩] : List Tmr)[k]).id] : List Int)).length) c37, ou ++ ([(([⟨t, x⟩] : List Tmr)[k]).id] : List Int)⟩, ⟨Shape.mref, 50, .slice ta bs.length tc, bs⟩, ⟨Shape.int .i64, 3, .slice na now.length nc, now⟩] [Rp (Shape.slice (Shape.int .i64)) [.slice (some ⟨b34, 0, none⟩) 1 1] ([(([⟨t, x⟩] : List Tmr)[k]).id] : List Int), Fc b24 o25 [.int .i64 ((([⟨t, x⟩] : List Tmr)[k]).when), .int .i64 ((([⟨t, x⟩] : List Tmr)[k]).id)], Rp (Shape.slice tmrS) [.slice da (([⟨t, x⟩] : List Tmr).length) dc] ([⟨t, x⟩] : List Tmr)] _ := H
      refine RW.fin 1 [5, 9, 11, 48, 49, 50] [(5, .map (some mb)), (9, .slice a36 ((ou ++ ([(([⟨t, x⟩] : List Tmr)[k]).id] : List Int)).length) c37), (11, .pointer (some ⟨b31, 0, none⟩)), (48, .slice da (([⟨t, x⟩] : List Tmr).length) dc), (49, .int .i64 ((([⟨t, x⟩] : List Tmr).length : Nat) : Int)), (50, .int .i64 (k : Int))] (by as_aux_lemma => kernel_rfl) ?_
      refine WK.reg1 (l := sq 0 4) (by as_aux_lemma => kernel_rfl) (by as_aux_lemma => kernel_rfl) ?_
      refine RW.runP 2 [5, 9, 48, 49, 50, 59, 60] (sq 2 4) [(5, .map (some mb)), (9, .slice a36 ((ou ++ ([(([⟨t, x⟩] : List Tmr)[k]).id] : List Int)).length) c37), (48, .slice da (([⟨t, x⟩] : List Tmr).length) dc), (49, .int .i64 ((([⟨t, x⟩] : List Tmr).length : Nat) : Int)), (50, .int .i64 (k : Int)), (59, .map (some mb)), (60, .pointer (some ⟨b31, 1, none⟩))] (by as_aux_lemma => kernel_rfl) (by as_aux_lemma => kernel_rfl) ?_
      refine RW.load (κ := .seq) (d := some 61) (r := (sq 3 4)) (T := 3) (b := b31) (o' := 1) (k := 1) (v := .int .i64 ((([⟨t, x⟩] : List Tmr)[k]).id)) (by as_aux_lemma => kernel_rfl) (H.cells 0 rfl) rfl (by as_aux_lemma => kernel_rfl) ?_
      refine RW.mapDel (d := none) (r := (sq 4 4)) (T := 50) (ts := #[50, 3]) (t := 0) (mk := (Value.int .i64)) (vk := (Value.int .i64)) (Kt := 3) (E := 3) (M' := [(b31, .cells #[.int .i64 ((([⟨t, x⟩] : List Tmr)[k]).when), .int .i64 ((([⟨t, x⟩] : List Tmr)[k]).id)] 57 (0, 0)), (cb, .cells #[.slice na now.length nc, .int .i64 num, .int .i64 den, .int .i64 slack, .slice ta bs.length tc] 47 (0, 0)), (mb, mapO (Value.int .i64) (Value.int .i64) (mdel ((([⟨t, x⟩] : List Tmr)[k]).id) Lm) cl)]) ((([⟨t, x⟩] : List Tmr)[k]).id) (by as_aux_lemma => kernel_rfl) H 2 rfl (KeyOk.int (by as_aux_lemma => kernel_rfl)) (by as_aux_lemma => kernel_rfl) (by as_aux_lemma => kernel_rfl) rfl ?_
      intro w40 hCw40 H
      refine RW.fin 0 [5, 9, 48, 49, 50] [(5, .map (some mb)), (9, .slice a36 ((ou ++ ([(([⟨t, x⟩] : List Tmr)[k]).id] : List Int)).length) c37), (48, .slice da (([⟨t, x⟩] : List Tmr).length) dc), (49, .int .i64 ((([⟨t, x⟩] : List Tmr).length : Nat) : Int)), (50, .int .i64 (k : Int))] (by as_aux_lemma => kernel_rfl) ?_
      refine WK.run 1 [5, 9, 48, 49, 50] [.code (cd Try.prog 13 [6, 0, 1, 0, 0, 3]), .inLoop (cd Try.prog 13 [6, 0, 1, 0, 0]), .inBlock 2, .code (cd Try.prog 13 [7])] [(5, .map (some mb)), (9, .slice a36 ((ou ++ ([(([⟨t, x⟩] : List Tmr)[k]).id] : List Int)).length) c37), (48, .slice da (([⟨t, x⟩] : List Tmr).length) dc), (49, .int .i64 ((([⟨t, x⟩] : List Tmr).length : Nat) : Int)), (50, .int .i64 (k : Int))] (by as_aux_lemma => kernel_rfl) ?_
      refine WK.reg1 (l := sq 0 2) (by as_aux_lemma => kernel_rfl) (by as_aux_lemma => kernel_rfl) ?_
      refine RW.wr64 (κ := .seq) (d := some 62) (r := (sq 1 2)) (t := (k : Int) + 1) (by as_aux_lemma => kernel_rfl) (by omega) ?_
      refine RW.fin 1 [5, 9, 48, 49, 50] [(5, .map (some mb)), (9, .slice a36 ((ou ++ ([(([⟨t, x⟩] : List Tmr)[k]).id] : List Int)).length) c37), (48, .slice da (([⟨t, x⟩] : List Tmr).length) dc), (49, .int .i64 ((([⟨t, x⟩] : List Tmr).length : Nat) : Int)), (50, .int .i64 ((k : Int) + 1))] (by as_aux_lemma => kernel_rfl) ?_
      have H := H.pick [2] (G' := [Rp (Shape.slice tmrS) [.slice da (([⟨t, x⟩] : List Tmr).length) dc] ([⟨t, x⟩] : List Tmr)]) rfl
      have H := H.perms (M' := [(mb, mapO (Value.int .i64) (Value.int .i64) (mdel ((([⟨t, x⟩] : List Tmr)[k]).id) Lm) cl), (b31, .cells #[.int .i64 ((([⟨t, x⟩] : List Tmr)[k]).when), .int .i64 ((([⟨t, x⟩] : List Tmr)[k]).id)] 57 (0, 0)), (cb, .cells #[.slice na now.length nc, .int .i64 num, .int .i64 den, .int .i64 slack, .slice ta bs.length tc] 47 (0, 0))]) (W' := [⟨Shape.int .i64, 3, .slice a36 ((ou ++ ([(([⟨t, x⟩] : List Tmr)[k]).id] : List Int)).length) c37, ou ++ ([(([⟨t, x⟩] : List Tmr)[k]).id] : List Int)⟩, ⟨Shape.mref, 50, .slice ta bs.length tc, bs⟩, ⟨Shape.int .i64, 3, .slice na now.length nc, now⟩]) (List.perm_middle (l₁ := ([(b31, .cells #[.int .i64 ((([⟨t, x⟩] : List Tmr)[k]).when), .int .i64 ((([⟨t, x⟩] : List Tmr)[k]).id)] 57 (0, 0)), (cb, .cells #[.slice na now.length nc, .int .i64 num, .int .i64 den, .int .i64 slack, .slice ta bs.length tc] 47 (0, 0))] : Heap))).symm (List.Perm.refl _)
      have H := H.perms (M' := [(cb, .cells #[.slice na now.length nc, .int .i64 num, .int .i64 den, .int .i64 slack, .slice ta bs.length tc] 47 (0, 0)), (mb, mapO (Value.int .i64) (Value.int .i64) (mdel ((([⟨t, x⟩] : List Tmr)[k]).id) Lm) cl), (b31, .cells #[.int .i64 ((([⟨t, x⟩] : List Tmr)[k]).when), .int .i64 ((([⟨t, x⟩] : List Tmr)[k]).id)] 57 (0, 0))]) (W' := [⟨Shape.int .i64, 3, .slice a36 ((ou ++ ([(([⟨t, x⟩] : List Tmr)[k]).id] : List Int)).length) c37, ou ++ ([(([⟨t, x⟩] : List Tmr)[k]).id] : List Int)⟩, ⟨Shape.mref, 50, .slice ta bs.length tc, bs⟩, ⟨Shape.int .i64, 3, .slice na now.length nc, now⟩]) (List.perm_middle (l₁ := ([(mb, mapO (Value.int .i64) (Value.int .i64) (mdel ((([⟨t, x⟩] : List Tmr)[k]).id) Lm) cl), (b31, .cells #[.int .i64 ((([⟨t, x⟩] : List Tmr)[k]).when), .int .i64 ((([⟨t, x⟩] : List Tmr)[k]).id)] 57 (0, 0))] : Heap))).symm (List.Perm.refl _)
      have H := H.drop (M' := [(cb, .cells #[.slice na now.length nc, .int .i64 num, .int .i64 den, .int .i64 slack, .slice ta bs.length tc] 47 (0, 0)), (mb, mapO (Value.int .i64) (Value.int .i64) (mdel ((([⟨t, x⟩] : List Tmr)[k]).id) Lm) cl)]) (W' := [⟨Shape.int .i64, 3, .slice a36 (ou ++ ([(([⟨t, x⟩] : List Tmr)[k]).id] : List Int)).length c37, (ou ++ ([(([⟨t, x⟩] : List Tmr)[k]).id] : List Int))⟩, ⟨Shape.mref, 50, .slice ta bs.length tc, bs⟩, ⟨Shape.int .i64, 3, .slice na now.length nc, now⟩]) (by repeat (first | exact List.Sublist.refl _ | apply List.Sublist.cons_cons | apply List.Sublist.cons)) (by repeat (first | exact List.Sublist.refl _ | apply List.Sublist.cons_cons | apply List.Sublist.cons))
      exact WK.back (hback20 (k + 1, ou ++ ([(([⟨t, x⟩] : List Tmr)[k]).id] : List Int), mdel ((([⟨t, x⟩] : List Tmr)[k]).id) Lm, a36, c37) _ ⟨H, by obtain ⟨rfl, rfl, rfl⟩ := hk0; exact Or.inr ⟨rfl, rfl, by simp [mdel]⟩⟩ (by have := hk0.1; simp only []; omega)) (by as_aux_lemma => kernel_rfl)
    · skip
      replace h22 := of_decide_eq_false h22
      have hk1 : k = 1 ∧ ou = [x] ∧ Lm = [] := by
        rcases hinv1 with h | h
        · exfalso; have := h.1; simp only [List.length_cons, List.length_nil] at h22; omega
        · exact h
      refine WK.run 3 [4] [.code (cd Try.prog 13 [8])] [(4, .slice oa ou.length oc)] (by as_aux_lemma => kernel_rfl) ?_
      refine WK.ret (v := .slice oa ou.length oc) Try.func13 (by as_aux_lemma => kernel_rfl) (by as_aux_lemma => kernel_rfl) ?_
      obtain ⟨rfl, rfl, rfl⟩ := hk1
      exact ⟨_, rfl, oa, oc, rfl, H.pick [] rfl⟩
  · skip
    intro w41 H
    have H : Hp w S O [(q10, iterO mb cl (dn ++ [e14]) cl), (cb, .cells #[.slice na now.length nc, .int .i64 num, .int .i64 den, .int .i64 slack, .slice ta bs.length tc] 47 (0, 0)), (mb, mapO (Value.int .i64) (Value.int .i64) ([(x, t, s)] : List (Int × Int × Nat)) cl)] [⟨tmrS, 57, .slice da due.length dc, due⟩, ⟨Shape.mref, 50, .slice ta bs.length tc, bs⟩, ⟨Shape.int .i64, 3, .slice na now.length nc, now⟩] [] _ := H
    have hmm := ((hinv0.1.mem_iff).1 (List.mem_append_right _ (hl16.mem_iff.2 (List.mem_cons_self ..))))
    have hee : e14 = (x, t, s) := by simpa using hmm
    have hb1 : e14.1 = x := by rw [hee]
    have hb2 : e14.2.1 = t := by rw [hee]
    have hle : e14.2.1 ≤ now[i] := by rw [hee]; exact ht
    refine RW.fin 1 [0, 1, 5, 6, 25, 27] [(0, .pointer (some ⟨cb, 0, none⟩)), (1, .int .i64 ((i : Int) + 1)), (5, .map (some mb)), (6, .slice da due.length dc), (25, .pointer (some ⟨q10, 0, none⟩)), (27, .bool true)] (by as_aux_lemma => kernel_rfl) ?_
    refine WK.run 5 [0, 1, 5, 6, 25] [.code (cd Try.prog 13 [4, 0, 1, 0, 0, 2, 0, 0]), .code (cd Try.prog 13 [4, 0, 1, 0, 0, 2, 0, 1]), .inBlock 1, .inLoop (cd Try.prog 13 [4, 0, 1, 0, 0]), .inBlock 0, .code (cd Try.prog 13 [5])] [(0, .pointer (some ⟨cb, 0, none⟩)), (1, .int .i64 ((i : Int) + 1)), (5, .map (some mb)), (6, .slice da due.length dc), (25, .pointer (some ⟨q10, 0, none⟩))] (by as_aux_lemma => kernel_rfl) ?_
    refine WK.reg1 (l := sq 0 5) (by as_aux_lemma => kernel_rfl) (by as_aux_lemma => kernel_rfl) ?_
    refine RW.mapEntry (κ := .seq) (d := some 28) (r := (sq 1 5)) (mk := (Value.int .i64)) (vk := (Value.int .i64)) (e := e14) (dn := dn) (by as_aux_lemma => kernel_rfl) H 2 rfl 0 rfl ((hinv0.1.mem_iff).1 (List.mem_append_right _ (hl16.mem_iff.2 (List.mem_cons_self ..)))) hok.borns ?_
    refine RW.fin 4 [0, 1, 5, 6, 7, 8, 25] [(0, .pointer (some ⟨cb, 0, none⟩)), (1, .int .i64 ((i : Int) + 1)), (5, .map (some mb)), (6, .slice da due.length dc), (7, .int .i64 e14.1), (8, .int .i64 e14.2.1), (25, .pointer (some ⟨q10, 0, none⟩))] (by as_aux_lemma => kernel_rfl) ?_
    refine WK.run 1 [0, 1, 5, 6, 7, 8, 25] [.code (cd Try.prog 13 [4, 0, 1, 0, 0, 2, 0, 1, 0]), .code (cd Try.prog 13 [4, 0, 1, 0, 0, 2, 0, 2]), .inBlock 1, .inLoop (cd Try.prog 13 [4, 0, 1, 0, 0]), .inBlock 0, .code (cd Try.prog 13 [5])] [(0, .pointer (some ⟨cb, 0, none⟩)), (1, .int .i64 ((i : Int) + 1)), (5, .map (some mb)), (6, .slice da due.length dc), (7, .int .i64 e14.1), (8, .int .i64 e14.2.1), (25, .pointer (some ⟨q10, 0, none⟩))] (by as_aux_lemma => kernel_rfl) ?_
    refine WK.reg1 (l := sq 0 10) (by as_aux_lemma => kernel_rfl) (by as_aux_lemma => kernel_rfl) ?_
    refine RW.runP 4 [0, 1, 5, 6, 7, 8, 25, 31, 34] (sq 4 10) [(0, .pointer (some ⟨cb, 0, none⟩)), (1, .int .i64 ((i : Int) + 1)), (5, .map (some mb)), (6, .slice da due.length dc), (7, .int .i64 e14.1), (8, .int .i64 e14.2.1), (25, .pointer (some ⟨q10, 0, none⟩)), (31, .int .i64 e14.2.1), (34, .pointer (some ⟨cb, 0, none⟩))] (by as_aux_lemma => kernel_rfl) (by as_aux_lemma => kernel_rfl) ?_
    refine RW.load (κ := .seq) (d := some 35) (r := (sq 5 10)) (T := 22) (b := cb) (o' := 0) (k := 0) (v := .slice na now.length nc) (by as_aux_lemma => kernel_rfl) (H.cells 1 rfl) rfl (by as_aux_lemma => kernel_rfl) ?_
    refine RW.runP 1 [0, 1, 5, 6, 7, 8, 25, 31, 35, 36] (sq 6 10) [(0, .pointer (some ⟨cb, 0, none⟩)), (1, .int .i64 ((i : Int) + 1)), (5, .map (some mb)), (6, .slice da due.length dc), (7, .int .i64 e14.1), (8, .int .i64 e14.2.1), (25, .pointer (some ⟨q10, 0, none⟩)), (31, .int .i64 e14.2.1), (35, .slice na now.length nc), (36, .int .i64 ((i : Int) + 1))] (by as_aux_lemma => kernel_rfl) (by as_aux_lemma => kernel_rfl) ?_
    refine RW.pv (κ := .seq) (d := some 37) (r := (sq 7 10)) (v' := .int .i64 (i : Int)) (v := .int .i64 (IntKind.i64.wrap (((i : Int) + 1) - 1))) (by as_aux_lemma => kernel_rfl) (by rw [IntKind.wrap_i64]; congr 1; omega) ?_
    have H := H.perms (M' := [(q10, iterO mb cl (dn ++ [e14]) cl), (cb, .cells #[.slice na now.length nc, .int .i64 num, .int .i64 den, .int .i64 slack, .slice ta bs.length tc] 47 (0, 0)), (mb, mapO (Value.int .i64) (Value.int .i64) ([(x, t, s)] : List (Int × Int × Nat)) cl)]) (W' := [⟨Shape.int .i64, 3, .slice na now.length nc, now⟩, ⟨tmrS, 57, .slice da due.length dc, due⟩, ⟨Shape.mref, 50, .slice ta bs.length tc, bs⟩]) (List.Perm.refl _) (List.perm_middle (l₁ := ([⟨tmrS, 57, .slice da due.length dc, due⟩, ⟨Shape.mref, 50, .slice ta bs.length tc, bs⟩] : List OwnS))).symm
    have hn43 : now.length = now.length := rfl
    have hx42 : i < now.length := by omega
    refine RW.indexW (κ := .seq) (d := some 38) (r := (sq 8 10)) (T := 22) (e := 3) (m := 1) (ik := .i64) (ix := (i : Int)) (sh := (Shape.int .i64)) (xs := now) (a := na) (len := now.length) (cap := nc) (by as_aux_lemma => kernel_rfl) (by as_aux_lemma => kernel_rfl) rfl H i (by omega) hx42 hn43 ?_
    intro b44 es45 ha46 hcell47 hr48
    have hb49 := Shape.i64_bd hr48
    obtain ⟨rfl, -⟩ := hr48
    refine RW.load (κ := .seq) (d := some 39) (r := (sq 9 10)) (T := 3) (b := b44) (o' := i * 1) (k := 0) (v := .int .i64 (now[i])) (by as_aux_lemma => kernel_rfl) hcell47 rfl (by as_aux_lemma => kernel_rfl) ?_
    refine RW.fin 1 [0, 1, 5, 6, 7, 8, 25, 40] [(0, .pointer (some ⟨cb, 0, none⟩)), (1, .int .i64 ((i : Int) + 1)), (5, .map (some mb)), (6, .slice da due.length dc), (7, .int .i64 e14.1), (8, .int .i64 e14.2.1), (25, .pointer (some ⟨q10, 0, none⟩)), (40, .bool (decide ((e14.2.1 : Int) ≤ now[i])))] (by as_aux_lemma => kernel_rfl) ?_
    refine WK.cond1 (decide ((e14.2.1 : Int) ≤ now[i])) (by as_aux_lemma => kernel_rfl) (by as_aux_lemma => kernel_rfl) (fun h50 => ?_) (fun h50 => ?_)
    · skip
      replace h50 := of_decide_eq_true h50
      refine WK.reg1 (l := sq 0 7) (by as_aux_lemma => kernel_rfl) (by as_aux_lemma => kernel_rfl) ?_
      refine RW.runP 4 [0, 1, 5, 6, 25, 41, 44] (sq 4 7) [(0, .pointer (some ⟨cb, 0, none⟩)), (1, .int .i64 ((i : Int) + 1)), (5, .map (some mb)), (6, .slice da due.length dc), (25, .pointer (some ⟨q10, 0, none⟩)), (41, .slice da due.length dc), (44, .agg #[.int .i64 e14.2.1, .int .i64 e14.1])] (by as_aux_lemma => kernel_rfl) (by as_aux_lemma => kernel_rfl) ?_
      refine RW.new (κ := .seq) (d := some 45) (r := (sq 5 7)) (o := .cells #[.int .i64 e14.2.1, .int .i64 e14.1] 57 (0, 0)) (v := fun b => .slice (some ⟨b, 0, none⟩) 1 1) (fun b => by as_aux_lemma => kernel_rfl) (nofun) H ?_
      intro b51 w52 H
      have H := H.freeze 0 rfl tmrS ([⟨e14.2.1, e14.1⟩] : List Tmr) 1 (by simp [maxLen]) (by first | exact Nat.le_refl _ | simp) (EsP.cons (c := [.int .i64 e14.2.1, .int .i64 e14.1]) (tmr_mk (Shape.i64_in (by first | omega | (simp <;> omega)) (by first | omega | (simp <;> omega))) (Shape.i64_in (by first | omega | (simp <;> omega)) (by first | omega | (simp <;> omega)))) EsP.nil)
      have H : Hp w S O [(q10, iterO mb cl (dn ++ [e14]) cl), (cb, .cells #[.slice na now.length nc, .int .i64 num, .int .i64 den, .int .i64 slack, .slice ta bs.length tc] 47 (0, 0)), (mb, mapO (Value.int .i64) (Value.int .i64) ([(x, t, s)] : List (Int × Int × Nat)) cl)] [⟨Shape.int .i64, 3, .slice na now.length nc, now⟩, ⟨tmrS, 57, .slice da due.length dc, due⟩, ⟨Shape.mref, 50, .slice ta bs.length tc, bs⟩] [Rp (Shape.slice tmrS) [.slice (some ⟨b51, 0, none⟩) 1 1] ([⟨e14.2.1, e14.1⟩] : List Tmr)] _ := H
      refine RW.appendW (d := some 46) (r := (sq 6 7)) (T := 55) (ty := 55) (e := 57) (m := 2) (by_ := 16) (v := .slice da due.length dc) (a2 := (some ⟨b51, 0, none⟩)) (l2 := 1) (c2 := 1) (zs := due ++ ([⟨e14.2.1, e14.1⟩] : List Tmr)) (by as_aux_lemma => kernel_rfl) (by as_aux_lemma => kernel_rfl) rfl H 1 rfl 0 rfl (rfl) (by have := hinv0.1.length_eq; simp only [List.length_append, List.length_cons, List.length_nil] at this; rw [hinv0.2]; simp only [List.length_append, List.length_map, List.length_cons, List.length_nil]; omega) ?_
      intro a53 c54 w56 H hc55
      have H : Hp w S O [(q10, iterO mb cl (dn ++ [e14]) cl), (cb, .cells #[.slice na now.length nc, .int .i64 num, .int .i64 den, .int .i64 slack, .slice ta bs.length tc] 47 (0, 0)), (mb, mapO (Value.int .i64) (Value.int .i64) ([(x, t, s)] : List (Int × Int × Nat)) cl)] [⟨Shape.int .i64, 3, .slice na now.length nc, now⟩, ⟨tmrS, 57, .slice a53 ((due ++ ([⟨e14.2.1, e14.1⟩] : List Tmr)).length) c54, due ++ ([⟨e14.2.1, e14.1⟩] : List Tmr)⟩, ⟨Shape.mref, 50, .slice ta bs.length tc, bs⟩] [Rp (Shape.slice tmrS) [.slice (some ⟨b51, 0, none⟩) 1 1] ([⟨e14.2.1, e14.1⟩] : List Tmr)] _ := H
      refine RW.fin 1 [0, 1, 5, 6, 25] [(0, .pointer (some ⟨cb, 0, none⟩)), (1, .int .i64 ((i : Int) + 1)), (5, .map (some mb)), (6, .slice a53 ((due ++ ([⟨e14.2.1, e14.1⟩] : List Tmr)).length) c54), (25, .pointer (some ⟨q10, 0, none⟩))] (by as_aux_lemma => kernel_rfl) ?_
      refine WK.run 1 [0, 1, 5, 6, 25] [.inLoop (cd Try.prog 13 [4, 0, 1, 0, 0]), .inBlock 0, .code (cd Try.prog 13 [5])] [(0, .pointer (some ⟨cb, 0, none⟩)), (1, .int .i64 ((i : Int) + 1)), (5, .map (some mb)), (6, .slice a53 ((due ++ ([⟨e14.2.1, e14.1⟩] : List Tmr)).length) c54), (25, .pointer (some ⟨q10, 0, none⟩))] (by as_aux_lemma => kernel_rfl) ?_
      have H := H.pick [] (G' := []) rfl
      have H := H.perms (M' := [(q10, iterO mb cl (dn ++ [e14]) cl), (cb, .cells #[.slice na now.length nc, .int .i64 num, .int .i64 den, .int .i64 slack, .slice ta bs.length tc] 47 (0, 0)), (mb, mapO (Value.int .i64) (Value.int .i64) ([(x, t, s)] : List (Int × Int × Nat)) cl)]) (W' := [⟨Shape.mref, 50, .slice ta bs.length tc, bs⟩, ⟨Shape.int .i64, 3, .slice na now.length nc, now⟩, ⟨tmrS, 57, .slice a53 ((due ++ ([⟨e14.2.1, e14.1⟩] : List Tmr)).length) c54, due ++ ([⟨e14.2.1, e14.1⟩] : List Tmr)⟩]) (List.Perm.refl _) (List.perm_middle (l₁ := ([⟨Shape.int .i64, 3, .slice na now.length nc, now⟩, ⟨tmrS, 57, .slice a53 ((due ++ ([⟨e14.2.1, e14.1⟩] : List Tmr)).length) c54, due ++ ([⟨e14.2.1, e14.1⟩] : List Tmr)⟩] : List OwnS))).symm
      have H := H.perms (M' := [(q10, iterO mb cl (dn ++ [e14]) cl), (cb, .cells #[.slice na now.length nc, .int .i64 num, .int .i64 den, .int .i64 slack, .slice ta bs.length tc] 47 (0, 0)), (mb, mapO (Value.int .i64) (Value.int .i64) ([(x, t, s)] : List (Int × Int × Nat)) cl)]) (W' := [⟨tmrS, 57, .slice a53 ((due ++ ([⟨e14.2.1, e14.1⟩] : List Tmr)).length) c54, due ++ ([⟨e14.2.1, e14.1⟩] : List Tmr)⟩, ⟨Shape.mref, 50, .slice ta bs.length tc, bs⟩, ⟨Shape.int .i64, 3, .slice na now.length nc, now⟩]) (List.Perm.refl _) (List.perm_middle (l₁ := ([⟨Shape.mref, 50, .slice ta bs.length tc, bs⟩, ⟨Shape.int .i64, 3, .slice na now.length nc, now⟩] : List OwnS))).symm
      exact WK.back (hback12 (dn ++ [e14], lf15, due ++ ([⟨e14.2.1, e14.1⟩] : List Tmr), a53, c54) _ ⟨H, ⟨by rw [List.append_assoc]; exact ((List.Perm.append_left dn (by assumption)).symm.trans hinv0.1), by rw [hinv0.2]; simp⟩⟩ (by have := List.Perm.length_eq (by assumption : lf.Perm _); simp only [List.length_cons] at this; simp only []; omega)) (by as_aux_lemma => kernel_rfl)
    · skip
      replace h50 := of_decide_eq_false h50
      omega


end Go.Proofs.Ytghnicaefbdjfaa
