import Derived.Test.YtghnicaefbdjfaaC1
namespace Go.Proofs.Ytghnicaefbdjfaa
open Go.BX

structure COk (now : List Int) (num den slack : Int) : Prop where
  hlen : now.length ≤ 32
  hden : 1 ≤ den
  hnum : den ≤ num ∧ num ≤ 1000
  hsl : 0 ≤ slack ∧ slack ≤ 1000
  hnow : ∀ x ∈ now, 0 ≤ x ∧ x ≤ 1048576
def othersOf (now : List Int) (i : Nat) : List Int := if now.length > 1 then now.take i ++ now.drop (i + 1) else now
def mayI (now : List Int) (num den slack : Int) (i : Nat) : Bool := decide ((now[i]?).getD 0 < 1048576 ∧ ((now[i]?).getD 0 + 1) * den ≤ minOf (othersOf now i) * num + slack * den + num)
def mayE (now : List Int) (num den slack : Int) (node : Int) : Bool := if stE now.length node = 0 then mayI now num den slack (node - 1).toNat else false
theorem minOf_mem : ∀ {l : List Int}, 0 < l.length → minOf l ∈ l
  | x :: l, _ => by
    have h : ∀ (l : List Int) (a : Int) (L : List Int), a ∈ L → (∀ y ∈ l, y ∈ L) → l.foldl (fun m y => if y < m then y else m) a ∈ L := by
      intro l
      induction l with
      | nil => intro a L ha _; exact ha
      | cons y l ih =>
        intro a L ha hl
        refine ih _ L ?_ fun z hz => hl z (List.mem_cons_of_mem _ hz)
        show (if y < a then y else a) ∈ L
        split
        · exact hl y (List.mem_cons_self ..)
        · exact ha
    exact h l x (x :: l) (List.mem_cons_self ..) fun y hy => List.mem_cons_of_mem _ hy
theorem others_pos {now : List Int} {i : Nat} (h : i < now.length) : 0 < (othersOf now i).length := by
  unfold othersOf
  split
  · simp only [List.length_append, List.length_take, List.length_drop]; omega
  · omega
theorem others_sub {now : List Int} {i : Nat} {x : Int} (h : x ∈ othersOf now i) : x ∈ now := by
  unfold othersOf at h
  split at h
  · rcases List.mem_append.1 h with h | h
    · exact List.mem_of_mem_take h
    · exact List.mem_of_mem_drop h
  · exact h
theorem prod_bd {a b A B : Int} (ha : 0 ≤ a ∧ a ≤ A) (hb : 0 ≤ b ∧ b ≤ B) : 0 ≤ a * b ∧ a * b ≤ A * B :=
  ⟨Int.mul_nonneg ha.1 hb.1, Int.mul_le_mul ha.2 hb.2 hb.1 (Int.le_trans ha.1 ha.2)⟩

theorem may_in {S : Nat → Prop} {w : World} {cb nc tn tc : Nat} {na ta : Option Addr} {now : List Int} {num den slack : Int} (hF : (Fc cb 0 [.slice na now.length nc, .int .i64 num, .int .i64 den, .int .i64 slack, .slice ta tn tc]).p S w) (hN : (Shape.slice (Shape.int .i64)).rep S w [.slice na now.length nc] now) (hC : COk now num den slack) {i : Nat} (hi : i < now.length) :
    Calls Try.prog 10 #[.pointer (some ⟨cb, 0, none⟩), .int .i64 ((i : Int) + 1)] w (Ret fun v w' => Ext w w' ∧ v = .bool (mayI now num den slack i)) := by
  have hnl := hC.hlen
  obtain ⟨hnum1, hnum2⟩ := hC.hnum
  obtain ⟨hsl1, hsl2⟩ := hC.hsl
  have hden := hC.hden
  have hnow : now[i]? = some now[i] := List.getElem?_eq_getElem hi
  obtain ⟨hn0, hn1⟩ := hC.hnow now[i] (List.getElem_mem hi)
  have hp1 := prod_bd (a := now[i] + 1) (b := den) (A := 1048577) (B := 1000) ⟨by omega, by omega⟩ ⟨by omega, by omega⟩
  have hp2 := prod_bd (a := slack) (b := den) (A := 1000) (B := 1000) ⟨by omega, by omega⟩ ⟨by omega, by omega⟩
  have hop := others_pos hi
  have hm := hC.hnow _ (others_sub (minOf_mem (others_pos hi)))
  have hp3 := prod_bd (a := minOf (othersOf now i)) (b := num) (A := 1048576) (B := 1000) hm ⟨by omega, by omega⟩
  refine WK.calls1 (fn := Try.f10) (n := 71) (σ := [(0, .pointer (some ⟨cb, 0, none⟩)), (1, .int .i64 ((i : Int) + 1))]) Try.func10 rfl (by as_aux_lemma => kernel_rfl) (by as_aux_lemma => kernel_rfl) (by as_aux_lemma => kernel_rfl) ?_
  have H := Hp.startF (w := w) (S := S) (G := [Fc cb 0 [.slice na now.length nc, .int .i64 num, .int .i64 den, .int .i64 slack, .slice ta tn tc], Rp (Shape.slice (Shape.int .i64)) [.slice na now.length nc] now]) (.cons hF (.rp hN .nil))
  refine WK.run 4 [0, 1] [.code (cd Try.prog 10 [1, 0, 0]), .code (cd Try.prog 10 [1, 0, 1]), .code (cd Try.prog 10 [2])] [(0, .pointer (some ⟨cb, 0, none⟩)), (1, .int .i64 ((i : Int) + 1))] (by as_aux_lemma => kernel_rfl) ?_
  refine WK.reg1 (l := sq 0 15) (by as_aux_lemma => kernel_rfl) (by as_aux_lemma => kernel_rfl) ?_
  refine RW.runP 2 [0, 1, 6, 7] (sq 2 15) [(0, .pointer (some ⟨cb, 0, none⟩)), (1, .int .i64 ((i : Int) + 1)), (6, .pointer (some ⟨cb, 0, none⟩)), (7, .int .i64 ((i : Int) + 1))] (by as_aux_lemma => kernel_rfl) (by as_aux_lemma => kernel_rfl) ?_
  refine RW.call (κ := .seq) (d := some 8) (r := (sq 3 15)) (g := 23) (args := #[.pointer (some ⟨cb, 0, none⟩), .int .i64 ((i : Int) + 1)]) (by as_aux_lemma => kernel_rfl) (nofun) (state_in (S := fun _ => True) (now := now) (H.viewF 0 rfl) (by omega)) ?_
  rintro _ w1 hE2 rfl
  have H := H.ext hE2
  refine RW.runP 5 [0, 1, 10, 13] (sq 8 15) [(0, .pointer (some ⟨cb, 0, none⟩)), (1, .int .i64 ((i : Int) + 1)), (10, .bool false), (13, .pointer (some ⟨cb, 0, none⟩))] (by as_aux_lemma => kernel_rfl) (by as_aux_lemma => kernel_rfl) ?_
  refine RW.load (κ := .seq) (d := some 14) (r := (sq 9 15)) (T := 22) (b := cb) (o' := 0) (k := 0) (v := .slice na now.length nc) (by as_aux_lemma => kernel_rfl) (H.fc 0 rfl) rfl (by as_aux_lemma => kernel_rfl) ?_
  refine RW.runP 1 [0, 1, 10, 14, 15] (sq 10 15) [(0, .pointer (some ⟨cb, 0, none⟩)), (1, .int .i64 ((i : Int) + 1)), (10, .bool false), (14, .slice na now.length nc), (15, .int .i64 ((i : Int) + 1))] (by as_aux_lemma => kernel_rfl) (by as_aux_lemma => kernel_rfl) ?_
  refine RW.pv (κ := .seq) (d := some 16) (r := (sq 11 15)) (v' := .int .i64 (i : Int)) (v := .int .i64 (IntKind.i64.wrap (((i : Int) + 1) - 1))) (by as_aux_lemma => kernel_rfl) (by rw [IntKind.wrap_i64]; congr 1; omega) ?_
  have hx3 : i < now.length := by omega
  refine RW.index (κ := .seq) (d := some 17) (r := (sq 12 15)) (T := 22) (e := 3) (ik := .i64) (ix := (i : Int)) (sh := (Shape.int .i64)) (x := now[i]) (by as_aux_lemma => kernel_rfl) (by as_aux_lemma => kernel_rfl) H 1 rfl i (by omega) (List.getElem?_eq_getElem hx3) ?_
  intro b4 o5 es6 hr7 H
  have hb8 := Shape.i64_bd hr7
  obtain ⟨rfl, -⟩ := hr7
  refine RW.load (κ := .seq) (d := some 18) (r := (sq 13 15)) (T := 3) (b := b4) (o' := o5) (k := 0) (v := .int .i64 (now[i])) (by as_aux_lemma => kernel_rfl) (H.fc 0 rfl) rfl (by as_aux_lemma => kernel_rfl) ?_
  refine RW.fin 2 [0, 1, 20] [(0, .pointer (some ⟨cb, 0, none⟩)), (1, .int .i64 ((i : Int) + 1)), (20, .bool (decide ((now[i] : Int) ≥ 1048576)))] (by as_aux_lemma => kernel_rfl) ?_
  refine WK.cond1 (decide ((now[i] : Int) ≥ 1048576)) (by as_aux_lemma => kernel_rfl) (by as_aux_lemma => kernel_rfl) (fun h9 => ?_) (fun h9 => ?_)
  · skip
    replace h9 := of_decide_eq_true h9
    refine WK.run 2 [4] [.code (cd Try.prog 10 [1, 0, 1, 0, 1]), .code (cd Try.prog 10 [2])] [(4, .bool false)] (by as_aux_lemma => kernel_rfl) ?_
    refine WK.ret (v := .bool false) Try.func10 (by as_aux_lemma => kernel_rfl) (by as_aux_lemma => kernel_rfl) ?_
    refine ⟨_, rfl, H.done, ?_⟩
    congr 1
    unfold mayI
    rw [hnow, Option.getD_some]
    exact (decide_eq_false fun h => by omega).symm
  · skip
    replace h9 := of_decide_eq_false h9
    refine WK.run 2 [0, 1] [.code (cd Try.prog 10 [2, 0]), .code (cd Try.prog 10 [3])] [(0, .pointer (some ⟨cb, 0, none⟩)), (1, .int .i64 ((i : Int) + 1))] (by as_aux_lemma => kernel_rfl) ?_
    refine WK.reg1 (l := sq 0 5) (by as_aux_lemma => kernel_rfl) (by as_aux_lemma => kernel_rfl) ?_
    refine RW.runP 3 [0, 1, 23] (sq 3 5) [(0, .pointer (some ⟨cb, 0, none⟩)), (1, .int .i64 ((i : Int) + 1)), (23, .pointer (some ⟨cb, 0, none⟩))] (by as_aux_lemma => kernel_rfl) (by as_aux_lemma => kernel_rfl) ?_
    refine RW.load (κ := .seq) (d := some 24) (r := (sq 4 5)) (T := 22) (b := cb) (o' := 0) (k := 0) (v := .slice na now.length nc) (by as_aux_lemma => kernel_rfl) (H.fc 1 rfl) rfl (by as_aux_lemma => kernel_rfl) ?_
    refine RW.fin 1 [0, 1, 5] [(0, .pointer (some ⟨cb, 0, none⟩)), (1, .int .i64 ((i : Int) + 1)), (5, .slice na now.length nc)] (by as_aux_lemma => kernel_rfl) ?_
    refine WK.run 3 [0, 1, 5, 27] [.code (cd Try.prog 10 [3, 0, 1]), .code (cd Try.prog 10 [4])] [(0, .pointer (some ⟨cb, 0, none⟩)), (1, .int .i64 ((i : Int) + 1)), (5, .slice na now.length nc), (27, .bool (decide ((((now.length : Nat) : Int) : Int) > 1)))] (by as_aux_lemma => kernel_rfl) ?_
    refine WK.cond1 (decide ((((now.length : Nat) : Int) : Int) > 1)) (by as_aux_lemma => kernel_rfl) (by as_aux_lemma => kernel_rfl) (fun h10 => ?_) (fun h10 => ?_)
    · skip
      replace h10 := of_decide_eq_true h10
      have hot : othersOf now i = now.take i ++ now.drop (i + 1) := if_pos (by omega)
      rw [hot] at hm hp3 hop
      refine WK.reg1 (l := sq 0 7) (by as_aux_lemma => kernel_rfl) (by as_aux_lemma => kernel_rfl) ?_
      refine RW.runP 1 [0, 1, 5, 28] (sq 1 7) [(0, .pointer (some ⟨cb, 0, none⟩)), (1, .int .i64 ((i : Int) + 1)), (5, .slice na now.length nc), (28, .slice na now.length nc)] (by as_aux_lemma => kernel_rfl) (by as_aux_lemma => kernel_rfl) ?_
      refine RW.call (κ := .seq) (d := some 29) (r := (sq 2 7)) (g := 25) (args := #[.slice na now.length nc]) (by as_aux_lemma => kernel_rfl) (nofun) (clone_spec (H.rp 2 rfl) (by omega)) ?_
      rintro v12 w11 - H'
      have H := H.back (M1 := []) (W1 := []) H'
      obtain ⟨a13, c14, rfl, hc15, hm16⟩ := H.ownForm 0 rfl
      have H : Hp w S [] [] [⟨Shape.int .i64, 3, .slice a13 now.length c14, now⟩] [Fc b4 o5 [.int .i64 (now[i])], Fc cb 0 [.slice na now.length nc, .int .i64 num, .int .i64 den, .int .i64 slack, .slice ta tn tc], Rp (Shape.slice (Shape.int .i64)) [.slice na now.length nc] now] _ := H
      refine RW.runP 1 [0, 1, 5, 29, 30] (sq 3 7) [(0, .pointer (some ⟨cb, 0, none⟩)), (1, .int .i64 ((i : Int) + 1)), (5, .slice na now.length nc), (29, .slice a13 now.length c14), (30, .int .i64 ((i : Int) + 1))] (by as_aux_lemma => kernel_rfl) (by as_aux_lemma => kernel_rfl) ?_
      refine RW.pv (κ := .seq) (d := some 31) (r := (sq 4 7)) (v' := .int .i64 (i : Int)) (v := .int .i64 (IntKind.i64.wrap (((i : Int) + 1) - 1))) (by as_aux_lemma => kernel_rfl) (by rw [IntKind.wrap_i64]; congr 1; omega) ?_
      refine RW.runP 1 [0, 1, 5, 29, 31, 32] (sq 5 7) [(0, .pointer (some ⟨cb, 0, none⟩)), (1, .int .i64 ((i : Int) + 1)), (5, .slice na now.length nc), (29, .slice a13 now.length c14), (31, .int .i64 (i : Int)), (32, .int .i64 ((i : Int) + 1))] (by as_aux_lemma => kernel_rfl) (by as_aux_lemma => kernel_rfl) ?_
      refine RW.callS (d := some 33) (r := (sq 6 7)) (g := 24) (args := #[.slice a13 now.length c14, .int .i64 (i : Int), .int .i64 ((i : Int) + 1)]) (by as_aux_lemma => kernel_rfl) (delete_spec (i := i) (j := (i + 1)) ((H.lend (M1 := []) (W1 := [⟨Shape.int .i64, 3, .slice a13 now.length c14, now⟩])).pick [] rfl) (by omega) (by omega)) ?_
      rintro v18 w17 H'
      have H := H.back (M1 := []) (W1 := [⟨Shape.int .i64, 3, .slice a13 now.length c14, now⟩]) H'
      obtain ⟨a19, c20, rfl, hc21, hm22⟩ := H.ownForm 0 rfl
      have H : Hp w S [] [] [⟨Shape.int .i64, 3, .slice a19 ((now.take i ++ now.drop (i + 1)).length) c20, (now.take i ++ now.drop (i + 1))⟩] [Fc b4 o5 [.int .i64 (now[i])], Fc cb 0 [.slice na now.length nc, .int .i64 num, .int .i64 den, .int .i64 slack, .slice ta tn tc], Rp (Shape.slice (Shape.int .i64)) [.slice na now.length nc] now] _ := H
      refine RW.fin 1 [0, 1, 5] [(0, .pointer (some ⟨cb, 0, none⟩)), (1, .int .i64 ((i : Int) + 1)), (5, .slice a19 ((now.take i ++ now.drop (i + 1)).length) c20)] (by as_aux_lemma => kernel_rfl) ?_
      refine WK.run 1 [0, 1, 5] [.code (cd Try.prog 10 [4, 0]), .code (cd Try.prog 10 [5])] [(0, .pointer (some ⟨cb, 0, none⟩)), (1, .int .i64 ((i : Int) + 1)), (5, .slice a19 ((now.take i ++ now.drop (i + 1)).length) c20)] (by as_aux_lemma => kernel_rfl) ?_
      refine WK.draw1 38 [(0, .qui), (1, .qui), (2, .qui), (3, .qui), (4, .qui), (5, .qui), (6, .qui), (7, .qui), (8, .qui), (9, .qui), (10, .qui), (11, .qui), (12, .qui), (13, .qui), (14, .qui), (16, .qui), (17, .qui), (18, .qui), (19, .qui), (21, .qui), (22, .qui), (23, .qui), (24, .qui), (25, .qui), (26, .qui), (27, .qui), (28, .qui), (29, .qui), (31, .qui), (32, .qui), (33, .qui), (34, .qui), (15, .chn), (20, .qui), (30, .qui), (35, .qui), (36, .qui), (37, .qui)] [(0, .qui), (1, .qui), (2, .qui), (3, .qui), (4, .qui), (5, .qui), (6, .qui), (7, .qui), (8, .qui), (9, .qui), (10, .qui), (11, .qui), (12, .qui), (13, .qui), (14, .qui), (16, .qui), (17, .qui), (18, .qui), (19, .qui), (21, .qui), (22, .qui), (23, .qui), (24, .qui), (25, .qui), (26, .qui), (27, .qui), (28, .qui), (29, .qui), (31, .qui), (32, .qui), (33, .qui), (34, .qui), (15, .chn), (20, .qui), (30, .qui), (35, .qui), (36, .qui), (37, .qui)] Try_mixed (by as_aux_lemma => kernel_rfl) (by as_aux_lemma => kernel_rfl) (by as_aux_lemma => kernel_rfl) ?_
      have H := H.draw
      generalize ({ w17 with drawn := w17.drawn + 1 } : World) = w23 at H ⊢
      refine RW.runP 3 [0, 1, 5, 36] [(3, .qui), (4, .qui), (5, .qui), (6, .qui), (7, .qui), (8, .qui), (9, .qui), (10, .qui), (11, .qui), (12, .qui), (13, .qui), (14, .qui), (16, .qui), (17, .qui), (18, .qui), (19, .qui), (21, .qui), (22, .qui), (23, .qui), (24, .qui), (25, .qui), (26, .qui), (27, .qui), (28, .qui), (29, .qui), (31, .qui), (32, .qui), (33, .qui), (34, .qui), (15, .chn), (20, .qui), (30, .qui), (35, .qui), (36, .qui), (37, .qui)] [(0, .pointer (some ⟨cb, 0, none⟩)), (1, .int .i64 ((i : Int) + 1)), (5, .slice a19 ((now.take i ++ now.drop (i + 1)).length) c20), (36, .pointer (some ⟨cb, 0, none⟩))] (by as_aux_lemma => kernel_rfl) (by as_aux_lemma => kernel_rfl) ?_
      refine RW.load (κ := .qui) (d := some 37) (r := [(4, .qui), (5, .qui), (6, .qui), (7, .qui), (8, .qui), (9, .qui), (10, .qui), (11, .qui), (12, .qui), (13, .qui), (14, .qui), (16, .qui), (17, .qui), (18, .qui), (19, .qui), (21, .qui), (22, .qui), (23, .qui), (24, .qui), (25, .qui), (26, .qui), (27, .qui), (28, .qui), (29, .qui), (31, .qui), (32, .qui), (33, .qui), (34, .qui), (15, .chn), (20, .qui), (30, .qui), (35, .qui), (36, .qui), (37, .qui)]) (T := 22) (b := cb) (o' := 0) (k := 0) (v := .slice na now.length nc) (by as_aux_lemma => kernel_rfl) (H.fc 1 rfl) rfl (by as_aux_lemma => kernel_rfl) ?_
      refine RW.runP 1 [0, 5, 37, 38] [(5, .qui), (6, .qui), (7, .qui), (8, .qui), (9, .qui), (10, .qui), (11, .qui), (12, .qui), (13, .qui), (14, .qui), (16, .qui), (17, .qui), (18, .qui), (19, .qui), (21, .qui), (22, .qui), (23, .qui), (24, .qui), (25, .qui), (26, .qui), (27, .qui), (28, .qui), (29, .qui), (31, .qui), (32, .qui), (33, .qui), (34, .qui), (15, .chn), (20, .qui), (30, .qui), (35, .qui), (36, .qui), (37, .qui)] [(0, .pointer (some ⟨cb, 0, none⟩)), (5, .slice a19 ((now.take i ++ now.drop (i + 1)).length) c20), (37, .slice na now.length nc), (38, .int .i64 ((i : Int) + 1))] (by as_aux_lemma => kernel_rfl) (by as_aux_lemma => kernel_rfl) ?_
      refine RW.pv (κ := .qui) (d := some 39) (r := [(6, .qui), (7, .qui), (8, .qui), (9, .qui), (10, .qui), (11, .qui), (12, .qui), (13, .qui), (14, .qui), (16, .qui), (17, .qui), (18, .qui), (19, .qui), (21, .qui), (22, .qui), (23, .qui), (24, .qui), (25, .qui), (26, .qui), (27, .qui), (28, .qui), (29, .qui), (31, .qui), (32, .qui), (33, .qui), (34, .qui), (15, .chn), (20, .qui), (30, .qui), (35, .qui), (36, .qui), (37, .qui)]) (v' := .int .i64 (i : Int)) (v := .int .i64 (IntKind.i64.wrap (((i : Int) + 1) - 1))) (by as_aux_lemma => kernel_rfl) (by rw [IntKind.wrap_i64]; congr 1; omega) ?_
      have hx24 : i < now.length := by omega
      refine RW.index (κ := .qui) (d := some 40) (r := [(7, .qui), (8, .qui), (9, .qui), (10, .qui), (11, .qui), (12, .qui), (13, .qui), (14, .qui), (16, .qui), (17, .qui), (18, .qui), (19, .qui), (21, .qui), (22, .qui), (23, .qui), (24, .qui), (25, .qui), (26, .qui), (27, .qui), (28, .qui), (29, .qui), (31, .qui), (32, .qui), (33, .qui), (34, .qui), (15, .chn), (20, .qui), (30, .qui), (35, .qui), (36, .qui), (37, .qui)]) (T := 22) (e := 3) (ik := .i64) (ix := (i : Int)) (sh := (Shape.int .i64)) (x := now[i]) (by as_aux_lemma => kernel_rfl) (by as_aux_lemma => kernel_rfl) H 2 rfl i (by omega) (List.getElem?_eq_getElem hx24) ?_
      intro b25 o26 es27 hr28 H
      have hb29 := Shape.i64_bd hr28
      obtain ⟨rfl, -⟩ := hr28
      refine RW.load (κ := .qui) (d := some 41) (r := [(8, .qui), (9, .qui), (10, .qui), (11, .qui), (12, .qui), (13, .qui), (14, .qui), (16, .qui), (17, .qui), (18, .qui), (19, .qui), (21, .qui), (22, .qui), (23, .qui), (24, .qui), (25, .qui), (26, .qui), (27, .qui), (28, .qui), (29, .qui), (31, .qui), (32, .qui), (33, .qui), (34, .qui), (15, .chn), (20, .qui), (30, .qui), (35, .qui), (36, .qui), (37, .qui)]) (T := 3) (b := b25) (o' := o26) (k := 0) (v := .int .i64 (now[i])) (by as_aux_lemma => kernel_rfl) (H.fc 0 rfl) rfl (by as_aux_lemma => kernel_rfl) ?_
      refine RW.wr64 (κ := .qui) (d := some 42) (r := [(9, .qui), (10, .qui), (11, .qui), (12, .qui), (13, .qui), (14, .qui), (16, .qui), (17, .qui), (18, .qui), (19, .qui), (21, .qui), (22, .qui), (23, .qui), (24, .qui), (25, .qui), (26, .qui), (27, .qui), (28, .qui), (29, .qui), (31, .qui), (32, .qui), (33, .qui), (34, .qui), (15, .chn), (20, .qui), (30, .qui), (35, .qui), (36, .qui), (37, .qui)]) (t := (now[i]) + 1) (by as_aux_lemma => kernel_rfl) (by omega) ?_
      refine RW.runP 3 [0, 5, 42, 45] [(12, .qui), (13, .qui), (14, .qui), (16, .qui), (17, .qui), (18, .qui), (19, .qui), (21, .qui), (22, .qui), (23, .qui), (24, .qui), (25, .qui), (26, .qui), (27, .qui), (28, .qui), (29, .qui), (31, .qui), (32, .qui), (33, .qui), (34, .qui), (15, .chn), (20, .qui), (30, .qui), (35, .qui), (36, .qui), (37, .qui)] [(0, .pointer (some ⟨cb, 0, none⟩)), (5, .slice a19 ((now.take i ++ now.drop (i + 1)).length) c20), (42, .int .i64 ((now[i]) + 1)), (45, .pointer (some ⟨cb, 2, none⟩))] (by as_aux_lemma => kernel_rfl) (by as_aux_lemma => kernel_rfl) ?_
      refine RW.load (κ := .qui) (d := some 46) (r := [(13, .qui), (14, .qui), (16, .qui), (17, .qui), (18, .qui), (19, .qui), (21, .qui), (22, .qui), (23, .qui), (24, .qui), (25, .qui), (26, .qui), (27, .qui), (28, .qui), (29, .qui), (31, .qui), (32, .qui), (33, .qui), (34, .qui), (15, .chn), (20, .qui), (30, .qui), (35, .qui), (36, .qui), (37, .qui)]) (T := 3) (b := cb) (o' := 2) (k := 2) (v := .int .i64 den) (by as_aux_lemma => kernel_rfl) (H.fc 2 rfl) rfl (by as_aux_lemma => kernel_rfl) ?_
      refine RW.wr64 (κ := .qui) (d := some 47) (r := [(14, .qui), (16, .qui), (17, .qui), (18, .qui), (19, .qui), (21, .qui), (22, .qui), (23, .qui), (24, .qui), (25, .qui), (26, .qui), (27, .qui), (28, .qui), (29, .qui), (31, .qui), (32, .qui), (33, .qui), (34, .qui), (15, .chn), (20, .qui), (30, .qui), (35, .qui), (36, .qui), (37, .qui)]) (t := ((now[i]) + 1) * den) (by as_aux_lemma => kernel_rfl) (by omega) ?_
      refine RW.runP 4 [0, 47, 48, 52] [(19, .qui), (21, .qui), (22, .qui), (23, .qui), (24, .qui), (25, .qui), (26, .qui), (27, .qui), (28, .qui), (29, .qui), (31, .qui), (32, .qui), (33, .qui), (34, .qui), (15, .chn), (20, .qui), (30, .qui), (35, .qui), (36, .qui), (37, .qui)] [(0, .pointer (some ⟨cb, 0, none⟩)), (47, .int .i64 (((now[i]) + 1) * den)), (48, .slice a19 ((now.take i ++ now.drop (i + 1)).length) c20), (52, .pointer (some ⟨cb, 1, none⟩))] (by as_aux_lemma => kernel_rfl) (by as_aux_lemma => kernel_rfl) ?_
      refine RW.load (κ := .qui) (d := some 53) (r := [(21, .qui), (22, .qui), (23, .qui), (24, .qui), (25, .qui), (26, .qui), (27, .qui), (28, .qui), (29, .qui), (31, .qui), (32, .qui), (33, .qui), (34, .qui), (15, .chn), (20, .qui), (30, .qui), (35, .qui), (36, .qui), (37, .qui)]) (T := 3) (b := cb) (o' := 1) (k := 1) (v := .int .i64 num) (by as_aux_lemma => kernel_rfl) (H.fc 2 rfl) rfl (by as_aux_lemma => kernel_rfl) ?_
      refine RW.runP 3 [0, 47, 48, 53, 57] [(24, .qui), (25, .qui), (26, .qui), (27, .qui), (28, .qui), (29, .qui), (31, .qui), (32, .qui), (33, .qui), (34, .qui), (15, .chn), (20, .qui), (30, .qui), (35, .qui), (36, .qui), (37, .qui)] [(0, .pointer (some ⟨cb, 0, none⟩)), (47, .int .i64 (((now[i]) + 1) * den)), (48, .slice a19 ((now.take i ++ now.drop (i + 1)).length) c20), (53, .int .i64 num), (57, .pointer (some ⟨cb, 3, none⟩))] (by as_aux_lemma => kernel_rfl) (by as_aux_lemma => kernel_rfl) ?_
      refine RW.load (κ := .qui) (d := some 58) (r := [(25, .qui), (26, .qui), (27, .qui), (28, .qui), (29, .qui), (31, .qui), (32, .qui), (33, .qui), (34, .qui), (15, .chn), (20, .qui), (30, .qui), (35, .qui), (36, .qui), (37, .qui)]) (T := 3) (b := cb) (o' := 3) (k := 3) (v := .int .i64 slack) (by as_aux_lemma => kernel_rfl) (H.fc 2 rfl) rfl (by as_aux_lemma => kernel_rfl) ?_
      refine RW.runP 3 [0, 47, 48, 53, 58, 61] [(28, .qui), (29, .qui), (31, .qui), (32, .qui), (33, .qui), (34, .qui), (15, .chn), (20, .qui), (30, .qui), (35, .qui), (36, .qui), (37, .qui)] [(0, .pointer (some ⟨cb, 0, none⟩)), (47, .int .i64 (((now[i]) + 1) * den)), (48, .slice a19 ((now.take i ++ now.drop (i + 1)).length) c20), (53, .int .i64 num), (58, .int .i64 slack), (61, .pointer (some ⟨cb, 2, none⟩))] (by as_aux_lemma => kernel_rfl) (by as_aux_lemma => kernel_rfl) ?_
      refine RW.load (κ := .qui) (d := some 62) (r := [(29, .qui), (31, .qui), (32, .qui), (33, .qui), (34, .qui), (15, .chn), (20, .qui), (30, .qui), (35, .qui), (36, .qui), (37, .qui)]) (T := 3) (b := cb) (o' := 2) (k := 2) (v := .int .i64 den) (by as_aux_lemma => kernel_rfl) (H.fc 2 rfl) rfl (by as_aux_lemma => kernel_rfl) ?_
      refine RW.wr64 (κ := .qui) (d := some 63) (r := [(31, .qui), (32, .qui), (33, .qui), (34, .qui), (15, .chn), (20, .qui), (30, .qui), (35, .qui), (36, .qui), (37, .qui)]) (t := slack * den) (by as_aux_lemma => kernel_rfl) (by omega) ?_
      refine RW.runP 3 [47, 48, 53, 63, 67] [(34, .qui), (15, .chn), (20, .qui), (30, .qui), (35, .qui), (36, .qui), (37, .qui)] [(47, .int .i64 (((now[i]) + 1) * den)), (48, .slice a19 ((now.take i ++ now.drop (i + 1)).length) c20), (53, .int .i64 num), (63, .int .i64 (slack * den)), (67, .pointer (some ⟨cb, 1, none⟩))] (by as_aux_lemma => kernel_rfl) (by as_aux_lemma => kernel_rfl) ?_
      refine RW.load (κ := .qui) (d := some 68) (r := [(15, .chn), (20, .qui), (30, .qui), (35, .qui), (36, .qui), (37, .qui)]) (T := 3) (b := cb) (o' := 1) (k := 1) (v := .int .i64 num) (by as_aux_lemma => kernel_rfl) (H.fc 2 rfl) rfl (by as_aux_lemma => kernel_rfl) ?_
      have H : Hp w S [] [] [] [Rp (Shape.slice (Shape.int .i64)) [.slice a19 ((now.take i ++ now.drop (i + 1)).length) c20] (now.take i ++ now.drop (i + 1)), Fc b25 o26 [.int .i64 (now[i])], Fc b4 o5 [.int .i64 (now[i])], Fc cb 0 [.slice na now.length nc, .int .i64 num, .int .i64 den, .int .i64 slack, .slice ta tn tc], Rp (Shape.slice (Shape.int .i64)) [.slice na now.length nc] now] _ := H.freezeW 0 rfl
      refine RW.call (κ := .chn) (d := some 49) (r := [(20, .qui), (30, .qui), (35, .qui), (36, .qui), (37, .qui)]) (g := 26) (args := #[.slice a19 ((now.take i ++ now.drop (i + 1)).length) c20]) (by as_aux_lemma => kernel_rfl) (nofun) (smin_spec (S := fun _ => True) (H.viewR 0 rfl) (by omega)) ?_
      rintro _ w30 hE31 rfl
      have H := H.ext hE31
      refine RW.wr64 (κ := .qui) (d := some 54) (r := [(30, .qui), (35, .qui), (36, .qui), (37, .qui)]) (t := (minOf (now.take i ++ now.drop (i + 1))) * num) (by as_aux_lemma => kernel_rfl) (by omega) ?_
      refine RW.wr64 (κ := .qui) (d := some 64) (r := [(35, .qui), (36, .qui), (37, .qui)]) (t := ((minOf (now.take i ++ now.drop (i + 1))) * num) + (slack * den)) (by as_aux_lemma => kernel_rfl) (by omega) ?_
      refine RW.wr64 (κ := .qui) (d := some 69) (r := [(36, .qui), (37, .qui)]) (t := (((minOf (now.take i ++ now.drop (i + 1))) * num) + (slack * den)) + num) (by as_aux_lemma => kernel_rfl) (by omega) ?_
      refine RW.fin 2 [4] [(4, .bool (decide ((((now[i]) + 1) * den : Int) ≤ (((minOf (now.take i ++ now.drop (i + 1))) * num) + (slack * den)) + num)))] (by as_aux_lemma => kernel_rfl) ?_
      refine WK.ret (v := .bool (decide ((((now[i]) + 1) * den : Int) ≤ (((minOf (now.take i ++ now.drop (i + 1))) * num) + (slack * den)) + num))) Try.func10 (by as_aux_lemma => kernel_rfl) (by as_aux_lemma => kernel_rfl) ?_
      refine ⟨_, rfl, H.done, ?_⟩
      congr 1
      unfold mayI
      rw [hnow, Option.getD_some]
      rw [hot]
      exact decide_eq_decide.2 ⟨fun h => ⟨by omega, h⟩, fun h => h.2⟩
    · skip
      replace h10 := of_decide_eq_false h10
      have hot : othersOf now i = now := if_neg (by omega)
      rw [hot] at hm hp3 hop
      refine WK.run 2 [0, 1, 5] [.code (cd Try.prog 10 [4, 0]), .code (cd Try.prog 10 [5])] [(0, .pointer (some ⟨cb, 0, none⟩)), (1, .int .i64 ((i : Int) + 1)), (5, .slice na now.length nc)] (by as_aux_lemma => kernel_rfl) ?_
      refine WK.draw1 38 [(0, .qui), (1, .qui), (2, .qui), (3, .qui), (4, .qui), (5, .qui), (6, .qui), (7, .qui), (8, .qui), (9, .qui), (10, .qui), (11, .qui), (12, .qui), (13, .qui), (14, .qui), (16, .qui), (17, .qui), (18, .qui), (19, .qui), (21, .qui), (22, .qui), (23, .qui), (24, .qui), (25, .qui), (26, .qui), (27, .qui), (28, .qui), (29, .qui), (31, .qui), (32, .qui), (33, .qui), (34, .qui), (15, .chn), (20, .qui), (30, .qui), (35, .qui), (36, .qui), (37, .qui)] [(0, .qui), (1, .qui), (2, .qui), (3, .qui), (4, .qui), (5, .qui), (6, .qui), (7, .qui), (8, .qui), (9, .qui), (10, .qui), (11, .qui), (12, .qui), (13, .qui), (14, .qui), (16, .qui), (17, .qui), (18, .qui), (19, .qui), (21, .qui), (22, .qui), (23, .qui), (24, .qui), (25, .qui), (26, .qui), (27, .qui), (28, .qui), (29, .qui), (31, .qui), (32, .qui), (33, .qui), (34, .qui), (15, .chn), (20, .qui), (30, .qui), (35, .qui), (36, .qui), (37, .qui)] Try_mixed (by as_aux_lemma => kernel_rfl) (by as_aux_lemma => kernel_rfl) (by as_aux_lemma => kernel_rfl) ?_
      have H := H.draw
      generalize ({ w1 with drawn := w1.drawn + 1 } : World) = w32 at H ⊢
      refine RW.runP 3 [0, 1, 5, 36] [(3, .qui), (4, .qui), (5, .qui), (6, .qui), (7, .qui), (8, .qui), (9, .qui), (10, .qui), (11, .qui), (12, .qui), (13, .qui), (14, .qui), (16, .qui), (17, .qui), (18, .qui), (19, .qui), (21, .qui), (22, .qui), (23, .qui), (24, .qui), (25, .qui), (26, .qui), (27, .qui), (28, .qui), (29, .qui), (31, .qui), (32, .qui), (33, .qui), (34, .qui), (15, .chn), (20, .qui), (30, .qui), (35, .qui), (36, .qui), (37, .qui)] [(0, .pointer (some ⟨cb, 0, none⟩)), (1, .int .i64 ((i : Int) + 1)), (5, .slice na now.length nc), (36, .pointer (some ⟨cb, 0, none⟩))] (by as_aux_lemma => kernel_rfl) (by as_aux_lemma => kernel_rfl) ?_
      refine RW.load (κ := .qui) (d := some 37) (r := [(4, .qui), (5, .qui), (6, .qui), (7, .qui), (8, .qui), (9, .qui), (10, .qui), (11, .qui), (12, .qui), (13, .qui), (14, .qui), (16, .qui), (17, .qui), (18, .qui), (19, .qui), (21, .qui), (22, .qui), (23, .qui), (24, .qui), (25, .qui), (26, .qui), (27, .qui), (28, .qui), (29, .qui), (31, .qui), (32, .qui), (33, .qui), (34, .qui), (15, .chn), (20, .qui), (30, .qui), (35, .qui), (36, .qui), (37, .qui)]) (T := 22) (b := cb) (o' := 0) (k := 0) (v := .slice na now.length nc) (by as_aux_lemma => kernel_rfl) (H.fc 1 rfl) rfl (by as_aux_lemma => kernel_rfl) ?_
      refine RW.runP 1 [0, 5, 37, 38] [(5, .qui), (6, .qui), (7, .qui), (8, .qui), (9, .qui), (10, .qui), (11, .qui), (12, .qui), (13, .qui), (14, .qui), (16, .qui), (17, .qui), (18, .qui), (19, .qui), (21, .qui), (22, .qui), (23, .qui), (24, .qui), (25, .qui), (26, .qui), (27, .qui), (28, .qui), (29, .qui), (31, .qui), (32, .qui), (33, .qui), (34, .qui), (15, .chn), (20, .qui), (30, .qui), (35, .qui), (36, .qui), (37, .qui)] [(0, .pointer (some ⟨cb, 0, none⟩)), (5, .slice na now.length nc), (37, .slice na now.length nc), (38, .int .i64 ((i : Int) + 1))] (by as_aux_lemma => kernel_rfl) (by as_aux_lemma => kernel_rfl) ?_
      refine RW.pv (κ := .qui) (d := some 39) (r := [(6, .qui), (7, .qui), (8, .qui), (9, .qui), (10, .qui), (11, .qui), (12, .qui), (13, .qui), (14, .qui), (16, .qui), (17, .qui), (18, .qui), (19, .qui), (21, .qui), (22, .qui), (23, .qui), (24, .qui), (25, .qui), (26, .qui), (27, .qui), (28, .qui), (29, .qui), (31, .qui), (32, .qui), (33, .qui), (34, .qui), (15, .chn), (20, .qui), (30, .qui), (35, .qui), (36, .qui), (37, .qui)]) (v' := .int .i64 (i : Int)) (v := .int .i64 (IntKind.i64.wrap (((i : Int) + 1) - 1))) (by as_aux_lemma => kernel_rfl) (by rw [IntKind.wrap_i64]; congr 1; omega) ?_
      have hx33 : i < now.length := by omega
      refine RW.index (κ := .qui) (d := some 40) (r := [(7, .qui), (8, .qui), (9, .qui), (10, .qui), (11, .qui), (12, .qui), (13, .qui), (14, .qui), (16, .qui), (17, .qui), (18, .qui), (19, .qui), (21, .qui), (22, .qui), (23, .qui), (24, .qui), (25, .qui), (26, .qui), (27, .qui), (28, .qui), (29, .qui), (31, .qui), (32, .qui), (33, .qui), (34, .qui), (15, .chn), (20, .qui), (30, .qui), (35, .qui), (36, .qui), (37, .qui)]) (T := 22) (e := 3) (ik := .i64) (ix := (i : Int)) (sh := (Shape.int .i64)) (x := now[i]) (by as_aux_lemma => kernel_rfl) (by as_aux_lemma => kernel_rfl) H 2 rfl i (by omega) (List.getElem?_eq_getElem hx33) ?_
      intro b34 o35 es36 hr37 H
      have hb38 := Shape.i64_bd hr37
      obtain ⟨rfl, -⟩ := hr37
      refine RW.load (κ := .qui) (d := some 41) (r := [(8, .qui), (9, .qui), (10, .qui), (11, .qui), (12, .qui), (13, .qui), (14, .qui), (16, .qui), (17, .qui), (18, .qui), (19, .qui), (21, .qui), (22, .qui), (23, .qui), (24, .qui), (25, .qui), (26, .qui), (27, .qui), (28, .qui), (29, .qui), (31, .qui), (32, .qui), (33, .qui), (34, .qui), (15, .chn), (20, .qui), (30, .qui), (35, .qui), (36, .qui), (37, .qui)]) (T := 3) (b := b34) (o' := o35) (k := 0) (v := .int .i64 (now[i])) (by as_aux_lemma => kernel_rfl) (H.fc 0 rfl) rfl (by as_aux_lemma => kernel_rfl) ?_
      refine RW.wr64 (κ := .qui) (d := some 42) (r := [(9, .qui), (10, .qui), (11, .qui), (12, .qui), (13, .qui), (14, .qui), (16, .qui), (17, .qui), (18, .qui), (19, .qui), (21, .qui), (22, .qui), (23, .qui), (24, .qui), (25, .qui), (26, .qui), (27, .qui), (28, .qui), (29, .qui), (31, .qui), (32, .qui), (33, .qui), (34, .qui), (15, .chn), (20, .qui), (30, .qui), (35, .qui), (36, .qui), (37, .qui)]) (t := (now[i]) + 1) (by as_aux_lemma => kernel_rfl) (by omega) ?_
      refine RW.runP 3 [0, 5, 42, 45] [(12, .qui), (13, .qui), (14, .qui), (16, .qui), (17, .qui), (18, .qui), (19, .qui), (21, .qui), (22, .qui), (23, .qui), (24, .qui), (25, .qui), (26, .qui), (27, .qui), (28, .qui), (29, .qui), (31, .qui), (32, .qui), (33, .qui), (34, .qui), (15, .chn), (20, .qui), (30, .qui), (35, .qui), (36, .qui), (37, .qui)] [(0, .pointer (some ⟨cb, 0, none⟩)), (5, .slice na now.length nc), (42, .int .i64 ((now[i]) + 1)), (45, .pointer (some ⟨cb, 2, none⟩))] (by as_aux_lemma => kernel_rfl) (by as_aux_lemma => kernel_rfl) ?_
      refine RW.load (κ := .qui) (d := some 46) (r := [(13, .qui), (14, .qui), (16, .qui), (17, .qui), (18, .qui), (19, .qui), (21, .qui), (22, .qui), (23, .qui), (24, .qui), (25, .qui), (26, .qui), (27, .qui), (28, .qui), (29, .qui), (31, .qui), (32, .qui), (33, .qui), (34, .qui), (15, .chn), (20, .qui), (30, .qui), (35, .qui), (36, .qui), (37, .qui)]) (T := 3) (b := cb) (o' := 2) (k := 2) (v := .int .i64 den) (by as_aux_lemma => kernel_rfl) (H.fc 2 rfl) rfl (by as_aux_lemma => kernel_rfl) ?_
      refine RW.wr64 (κ := .qui) (d := some 47) (r := [(14, .qui), (16, .qui), (17, .qui), (18, .qui), (19, .qui), (21, .qui), (22, .qui), (23, .qui), (24, .qui), (25, .qui), (26, .qui), (27, .qui), (28, .qui), (29, .qui), (31, .qui), (32, .qui), (33, .qui), (34, .qui), (15, .chn), (20, .qui), (30, .qui), (35, .qui), (36, .qui), (37, .qui)]) (t := ((now[i]) + 1) * den) (by as_aux_lemma => kernel_rfl) (by omega) ?_
      refine RW.runP 4 [0, 47, 48, 52] [(19, .qui), (21, .qui), (22, .qui), (23, .qui), (24, .qui), (25, .qui), (26, .qui), (27, .qui), (28, .qui), (29, .qui), (31, .qui), (32, .qui), (33, .qui), (34, .qui), (15, .chn), (20, .qui), (30, .qui), (35, .qui), (36, .qui), (37, .qui)] [(0, .pointer (some ⟨cb, 0, none⟩)), (47, .int .i64 (((now[i]) + 1) * den)), (48, .slice na now.length nc), (52, .pointer (some ⟨cb, 1, none⟩))] (by as_aux_lemma => kernel_rfl) (by as_aux_lemma => kernel_rfl) ?_
      refine RW.load (κ := .qui) (d := some 53) (r := [(21, .qui), (22, .qui), (23, .qui), (24, .qui), (25, .qui), (26, .qui), (27, .qui), (28, .qui), (29, .qui), (31, .qui), (32, .qui), (33, .qui), (34, .qui), (15, .chn), (20, .qui), (30, .qui), (35, .qui), (36, .qui), (37, .qui)]) (T := 3) (b := cb) (o' := 1) (k := 1) (v := .int .i64 num) (by as_aux_lemma => kernel_rfl) (H.fc 2 rfl) rfl (by as_aux_lemma => kernel_rfl) ?_
      refine RW.runP 3 [0, 47, 48, 53, 57] [(24, .qui), (25, .qui), (26, .qui), (27, .qui), (28, .qui), (29, .qui), (31, .qui), (32, .qui), (33, .qui), (34, .qui), (15, .chn), (20, .qui), (30, .qui), (35, .qui), (36, .qui), (37, .qui)] [(0, .pointer (some ⟨cb, 0, none⟩)), (47, .int .i64 (((now[i]) + 1) * den)), (48, .slice na now.length nc), (53, .int .i64 num), (57, .pointer (some ⟨cb, 3, none⟩))] (by as_aux_lemma => kernel_rfl) (by as_aux_lemma => kernel_rfl) ?_
      refine RW.load (κ := .qui) (d := some 58) (r := [(25, .qui), (26, .qui), (27, .qui), (28, .qui), (29, .qui), (31, .qui), (32, .qui), (33, .qui), (34, .qui), (15, .chn), (20, .qui), (30, .qui), (35, .qui), (36, .qui), (37, .qui)]) (T := 3) (b := cb) (o' := 3) (k := 3) (v := .int .i64 slack) (by as_aux_lemma => kernel_rfl) (H.fc 2 rfl) rfl (by as_aux_lemma => kernel_rfl) ?_
      refine RW.runP 3 [0, 47, 48, 53, 58, 61] [(28, .qui), (29, .qui), (31, .qui), (32, .qui), (33, .qui), (34, .qui), (15, .chn), (20, .qui), (30, .qui), (35, .qui), (36, .qui), (37, .qui)] [(0, .pointer (some ⟨cb, 0, none⟩)), (47, .int .i64 (((now[i]) + 1) * den)), (48, .slice na now.length nc), (53, .int .i64 num), (58, .int .i64 slack), (61, .pointer (some ⟨cb, 2, none⟩))] (by as_aux_lemma => kernel_rfl) (by as_aux_lemma => kernel_rfl) ?_
      refine RW.load (κ := .qui) (d := some 62) (r := [(29, .qui), (31, .qui), (32, .qui), (33, .qui), (34, .qui), (15, .chn), (20, .qui), (30, .qui), (35, .qui), (36, .qui), (37, .qui)]) (T := 3) (b := cb) (o' := 2) (k := 2) (v := .int .i64 den) (by as_aux_lemma => kernel_rfl) (H.fc 2 rfl) rfl (by as_aux_lemma => kernel_rfl) ?_
      refine RW.wr64 (κ := .qui) (d := some 63) (r := [(31, .qui), (32, .qui), (33, .qui), (34, .qui), (15, .chn), (20, .qui), (30, .qui), (35, .qui), (36, .qui), (37, .qui)]) (t := slack * den) (by as_aux_lemma => kernel_rfl) (by omega) ?_
      refine RW.runP 3 [47, 48, 53, 63, 67] [(34, .qui), (15, .chn), (20, .qui), (30, .qui), (35, .qui), (36, .qui), (37, .qui)] [(47, .int .i64 (((now[i]) + 1) * den)), (48, .slice na now.length nc), (53, .int .i64 num), (63, .int .i64 (slack * den)), (67, .pointer (some ⟨cb, 1, none⟩))] (by as_aux_lemma => kernel_rfl) (by as_aux_lemma => kernel_rfl) ?_
      refine RW.load (κ := .qui) (d := some 68) (r := [(15, .chn), (20, .qui), (30, .qui), (35, .qui), (36, .qui), (37, .qui)]) (T := 3) (b := cb) (o' := 1) (k := 1) (v := .int .i64 num) (by as_aux_lemma => kernel_rfl) (H.fc 2 rfl) rfl (by as_aux_lemma => kernel_rfl) ?_
      refine RW.call (κ := .chn) (d := some 49) (r := [(20, .qui), (30, .qui), (35, .qui), (36, .qui), (37, .qui)]) (g := 26) (args := #[.slice na now.length nc]) (by as_aux_lemma => kernel_rfl) (nofun) (smin_spec (S := fun _ => True) (H.viewR 3 rfl) (by omega)) ?_
      rintro _ w39 hE40 rfl
      have H := H.ext hE40
      refine RW.wr64 (κ := .qui) (d := some 54) (r := [(30, .qui), (35, .qui), (36, .qui), (37, .qui)]) (t := (minOf now) * num) (by as_aux_lemma => kernel_rfl) (by omega) ?_
      refine RW.wr64 (κ := .qui) (d := some 64) (r := [(35, .qui), (36, .qui), (37, .qui)]) (t := ((minOf now) * num) + (slack * den)) (by as_aux_lemma => kernel_rfl) (by omega) ?_
      refine RW.wr64 (κ := .qui) (d := some 69) (r := [(36, .qui), (37, .qui)]) (t := (((minOf now) * num) + (slack * den)) + num) (by as_aux_lemma => kernel_rfl) (by omega) ?_
      refine RW.fin 2 [4] [(4, .bool (decide ((((now[i]) + 1) * den : Int) ≤ (((minOf now) * num) + (slack * den)) + num)))] (by as_aux_lemma => kernel_rfl) ?_
      refine WK.ret (v := .bool (decide ((((now[i]) + 1) * den : Int) ≤ (((minOf now) * num) + (slack * den)) + num))) Try.func10 (by as_aux_lemma => kernel_rfl) (by as_aux_lemma => kernel_rfl) ?_
      refine ⟨_, rfl, H.done, ?_⟩
      congr 1
      unfold mayI
      rw [hnow, Option.getD_some]
      rw [hot]
      exact decide_eq_decide.2 ⟨fun h => ⟨by omega, h⟩, fun h => h.2⟩

theorem may_out {S : Nat → Prop} {w : World} {cb nc tn tc : Nat} {na ta : Option Addr} {now : List Int} {num den slack : Int} (hF : (Fc cb 0 [.slice na now.length nc, .int .i64 num, .int .i64 den, .int .i64 slack, .slice ta tn tc]).p S w) {node : Int} (hst : stE now.length node ≠ 0) :
    Calls Try.prog 10 #[.pointer (some ⟨cb, 0, none⟩), .int .i64 node] w (Ret fun v w' => Ext w w' ∧ v = .bool false) := by
  refine WK.calls1 (fn := Try.f10) (n := 71) (σ := [(0, .pointer (some ⟨cb, 0, none⟩)), (1, .int .i64 node)]) Try.func10 rfl (by as_aux_lemma => kernel_rfl) (by as_aux_lemma => kernel_rfl) (by as_aux_lemma => kernel_rfl) ?_
  have H := Hp.startF (w := w) (S := S) (G := [Fc cb 0 [.slice na now.length nc, .int .i64 num, .int .i64 den, .int .i64 slack, .slice ta tn tc]]) (.cons hF .nil)
  refine WK.run 4 [0, 1] [.code (cd Try.prog 10 [1, 0, 0]), .code (cd Try.prog 10 [1, 0, 1]), .code (cd Try.prog 10 [2])] [(0, .pointer (some ⟨cb, 0, none⟩)), (1, .int .i64 node)] (by as_aux_lemma => kernel_rfl) ?_
  refine WK.reg1 (l := sq 0 15) (by as_aux_lemma => kernel_rfl) (by as_aux_lemma => kernel_rfl) ?_
  refine RW.runP 2 [0, 1, 6, 7] (sq 2 15) [(0, .pointer (some ⟨cb, 0, none⟩)), (1, .int .i64 node), (6, .pointer (some ⟨cb, 0, none⟩)), (7, .int .i64 node)] (by as_aux_lemma => kernel_rfl) (by as_aux_lemma => kernel_rfl) ?_
  refine RW.call (κ := .seq) (d := some 8) (r := (sq 3 15)) (g := 23) (args := #[.pointer (some ⟨cb, 0, none⟩), .int .i64 node]) (by as_aux_lemma => kernel_rfl) (nofun) (state_spec (S := fun _ => True) (now := now) (H.viewF 0 rfl) node) ?_
  rintro _ w1 hE2 rfl
  have H := H.ext hE2
  refine RW.runP 2 [0, 1, 10] (sq 5 15) [(0, .pointer (some ⟨cb, 0, none⟩)), (1, .int .i64 node), (10, .bool ((stE now.length node) != 0))] (by as_aux_lemma => kernel_rfl) (by as_aux_lemma => kernel_rfl) ?_
  refine RW.test (fun b_ => [(0, .pointer (some ⟨cb, 0, none⟩)), (1, .int .i64 node), (10, .bool b_)]) ((stE now.length node) != 0) (fun h3 => ?_) (fun h3 => ?_)
  · skip
    replace h3 := bne_iff_ne.1 h3
    refine RW.fin 10 [0, 1, 20] [(0, .pointer (some ⟨cb, 0, none⟩)), (1, .int .i64 node), (20, .bool true)] (by as_aux_lemma => kernel_rfl) ?_
    refine WK.run 3 [4] [.code (cd Try.prog 10 [1, 0, 1, 0, 1]), .code (cd Try.prog 10 [2])] [(4, .bool false)] (by as_aux_lemma => kernel_rfl) ?_
    refine WK.ret (v := .bool false) Try.func10 (by as_aux_lemma => kernel_rfl) (by as_aux_lemma => kernel_rfl) ?_
    exact ⟨_, rfl, H.done, rfl⟩
  · skip
    replace h3 := (bne_eq_false_iff_eq.1 h3)
    exact absurd h3 hst

theorem may_nil {S : Nat → Prop} {w : World} (node : Int) :
    Calls Try.prog 10 #[.pointer none, .int .i64 node] w (Ret fun v w' => Ext w w' ∧ v = .bool false) := by
  refine WK.calls1 (fn := Try.f10) (n := 71) (σ := [(0, .pointer none), (1, .int .i64 node)]) Try.func10 rfl (by as_aux_lemma => kernel_rfl) (by as_aux_lemma => kernel_rfl) (by as_aux_lemma => kernel_rfl) ?_
  have H := Hp.startF (w := w) (S := S) (G := []) .nil
  refine WK.run 4 [0, 1] [.code (cd Try.prog 10 [1, 0, 0]), .code (cd Try.prog 10 [1, 0, 1]), .code (cd Try.prog 10 [2])] [(0, .pointer none), (1, .int .i64 node)] (by as_aux_lemma => kernel_rfl) ?_
  refine WK.reg1 (l := sq 0 15) (by as_aux_lemma => kernel_rfl) (by as_aux_lemma => kernel_rfl) ?_
  refine RW.runP 2 [0, 1, 6, 7] (sq 2 15) [(0, .pointer none), (1, .int .i64 node), (6, .pointer none), (7, .int .i64 node)] (by as_aux_lemma => kernel_rfl) (by as_aux_lemma => kernel_rfl) ?_
  refine RW.call (κ := .seq) (d := some 8) (r := (sq 3 15)) (g := 23) (args := #[.pointer none, .int .i64 node]) (by as_aux_lemma => kernel_rfl) (nofun) (state_nil (S := fun _ => True) node) ?_
  rintro _ w1 hE2 rfl
  have H := H.ext hE2
  refine RW.fin 12 [0, 1, 20] [(0, .pointer none), (1, .int .i64 node), (20, .bool true)] (by as_aux_lemma => kernel_rfl) ?_
  refine WK.run 3 [4] [.code (cd Try.prog 10 [1, 0, 1, 0, 1]), .code (cd Try.prog 10 [2])] [(4, .bool false)] (by as_aux_lemma => kernel_rfl) ?_
  refine WK.ret (v := .bool false) Try.func10 (by as_aux_lemma => kernel_rfl) (by as_aux_lemma => kernel_rfl) ?_
  exact ⟨_, rfl, H.done, rfl⟩

theorem may_spec {S : Nat → Prop} {w : World} {cb nc tn tc : Nat} {na ta : Option Addr} {now : List Int} {num den slack : Int} (hF : (Fc cb 0 [.slice na now.length nc, .int .i64 num, .int .i64 den, .int .i64 slack, .slice ta tn tc]).p S w) (hN : (Shape.slice (Shape.int .i64)).rep S w [.slice na now.length nc] now) (hC : COk now num den slack) (node : Int) : Calls Try.prog 10 #[.pointer (some ⟨cb, 0, none⟩), .int .i64 node] w (Ret fun v w' => Ext w w' ∧ v = .bool (mayE now num den slack node)) := by
  by_cases h : stE now.length node = 0
  · obtain ⟨h0, h1, h2⟩ := st_zero h
    obtain ⟨i, rfl⟩ : ∃ i : Nat, node = (i : Int) + 1 := ⟨(node - 1).toNat, by omega⟩
    have := may_in hF hN hC (i := i) (by omega)
    rw [show mayE now num den slack ((i : Int) + 1) = mayI now num den slack i by unfold mayE; rw [if_pos h]; congr 1; omega]
    exact this
  · rw [show mayE now num den slack node = false from if_neg h]
    exact may_out hF h

def tickI (now : List Int) (num den slack : Int) (i : Nat) : List Int := if mayI now num den slack i = true then now.set i ((now[i]?).getD 0 + 1) else now
def tickE (now : List Int) (num den slack node : Int) : List Int := if stE now.length node = 0 then tickI now num den slack (node - 1).toNat else now
def tickR (now : List Int) (num den slack node : Int) : Int := if stE now.length node = 0 then (if mayE now num den slack node = true then 0 else 170) else stE now.length node
theorem tickI_len (now : List Int) (num den slack : Int) (i : Nat) : (tickI now num den slack i).length = now.length := by
  unfold tickI
  split
  · rw [List.length_set]
  · rfl
theorem tickE_len (now : List Int) (num den slack node : Int) : (tickE now num den slack node).length = now.length := by
  unfold tickE
  split
  · exact tickI_len ..
  · rfl

theorem tick_in {S : Nat → Prop} {w : World} {O : List Nat} {cb nc tn tc : Nat} {na ta : Option Addr} {now : List Int} {num den slack : Int} (H0 : Hp w S O [(cb, .cells #[.slice na now.length nc, .int .i64 num, .int .i64 den, .int .i64 slack, .slice ta tn tc] 47 (0, 0))] [⟨Shape.int .i64, 3, .slice na now.length nc, now⟩] [] w) (hC : COk now num den slack) {i : Nat} (hi : i < now.length) :
    Calls Try.prog 9 #[.pointer (some ⟨cb, 0, none⟩), .int .i64 ((i : Int) + 1)] w (Ret fun v w' => v = .int .i64 (if mayI now num den slack i = true then 0 else 170) ∧ Hp w S O [(cb, .cells #[.slice na now.length nc, .int .i64 num, .int .i64 den, .int .i64 slack, .slice ta tn tc] 47 (0, 0))] [⟨Shape.int .i64, 3, .slice na now.length nc, tickI now num den slack i⟩] [] w') := by
  have hnl := hC.hlen
  have hnow : now[i]? = some now[i] := List.getElem?_eq_getElem hi
  obtain ⟨hn0, hn1⟩ := hC.hnow now[i] (List.getElem_mem hi)
  refine WK.calls1 (fn := Try.f9) (n := 26) (σ := [(0, .pointer (some ⟨cb, 0, none⟩)), (1, .int .i64 ((i : Int) + 1))]) Try.func9 rfl (by as_aux_lemma => kernel_rfl) (by as_aux_lemma => kernel_rfl) (by as_aux_lemma => kernel_rfl) ?_
  have H := H0
  refine WK.run 4 [0, 1] [.code (cd Try.prog 9 [1, 0, 0]), .code (cd Try.prog 9 [1, 0, 1]), .code (cd Try.prog 9 [2])] [(0, .pointer (some ⟨cb, 0, none⟩)), (1, .int .i64 ((i : Int) + 1))] (by as_aux_lemma => kernel_rfl) ?_
  refine WK.reg1 (l := sq 0 4) (by as_aux_lemma => kernel_rfl) (by as_aux_lemma => kernel_rfl) ?_
  refine RW.runP 2 [0, 1, 6, 7] (sq 2 4) [(0, .pointer (some ⟨cb, 0, none⟩)), (1, .int .i64 ((i : Int) + 1)), (6, .pointer (some ⟨cb, 0, none⟩)), (7, .int .i64 ((i : Int) + 1))] (by as_aux_lemma => kernel_rfl) (by as_aux_lemma => kernel_rfl) ?_
  refine RW.call (κ := .seq) (d := some 8) (r := (sq 3 4)) (g := 23) (args := #[.pointer (some ⟨cb, 0, none⟩), .int .i64 ((i : Int) + 1)]) (by as_aux_lemma => kernel_rfl) (nofun) (state_in (S := fun _ => True) (now := now) (H.viewM 0 rfl (by simp)) (by omega)) ?_
  rintro _ w1 hE2 rfl
  have H := H.ext hE2
  refine RW.fin 1 [0, 1, 5] [(0, .pointer (some ⟨cb, 0, none⟩)), (1, .int .i64 ((i : Int) + 1)), (5, .int .i64 0)] (by as_aux_lemma => kernel_rfl) ?_
  refine WK.run 6 [0, 1] [.code (cd Try.prog 9 [2, 0, 0]), .code (cd Try.prog 9 [2, 0, 1]), .code (cd Try.prog 9 [3])] [(0, .pointer (some ⟨cb, 0, none⟩)), (1, .int .i64 ((i : Int) + 1))] (by as_aux_lemma => kernel_rfl) ?_
  refine WK.reg1 (l := sq 0 4) (by as_aux_lemma => kernel_rfl) (by as_aux_lemma => kernel_rfl) ?_
  refine RW.runP 2 [0, 1, 12, 13] (sq 2 4) [(0, .pointer (some ⟨cb, 0, none⟩)), (1, .int .i64 ((i : Int) + 1)), (12, .pointer (some ⟨cb, 0, none⟩)), (13, .int .i64 ((i : Int) + 1))] (by as_aux_lemma => kernel_rfl) (by as_aux_lemma => kernel_rfl) ?_
  refine RW.call (κ := .seq) (d := some 14) (r := (sq 3 4)) (g := 10) (args := #[.pointer (some ⟨cb, 0, none⟩), .int .i64 ((i : Int) + 1)]) (by as_aux_lemma => kernel_rfl) (nofun) (may_in (S := fun _ => True) (H.viewM 0 rfl (by simp)) (H.view 0 rfl) hC (i := i) (by omega)) ?_
  rintro _ w3 hE4 rfl
  have H := H.ext hE4
  refine RW.fin 1 [0, 1, 15] [(0, .pointer (some ⟨cb, 0, none⟩)), (1, .int .i64 ((i : Int) + 1)), (15, .bool (!(mayI now num den slack i)))] (by as_aux_lemma => kernel_rfl) ?_
  refine WK.cond1 (!(mayI now num den slack i)) (by as_aux_lemma => kernel_rfl) (by as_aux_lemma => kernel_rfl) (fun h5 => ?_) (fun h5 => ?_)
  · skip
    replace h5 : (mayI now num den slack i) = false := by revert h5; cases (mayI now num den slack i) <;> simp
    refine WK.run 2 [4] [.code (cd Try.prog 9 [2, 0, 1, 0, 1]), .code (cd Try.prog 9 [3])] [(4, .int .i64 170)] (by as_aux_lemma => kernel_rfl) ?_
    refine WK.ret (v := .int .i64 170) Try.func9 (by as_aux_lemma => kernel_rfl) (by as_aux_lemma => kernel_rfl) ?_
    refine ⟨_, rfl, ?_, ?_⟩
    · rw [if_neg (by simp_all)]
    · unfold tickI
      rw [if_neg (by simp_all)]
      exact H
  · skip
    replace h5 : (mayI now num den slack i) = true := by revert h5; cases (mayI now num den slack i) <;> simp
    refine WK.run 2 [0, 1] [.code (cd Try.prog 9 [3, 0]), .code (cd Try.prog 9 [4])] [(0, .pointer (some ⟨cb, 0, none⟩)), (1, .int .i64 ((i : Int) + 1))] (by as_aux_lemma => kernel_rfl) ?_
    refine WK.reg1 (l := sq 0 11) (by as_aux_lemma => kernel_rfl) (by as_aux_lemma => kernel_rfl) ?_
    refine RW.runP 3 [1, 18] (sq 3 11) [(1, .int .i64 ((i : Int) + 1)), (18, .pointer (some ⟨cb, 0, none⟩))] (by as_aux_lemma => kernel_rfl) (by as_aux_lemma => kernel_rfl) ?_
    refine RW.load (κ := .seq) (d := some 19) (r := (sq 4 11)) (T := 22) (b := cb) (o' := 0) (k := 0) (v := .slice na now.length nc) (by as_aux_lemma => kernel_rfl) (H.cells 0 rfl) rfl (by as_aux_lemma => kernel_rfl) ?_
    refine RW.runP 1 [19, 20] (sq 5 11) [(19, .slice na now.length nc), (20, .int .i64 ((i : Int) + 1))] (by as_aux_lemma => kernel_rfl) (by as_aux_lemma => kernel_rfl) ?_
    refine RW.pv (κ := .seq) (d := some 21) (r := (sq 6 11)) (v' := .int .i64 (i : Int)) (v := .int .i64 (IntKind.i64.wrap (((i : Int) + 1) - 1))) (by as_aux_lemma => kernel_rfl) (by rw [IntKind.wrap_i64]; congr 1; omega) ?_
    have hn7 : now.length = now.length := rfl
    have hx6 : i < now.length := by omega
    refine RW.indexW (κ := .seq) (d := some 22) (r := (sq 7 11)) (T := 22) (e := 3) (m := 1) (ik := .i64) (ix := (i : Int)) (sh := (Shape.int .i64)) (xs := now) (a := na) (len := now.length) (cap := nc) (by as_aux_lemma => kernel_rfl) (by as_aux_lemma => kernel_rfl) rfl H i (by omega) hx6 hn7 ?_
    intro b8 es9 ha10 hcell11 hr12
    have hb13 := Shape.i64_bd hr12
    obtain ⟨rfl, -⟩ := hr12
    refine RW.load (κ := .seq) (d := some 23) (r := (sq 8 11)) (T := 3) (b := b8) (o' := i * 1) (k := 0) (v := .int .i64 (now[i])) (by as_aux_lemma => kernel_rfl) hcell11 rfl (by as_aux_lemma => kernel_rfl) ?_
    refine RW.wr64 (κ := .seq) (d := some 24) (r := (sq 9 11)) (t := (now[i]) + 1) (by as_aux_lemma => kernel_rfl) (by omega) ?_
    have hn15 : now.length = now.length := rfl
    have hx14 : i < now.length := by omega
    refine RW.indexW (κ := .seq) (d := some 25) (r := (sq 10 11)) (T := 22) (e := 3) (m := 1) (ik := .i64) (ix := (i : Int)) (sh := (Shape.int .i64)) (xs := now) (a := na) (len := now.length) (cap := nc) (by as_aux_lemma => kernel_rfl) (by as_aux_lemma => kernel_rfl) rfl H i (by omega) hx14 hn15 ?_
    intro b16 es17 ha18 hcell19 hr20
    have hb21 := Shape.i64_bd hr20
    obtain ⟨rfl, -⟩ := hr20
    refine RW.storeW (d := none) (r := (sq 11 11)) (e := 3) (m := 1) (b := b16) (k := i) (v := .int .i64 ((now[i]) + 1)) (by as_aux_lemma => kernel_rfl) rfl (by as_aux_lemma => kernel_rfl) H ha18 hx14 hn15 ((now[i]) + 1) (Shape.i64_in (by first | omega | (simp <;> omega)) (by first | omega | (simp <;> omega))) ?_
    intro w22 H
    refine RW.fin 0 [] [] (by as_aux_lemma => kernel_rfl) ?_
    refine WK.run 2 [4] [.code (cd Try.prog 9 [5])] [(4, .int .i64 0)] (by as_aux_lemma => kernel_rfl) ?_
    refine WK.ret (v := .int .i64 0) Try.func9 (by as_aux_lemma => kernel_rfl) (by as_aux_lemma => kernel_rfl) ?_
    refine ⟨_, rfl, ?_, ?_⟩
    · rw [if_pos (by simp_all)]
    · unfold tickI
      rw [if_pos (by simp_all), hnow, Option.getD_some]
      exact H

theorem tick_out {S : Nat → Prop} {w : World} {cb nc tn tc : Nat} {na ta : Option Addr} {now : List Int} {num den slack : Int} (hF : (Fc cb 0 [.slice na now.length nc, .int .i64 num, .int .i64 den, .int .i64 slack, .slice ta tn tc]).p S w) {node : Int} (hst : stE now.length node ≠ 0) :
    Calls Try.prog 9 #[.pointer (some ⟨cb, 0, none⟩), .int .i64 node] w (Ret fun v w' => Ext w w' ∧ v = .int .i64 (stE now.length node)) := by
  refine WK.calls1 (fn := Try.f9) (n := 26) (σ := [(0, .pointer (some ⟨cb, 0, none⟩)), (1, .int .i64 node)]) Try.func9 rfl (by as_aux_lemma => kernel_rfl) (by as_aux_lemma => kernel_rfl) (by as_aux_lemma => kernel_rfl) ?_
  have H := Hp.startF (w := w) (S := S) (G := [Fc cb 0 [.slice na now.length nc, .int .i64 num, .int .i64 den, .int .i64 slack, .slice ta tn tc]]) (.cons hF .nil)
  refine WK.run 4 [0, 1] [.code (cd Try.prog 9 [1, 0, 0]), .code (cd Try.prog 9 [1, 0, 1]), .code (cd Try.prog 9 [2])] [(0, .pointer (some ⟨cb, 0, none⟩)), (1, .int .i64 node)] (by as_aux_lemma => kernel_rfl) ?_
  refine WK.reg1 (l := sq 0 4) (by as_aux_lemma => kernel_rfl) (by as_aux_lemma => kernel_rfl) ?_
  refine RW.runP 2 [0, 1, 6, 7] (sq 2 4) [(0, .pointer (some ⟨cb, 0, none⟩)), (1, .int .i64 node), (6, .pointer (some ⟨cb, 0, none⟩)), (7, .int .i64 node)] (by as_aux_lemma => kernel_rfl) (by as_aux_lemma => kernel_rfl) ?_
  refine RW.call (κ := .seq) (d := some 8) (r := (sq 3 4)) (g := 23) (args := #[.pointer (some ⟨cb, 0, none⟩), .int .i64 node]) (by as_aux_lemma => kernel_rfl) (nofun) (state_spec (S := fun _ => True) (now := now) (H.viewF 0 rfl) node) ?_
  rintro _ w1 hE2 rfl
  have H := H.ext hE2
  refine RW.fin 1 [0, 1, 5] [(0, .pointer (some ⟨cb, 0, none⟩)), (1, .int .i64 node), (5, .int .i64 (stE now.length node))] (by as_aux_lemma => kernel_rfl) ?_
  refine WK.run 2 [0, 1, 5, 10] [.code (cd Try.prog 9 [1, 0, 2]), .code (cd Try.prog 9 [2])] [(0, .pointer (some ⟨cb, 0, none⟩)), (1, .int .i64 node), (5, .int .i64 (stE now.length node)), (10, .bool ((stE now.length node) != 0))] (by as_aux_lemma => kernel_rfl) ?_
  refine WK.cond1 ((stE now.length node) != 0) (by as_aux_lemma => kernel_rfl) (by as_aux_lemma => kernel_rfl) (fun h3 => ?_) (fun h3 => ?_)
  · skip
    replace h3 := bne_iff_ne.1 h3
    refine WK.run 2 [4] [.code (cd Try.prog 9 [1, 0, 2, 0, 1]), .code (cd Try.prog 9 [2])] [(4, .int .i64 (stE now.length node))] (by as_aux_lemma => kernel_rfl) ?_
    refine WK.ret (v := .int .i64 (stE now.length node)) Try.func9 (by as_aux_lemma => kernel_rfl) (by as_aux_lemma => kernel_rfl) ?_
    exact ⟨_, rfl, H.done, rfl⟩
  · skip
    replace h3 := (bne_eq_false_iff_eq.1 h3)
    exact absurd h3 hst

theorem tick_nil {S : Nat → Prop} {w : World} (node : Int) :
    Calls Try.prog 9 #[.pointer none, .int .i64 node] w (Ret fun v w' => Ext w w' ∧ v = .int .i64 1) := by
  refine WK.calls1 (fn := Try.f9) (n := 26) (σ := [(0, .pointer none), (1, .int .i64 node)]) Try.func9 rfl (by as_aux_lemma => kernel_rfl) (by as_aux_lemma => kernel_rfl) (by as_aux_lemma => kernel_rfl) ?_
  have H := Hp.startF (w := w) (S := S) (G := []) .nil
  refine WK.run 4 [0, 1] [.code (cd Try.prog 9 [1, 0, 0]), .code (cd Try.prog 9 [1, 0, 1]), .code (cd Try.prog 9 [2])] [(0, .pointer none), (1, .int .i64 node)] (by as_aux_lemma => kernel_rfl) ?_
  refine WK.reg1 (l := sq 0 4) (by as_aux_lemma => kernel_rfl) (by as_aux_lemma => kernel_rfl) ?_
  refine RW.runP 2 [0, 1, 6, 7] (sq 2 4) [(0, .pointer none), (1, .int .i64 node), (6, .pointer none), (7, .int .i64 node)] (by as_aux_lemma => kernel_rfl) (by as_aux_lemma => kernel_rfl) ?_
  refine RW.call (κ := .seq) (d := some 8) (r := (sq 3 4)) (g := 23) (args := #[.pointer none, .int .i64 node]) (by as_aux_lemma => kernel_rfl) (nofun) (state_nil (S := fun _ => True) node) ?_
  rintro _ w1 hE2 rfl
  have H := H.ext hE2
  refine RW.fin 1 [0, 1, 5] [(0, .pointer none), (1, .int .i64 node), (5, .int .i64 1)] (by as_aux_lemma => kernel_rfl) ?_
  refine WK.run 5 [4] [.code (cd Try.prog 9 [1, 0, 2, 0, 1]), .code (cd Try.prog 9 [2])] [(4, .int .i64 1)] (by as_aux_lemma => kernel_rfl) ?_
  refine WK.ret (v := .int .i64 1) Try.func9 (by as_aux_lemma => kernel_rfl) (by as_aux_lemma => kernel_rfl) ?_
  exact ⟨_, rfl, H.done, rfl⟩

theorem tick_spec {S : Nat → Prop} {w : World} {O : List Nat} {cb nc tn tc : Nat} {na ta : Option Addr} {now : List Int} {num den slack : Int} (H0 : Hp w S O [(cb, .cells #[.slice na now.length nc, .int .i64 num, .int .i64 den, .int .i64 slack, .slice ta tn tc] 47 (0, 0))] [⟨Shape.int .i64, 3, .slice na now.length nc, now⟩] [] w) (hC : COk now num den slack) (node : Int) : Calls Try.prog 9 #[.pointer (some ⟨cb, 0, none⟩), .int .i64 node] w (Ret fun v w' => v = .int .i64 (tickR now num den slack node) ∧ Hp w S O [(cb, .cells #[.slice na now.length nc, .int .i64 num, .int .i64 den, .int .i64 slack, .slice ta tn tc] 47 (0, 0))] [⟨Shape.int .i64, 3, .slice na now.length nc, tickE now num den slack node⟩] [] w') := by
  by_cases h : stE now.length node = 0
  · obtain ⟨h0, h1, h2⟩ := st_zero h
    obtain ⟨i, rfl⟩ : ∃ i : Nat, node = (i : Int) + 1 := ⟨(node - 1).toNat, by omega⟩
    have := tick_in H0 hC (i := i) (by omega)
    have e : ((i : Int) + 1 - 1).toNat = i := by omega
    simp only [tickR, tickE, mayE, if_pos h, e]
    exact this
  · simp only [tickR, tickE, if_neg h]
    refine (tick_out (S := fun _ => True) (H0.viewM 0 rfl (by simp)) h).mono fun e w' hh => ?_
    obtain ⟨v, he, hx, hv⟩ := hh
    exact ⟨v, he, hv, H0.ext hx⟩


end Go.Proofs.Ytghnicaefbdjfaa
