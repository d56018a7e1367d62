import Derived.Test.YtghnicaefbdjfaaC5
import Derived.Test.YtghnicaefbdjfaaBxSort
namespace Go.Proofs.Ytghnicaefbdjfaa
open Go.BX

theorem isnan_same {S : Nat → Prop} {w : World} (x : Int) :
    Calls Try.prog 34 #[.int .i64 x] w (Ret fun v w' => Ext w w' ∧ w' = w ∧ v = .bool false) := by
  refine WK.calls1 (fn := Try.f34) (n := 6) (σ := [(0, .int .i64 x)]) Try.func34 rfl (by as_aux_lemma => kernel_rfl) (by as_aux_lemma => kernel_rfl) (by as_aux_lemma => kernel_rfl) ?_
  have H := Hp.startF (w := w) (S := S) (G := []) .nil
  refine WK.run 4 [2] [.code (cd Try.prog 34 [2])] [(2, .bool (x != x))] (by as_aux_lemma => kernel_rfl) ?_
  refine WK.ret (v := .bool (x != x)) Try.func34 (by as_aux_lemma => kernel_rfl) (by as_aux_lemma => kernel_rfl) ?_
  refine ⟨_, rfl, H.done, rfl, ?_⟩
  congr 1
  simp

def cmpI (x y : Int) : Int := if x < y then -1 else if y < x then 1 else 0

theorem compare_same {S : Nat → Prop} {w : World} (x y : Int) :
    Calls Try.prog 30 #[.int .i64 x, .int .i64 y] w (Ret fun v w' => Ext w w' ∧ w' = w ∧ v = .int .i64 (cmpI x y)) := by
  refine WK.calls1 (fn := Try.f30) (n := 20) (σ := [(0, .int .i64 x), (1, .int .i64 y)]) Try.func30 rfl (by as_aux_lemma => kernel_rfl) (by as_aux_lemma => kernel_rfl) (by as_aux_lemma => kernel_rfl) ?_
  have H := Hp.startF (w := w) (S := S) (G := []) .nil
  refine WK.run 3 [0, 1] [.code (cd Try.prog 30 [1, 0]), .code (cd Try.prog 30 [2])] [(0, .int .i64 x), (1, .int .i64 y)] (by as_aux_lemma => kernel_rfl) ?_
  refine WK.reg1 (l := sq 0 3) (by as_aux_lemma => kernel_rfl) (by as_aux_lemma => kernel_rfl) ?_
  refine RW.runP 1 [0, 1, 7] (sq 1 3) [(0, .int .i64 x), (1, .int .i64 y), (7, .int .i64 x)] (by as_aux_lemma => kernel_rfl) (by as_aux_lemma => kernel_rfl) ?_
  refine RW.call (κ := .seq) (d := some 8) (r := (sq 2 3)) (g := 34) (args := #[.int .i64 x]) (by as_aux_lemma => kernel_rfl) (nofun) (isnan_same (S := fun _ => True) x) ?_
  rintro _ _ - ⟨rfl, rfl⟩
  refine RW.fin 1 [0, 1, 5] [(0, .int .i64 x), (1, .int .i64 y), (5, .bool false)] (by as_aux_lemma => kernel_rfl) ?_
  refine WK.run 1 [0, 1, 5] [.code (cd Try.prog 30 [2, 0]), .code (cd Try.prog 30 [3])] [(0, .int .i64 x), (1, .int .i64 y), (5, .bool false)] (by as_aux_lemma => kernel_rfl) ?_
  refine WK.reg1 (l := sq 0 3) (by as_aux_lemma => kernel_rfl) (by as_aux_lemma => kernel_rfl) ?_
  refine RW.runP 1 [0, 1, 5, 9] (sq 1 3) [(0, .int .i64 x), (1, .int .i64 y), (5, .bool false), (9, .int .i64 y)] (by as_aux_lemma => kernel_rfl) (by as_aux_lemma => kernel_rfl) ?_
  refine RW.call (κ := .seq) (d := some 10) (r := (sq 2 3)) (g := 34) (args := #[.int .i64 y]) (by as_aux_lemma => kernel_rfl) (nofun) (isnan_same (S := fun _ => True) y) ?_
  rintro _ _ - ⟨rfl, rfl⟩
  refine RW.fin 1 [0, 1, 5, 6] [(0, .int .i64 x), (1, .int .i64 y), (5, .bool false), (6, .bool false)] (by as_aux_lemma => kernel_rfl) ?_
  refine WK.run 13 [0, 1, 16] [.code (cd Try.prog 30 [5, 0, 1]), .code (cd Try.prog 30 [6])] [(0, .int .i64 x), (1, .int .i64 y), (16, .bool (decide ((x : Int) < y)))] (by as_aux_lemma => kernel_rfl) ?_
  refine WK.cond1 (decide ((x : Int) < y)) (by as_aux_lemma => kernel_rfl) (by as_aux_lemma => kernel_rfl) (fun h3 => ?_) (fun h3 => ?_)
  · skip
    replace h3 := of_decide_eq_true h3
    refine WK.run 2 [4] [.code (cd Try.prog 30 [5, 0, 1, 0, 1]), .code (cd Try.prog 30 [6])] [(4, .int .i64 (-1))] (by as_aux_lemma => kernel_rfl) ?_
    refine WK.ret (v := .int .i64 (-1)) Try.func30 (by as_aux_lemma => kernel_rfl) (by as_aux_lemma => kernel_rfl) ?_
    refine ⟨_, rfl, H.done, rfl, ?_⟩
    congr 1
    unfold cmpI
    first | rw [if_pos (by omega)] | rw [if_neg (by omega), if_pos (by omega)] | rw [if_neg (by omega), if_neg (by omega)]
  · skip
    replace h3 := of_decide_eq_false h3
    refine WK.run 4 [19] [.code (cd Try.prog 30 [6, 0, 1]), .code (cd Try.prog 30 [7])] [(19, .bool (decide ((x : Int) > y)))] (by as_aux_lemma => kernel_rfl) ?_
    refine WK.cond1 (decide ((x : Int) > y)) (by as_aux_lemma => kernel_rfl) (by as_aux_lemma => kernel_rfl) (fun h4 => ?_) (fun h4 => ?_)
    · skip
      replace h4 := of_decide_eq_true h4
      refine WK.run 2 [4] [.code (cd Try.prog 30 [6, 0, 1, 0, 1]), .code (cd Try.prog 30 [7])] [(4, .int .i64 1)] (by as_aux_lemma => kernel_rfl) ?_
      refine WK.ret (v := .int .i64 1) Try.func30 (by as_aux_lemma => kernel_rfl) (by as_aux_lemma => kernel_rfl) ?_
      refine ⟨_, rfl, H.done, rfl, ?_⟩
      congr 1
      unfold cmpI
      first | rw [if_pos (by omega)] | rw [if_neg (by omega), if_pos (by omega)] | rw [if_neg (by omega), if_neg (by omega)]
    · skip
      replace h4 := of_decide_eq_false h4
      refine WK.run 3 [4] [.code (cd Try.prog 30 [8])] [(4, .int .i64 0)] (by as_aux_lemma => kernel_rfl) ?_
      refine WK.ret (v := .int .i64 0) Try.func30 (by as_aux_lemma => kernel_rfl) (by as_aux_lemma => kernel_rfl) ?_
      refine ⟨_, rfl, H.done, rfl, ?_⟩
      congr 1
      unfold cmpI
      first | rw [if_pos (by omega)] | rw [if_neg (by omega), if_pos (by omega)] | rw [if_neg (by omega), if_neg (by omega)]

def orI : List Int → Int
  | [] => 0
  | x :: l => if x ≠ 0 then x else orI l

theorem or_same {S : Nat → Prop} {w : World} {xs : List Int} {a : Option Addr} {c : Nat} (h : (Shape.slice (Shape.int .i64)).rep S w [.slice a xs.length c] xs) :
    Calls Try.prog 29 #[.slice a xs.length c] w (Ret fun v w' => Ext w w' ∧ w' = w ∧ v = .int .i64 (orI xs)) := by
  have hxl := Shape.slice_len h
  refine WK.calls1 (fn := Try.f29) (n := 18) (σ := [(0, .slice a xs.length c)]) Try.func29 rfl (by as_aux_lemma => kernel_rfl) (by as_aux_lemma => kernel_rfl) (by as_aux_lemma => kernel_rfl) ?_
  have H := Hp.startF (w := w) (S := S) (G := [Rp (Shape.slice (Shape.int .i64)) [.slice a xs.length c] xs]) (.rp h .nil)
  refine WK.run 8 [3, 6, 7, 8] [.code (cd Try.prog 29 [2, 0, 1, 0]), .inBlock 0, .code (cd Try.prog 29 [3])] [(3, .int .i64 0), (6, .slice a xs.length c), (7, .int .i64 ((xs.length : Nat) : Int)), (8, .int .i64 0)] (by as_aux_lemma => kernel_rfl) ?_
  refine WK.loop (α := Nat) (b := cd Try.prog 29 [2, 0, 1, 0, 0]) (by as_aux_lemma => kernel_rfl) (fun i => [(3, .int .i64 0), (6, .slice a xs.length c), (7, .int .i64 ((xs.length : Nat) : Int)), (8, .int .i64 (i : Int))]) (fun i w' => Hp w S [] [] [] [Rp (Shape.slice (Shape.int .i64)) [.slice a xs.length c] xs] w' ∧ i ≤ xs.length ∧ w' = w ∧ orI (xs.drop i) = orI xs) (fun i => xs.length - i) 0 ⟨H, by omega, rfl, rfl⟩ (rfl) ?_
  rintro i w2 ⟨H, hinv0⟩ hback1
  obtain ⟨hi0, rfl, hi2⟩ := hinv0
  refine WK.run 3 [3, 6, 7, 8, 9] [.code (cd Try.prog 29 [2, 0, 1, 0, 0, 1, 0]), .code (cd Try.prog 29 [2, 0, 1, 0, 0, 2]), .inLoop (cd Try.prog 29 [2, 0, 1, 0, 0]), .inBlock 0, .code (cd Try.prog 29 [3])] [(3, .int .i64 0), (6, .slice a xs.length c), (7, .int .i64 ((xs.length : Nat) : Int)), (8, .int .i64 (i : Int)), (9, .bool (decide (((i : Int) : Int) < ((xs.length : Nat) : Int))))] (by as_aux_lemma => kernel_rfl) ?_
  refine WK.cond1 (decide (((i : Int) : Int) < ((xs.length : Nat) : Int))) (by as_aux_lemma => kernel_rfl) (by as_aux_lemma => kernel_rfl) (fun h3 => ?_) (fun h3 => ?_)
  · skip
    replace h3 := of_decide_eq_true h3
    refine WK.run 4 [3, 6, 7, 8] [.code (cd Try.prog 29 [2, 0, 1, 0, 0, 2, 0, 0, 0]), .code (cd Try.prog 29 [2, 0, 1, 0, 0, 2, 0, 0, 1]), .inBlock 1, .code (cd Try.prog 29 [2, 0, 1, 0, 0, 3]), .inLoop (cd Try.prog 29 [2, 0, 1, 0, 0]), .inBlock 0, .code (cd Try.prog 29 [3])] [(3, .int .i64 0), (6, .slice a xs.length c), (7, .int .i64 ((xs.length : Nat) : Int)), (8, .int .i64 (i : Int))] (by as_aux_lemma => kernel_rfl) ?_
    refine WK.reg1 (l := sq 0 3) (by as_aux_lemma => kernel_rfl) (by as_aux_lemma => kernel_rfl) ?_
    have hx4 : i < xs.length := by omega
    refine RW.index (κ := .seq) (d := some 10) (r := (sq 1 3)) (T := 22) (e := 3) (ik := .i64) (ix := (i : Int)) (sh := (Shape.int .i64)) (x := xs[i]) (by as_aux_lemma => kernel_rfl) (by as_aux_lemma => kernel_rfl) H 0 rfl i (by omega) (List.getElem?_eq_getElem hx4) ?_
    intro b5 o6 es7 hr8 H
    have hb9 := Shape.i64_bd hr8
    obtain ⟨rfl, -⟩ := hr8
    refine RW.load (κ := .seq) (d := some 11) (r := (sq 2 3)) (T := 3) (b := b5) (o' := o6) (k := 0) (v := .int .i64 (xs[i])) (by as_aux_lemma => kernel_rfl) (H.fc 0 rfl) rfl (by as_aux_lemma => kernel_rfl) ?_
    refine RW.fin 1 [3, 5, 6, 7, 8] [(3, .int .i64 0), (5, .int .i64 (xs[i])), (6, .slice a xs.length c), (7, .int .i64 ((xs.length : Nat) : Int)), (8, .int .i64 (i : Int))] (by as_aux_lemma => kernel_rfl) ?_
    refine WK.run 2 [3, 5, 6, 7, 8, 14] [.code (cd Try.prog 29 [2, 0, 1, 0, 0, 2, 0, 0, 2]), .inBlock 1, .code (cd Try.prog 29 [2, 0, 1, 0, 0, 3]), .inLoop (cd Try.prog 29 [2, 0, 1, 0, 0]), .inBlock 0, .code (cd Try.prog 29 [3])] [(3, .int .i64 0), (5, .int .i64 (xs[i])), (6, .slice a xs.length c), (7, .int .i64 ((xs.length : Nat) : Int)), (8, .int .i64 (i : Int)), (14, .bool ((xs[i]) != 0))] (by as_aux_lemma => kernel_rfl) ?_
    refine WK.cond1 ((xs[i]) != 0) (by as_aux_lemma => kernel_rfl) (by as_aux_lemma => kernel_rfl) (fun h10 => ?_) (fun h10 => ?_)
    · skip
      replace h10 := bne_iff_ne.1 h10
      refine WK.run 2 [2] [.code (cd Try.prog 29 [2, 0, 1, 0, 0, 2, 0, 0, 2, 0, 1]), .inBlock 1, .code (cd Try.prog 29 [2, 0, 1, 0, 0, 3]), .inLoop (cd Try.prog 29 [2, 0, 1, 0, 0]), .inBlock 0, .code (cd Try.prog 29 [3])] [(2, .int .i64 (xs[i]))] (by as_aux_lemma => kernel_rfl) ?_
      refine WK.ret (v := .int .i64 (xs[i])) Try.func29 (by as_aux_lemma => kernel_rfl) (by as_aux_lemma => kernel_rfl) ?_
      refine ⟨_, rfl, H.done, rfl, ?_⟩
      congr 1
      rw [← hi2, List.drop_eq_getElem_cons (show i < xs.length by omega)]
      unfold orI
      rw [if_pos (by assumption)]
    · skip
      replace h10 := (bne_eq_false_iff_eq.1 h10)
      refine WK.run 2 [3, 6, 7, 8] [.code (cd Try.prog 29 [2, 0, 1, 0, 0, 3]), .inLoop (cd Try.prog 29 [2, 0, 1, 0, 0]), .inBlock 0, .code (cd Try.prog 29 [3])] [(3, .int .i64 0), (6, .slice a xs.length c), (7, .int .i64 ((xs.length : Nat) : Int)), (8, .int .i64 (i : Int))] (by as_aux_lemma => kernel_rfl) ?_
      refine WK.reg1 (l := sq 0 2) (by as_aux_lemma => kernel_rfl) (by as_aux_lemma => kernel_rfl) ?_
      refine RW.wr64 (κ := .seq) (d := some 16) (r := (sq 1 2)) (t := (i : Int) + 1) (by as_aux_lemma => kernel_rfl) (by omega) ?_
      refine RW.fin 1 [3, 6, 7, 8] [(3, .int .i64 0), (6, .slice a xs.length c), (7, .int .i64 ((xs.length : Nat) : Int)), (8, .int .i64 ((i : Int) + 1))] (by as_aux_lemma => kernel_rfl) ?_
      have H := H.pick [1] (G' := [Rp (Shape.slice (Shape.int .i64)) [.slice a xs.length c] xs]) rfl
      exact WK.back (hback1 (i + 1) _ ⟨H, by omega, rfl, by rw [← hi2, List.drop_eq_getElem_cons (show i < xs.length by omega)]; simp_all [orI]⟩ (by first | omega | (simp only []; omega))) (by as_aux_lemma => kernel_rfl)
  · skip
    replace h3 := of_decide_eq_false h3
    refine WK.run 3 [2] [.code (cd Try.prog 29 [4])] [(2, .int .i64 0)] (by as_aux_lemma => kernel_rfl) ?_
    refine WK.ret (v := .int .i64 0) Try.func29 (by as_aux_lemma => kernel_rfl) (by as_aux_lemma => kernel_rfl) ?_
    refine ⟨_, rfl, H.done, rfl, ?_⟩
    congr 1
    rw [← hi2, List.drop_of_length_le (by omega)]; rfl

theorem cmpI_bd (x y : Int) : -1 ≤ cmpI x y ∧ cmpI x y ≤ 1 := by
  unfold cmpI
  split
  · omega
  · split <;> omega

theorem cmp_same {S : Nat → Prop} {w : World} (x1 x2 y1 y2 : Int) :
    Calls Try.prog 28 #[.agg #[.int .i64 x1, .int .i64 x2], .agg #[.int .i64 y1, .int .i64 y2]] w (Ret fun v w' => v = .int .i64 (orI [cmpI x1 y1, cmpI x2 y2]) ∧ Gr w w') := by
  have hG := Gr.refl w
  have hc1 := cmpI_bd x1 y1
  have hc2 := cmpI_bd x2 y2
  refine WK.calls1 (fn := Try.f28) (n := 17) (σ := [(0, .agg #[.int .i64 x1, .int .i64 x2]), (1, .agg #[.int .i64 y1, .int .i64 y2])]) Try.func28 rfl (by as_aux_lemma => kernel_rfl) (by as_aux_lemma => kernel_rfl) (by as_aux_lemma => kernel_rfl) ?_
  have H := Hp.startF (w := w) (S := S) (G := []) .nil
  refine WK.run 1 [0, 1] [.code (cd Try.prog 28 [0]), .code (cd Try.prog 28 [1])] [(0, .agg #[.int .i64 x1, .int .i64 x2]), (1, .agg #[.int .i64 y1, .int .i64 y2])] (by as_aux_lemma => kernel_rfl) ?_
  refine WK.reg1 (l := sq 0 3) (by as_aux_lemma => kernel_rfl) (by as_aux_lemma => kernel_rfl) ?_
  refine RW.newG (κ := .seq) (d := some 2) (r := (sq 1 3)) (o := .cells #[.int .i64 x1, .int .i64 x2] 57 (0, 0)) (v := fun b => .pointer (some ⟨b, 0, none⟩)) (fun b => by as_aux_lemma => kernel_rfl) (nofun) H ?_
  intro b1 w2 hqw2 H; have hG := hG.new hqw2
  refine RW.newG (κ := .seq) (d := some 3) (r := (sq 2 3)) (o := .cells #[.int .i64 y1, .int .i64 y2] 57 (0, 0)) (v := fun b => .pointer (some ⟨b, 0, none⟩)) (fun b => by as_aux_lemma => kernel_rfl) (nofun) H ?_
  intro b3 w4 hqw4 H; have hG := hG.new hqw4
  refine RW.fin 1 [2, 3] [(2, .pointer (some ⟨b1, 0, none⟩)), (3, .pointer (some ⟨b3, 0, none⟩))] (by as_aux_lemma => kernel_rfl) ?_
  refine WK.run 1 [2, 3] [.code (cd Try.prog 28 [1, 0]), .code (cd Try.prog 28 [2])] [(2, .pointer (some ⟨b1, 0, none⟩)), (3, .pointer (some ⟨b3, 0, none⟩))] (by as_aux_lemma => kernel_rfl) ?_
  refine WK.draw1 13 [(0, .qui), (1, .qui), (2, .qui), (3, .qui), (5, .qui), (6, .qui), (7, .qui), (8, .qui), (4, .chn), (9, .chn), (10, .chn), (11, .chn), (12, .qui)] [(0, .qui), (1, .qui), (2, .qui), (3, .qui), (5, .qui), (6, .qui), (7, .qui), (8, .qui), (4, .chn), (9, .chn), (10, .chn), (11, .chn), (12, .qui)] Try_mixed (by as_aux_lemma => kernel_rfl) (by as_aux_lemma => kernel_rfl) (by as_aux_lemma => kernel_rfl) ?_
  have H := H.draw
  have hG := hG.draw; generalize ({ w4 with drawn := w4.drawn + 1 } : World) = w5 at H hG ⊢
  refine RW.runP 1 [2, 3, 5] [(1, .qui), (2, .qui), (3, .qui), (5, .qui), (6, .qui), (7, .qui), (8, .qui), (4, .chn), (9, .chn), (10, .chn), (11, .chn), (12, .qui)] [(2, .pointer (some ⟨b1, 0, none⟩)), (3, .pointer (some ⟨b3, 0, none⟩)), (5, .pointer (some ⟨b1, 0, none⟩))] (by as_aux_lemma => kernel_rfl) (by as_aux_lemma => kernel_rfl) ?_
  refine RW.load (κ := .qui) (d := some 6) (r := [(2, .qui), (3, .qui), (5, .qui), (6, .qui), (7, .qui), (8, .qui), (4, .chn), (9, .chn), (10, .chn), (11, .chn), (12, .qui)]) (T := 3) (b := b1) (o' := 0) (k := 0) (v := .int .i64 x1) (by as_aux_lemma => kernel_rfl) (H.cells 1 rfl) rfl (by as_aux_lemma => kernel_rfl) ?_
  refine RW.runP 1 [2, 3, 6, 7] [(3, .qui), (5, .qui), (6, .qui), (7, .qui), (8, .qui), (4, .chn), (9, .chn), (10, .chn), (11, .chn), (12, .qui)] [(2, .pointer (some ⟨b1, 0, none⟩)), (3, .pointer (some ⟨b3, 0, none⟩)), (6, .int .i64 x1), (7, .pointer (some ⟨b3, 0, none⟩))] (by as_aux_lemma => kernel_rfl) (by as_aux_lemma => kernel_rfl) ?_
  refine RW.load (κ := .qui) (d := some 8) (r := [(5, .qui), (6, .qui), (7, .qui), (8, .qui), (4, .chn), (9, .chn), (10, .chn), (11, .chn), (12, .qui)]) (T := 3) (b := b3) (o' := 0) (k := 0) (v := .int .i64 y1) (by as_aux_lemma => kernel_rfl) (H.cells 0 rfl) rfl (by as_aux_lemma => kernel_rfl) ?_
  refine RW.runP 1 [3, 6, 8, 10] [(6, .qui), (7, .qui), (8, .qui), (4, .chn), (9, .chn), (10, .chn), (11, .chn), (12, .qui)] [(3, .pointer (some ⟨b3, 0, none⟩)), (6, .int .i64 x1), (8, .int .i64 y1), (10, .pointer (some ⟨b1, 1, none⟩))] (by as_aux_lemma => kernel_rfl) (by as_aux_lemma => kernel_rfl) ?_
  refine RW.load (κ := .qui) (d := some 11) (r := [(7, .qui), (8, .qui), (4, .chn), (9, .chn), (10, .chn), (11, .chn), (12, .qui)]) (T := 3) (b := b1) (o' := 1) (k := 1) (v := .int .i64 x2) (by as_aux_lemma => kernel_rfl) (H.cells 1 rfl) rfl (by as_aux_lemma => kernel_rfl) ?_
  refine RW.runP 1 [6, 8, 11, 12] [(8, .qui), (4, .chn), (9, .chn), (10, .chn), (11, .chn), (12, .qui)] [(6, .int .i64 x1), (8, .int .i64 y1), (11, .int .i64 x2), (12, .pointer (some ⟨b3, 1, none⟩))] (by as_aux_lemma => kernel_rfl) (by as_aux_lemma => kernel_rfl) ?_
  refine RW.load (κ := .qui) (d := some 13) (r := [(4, .chn), (9, .chn), (10, .chn), (11, .chn), (12, .qui)]) (T := 3) (b := b3) (o' := 1) (k := 1) (v := .int .i64 y2) (by as_aux_lemma => kernel_rfl) (H.cells 0 rfl) rfl (by as_aux_lemma => kernel_rfl) ?_
  refine RW.call (κ := .chn) (d := some 9) (r := [(9, .chn), (10, .chn), (11, .chn), (12, .qui)]) (g := 30) (args := #[.int .i64 x1, .int .i64 y1]) (by as_aux_lemma => kernel_rfl) (nofun) (compare_same (S := fun _ => True) x1 y1) ?_
  rintro _ _ - ⟨rfl, rfl⟩
  refine RW.call (κ := .chn) (d := some 14) (r := [(10, .chn), (11, .chn), (12, .qui)]) (g := 30) (args := #[.int .i64 x2, .int .i64 y2]) (by as_aux_lemma => kernel_rfl) (nofun) (compare_same (S := fun _ => True) x2 y2) ?_
  rintro _ _ - ⟨rfl, rfl⟩
  refine RW.newG (κ := .chn) (d := some 15) (r := [(11, .chn), (12, .qui)]) (o := .cells #[.int .i64 (cmpI x1 y1), .int .i64 (cmpI x2 y2)] 3 (0, 0)) (v := fun b => .slice (some ⟨b, 0, none⟩) 2 2) (fun b => by as_aux_lemma => kernel_rfl) (nofun) H ?_
  intro b8 w9 hqw9 H; have hG := hG.new hqw9
  have H := H.freeze 0 rfl (Shape.int .i64) ([cmpI x1 y1, cmpI x2 y2] : List Int) 2 (by simp [maxLen]) (by first | exact Nat.le_refl _ | simp) (EsP.cons (c := [.int .i64 (cmpI x1 y1)]) (Shape.i64_in (by first | omega | (simp <;> omega)) (by first | omega | (simp <;> omega))) (EsP.cons (c := [.int .i64 (cmpI x2 y2)]) (Shape.i64_in (by first | omega | (simp <;> omega)) (by first | omega | (simp <;> omega))) EsP.nil))
  have H : Hp w S [] [(b3, .cells #[.int .i64 y1, .int .i64 y2] 57 (0, 0)), (b1, .cells #[.int .i64 x1, .int .i64 x2] 57 (0, 0))] [] [Rp (Shape.slice (Shape.int .i64)) [.slice (some ⟨b8, 0, none⟩) 2 2] ([cmpI x1 y1, cmpI x2 y2] : List Int)] _ := H
  refine RW.call (κ := .chn) (d := some 16) (r := [(12, .qui)]) (g := 29) (args := #[.slice (some ⟨b8, 0, none⟩) 2 2]) (by as_aux_lemma => kernel_rfl) (nofun) (or_same (xs := ([cmpI x1 y1, cmpI x2 y2] : List Int)) (H.rp 0 rfl)) ?_
  rintro _ _ - ⟨rfl, rfl⟩
  refine RW.fin 1 [4] [(4, .int .i64 (orI ([cmpI x1 y1, cmpI x2 y2] : List Int)))] (by as_aux_lemma => kernel_rfl) ?_
  refine WK.ret (v := .int .i64 (orI ([cmpI x1 y1, cmpI x2 y2] : List Int))) Try.func28 (by as_aux_lemma => kernel_rfl) (by as_aux_lemma => kernel_rfl) ?_
  exact ⟨_, rfl, rfl, hG⟩


end Go.Proofs.Ytghnicaefbdjfaa
