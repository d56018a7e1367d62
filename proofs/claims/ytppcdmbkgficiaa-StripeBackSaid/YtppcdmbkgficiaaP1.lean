import Derived.Test.YtppcdmbkgficiaaM4
import Derived.Test.YtppcdmbkgficiaaBxSort
namespace Go.Proofs.Ytppcdmbkgficiaa
open Go.BX

theorem isnan_same {S : Nat → Prop} {w : World} (x : Int) :
    Calls Try.prog 151 #[.int .i64 x] w (Ret fun v w' => Ext w w' ∧ w' = w ∧ v = .bool false) := by
  refine WK.calls1 (fn := Try.f151) (n := 6) (σ := [(0, .int .i64 x)]) Try.func151 rfl (by as_aux_lemma => kernel_rfl) (by as_aux_lemma => kernel_rfl) (by as_aux_lemma => kernel_rfl) ?_
  have H := Hp.startF (w := w) (S := S) (G := []) .nil
  refine WK.run 4 [2] [.code (cd Try.prog 151 [2])] [(2, .bool (x != x))] (by as_aux_lemma => kernel_rfl) ?_
  refine WK.ret (v := .bool (x != x)) Try.func151 (by as_aux_lemma => kernel_rfl) (by as_aux_lemma => kernel_rfl) ?_
  refine ⟨_, rfl, H.done, rfl, ?_⟩
  congr 1
  simp

def cmpI (x y : Int) : Int := if x < y then -1 else if y < x then 1 else 0

theorem compare_same {S : Nat → Prop} {w : World} (x y : Int) :
    Calls Try.prog 125 #[.int .i64 x, .int .i64 y] w (Ret fun v w' => Ext w w' ∧ w' = w ∧ v = .int .i64 (cmpI x y)) := by
  refine WK.calls1 (fn := Try.f125) (n := 20) (σ := [(0, .int .i64 x), (1, .int .i64 y)]) Try.func125 rfl (by as_aux_lemma => kernel_rfl) (by as_aux_lemma => kernel_rfl) (by as_aux_lemma => kernel_rfl) ?_
  have H := Hp.startF (w := w) (S := S) (G := []) .nil
  refine WK.run 3 [0, 1] [.code (cd Try.prog 125 [1, 0]), .code (cd Try.prog 125 [2])] [(0, .int .i64 x), (1, .int .i64 y)] (by as_aux_lemma => kernel_rfl) ?_
  refine WK.reg1 (l := sq 0 3) (by as_aux_lemma => kernel_rfl) (by as_aux_lemma => kernel_rfl) ?_
  refine RW.runP 1 [0, 1, 7] (sq 1 3) [(0, .int .i64 x), (1, .int .i64 y), (7, .int .i64 x)] (by as_aux_lemma => kernel_rfl) (by as_aux_lemma => kernel_rfl) ?_
  refine RW.call (κ := .seq) (d := some 8) (r := (sq 2 3)) (g := 151) (args := #[.int .i64 x]) (by as_aux_lemma => kernel_rfl) (nofun) (isnan_same (S := fun _ => True) x) ?_
  rintro _ _ - ⟨rfl, rfl⟩
  refine RW.fin 1 [0, 1, 5] [(0, .int .i64 x), (1, .int .i64 y), (5, .bool false)] (by as_aux_lemma => kernel_rfl) ?_
  refine WK.run 1 [0, 1, 5] [.code (cd Try.prog 125 [2, 0]), .code (cd Try.prog 125 [3])] [(0, .int .i64 x), (1, .int .i64 y), (5, .bool false)] (by as_aux_lemma => kernel_rfl) ?_
  refine WK.reg1 (l := sq 0 3) (by as_aux_lemma => kernel_rfl) (by as_aux_lemma => kernel_rfl) ?_
  refine RW.runP 1 [0, 1, 5, 9] (sq 1 3) [(0, .int .i64 x), (1, .int .i64 y), (5, .bool false), (9, .int .i64 y)] (by as_aux_lemma => kernel_rfl) (by as_aux_lemma => kernel_rfl) ?_
  refine RW.call (κ := .seq) (d := some 10) (r := (sq 2 3)) (g := 151) (args := #[.int .i64 y]) (by as_aux_lemma => kernel_rfl) (nofun) (isnan_same (S := fun _ => True) y) ?_
  rintro _ _ - ⟨rfl, rfl⟩
  refine RW.fin 1 [0, 1, 5, 6] [(0, .int .i64 x), (1, .int .i64 y), (5, .bool false), (6, .bool false)] (by as_aux_lemma => kernel_rfl) ?_
  refine WK.run 13 [0, 1, 16] [.code (cd Try.prog 125 [5, 0, 1]), .code (cd Try.prog 125 [6])] [(0, .int .i64 x), (1, .int .i64 y), (16, .bool (decide ((x : Int) < y)))] (by as_aux_lemma => kernel_rfl) ?_
  refine WK.cond1 (decide ((x : Int) < y)) (by as_aux_lemma => kernel_rfl) (by as_aux_lemma => kernel_rfl) (fun h3 => ?_) (fun h3 => ?_)
  · skip
    replace h3 := of_decide_eq_true h3
    refine WK.run 2 [4] [.code (cd Try.prog 125 [5, 0, 1, 0, 1]), .code (cd Try.prog 125 [6])] [(4, .int .i64 (-1))] (by as_aux_lemma => kernel_rfl) ?_
    refine WK.ret (v := .int .i64 (-1)) Try.func125 (by as_aux_lemma => kernel_rfl) (by as_aux_lemma => kernel_rfl) ?_
    refine ⟨_, rfl, H.done, rfl, ?_⟩
    congr 1
    unfold cmpI
    first | rw [if_pos (by omega)] | rw [if_neg (by omega), if_pos (by omega)] | rw [if_neg (by omega), if_neg (by omega)]
  · skip
    replace h3 := of_decide_eq_false h3
    refine WK.run 4 [19] [.code (cd Try.prog 125 [6, 0, 1]), .code (cd Try.prog 125 [7])] [(19, .bool (decide ((x : Int) > y)))] (by as_aux_lemma => kernel_rfl) ?_
    refine WK.cond1 (decide ((x : Int) > y)) (by as_aux_lemma => kernel_rfl) (by as_aux_lemma => kernel_rfl) (fun h4 => ?_) (fun h4 => ?_)
    · skip
      replace h4 := of_decide_eq_true h4
      refine WK.run 2 [4] [.code (cd Try.prog 125 [6, 0, 1, 0, 1]), .code (cd Try.prog 125 [7])] [(4, .int .i64 1)] (by as_aux_lemma => kernel_rfl) ?_
      refine WK.ret (v := .int .i64 1) Try.func125 (by as_aux_lemma => kernel_rfl) (by as_aux_lemma => kernel_rfl) ?_
      refine ⟨_, rfl, H.done, rfl, ?_⟩
      congr 1
      unfold cmpI
      first | rw [if_pos (by omega)] | rw [if_neg (by omega), if_pos (by omega)] | rw [if_neg (by omega), if_neg (by omega)]
    · skip
      replace h4 := of_decide_eq_false h4
      refine WK.run 3 [4] [.code (cd Try.prog 125 [8])] [(4, .int .i64 0)] (by as_aux_lemma => kernel_rfl) ?_
      refine WK.ret (v := .int .i64 0) Try.func125 (by as_aux_lemma => kernel_rfl) (by as_aux_lemma => kernel_rfl) ?_
      refine ⟨_, rfl, H.done, rfl, ?_⟩
      congr 1
      unfold cmpI
      first | rw [if_pos (by omega)] | rw [if_neg (by omega), if_pos (by omega)] | rw [if_neg (by omega), if_neg (by omega)]

theorem cmp_same {S : Nat → Prop} {w : World} (x y : Int) (v1 v2 : Value) :
    Calls Try.prog 124 #[.agg #[.int .i64 x, v1], .agg #[.int .i64 y, v2]] w (Ret fun v w' => v = .int .i64 (cmpI x y) ∧ Gr w w') := by
  have hG := Gr.refl w
  refine WK.calls1 (fn := Try.f124) (n := 10) (σ := [(0, .agg #[.int .i64 x, v1]), (1, .agg #[.int .i64 y, v2])]) Try.func124 rfl (by as_aux_lemma => kernel_rfl) (by as_aux_lemma => kernel_rfl) (by as_aux_lemma => kernel_rfl) ?_
  have H := Hp.startF (w := w) (S := S) (G := []) .nil
  refine WK.run 1 [0, 1] [.code (cd Try.prog 124 [0]), .code (cd Try.prog 124 [1])] [(0, .agg #[.int .i64 x, v1]), (1, .agg #[.int .i64 y, v2])] (by as_aux_lemma => kernel_rfl) ?_
  refine WK.reg1 (l := sq 0 3) (by as_aux_lemma => kernel_rfl) (by as_aux_lemma => kernel_rfl) ?_
  refine RW.newG (κ := .seq) (d := some 2) (r := (sq 1 3)) (o := .cells #[.int .i64 x, v1] 72 (0, 0)) (v := fun b => .pointer (some ⟨b, 0, none⟩)) (fun b => by as_aux_lemma => kernel_rfl) (nofun) H ?_
  intro b1 w2 hqw2 H; have hG := hG.new hqw2
  refine RW.newG (κ := .seq) (d := some 3) (r := (sq 2 3)) (o := .cells #[.int .i64 y, v2] 72 (0, 0)) (v := fun b => .pointer (some ⟨b, 0, none⟩)) (fun b => by as_aux_lemma => kernel_rfl) (nofun) H ?_
  intro b3 w4 hqw4 H; have hG := hG.new hqw4
  refine RW.fin 1 [2, 3] [(2, .pointer (some ⟨b1, 0, none⟩)), (3, .pointer (some ⟨b3, 0, none⟩))] (by as_aux_lemma => kernel_rfl) ?_
  refine WK.run 1 [2, 3] [.code (cd Try.prog 124 [1, 0]), .code (cd Try.prog 124 [2])] [(2, .pointer (some ⟨b1, 0, none⟩)), (3, .pointer (some ⟨b3, 0, none⟩))] (by as_aux_lemma => kernel_rfl) ?_
  refine WK.reg1 (l := sq 0 6) (by as_aux_lemma => kernel_rfl) (by as_aux_lemma => kernel_rfl) ?_
  refine RW.runP 1 [3, 5] (sq 1 6) [(3, .pointer (some ⟨b3, 0, none⟩)), (5, .pointer (some ⟨b1, 0, none⟩))] (by as_aux_lemma => kernel_rfl) (by as_aux_lemma => kernel_rfl) ?_
  refine RW.load (κ := .seq) (d := some 6) (r := (sq 2 6)) (T := 3) (b := b1) (o' := 0) (k := 0) (v := .int .i64 x) (by as_aux_lemma => kernel_rfl) (H.cells 1 rfl) rfl (by as_aux_lemma => kernel_rfl) ?_
  refine RW.runP 1 [6, 7] (sq 3 6) [(6, .int .i64 x), (7, .pointer (some ⟨b3, 0, none⟩))] (by as_aux_lemma => kernel_rfl) (by as_aux_lemma => kernel_rfl) ?_
  refine RW.load (κ := .seq) (d := some 8) (r := (sq 4 6)) (T := 3) (b := b3) (o' := 0) (k := 0) (v := .int .i64 y) (by as_aux_lemma => kernel_rfl) (H.cells 0 rfl) rfl (by as_aux_lemma => kernel_rfl) ?_
  refine RW.call (κ := .seq) (d := some 9) (r := (sq 5 6)) (g := 125) (args := #[.int .i64 x, .int .i64 y]) (by as_aux_lemma => kernel_rfl) (nofun) (compare_same (S := fun _ => True) x y) ?_
  rintro _ _ - ⟨rfl, rfl⟩
  refine RW.fin 1 [4] [(4, .int .i64 (cmpI x y))] (by as_aux_lemma => kernel_rfl) ?_
  refine WK.ret (v := .int .i64 (cmpI x y)) Try.func124 (by as_aux_lemma => kernel_rfl) (by as_aux_lemma => kernel_rfl) ?_
  exact ⟨_, rfl, rfl, hG⟩


end Go.Proofs.Ytppcdmbkgficiaa
