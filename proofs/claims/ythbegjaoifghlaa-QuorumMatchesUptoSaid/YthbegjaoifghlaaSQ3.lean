import Derived.Test.YthbegjaoifghlaaSQ2
import Derived.Test.YthbegjaoifghlaaSBxA
namespace Go.Proofs.Ythbegjaoifghlaa
open Go.BX
theorem clone_nil {S : Nat → Prop} {w : World} {xs : List Int} {c : Nat} (h : (Shape.slice (Shape.int .i64)).rep S w [.slice none xs.length c] xs) (hby : xs.length * 8 ≤ 140737488355328) :
 Calls Try.prog 22 #[.slice none xs.length c] w (Ret fun v w' => Ext w w' ∧ Hp w S [] [] [⟨Shape.int .i64, 3, v, xs⟩] [] w') := by
 have hx := Shape.slice_none h
 refine WK.calls1 (fn := Try.f22) (n := 8) (σ := [(0, .slice none xs.length c)]) Try.func22 rfl (by as_aux_lemma => kernel_rfl) (by as_aux_lemma => kernel_rfl) (by as_aux_lemma => kernel_rfl) ?_
 have H := Hp.startF (w := w) (S := S) (G := [Rp (Shape.slice (Shape.int .i64)) [.slice none xs.length c] xs]) (.rp h .nil)
 refine WK.run 8 [2] [.code (cd Try.prog 22 [1, 0, 1, 0, 1]), .code (cd Try.prog 22 [2])] [(2, .slice none 0 0)] (by as_aux_lemma => kernel_rfl) ?_
 refine WK.ret (v := .slice none 0 0) Try.func22 (by as_aux_lemma => kernel_rfl) (by as_aux_lemma => kernel_rfl) ?_
 subst hx
 exact ⟨_, rfl, H.done, (H.pick [] rfl).ownNil (Shape.int .i64) 3⟩
theorem clone_some {S : Nat → Prop} {w : World} {xs : List Int} {a : Addr} {c : Nat} (h : (Shape.slice (Shape.int .i64)).rep S w [.slice (some a) xs.length c] xs) (hby : xs.length * 8 ≤ 140737488355328) :
 Calls Try.prog 22 #[.slice (some a) xs.length c] w (Ret fun v w' => Ext w w' ∧ Hp w S [] [] [⟨Shape.int .i64, 3, v, xs⟩] [] w') := by
 refine WK.calls1 (fn := Try.f22) (n := 8) (σ := [(0, .slice (some a) xs.length c)]) Try.func22 rfl (by as_aux_lemma => kernel_rfl) (by as_aux_lemma => kernel_rfl) (by as_aux_lemma => kernel_rfl) ?_
 have H := Hp.startF (w := w) (S := S) (G := [Rp (Shape.slice (Shape.int .i64)) [.slice (some a) xs.length c] xs]) (.rp h .nil)
 refine WK.run 8 [0] [.code (cd Try.prog 22 [2, 0]), .code (cd Try.prog 22 [3])] [(0, .slice (some a) xs.length c)] (by as_aux_lemma => kernel_rfl) ?_
 refine WK.reg1 (l := sq 0 4) (by as_aux_lemma => kernel_rfl) (by as_aux_lemma => kernel_rfl) ?_
 refine RW.new (κ := .seq) (d := some 5) (r := (sq 1 4)) (o := .cells #[] 3 (0, 0)) (v := fun b => .slice (some ⟨b, 0, none⟩) 0 0) (fun b => by as_aux_lemma => kernel_rfl) (nofun) H ?_
 intro b1 w2 H
 refine RW.runP 1 [5, 6] (sq 2 4) [(5, .slice (some ⟨b1, 0, none⟩) 0 0), (6, .slice (some a) xs.length c)] (by as_aux_lemma => kernel_rfl) (by as_aux_lemma => kernel_rfl) ?_
 have H := H.toOwn (sh := Shape.int .i64) (xs := []) (cap := 0) (by rfl) (Nat.le_refl _) (Nat.zero_le _) (by simp) EsP.nil
 have H : Hp w S [] [] [⟨Shape.int .i64, 3, .slice (some ⟨b1, 0, none⟩) 0 0, []⟩] [Rp (Shape.slice (Shape.int .i64)) [.slice (some a) xs.length c] xs] _ := H
 refine RW.appendW (d := some 7) (r := (sq 3 4)) (T := 22) (ty := 22) (e := 3) (m := 1) (by_ := 8) (v := .slice (some ⟨b1, 0, none⟩) 0 0) (a2 := (some a)) (l2 := xs.length) (c2 := c) (zs := xs) (by as_aux_lemma => kernel_rfl) (by as_aux_lemma => kernel_rfl) rfl H 0 rfl 0 rfl (rfl) (by omega) ?_
 intro a3 c4 w6 H hc5
 have H : Hp w S [] [] [⟨Shape.int .i64, 3, .slice a3 xs.length c4, xs⟩] [Rp (Shape.slice (Shape.int .i64)) [.slice (some a) xs.length c] xs] _ := H
 refine RW.fin 1 [2] [(2, .slice a3 xs.length c4)] (by as_aux_lemma => kernel_rfl) ?_
 refine WK.ret (v := .slice a3 xs.length c4) Try.func22 (by as_aux_lemma => kernel_rfl) (by as_aux_lemma => kernel_rfl) ?_
 exact ⟨_, rfl, H.done, H.pick [] rfl⟩
theorem clone_spec {S : Nat → Prop} {w : World} {xs : List Int} {a : Option Addr} {c : Nat} (h : (Shape.slice (Shape.int .i64)).rep S w [.slice a xs.length c] xs) (hby : xs.length * 8 ≤ 140737488355328) :
 Calls Try.prog 22 #[.slice a xs.length c] w (Ret fun v w' => Ext w w' ∧ Hp w S [] [] [⟨Shape.int .i64, 3, v, xs⟩] [] w') := by
 cases a with
 | none => exact clone_nil h hby
 | some a => exact clone_some h hby
theorem cmp_isnan_spec {S : Nat → Prop} {w : World} (x : Int) :
 Calls Try.prog 60 #[.int .i64 x] w (Ret fun v w' => Ext w w' ∧ v = .bool false) := by
 refine WK.calls1 (fn := Try.f60) (n := 6) (σ := [(0, .int .i64 x)]) Try.func60 rfl (by as_aux_lemma => kernel_rfl) (by as_aux_lemma => kernel_rfl) (by as_aux_lemma => kernel_rfl) ?_
 have H := Hp.startF (w := w) (S := S) (G := []) .nil
 refine WK.run 4 [2] [.code (cd Try.prog 60 [2])] [(2, .bool (x != x))] (by as_aux_lemma => kernel_rfl) ?_
 refine WK.ret (v := .bool (x != x)) Try.func60 (by as_aux_lemma => kernel_rfl) (by as_aux_lemma => kernel_rfl) ?_
 refine ⟨_, rfl, H.done, ?_⟩
 congr 1
 simp
theorem slices_isnan_spec {S : Nat → Prop} {w : World} (x : Int) :
 Calls Try.prog 44 #[.int .i64 x] w (Ret fun v w' => Ext w w' ∧ v = .bool false) := by
 refine WK.calls1 (fn := Try.f44) (n := 6) (σ := [(0, .int .i64 x)]) Try.func44 rfl (by as_aux_lemma => kernel_rfl) (by as_aux_lemma => kernel_rfl) (by as_aux_lemma => kernel_rfl) ?_
 have H := Hp.startF (w := w) (S := S) (G := []) .nil
 refine WK.run 4 [2] [.code (cd Try.prog 44 [2])] [(2, .bool (x != x))] (by as_aux_lemma => kernel_rfl) ?_
 refine WK.ret (v := .bool (x != x)) Try.func44 (by as_aux_lemma => kernel_rfl) (by as_aux_lemma => kernel_rfl) ?_
 refine ⟨_, rfl, H.done, ?_⟩
 congr 1
 simp
theorem less_spec {S : Nat → Prop} {w : World} (x y : Int) :
 Calls Try.prog 43 #[.int .i64 x, .int .i64 y] w (Ret fun v w' => Ext w w' ∧ v = .bool (decide (x < y))) := by
 refine WK.calls1 (fn := Try.f43) (n := 17) (σ := [(0, .int .i64 x), (1, .int .i64 y)]) Try.func43 rfl (by as_aux_lemma => kernel_rfl) (by as_aux_lemma => kernel_rfl) (by as_aux_lemma => kernel_rfl) ?_
 have H := Hp.startF (w := w) (S := S) (G := []) .nil
 refine WK.run 3 [0, 1] [.code (cd Try.prog 43 [1, 0]), .code (cd Try.prog 43 [2])] [(0, .int .i64 x), (1, .int .i64 y)] (by as_aux_lemma => kernel_rfl) ?_
 refine WK.reg1 (l := sq 0 13) (by as_aux_lemma => kernel_rfl) (by as_aux_lemma => kernel_rfl) ?_
 refine RW.runP 1 [0, 1, 5] (sq 1 13) [(0, .int .i64 x), (1, .int .i64 y), (5, .int .i64 x)] (by as_aux_lemma => kernel_rfl) (by as_aux_lemma => kernel_rfl) ?_
 refine RW.call (κ := .seq) (d := some 6) (r := (sq 2 13)) (g := 60) (args := #[.int .i64 x]) (by as_aux_lemma => kernel_rfl) (nofun) (cmp_isnan_spec (S := fun _ => True) x) ?_
 rintro _ w1 hE2 rfl
 have H := H.ext hE2
 refine RW.fin 11 [4] [(4, .bool (decide ((x : Int) < y)))] (by as_aux_lemma => kernel_rfl) ?_
 refine WK.ret (v := .bool (decide ((x : Int) < y))) Try.func43 (by as_aux_lemma => kernel_rfl) (by as_aux_lemma => kernel_rfl) ?_
 exact ⟨_, rfl, H.done, rfl⟩
theorem bsearch_spec {S : Nat → Prop} {w : World} {xs : List Int} {a : Option Addr} {c : Nat} (x : Int) (h : (Shape.slice (Shape.int .i64)).rep S w [.slice a xs.length c] xs) (hby : xs.length ≤ 140737488355328) :
 Calls Try.prog 34 #[.slice a xs.length c, .int .i64 x] w (Ret fun v w' => Ext w w' ∧ ∃ (i : Nat) (b : Bool), v = .tuple #[.int .i64 i, .bool b] ∧ i ≤ xs.length ∧ (0 < i → ∀ y, xs[i - 1]? = some y → y < x) ∧ ∀ y, xs[i]? = some y → x ≤ y) := by
 refine WK.calls1 (fn := Try.f34) (n := 54) (σ := [(0, .slice a xs.length c), (1, .int .i64 x)]) Try.func34 rfl (by as_aux_lemma => kernel_rfl) (by as_aux_lemma => kernel_rfl) (by as_aux_lemma => kernel_rfl) ?_
 have H := Hp.startF (w := w) (S := S) (G := [Rp (Shape.slice (Shape.int .i64)) [.slice a xs.length c] xs]) (.rp h .nil)
 refine WK.run 8 [0, 1, 6, 7, 8] [.code (cd Try.prog 34 [3, 0, 0]), .inBlock 0, .code (cd Try.prog 34 [4])] [(0, .slice a xs.length c), (1, .int .i64 x), (6, .int .i64 ((xs.length : Nat) : Int)), (7, .int .i64 0), (8, .int .i64 ((xs.length : Nat) : Int))] (by as_aux_lemma => kernel_rfl) ?_
 refine WK.loop (α := Nat × Nat) (b := cd Try.prog 34 [3, 0, 0, 0]) (by as_aux_lemma => kernel_rfl) (fun st_ => match st_ with | (i, j) => [(0, .slice a xs.length c), (1, .int .i64 x), (6, .int .i64 ((xs.length : Nat) : Int)), (7, .int .i64 (i : Int)), (8, .int .i64 (j : Int))]) (fun st_ w' => match st_ with | (i, j) => Hp w S [] [] [] [Rp (Shape.slice (Shape.int .i64)) [.slice a xs.length c] xs] w' ∧ i ≤ j ∧ j ≤ xs.length ∧ (0 < i → ∀ y, xs[i - 1]? = some y → y < x) ∧ ∀ y, xs[j]? = some y → x ≤ y) (fun st_ => match st_ with | (i, j) => j - i) (0, xs.length) ⟨H, by omega, by omega, by omega, by intro y hy; simp at hy⟩ (rfl) ?_
 rintro ⟨i, j⟩ w2 ⟨H, hinv0⟩ hback1
 refine WK.run 3 [0, 1, 6, 7, 8, 15] [.code (cd Try.prog 34 [3, 0, 0, 0, 0, 1]), .code (cd Try.prog 34 [3, 0, 0, 0, 1]), .inLoop (cd Try.prog 34 [3, 0, 0, 0]), .inBlock 0, .code (cd Try.prog 34 [4])] [(0, .slice a xs.length c), (1, .int .i64 x), (6, .int .i64 ((xs.length : Nat) : Int)), (7, .int .i64 (i : Int)), (8, .int .i64 (j : Int)), (15, .bool (decide (((i : Int) : Int) < (j : Int))))] (by as_aux_lemma => kernel_rfl) ?_
 refine WK.cond1 (decide (((i : Int) : Int) < (j : Int))) (by as_aux_lemma => kernel_rfl) (by as_aux_lemma => kernel_rfl) (fun h3 => ?_) (fun h3 => ?_)
 ·
  replace h3 := of_decide_eq_true h3
  refine WK.run 3 [0, 1, 6, 7, 8] [.code (cd Try.prog 34 [3, 0, 0, 0, 1, 0, 0]), .code (cd Try.prog 34 [3, 0, 0, 0, 1, 0, 1]), .inBlock 1, .inLoop (cd Try.prog 34 [3, 0, 0, 0]), .inBlock 0, .code (cd Try.prog 34 [4])] [(0, .slice a xs.length c), (1, .int .i64 x), (6, .int .i64 ((xs.length : Nat) : Int)), (7, .int .i64 (i : Int)), (8, .int .i64 (j : Int))] (by as_aux_lemma => kernel_rfl) ?_
  refine WK.reg1 (l := sq 0 7) (by as_aux_lemma => kernel_rfl) (by as_aux_lemma => kernel_rfl) ?_
  refine RW.runP 2 [0, 1, 6, 7, 8, 16, 17] (sq 2 7) [(0, .slice a xs.length c), (1, .int .i64 x), (6, .int .i64 ((xs.length : Nat) : Int)), (7, .int .i64 (i : Int)), (8, .int .i64 (j : Int)), (16, .int .i64 (i : Int)), (17, .int .i64 (j : Int))] (by as_aux_lemma => kernel_rfl) (by as_aux_lemma => kernel_rfl) ?_
  refine RW.wr64 (κ := .seq) (d := some 18) (r := (sq 3 7)) (t := (i : Int) + (j : Int)) (by as_aux_lemma => kernel_rfl) (by omega) ?_
  refine RW.pv (κ := .seq) (d := some 19) (r := (sq 4 7)) (v := .int .u64 (IntKind.u64.wrap ((i : Int) + (j : Int)))) (v' := .int .u64 ((i : Int) + (j : Int))) (by as_aux_lemma => kernel_rfl) (wr_u64 (by omega)) ?_
  refine RW.pv (κ := .seq) (d := some 20) (r := (sq 5 7)) (v := .int .u64 (((i : Int) + (j : Int)).fdiv (2 ^ 1))) (v' := .int .u64 (((i : Int) + (j : Int)) / 2)) (by as_aux_lemma => kernel_rfl) (shr_id (by decide) (by omega)) ?_
  refine RW.pv (κ := .seq) (d := some 21) (r := (sq 6 7)) (v := .int .i64 (IntKind.i64.wrap (((i : Int) + (j : Int)) / 2))) (v' := .int .i64 (((i : Int) + (j : Int)) / 2)) (by as_aux_lemma => kernel_rfl) (wr_i64 (by omega)) ?_
  refine RW.fin 1 [0, 1, 6, 7, 8, 9] [(0, .slice a xs.length c), (1, .int .i64 x), (6, .int .i64 ((xs.length : Nat) : Int)), (7, .int .i64 (i : Int)), (8, .int .i64 (j : Int)), (9, .int .i64 (((i : Int) + (j : Int)) / 2))] (by as_aux_lemma => kernel_rfl) ?_
  refine WK.run 1 [0, 1, 6, 7, 8, 9] [.code (cd Try.prog 34 [3, 0, 0, 0, 1, 0, 1, 0]), .code (cd Try.prog 34 [3, 0, 0, 0, 1, 0, 2]), .inBlock 1, .inLoop (cd Try.prog 34 [3, 0, 0, 0]), .inBlock 0, .code (cd Try.prog 34 [4])] [(0, .slice a xs.length c), (1, .int .i64 x), (6, .int .i64 ((xs.length : Nat) : Int)), (7, .int .i64 (i : Int)), (8, .int .i64 (j : Int)), (9, .int .i64 (((i : Int) + (j : Int)) / 2))] (by as_aux_lemma => kernel_rfl) ?_
  refine WK.reg1 (l := sq 0 6) (by as_aux_lemma => kernel_rfl) (by as_aux_lemma => kernel_rfl) ?_
  refine RW.runP 2 [0, 1, 6, 7, 8, 9, 22, 23] (sq 2 6) [(0, .slice a xs.length c), (1, .int .i64 x), (6, .int .i64 ((xs.length : Nat) : Int)), (7, .int .i64 (i : Int)), (8, .int .i64 (j : Int)), (9, .int .i64 (((i : Int) + (j : Int)) / 2)), (22, .slice a xs.length c), (23, .int .i64 (((i : Int) + (j : Int)) / 2))] (by as_aux_lemma => kernel_rfl) (by as_aux_lemma => kernel_rfl) ?_
  have hx4 : (i + j) / 2 < xs.length := by omega
  refine RW.index (κ := .seq) (d := some 24) (r := (sq 3 6)) (T := 22) (e := 3) (ik := .i64) (ix := ((i : Int) + (j : Int)) / 2) (sh := (Shape.int .i64)) (x := xs[(i + j) / 2]) (by as_aux_lemma => kernel_rfl) (by as_aux_lemma => kernel_rfl) H 0 rfl ((i + j) / 2) (by omega) (List.getElem?_eq_getElem hx4) ?_
  intro b5 o6 es7 hr8 H
  have hb9 := Shape.i64_bd hr8
  obtain ⟨rfl, -⟩ := hr8
  refine RW.load (κ := .seq) (d := some 25) (r := (sq 4 6)) (T := 3) (b := b5) (o' := o6) (k := 0) (v := .int .i64 (xs[(i + j) / 2])) (by as_aux_lemma => kernel_rfl) (H.fc 0 rfl) rfl (by as_aux_lemma => kernel_rfl) ?_
  refine RW.runP 1 [0, 1, 6, 7, 8, 9, 25, 26] (sq 5 6) [(0, .slice a xs.length c), (1, .int .i64 x), (6, .int .i64 ((xs.length : Nat) : Int)), (7, .int .i64 (i : Int)), (8, .int .i64 (j : Int)), (9, .int .i64 (((i : Int) + (j : Int)) / 2)), (25, .int .i64 (xs[(i + j) / 2])), (26, .int .i64 x)] (by as_aux_lemma => kernel_rfl) (by as_aux_lemma => kernel_rfl) ?_
  refine RW.call (κ := .seq) (d := some 27) (r := (sq 6 6)) (g := 43) (args := #[.int .i64 (xs[(i + j) / 2]), .int .i64 x]) (by as_aux_lemma => kernel_rfl) (nofun) (less_spec (S := fun _ => True) (xs[(i + j) / 2]) x) ?_
  rintro _ w10 hE11 rfl
  have H := H.ext hE11
  refine RW.fin 0 [0, 1, 6, 7, 8, 9, 27] [(0, .slice a xs.length c), (1, .int .i64 x), (6, .int .i64 ((xs.length : Nat) : Int)), (7, .int .i64 (i : Int)), (8, .int .i64 (j : Int)), (9, .int .i64 (((i : Int) + (j : Int)) / 2)), (27, .bool (decide (xs[(i + j) / 2] < x)))] (by as_aux_lemma => kernel_rfl) ?_
  refine WK.cond1 (decide (xs[(i + j) / 2] < x)) (by as_aux_lemma => kernel_rfl) (by as_aux_lemma => kernel_rfl) (fun h12 => ?_) (fun h12 => ?_)
  ·
   replace h12 := of_decide_eq_true h12
   refine WK.reg1 (l := sq 0 3) (by as_aux_lemma => kernel_rfl) (by as_aux_lemma => kernel_rfl) ?_
   refine RW.runP 1 [0, 1, 6, 7, 8, 28] (sq 1 3) [(0, .slice a xs.length c), (1, .int .i64 x), (6, .int .i64 ((xs.length : Nat) : Int)), (7, .int .i64 (i : Int)), (8, .int .i64 (j : Int)), (28, .int .i64 (((i : Int) + (j : Int)) / 2))] (by as_aux_lemma => kernel_rfl) (by as_aux_lemma => kernel_rfl) ?_
   refine RW.wr64 (κ := .seq) (d := some 29) (r := (sq 2 3)) (t := (((i : Int) + (j : Int)) / 2) + 1) (by as_aux_lemma => kernel_rfl) (by omega) ?_
   refine RW.fin 1 [0, 1, 6, 7, 8] [(0, .slice a xs.length c), (1, .int .i64 x), (6, .int .i64 ((xs.length : Nat) : Int)), (7, .int .i64 ((((i : Int) + (j : Int)) / 2) + 1)), (8, .int .i64 (j : Int))] (by as_aux_lemma => kernel_rfl) ?_
   refine WK.run 1 [0, 1, 6, 7, 8] [.inLoop (cd Try.prog 34 [3, 0, 0, 0]), .inBlock 0, .code (cd Try.prog 34 [4])] [(0, .slice a xs.length c), (1, .int .i64 x), (6, .int .i64 ((xs.length : Nat) : Int)), (7, .int .i64 ((((i : Int) + (j : Int)) / 2) + 1)), (8, .int .i64 (j : Int))] (by as_aux_lemma => kernel_rfl) ?_
   have H := H.pick [1] rfl
   exact WK.back (hback1 ((i + j) / 2 + 1, j) _ ⟨H, by omega, by omega, by first | exact hinv0.2.2.1 | (intro _ y hy; simp only [Nat.add_sub_cancel] at hy; rw [List.getElem?_eq_getElem (by omega)] at hy; cases hy; assumption), by first | exact hinv0.2.2.2 | (intro y hy; rw [List.getElem?_eq_getElem (by omega)] at hy; cases hy; omega)⟩ (by simp only []; omega)) (by simp)
  ·
   replace h12 := of_decide_eq_false h12
   refine WK.run 2 [0, 1, 6, 7, 8] [.inLoop (cd Try.prog 34 [3, 0, 0, 0]), .inBlock 0, .code (cd Try.prog 34 [4])] [(0, .slice a xs.length c), (1, .int .i64 x), (6, .int .i64 ((xs.length : Nat) : Int)), (7, .int .i64 (i : Int)), (8, .int .i64 (((i : Int) + (j : Int)) / 2))] (by as_aux_lemma => kernel_rfl) ?_
   have H := H.pick [1] rfl
   exact WK.back (hback1 (i, (i + j) / 2) _ ⟨H, by omega, by omega, by first | exact hinv0.2.2.1 | (intro _ y hy; simp only [Nat.add_sub_cancel] at hy; rw [List.getElem?_eq_getElem (by omega)] at hy; cases hy; assumption), by first | exact hinv0.2.2.2 | (intro y hy; rw [List.getElem?_eq_getElem (by omega)] at hy; cases hy; omega)⟩ (by simp only []; omega)) (by simp)
 ·
  replace h3 := of_decide_eq_false h3
  refine WK.run 2 [0, 1, 6, 7] [.code (cd Try.prog 34 [4, 0]), .code (cd Try.prog 34 [5])] [(0, .slice a xs.length c), (1, .int .i64 x), (6, .int .i64 ((xs.length : Nat) : Int)), (7, .int .i64 (i : Int))] (by as_aux_lemma => kernel_rfl) ?_
  refine WK.reg1 (l := sq 0 25) (by as_aux_lemma => kernel_rfl) (by as_aux_lemma => kernel_rfl) ?_
  refine RW.runP 5 [0, 1, 7, 31, 35] (sq 5 25) [(0, .slice a xs.length c), (1, .int .i64 x), (7, .int .i64 (i : Int)), (31, .int .i64 (i : Int)), (35, .bool (decide (((i : Int) : Int) < ((xs.length : Nat) : Int))))] (by as_aux_lemma => kernel_rfl) (by as_aux_lemma => kernel_rfl) ?_
  refine RW.test (fun b_ => [(0, .slice a xs.length c), (1, .int .i64 x), (7, .int .i64 (i : Int)), (31, .int .i64 (i : Int)), (35, .bool b_)]) (decide (((i : Int) : Int) < ((xs.length : Nat) : Int))) (fun h13 => ?_) (fun h13 => ?_)
  ·
   replace h13 := of_decide_eq_true h13
   refine RW.runP 2 [0, 1, 7, 31, 35, 36, 37] (sq 7 25) [(0, .slice a xs.length c), (1, .int .i64 x), (7, .int .i64 (i : Int)), (31, .int .i64 (i : Int)), (35, .bool true), (36, .slice a xs.length c), (37, .int .i64 (i : Int))] (by as_aux_lemma => kernel_rfl) (by as_aux_lemma => kernel_rfl) ?_
   have hx14 : i < xs.length := by omega
   refine RW.index (κ := .seq) (d := some 38) (r := (sq 8 25)) (T := 22) (e := 3) (ik := .i64) (ix := (i : Int)) (sh := (Shape.int .i64)) (x := xs[i]) (by as_aux_lemma => kernel_rfl) (by as_aux_lemma => kernel_rfl) H 0 rfl i (by omega) (List.getElem?_eq_getElem hx14) ?_
   intro b15 o16 es17 hr18 H
   have hb19 := Shape.i64_bd hr18
   obtain ⟨rfl, -⟩ := hr18
   refine RW.load (κ := .seq) (d := some 39) (r := (sq 9 25)) (T := 3) (b := b15) (o' := o16) (k := 0) (v := .int .i64 (xs[i])) (by as_aux_lemma => kernel_rfl) (H.fc 0 rfl) rfl (by as_aux_lemma => kernel_rfl) ?_
   refine RW.runP 3 [0, 1, 7, 31, 35, 42] (sq 12 25) [(0, .slice a xs.length c), (1, .int .i64 x), (7, .int .i64 (i : Int)), (31, .int .i64 (i : Int)), (35, .bool true), (42, .bool ((xs[i]) == x))] (by as_aux_lemma => kernel_rfl) (by as_aux_lemma => kernel_rfl) ?_
   refine RW.test (fun b_ => [(0, .slice a xs.length c), (1, .int .i64 x), (7, .int .i64 (i : Int)), (31, .int .i64 (i : Int)), (35, .bool true), (42, .bool b_)]) ((xs[i]) == x) (fun h20 => ?_) (fun h20 => ?_)
   ·
    replace h20 := eq_of_beq h20
    refine RW.fin 13 [4, 5] [(4, .int .i64 (i : Int)), (5, .bool true)] (by as_aux_lemma => kernel_rfl) ?_
    refine WK.ret (v := .tuple #[.int .i64 (i : Int), .bool true]) Try.func34 (by as_aux_lemma => kernel_rfl) (by as_aux_lemma => kernel_rfl) ?_
    have hij : i = j := by omega
    subst hij
    exact ⟨_, rfl, H.done, i, _, rfl, by omega, hinv0.2.2.1, hinv0.2.2.2⟩
   ·
    replace h20 := ne_of_beq_false h20
    refine RW.runP 2 [1, 31, 35, 42, 43, 44] (sq 14 25) [(1, .int .i64 x), (31, .int .i64 (i : Int)), (35, .bool true), (42, .bool false), (43, .slice a xs.length c), (44, .int .i64 (i : Int))] (by as_aux_lemma => kernel_rfl) (by as_aux_lemma => kernel_rfl) ?_
    have hx21 : i < xs.length := by omega
    refine RW.index (κ := .seq) (d := some 45) (r := (sq 15 25)) (T := 22) (e := 3) (ik := .i64) (ix := (i : Int)) (sh := (Shape.int .i64)) (x := xs[i]) (by as_aux_lemma => kernel_rfl) (by as_aux_lemma => kernel_rfl) H 1 rfl i (by omega) (List.getElem?_eq_getElem hx21) ?_
    intro b22 o23 es24 hr25 H
    have hb26 := Shape.i64_bd hr25
    obtain ⟨rfl, -⟩ := hr25
    refine RW.load (κ := .seq) (d := some 46) (r := (sq 16 25)) (T := 3) (b := b22) (o' := o23) (k := 0) (v := .int .i64 (xs[i])) (by as_aux_lemma => kernel_rfl) (H.fc 0 rfl) rfl (by as_aux_lemma => kernel_rfl) ?_
    refine RW.call (κ := .seq) (d := some 47) (r := (sq 17 25)) (g := 44) (args := #[.int .i64 (xs[i])]) (by as_aux_lemma => kernel_rfl) (nofun) (slices_isnan_spec (S := fun _ => True) (xs[i])) ?_
    rintro _ w27 hE28 rfl
    have H := H.ext hE28
    refine RW.fin 8 [4, 5] [(4, .int .i64 (i : Int)), (5, .bool false)] (by as_aux_lemma => kernel_rfl) ?_
    refine WK.ret (v := .tuple #[.int .i64 (i : Int), .bool false]) Try.func34 (by as_aux_lemma => kernel_rfl) (by as_aux_lemma => kernel_rfl) ?_
    have hij : i = j := by omega
    subst hij
    exact ⟨_, rfl, H.done, i, _, rfl, by omega, hinv0.2.2.1, hinv0.2.2.2⟩
  ·
   replace h13 := of_decide_eq_false h13
   refine RW.fin 20 [4, 5] [(4, .int .i64 (i : Int)), (5, .bool false)] (by as_aux_lemma => kernel_rfl) ?_
   refine WK.ret (v := .tuple #[.int .i64 (i : Int), .bool false]) Try.func34 (by as_aux_lemma => kernel_rfl) (by as_aux_lemma => kernel_rfl) ?_
   have hij : i = j := by omega
   subst hij
   exact ⟨_, rfl, H.done, i, _, rfl, by omega, hinv0.2.2.1, hinv0.2.2.2⟩
theorem insert_spec {S : Nat → Prop} {w : World} {O : List Nat} {xs : List Int} {x : Int} {a : Option Addr} {c bl i : Nat} (H0 : Hp w S O [(bl, .cells #[.int .i64 x] 3 (0, 0))] [⟨Shape.int .i64, 3, .slice a xs.length c, xs⟩] [Rp (Shape.int .i64) [.int .i64 x] x] w) (hi : i ≤ xs.length) (hby : (xs.length + 1) * 8 ≤ 140737488355328) :
 Calls Try.prog 35 #[.slice a xs.length c, .int .i64 (i : Int), .slice (some ⟨bl, 0, none⟩) 1 1] w (Ret fun v w' => Hp w S O [] [⟨Shape.int .i64, 3, v, xs.take i ++ x :: xs.drop i⟩] [] w') := by
 have hxb := Shape.i64_bd (H0.rp 0 rfl)
 obtain ⟨_, _, he, hnc, hcm⟩ := H0.ownForm 0 rfl
 simp only [Value.slice.injEq, true_and] at he
 obtain ⟨rfl, rfl⟩ := he
 refine WK.calls1 (fn := Try.f35) (n := 95) (σ := [(0, .slice a xs.length c), (1, .int .i64 (i : Int)), (2, .slice (some ⟨bl, 0, none⟩) 1 1)]) Try.func35 rfl (by as_aux_lemma => kernel_rfl) (by as_aux_lemma => kernel_rfl) (by as_aux_lemma => kernel_rfl) ?_
 have H := H0
 refine WK.run 3 [0, 1, 2] [.code (cd Try.prog 35 [1, 0]), .code (cd Try.prog 35 [2])] [(0, .slice a xs.length c), (1, .int .i64 (i : Int)), (2, .slice (some ⟨bl, 0, none⟩) 1 1)] (by as_aux_lemma => kernel_rfl) ?_
 refine WK.reg1 (l := sq 0 3) (by as_aux_lemma => kernel_rfl) (by as_aux_lemma => kernel_rfl) ?_
 refine RW.runP 2 [0, 1, 2, 10, 11] (sq 2 3) [(0, .slice a xs.length c), (1, .int .i64 (i : Int)), (2, .slice (some ⟨bl, 0, none⟩) 1 1), (10, .slice a xs.length c), (11, .int .i64 (i : Int))] (by as_aux_lemma => kernel_rfl) (by as_aux_lemma => kernel_rfl) ?_
 refine RW.readS (κ := .seq) (d := some 12) (r := (sq 3 3)) (s := semV (Instr.sliceAt 22 (.slice a xs.length c) (some (.int .i64 (i : Int))) none none)) (v := .slice (if c = i then a else a.map (·.add (i * 1))) (xs.length - i) (c - i)) (by as_aux_lemma => kernel_rfl) (fun w' _ => semV_run (sliceAt_run (e := 3) (m := 1) (by as_aux_lemma => kernel_rfl) (lo := i) (hi := xs.length) (.mk (by omega)) .nil (by omega) (by omega))) ?_
 refine RW.fin 0 [0, 1, 2] [(0, .slice a xs.length c), (1, .int .i64 (i : Int)), (2, .slice (some ⟨bl, 0, none⟩) 1 1)] (by as_aux_lemma => kernel_rfl) ?_
 refine WK.run 12 [0, 1, 2, 7, 8, 22] [.code (cd Try.prog 35 [5, 0, 1]), .code (cd Try.prog 35 [6])] [(0, .slice a xs.length c), (1, .int .i64 (i : Int)), (2, .slice (some ⟨bl, 0, none⟩) 1 1), (7, .int .i64 1), (8, .int .i64 ((xs.length : Nat) : Int)), (22, .bool ((i : Int) == ((xs.length : Nat) : Int)))] (by as_aux_lemma => kernel_rfl) ?_
 refine WK.cond1 ((i : Int) == ((xs.length : Nat) : Int)) (by as_aux_lemma => kernel_rfl) (by as_aux_lemma => kernel_rfl) (fun h1 => ?_) (fun h1 => ?_)
 ·
  replace h1 := eq_of_beq h1
  have hin : i = xs.length := by omega
  refine WK.run 1 [0, 2] [.code (cd Try.prog 35 [5, 0, 1, 0, 0]), .code (cd Try.prog 35 [5, 0, 1, 0, 1]), .code (cd Try.prog 35 [6])] [(0, .slice a xs.length c), (2, .slice (some ⟨bl, 0, none⟩) 1 1)] (by as_aux_lemma => kernel_rfl) ?_
  refine WK.reg1 (l := sq 0 4) (by as_aux_lemma => kernel_rfl) (by as_aux_lemma => kernel_rfl) ?_
  refine RW.runP 2 [23, 24] (sq 2 4) [(23, .slice a xs.length c), (24, .slice (some ⟨bl, 0, none⟩) 1 1)] (by as_aux_lemma => kernel_rfl) (by as_aux_lemma => kernel_rfl) ?_
  have H := H.freeze 0 rfl (Shape.int .i64) ([x] : List Int) 1 (by simp [maxLen]) (by first | exact Nat.le_refl _ | simp) (EsP.cons (c := [.int .i64 x]) (Shape.i64_in (by first | omega | (simp <;> omega)) (by first | omega | (simp <;> omega))) EsP.nil)
  have H : Hp w S O [] [⟨Shape.int .i64, 3, .slice a xs.length c, xs⟩] [Rp (Shape.slice (Shape.int .i64)) [.slice (some ⟨bl, 0, none⟩) 1 1] ([x] : List Int), Rp (Shape.int .i64) [.int .i64 x] x] _ := H
  refine RW.appendW (d := some 25) (r := (sq 3 4)) (T := 22) (ty := 22) (e := 3) (m := 1) (by_ := 8) (v := .slice a xs.length c) (a2 := (some ⟨bl, 0, none⟩)) (l2 := 1) (c2 := 1) (zs := (xs.take i ++ x :: xs.drop i)) (by as_aux_lemma => kernel_rfl) (by as_aux_lemma => kernel_rfl) rfl H 0 rfl 0 rfl (by rw [List.take_of_length_le (by omega), List.drop_of_length_le (by omega)]) (by rw [ins_len hi]; try omega) ?_
  intro a2 c3 w5 H hc4
  have H : Hp w S O [] [⟨Shape.int .i64, 3, .slice a2 ((xs.take i ++ x :: xs.drop i).length) c3, (xs.take i ++ x :: xs.drop i)⟩] [Rp (Shape.slice (Shape.int .i64)) [.slice (some ⟨bl, 0, none⟩) 1 1] ([x] : List Int), Rp (Shape.int .i64) [.int .i64 x] x] _ := H
  refine RW.fin 1 [6] [(6, .slice a2 ((xs.take i ++ x :: xs.drop i).length) c3)] (by as_aux_lemma => kernel_rfl) ?_
  refine WK.ret (v := .slice a2 ((xs.take i ++ x :: xs.drop i).length) c3) Try.func35 (by as_aux_lemma => kernel_rfl) (by as_aux_lemma => kernel_rfl) ?_
  exact ⟨_, rfl, H.pick [] rfl⟩
 ·
  replace h1 := ne_of_beq_false h1
  obtain ⟨b, cc, rfl, -, hcs, hnc, hcm, hone, H⟩ := H.toRaw1 (by omega)
  simp only [maxLen] at hcm
  have hsz : cc.size = c := by rw [hcs]; exact Nat.mul_one c
  have hcl : cc.toList.length = c := by simpa using hsz
  have hxR := H.rp 1 rfl
  have hEs := H.es 0 rfl
  refine WK.run 3 [0, 1, 2, 7, 8] [.code (cd Try.prog 35 [6, 0, 0]), .code (cd Try.prog 35 [6, 0, 1]), .code (cd Try.prog 35 [7])] [(0, .slice (some ⟨b, 0, none⟩) xs.length c), (1, .int .i64 (i : Int)), (2, .slice (some ⟨bl, 0, none⟩) 1 1), (7, .int .i64 1), (8, .int .i64 ((xs.length : Nat) : Int))] (by as_aux_lemma => kernel_rfl) ?_
  refine WK.reg1 (l := sq 0 6) (by as_aux_lemma => kernel_rfl) (by as_aux_lemma => kernel_rfl) ?_
  refine RW.runP 2 [0, 1, 2, 7, 8, 26, 27] (sq 2 6) [(0, .slice (some ⟨b, 0, none⟩) xs.length c), (1, .int .i64 (i : Int)), (2, .slice (some ⟨bl, 0, none⟩) 1 1), (7, .int .i64 1), (8, .int .i64 ((xs.length : Nat) : Int)), (26, .int .i64 ((xs.length : Nat) : Int)), (27, .int .i64 1)] (by as_aux_lemma => kernel_rfl) (by as_aux_lemma => kernel_rfl) ?_
  refine RW.wr64 (κ := .seq) (d := some 28) (r := (sq 3 6)) (t := ((xs.length : Nat) : Int) + 1) (by as_aux_lemma => kernel_rfl) (by omega) ?_
  refine RW.fin 3 [0, 1, 2, 7, 8, 31] [(0, .slice (some ⟨b, 0, none⟩) xs.length c), (1, .int .i64 (i : Int)), (2, .slice (some ⟨bl, 0, none⟩) 1 1), (7, .int .i64 1), (8, .int .i64 ((xs.length : Nat) : Int)), (31, .bool (decide ((((xs.length : Nat) : Int) + 1 : Int) > ((c : Nat) : Int))))] (by as_aux_lemma => kernel_rfl) ?_
  refine WK.cond1 (decide ((((xs.length : Nat) : Int) + 1 : Int) > ((c : Nat) : Int))) (by as_aux_lemma => kernel_rfl) (by as_aux_lemma => kernel_rfl) (fun h6 => ?_) (fun h6 => ?_)
  ·
   replace h6 := of_decide_eq_true h6
   refine WK.run 1 [0, 1, 2, 7, 8] [.code (cd Try.prog 35 [6, 0, 1, 0, 0]), .code (cd Try.prog 35 [6, 0, 1, 0, 1]), .code (cd Try.prog 35 [7])] [(0, .slice (some ⟨b, 0, none⟩) xs.length c), (1, .int .i64 (i : Int)), (2, .slice (some ⟨bl, 0, none⟩) 1 1), (7, .int .i64 1), (8, .int .i64 ((xs.length : Nat) : Int))] (by as_aux_lemma => kernel_rfl) ?_
   refine WK.reg1 (l := sq 0 10) (by as_aux_lemma => kernel_rfl) (by as_aux_lemma => kernel_rfl) ?_
   refine RW.runP 2 [0, 1, 2, 7, 8, 32, 33] (sq 2 10) [(0, .slice (some ⟨b, 0, none⟩) xs.length c), (1, .int .i64 (i : Int)), (2, .slice (some ⟨bl, 0, none⟩) 1 1), (7, .int .i64 1), (8, .int .i64 ((xs.length : Nat) : Int)), (32, .slice (some ⟨b, 0, none⟩) xs.length c), (33, .int .i64 (i : Int))] (by as_aux_lemma => kernel_rfl) (by as_aux_lemma => kernel_rfl) ?_
   refine RW.sliceR (κ := .seq) (d := some 34) (r := (sq 3 10)) (T := 22) (e := 3) (m := 1) (b := b) (o := 0) (len := xs.length) (cap := c) (lv := none) (hv := (some (.int .i64 (i : Int)))) (by as_aux_lemma => kernel_rfl) (by as_aux_lemma => kernel_rfl) 0 i .nil (.mk (by omega)) (by omega) (by omega) ?_
   intro o7 ho8
   obtain rfl : o7 = 0 := by have := ho8 (by omega); omega
   refine RW.runP 2 [0, 1, 2, 7, 34, 35, 36] (sq 5 10) [(0, .slice (some ⟨b, 0, none⟩) xs.length c), (1, .int .i64 (i : Int)), (2, .slice (some ⟨bl, 0, none⟩) 1 1), (7, .int .i64 1), (34, .slice (some ⟨b, 0, none⟩) i c), (35, .int .i64 ((xs.length : Nat) : Int)), (36, .int .i64 1)] (by as_aux_lemma => kernel_rfl) (by as_aux_lemma => kernel_rfl) ?_
   refine RW.wr64 (κ := .seq) (d := some 37) (r := (sq 6 10)) (t := ((xs.length : Nat) : Int) + 1) (by as_aux_lemma => kernel_rfl) (by omega) ?_
   refine RW.runP 1 [0, 1, 2, 7, 34, 37, 38] (sq 7 10) [(0, .slice (some ⟨b, 0, none⟩) xs.length c), (1, .int .i64 (i : Int)), (2, .slice (some ⟨bl, 0, none⟩) 1 1), (7, .int .i64 1), (34, .slice (some ⟨b, 0, none⟩) i c), (37, .int .i64 (((xs.length : Nat) : Int) + 1)), (38, .int .i64 (i : Int))] (by as_aux_lemma => kernel_rfl) (by as_aux_lemma => kernel_rfl) ?_
   refine RW.wr64 (κ := .seq) (d := some 39) (r := (sq 8 10)) (t := (((xs.length : Nat) : Int) + 1) - (i : Int)) (by as_aux_lemma => kernel_rfl) (by omega) ?_
   refine RW.appendZ (d := some 40) (r := (sq 9 10)) (T := 22) (ty := 22) (e := 3) (m := 1) (by_ := 8) (TI := 3) (ik := .i64) (b := b) (len := i) (cap := c) (j := xs.length + 1 - i) (t := (((xs.length : Nat) : Int) + 1) - (i : Int)) (by as_aux_lemma => kernel_rfl) (by omega) (by as_aux_lemma => kernel_rfl) (by as_aux_lemma => kernel_rfl) H 0 rfl (by omega) (by decide) (by omega) (by omega) (by omega) (by omega) ?_
   intro b' cn c' w9 H hsz' hpre hle hmx
   have hcl' : c'.toList.length = cn := by simp only [Array.length_toList]; omega
   have H : Hp w S O [(b', .cells c' 3 (0, 0)), (b, .cells cc 3 (0, 0)), (bl, .cells #[.int .i64 x] 3 (0, 0))] [] [Es (Shape.int .i64) cc.toList xs, Rp (Shape.int .i64) [.int .i64 x] x] _ := H
   refine RW.fin 1 [0, 1, 2, 7, 9] [(0, .slice (some ⟨b, 0, none⟩) xs.length c), (1, .int .i64 (i : Int)), (2, .slice (some ⟨bl, 0, none⟩) 1 1), (7, .int .i64 1), (9, .slice (some ⟨b', 0, none⟩) (i + (xs.length + 1 - i)) cn)] (by as_aux_lemma => kernel_rfl) ?_
   refine WK.run 1 [0, 1, 2, 7, 9] [.code (cd Try.prog 35 [6, 0, 1, 0, 1, 0]), .code (cd Try.prog 35 [6, 0, 1, 0, 2]), .code (cd Try.prog 35 [7])] [(0, .slice (some ⟨b, 0, none⟩) xs.length c), (1, .int .i64 (i : Int)), (2, .slice (some ⟨bl, 0, none⟩) 1 1), (7, .int .i64 1), (9, .slice (some ⟨b', 0, none⟩) (i + (xs.length + 1 - i)) cn)] (by as_aux_lemma => kernel_rfl) ?_
   refine WK.reg1 (l := sq 0 5) (by as_aux_lemma => kernel_rfl) (by as_aux_lemma => kernel_rfl) ?_
   refine RW.runP 2 [0, 1, 2, 7, 9, 41, 42] (sq 2 5) [(0, .slice (some ⟨b, 0, none⟩) xs.length c), (1, .int .i64 (i : Int)), (2, .slice (some ⟨bl, 0, none⟩) 1 1), (7, .int .i64 1), (9, .slice (some ⟨b', 0, none⟩) (i + (xs.length + 1 - i)) cn), (41, .slice (some ⟨b', 0, none⟩) (i + (xs.length + 1 - i)) cn), (42, .int .i64 (i : Int))] (by as_aux_lemma => kernel_rfl) (by as_aux_lemma => kernel_rfl) ?_
   refine RW.sliceR (κ := .seq) (d := some 43) (r := (sq 3 5)) (T := 22) (e := 3) (m := 1) (b := b') (o := 0) (len := (i + (xs.length + 1 - i))) (cap := cn) (lv := (some (.int .i64 (i : Int)))) (hv := none) (by as_aux_lemma => kernel_rfl) (by as_aux_lemma => kernel_rfl) i (i + (xs.length + 1 - i)) (.mk (by omega)) .nil (by omega) (by omega) ?_
   intro o10 ho11
   obtain rfl : o10 = 0 + i * 1 := by have := ho11 (by omega); omega
   refine RW.runP 1 [0, 1, 7, 9, 43, 44] (sq 4 5) [(0, .slice (some ⟨b, 0, none⟩) xs.length c), (1, .int .i64 (i : Int)), (7, .int .i64 1), (9, .slice (some ⟨b', 0, none⟩) (i + (xs.length + 1 - i)) cn), (43, .slice (some ⟨b', 0 + i * 1, none⟩) ((i + (xs.length + 1 - i)) - i) (cn - i)), (44, .slice (some ⟨bl, 0, none⟩) 1 1)] (by as_aux_lemma => kernel_rfl) (by as_aux_lemma => kernel_rfl) ?_
   obtain ⟨L1, hL1⟩ : ∃ L : List Value, L = c'.toList.take (i * 1) ++ ([.int .i64 x] : List Value) ++ c'.toList.drop (i * 1 + ([.int .i64 x] : List Value).length) := ⟨_, rfl⟩
   have hnl : ([.int .i64 x] : List Value).length = 1 := by simp [hcl]
   refine RW.copyR (d := some 45) (r := (sq 5 5)) (T := 22) (T2 := 22) (e := 3) (m := 1) (ty := 3) (b := b') (o1 := 0 + i * 1) (dl := (i + (xs.length + 1 - i)) - i) (dc := cn - i) (sb := bl) (o2 := 0) (sl := 1) (sc := 1) (by as_aux_lemma => kernel_rfl) (by as_aux_lemma => kernel_rfl) H 0 rfl (i * 1) (0) (([.int .i64 x] : List Value)) (by first | (simp; done) | (simp; omega)) (by simpa using H.cells 2 rfl) (by intro v hv; simp only [List.mem_singleton] at hv; subst hv; rfl) (fun _ => by omega) (fun _ => by omega) (by first | (rw [hnl]; simp; omega) | (rw [hnl]; omega)) L1 (by first | exact hL1.symm | simpa using hL1.symm) ?_
   have hlenL1 : L1.length = cn := by rw [hL1]; simp only [List.length_append, List.length_take, List.length_drop, hnl, hcl, hcl']; omega
   intro w12 H
   refine RW.fin 0 [0, 1, 7, 9] [(0, .slice (some ⟨b, 0, none⟩) xs.length c), (1, .int .i64 (i : Int)), (7, .int .i64 1), (9, .slice (some ⟨b', 0, none⟩) (i + (xs.length + 1 - i)) cn)] (by as_aux_lemma => kernel_rfl) ?_
   refine WK.run 1 [0, 1, 7, 9] [.code (cd Try.prog 35 [6, 0, 1, 0, 2, 0]), .code (cd Try.prog 35 [6, 0, 1, 0, 3]), .code (cd Try.prog 35 [7])] [(0, .slice (some ⟨b, 0, none⟩) xs.length c), (1, .int .i64 (i : Int)), (7, .int .i64 1), (9, .slice (some ⟨b', 0, none⟩) (i + (xs.length + 1 - i)) cn)] (by as_aux_lemma => kernel_rfl) ?_
   refine WK.draw1 8 [(0, .qui), (1, .qui), (2, .qui), (3, .qui), (4, .qui), (5, .qui), (6, .qui), (7, .qui)] [(0, .qui), (1, .qui), (2, .qui), (3, .qui), (4, .qui), (5, .qui), (6, .qui), (7, .qui), (8, .seq)] Try_mixed (by as_aux_lemma => kernel_rfl) (by as_aux_lemma => kernel_rfl) (by as_aux_lemma => kernel_rfl) ?_
   have H := H.draw
   generalize ({ w12 with drawn := w12.drawn + 1 } : World) = w13 at H ⊢
   refine RW.runP 3 [0, 1, 9, 46, 47, 48] [(3, .qui), (4, .qui), (5, .qui), (6, .qui), (7, .qui), (8, .seq)] [(0, .slice (some ⟨b, 0, none⟩) xs.length c), (1, .int .i64 (i : Int)), (9, .slice (some ⟨b', 0, none⟩) (i + (xs.length + 1 - i)) cn), (46, .slice (some ⟨b', 0, none⟩) (i + (xs.length + 1 - i)) cn), (47, .int .i64 (i : Int)), (48, .int .i64 1)] (by as_aux_lemma => kernel_rfl) (by as_aux_lemma => kernel_rfl) ?_
   refine RW.wr64 (κ := .qui) (d := some 49) (r := [(4, .qui), (5, .qui), (6, .qui), (7, .qui), (8, .seq)]) (t := (i : Int) + 1) (by as_aux_lemma => kernel_rfl) (by omega) ?_
   refine RW.sliceR (κ := .qui) (d := some 50) (r := [(5, .qui), (6, .qui), (7, .qui), (8, .seq)]) (T := 22) (e := 3) (m := 1) (b := b') (o := 0) (len := (i + (xs.length + 1 - i))) (cap := cn) (lv := (some (.int .i64 ((i : Int) + 1)))) (hv := none) (by as_aux_lemma => kernel_rfl) (by as_aux_lemma => kernel_rfl) (i + 1) (i + (xs.length + 1 - i)) (.mk (by omega)) .nil (by omega) (by omega) ?_
   intro o14 ho15
   obtain rfl : o14 = 0 + (i + 1) * 1 := by have := ho15 (by omega); omega
   refine RW.runP 2 [9, 50, 51, 52] [(7, .qui), (8, .seq)] [(9, .slice (some ⟨b', 0, none⟩) (i + (xs.length + 1 - i)) cn), (50, .slice (some ⟨b', 0 + (i + 1) * 1, none⟩) ((i + (xs.length + 1 - i)) - (i + 1)) (cn - (i + 1))), (51, .slice (some ⟨b, 0, none⟩) xs.length c), (52, .int .i64 (i : Int))] (by as_aux_lemma => kernel_rfl) (by as_aux_lemma => kernel_rfl) ?_
   refine RW.sliceR (κ := .qui) (d := some 53) (r := [(8, .seq)]) (T := 22) (e := 3) (m := 1) (b := b) (o := 0) (len := xs.length) (cap := c) (lv := (some (.int .i64 (i : Int)))) (hv := none) (by as_aux_lemma => kernel_rfl) (by as_aux_lemma => kernel_rfl) i xs.length (.mk (by omega)) .nil (by omega) (by omega) ?_
   intro o16 ho17
   obtain rfl : o16 = 0 + i * 1 := by have := ho17 (by omega); omega
   obtain ⟨L2, hL2⟩ : ∃ L : List Value, L = L1.take ((i + 1) * 1) ++ ((cc.toList.drop (i * 1)).take ((xs.length - i) * 1)) ++ L1.drop ((i + 1) * 1 + ((cc.toList.drop (i * 1)).take ((xs.length - i) * 1)).length) := ⟨_, rfl⟩
   have hnl : ((cc.toList.drop (i * 1)).take ((xs.length - i) * 1)).length = xs.length - i := by simp [hcl]; try omega
   refine RW.copyR (d := some 54) (r := []) (T := 22) (T2 := 22) (e := 3) (m := 1) (ty := 3) (b := b') (o1 := 0 + (i + 1) * 1) (dl := (i + (xs.length + 1 - i)) - (i + 1)) (dc := cn - (i + 1)) (sb := b) (o2 := 0 + i * 1) (sl := xs.length - i) (sc := c - i) (by as_aux_lemma => kernel_rfl) (by as_aux_lemma => kernel_rfl) H 0 rfl ((i + 1) * 1) (i * 1) (((cc.toList.drop (i * 1)).take ((xs.length - i) * 1))) (by first | (simp [hcl]; done) | (simp [hcl]; omega)) (by simpa using (H.cells 1 rfl).sub (i * 1) ((xs.length - i) * 1)) (by intro v hv; refine hone v ?_; show v ∈ List.take (xs.length * 1) _; rw [show xs.length * 1 = i * 1 + (xs.length - i) * 1 by omega, List.take_add]; exact List.mem_append_right _ hv) (fun _ => by omega) (fun _ => by omega) (by first | (rw [hnl]; simp; omega) | (rw [hnl]; omega)) L2 (by first | exact hL2.symm | simpa using hL2.symm) ?_
   have hlenL2 : L2.length = cn := by rw [hL2]; simp only [List.length_append, List.length_take, List.length_drop, hnl, hcl, hcl', hlenL1]; omega
   intro w18 H
   refine RW.fin 0 [9] [(9, .slice (some ⟨b', 0, none⟩) (i + (xs.length + 1 - i)) cn)] (by as_aux_lemma => kernel_rfl) ?_
   refine WK.run 2 [6] [.code (cd Try.prog 35 [6, 0, 1, 0, 4]), .code (cd Try.prog 35 [7])] [(6, .slice (some ⟨b', 0, none⟩) (i + (xs.length + 1 - i)) cn)] (by as_aux_lemma => kernel_rfl) ?_
   refine WK.ret (v := .slice (some ⟨b', 0, none⟩) (i + (xs.length + 1 - i)) cn) Try.func35 (by as_aux_lemma => kernel_rfl) (by as_aux_lemma => kernel_rfl) ?_
   have hcut := ins_grow (m := 1) (i := i) (n := xs.length) hpre (by omega) rfl hL1 rfl hL2
   have hlen : i + (xs.length + 1 - i) = (xs.take i ++ x :: xs.drop i).length := by rw [ins_len hi]; try omega
   rw [hlen]
   have H := H.drop (M' := [(b', .cells L2.toArray 3 (0, 0))]) (W' := []) (by repeat (first | exact List.Sublist.refl _ | apply List.Sublist.cons_cons | apply List.Sublist.cons)) (by exact List.Sublist.refl _)
   obtain ⟨hE, h1⟩ := ins_fact (sh := Shape.int .i64) (xs := xs) (H.es 0 rfl) (by show xs.length * 1 ≤ _; omega) hone (H.rp 1 rfl) hi hcut
   exact ⟨_, rfl, (H.toOwn (sh := Shape.int .i64) (cap := cn) (by simp only [List.size_toArray, hlenL2]; exact (Nat.mul_one _).symm) (by rw [ins_len hi]; omega) (by unfold maxLen; omega) h1 hE).pick [] rfl⟩
  ·
   replace h6 := of_decide_eq_false h6
   refine WK.run 2 [0, 1, 2, 7, 8] [.code (cd Try.prog 35 [7, 0]), .code (cd Try.prog 35 [8])] [(0, .slice (some ⟨b, 0, none⟩) xs.length c), (1, .int .i64 (i : Int)), (2, .slice (some ⟨bl, 0, none⟩) 1 1), (7, .int .i64 1), (8, .int .i64 ((xs.length : Nat) : Int))] (by as_aux_lemma => kernel_rfl) ?_
   refine WK.reg1 (l := sq 0 6) (by as_aux_lemma => kernel_rfl) (by as_aux_lemma => kernel_rfl) ?_
   refine RW.runP 3 [0, 1, 2, 7, 8, 56, 57, 58] (sq 3 6) [(0, .slice (some ⟨b, 0, none⟩) xs.length c), (1, .int .i64 (i : Int)), (2, .slice (some ⟨bl, 0, none⟩) 1 1), (7, .int .i64 1), (8, .int .i64 ((xs.length : Nat) : Int)), (56, .slice (some ⟨b, 0, none⟩) xs.length c), (57, .int .i64 ((xs.length : Nat) : Int)), (58, .int .i64 1)] (by as_aux_lemma => kernel_rfl) (by as_aux_lemma => kernel_rfl) ?_
   refine RW.wr64 (κ := .seq) (d := some 59) (r := (sq 4 6)) (t := ((xs.length : Nat) : Int) + 1) (by as_aux_lemma => kernel_rfl) (by omega) ?_
   refine RW.sliceR (κ := .seq) (d := some 60) (r := (sq 5 6)) (T := 22) (e := 3) (m := 1) (b := b) (o := 0) (len := xs.length) (cap := c) (lv := none) (hv := (some (.int .i64 (((xs.length : Nat) : Int) + 1)))) (by as_aux_lemma => kernel_rfl) (by as_aux_lemma => kernel_rfl) 0 (xs.length + 1) .nil (.mk (by omega)) (by omega) (by omega) ?_
   intro o19 ho20
   obtain rfl : o19 = 0 := by have := ho20 (by omega); omega
   refine RW.fin 1 [0, 1, 2, 7, 8] [(0, .slice (some ⟨b, 0, none⟩) (xs.length + 1) c), (1, .int .i64 (i : Int)), (2, .slice (some ⟨bl, 0, none⟩) 1 1), (7, .int .i64 1), (8, .int .i64 ((xs.length : Nat) : Int))] (by as_aux_lemma => kernel_rfl) ?_
   refine WK.run 2 [0, 1, 2, 7, 8] [.code (cd Try.prog 35 [8, 0, 0]), .code (cd Try.prog 35 [8, 0, 1]), .code (cd Try.prog 35 [9])] [(0, .slice (some ⟨b, 0, none⟩) (xs.length + 1) c), (1, .int .i64 (i : Int)), (2, .slice (some ⟨bl, 0, none⟩) 1 1), (7, .int .i64 1), (8, .int .i64 ((xs.length : Nat) : Int))] (by as_aux_lemma => kernel_rfl) ?_
   refine WK.reg1 (l := sq 0 8) (by as_aux_lemma => kernel_rfl) (by as_aux_lemma => kernel_rfl) ?_
   refine RW.runP 4 [0, 1, 2, 7, 8, 61, 62, 63, 64] (sq 4 8) [(0, .slice (some ⟨b, 0, none⟩) (xs.length + 1) c), (1, .int .i64 (i : Int)), (2, .slice (some ⟨bl, 0, none⟩) 1 1), (7, .int .i64 1), (8, .int .i64 ((xs.length : Nat) : Int)), (61, .slice (some ⟨bl, 0, none⟩) 1 1), (62, .slice (some ⟨b, 0, none⟩) (xs.length + 1) c), (63, .int .i64 (i : Int)), (64, .int .i64 1)] (by as_aux_lemma => kernel_rfl) (by as_aux_lemma => kernel_rfl) ?_
   refine RW.wr64 (κ := .seq) (d := some 65) (r := (sq 5 8)) (t := (i : Int) + 1) (by as_aux_lemma => kernel_rfl) (by omega) ?_
   refine RW.sliceR (κ := .seq) (d := some 66) (r := (sq 6 8)) (T := 22) (e := 3) (m := 1) (b := b) (o := 0) (len := (xs.length + 1)) (cap := c) (lv := (some (.int .i64 ((i : Int) + 1)))) (hv := none) (by as_aux_lemma => kernel_rfl) (by as_aux_lemma => kernel_rfl) (i + 1) (xs.length + 1) (.mk (by omega)) .nil (by omega) (by omega) ?_
   intro o21 ho22
   obtain rfl : o21 = 0 + (i + 1) * 1 := by have := ho22 (by omega); omega
   refine RW.actV (d := some 67) (r := (sq 7 8)) (s := callFunc 45 #[.slice (some ⟨bl, 0, none⟩) 1 1, .slice (some ⟨b, 0 + (i + 1) * 1, none⟩) ((xs.length + 1) - (i + 1)) (c - (i + 1))]) (v := .bool false) (by as_aux_lemma => kernel_rfl) (overlaps_no (fn := Try.f45) (e := 3) (m := 1) (T := 22) (R := 4) Try.func45 (by as_aux_lemma => kernel_rfl) (by as_aux_lemma => kernel_rfl) (by as_aux_lemma => kernel_rfl) (by as_aux_lemma => kernel_rfl) (by as_aux_lemma => kernel_rfl) H 1 0 (by decide) rfl rfl (by omega) _ _ _ _ _ _) ?_
   refine RW.fin 1 [0, 1, 2, 7, 8, 68] [(0, .slice (some ⟨b, 0, none⟩) (xs.length + 1) c), (1, .int .i64 (i : Int)), (2, .slice (some ⟨bl, 0, none⟩) 1 1), (7, .int .i64 1), (8, .int .i64 ((xs.length : Nat) : Int)), (68, .bool true)] (by as_aux_lemma => kernel_rfl) ?_
   refine WK.run 2 [0, 1, 2, 7] [.code (cd Try.prog 35 [8, 0, 1, 0, 0]), .code (cd Try.prog 35 [8, 0, 1, 0, 1]), .code (cd Try.prog 35 [9])] [(0, .slice (some ⟨b, 0, none⟩) (xs.length + 1) c), (1, .int .i64 (i : Int)), (2, .slice (some ⟨bl, 0, none⟩) 1 1), (7, .int .i64 1)] (by as_aux_lemma => kernel_rfl) ?_
   refine WK.draw1 8 [(0, .qui), (1, .qui), (2, .qui), (3, .qui), (4, .qui), (5, .qui), (6, .qui), (7, .qui)] [(0, .qui), (1, .qui), (2, .qui), (3, .qui), (4, .qui), (5, .qui), (6, .qui), (7, .qui), (8, .seq)] Try_mixed (by as_aux_lemma => kernel_rfl) (by as_aux_lemma => kernel_rfl) (by as_aux_lemma => kernel_rfl) ?_
   have H := H.draw
   generalize ({ w with drawn := w.drawn + 1 } : World) = w23 at H ⊢
   refine RW.runP 3 [0, 1, 2, 69, 70, 71] [(3, .qui), (4, .qui), (5, .qui), (6, .qui), (7, .qui), (8, .seq)] [(0, .slice (some ⟨b, 0, none⟩) (xs.length + 1) c), (1, .int .i64 (i : Int)), (2, .slice (some ⟨bl, 0, none⟩) 1 1), (69, .slice (some ⟨b, 0, none⟩) (xs.length + 1) c), (70, .int .i64 (i : Int)), (71, .int .i64 1)] (by as_aux_lemma => kernel_rfl) (by as_aux_lemma => kernel_rfl) ?_
   refine RW.wr64 (κ := .qui) (d := some 72) (r := [(4, .qui), (5, .qui), (6, .qui), (7, .qui), (8, .seq)]) (t := (i : Int) + 1) (by as_aux_lemma => kernel_rfl) (by omega) ?_
   refine RW.sliceR (κ := .qui) (d := some 73) (r := [(5, .qui), (6, .qui), (7, .qui), (8, .seq)]) (T := 22) (e := 3) (m := 1) (b := b) (o := 0) (len := (xs.length + 1)) (cap := c) (lv := (some (.int .i64 ((i : Int) + 1)))) (hv := none) (by as_aux_lemma => kernel_rfl) (by as_aux_lemma => kernel_rfl) (i + 1) (xs.length + 1) (.mk (by omega)) .nil (by omega) (by omega) ?_
   intro o24 ho25
   obtain rfl : o24 = 0 + (i + 1) * 1 := by have := ho25 (by omega); omega
   refine RW.runP 2 [0, 1, 2, 73, 74, 75] [(7, .qui), (8, .seq)] [(0, .slice (some ⟨b, 0, none⟩) (xs.length + 1) c), (1, .int .i64 (i : Int)), (2, .slice (some ⟨bl, 0, none⟩) 1 1), (73, .slice (some ⟨b, 0 + (i + 1) * 1, none⟩) ((xs.length + 1) - (i + 1)) (c - (i + 1))), (74, .slice (some ⟨b, 0, none⟩) (xs.length + 1) c), (75, .int .i64 (i : Int))] (by as_aux_lemma => kernel_rfl) (by as_aux_lemma => kernel_rfl) ?_
   refine RW.sliceR (κ := .qui) (d := some 76) (r := [(8, .seq)]) (T := 22) (e := 3) (m := 1) (b := b) (o := 0) (len := (xs.length + 1)) (cap := c) (lv := (some (.int .i64 (i : Int)))) (hv := none) (by as_aux_lemma => kernel_rfl) (by as_aux_lemma => kernel_rfl) i (xs.length + 1) (.mk (by omega)) .nil (by omega) (by omega) ?_
   intro o26 ho27
   obtain rfl : o26 = 0 + i * 1 := by have := ho27 (by omega); omega
   obtain ⟨L1, hL1⟩ : ∃ L : List Value, L = cc.toList.take ((i + 1) * 1) ++ ((cc.toList.drop (i * 1)).take ((xs.length - i) * 1)) ++ cc.toList.drop ((i + 1) * 1 + ((cc.toList.drop (i * 1)).take ((xs.length - i) * 1)).length) := ⟨_, rfl⟩
   have hnl : ((cc.toList.drop (i * 1)).take ((xs.length - i) * 1)).length = xs.length - i := by simp [hcl]; try omega
   refine RW.copyR (d := some 77) (r := []) (T := 22) (T2 := 22) (e := 3) (m := 1) (ty := 3) (b := b) (o1 := 0 + (i + 1) * 1) (dl := (xs.length + 1) - (i + 1)) (dc := c - (i + 1)) (sb := b) (o2 := 0 + i * 1) (sl := (xs.length + 1) - i) (sc := c - i) (by as_aux_lemma => kernel_rfl) (by as_aux_lemma => kernel_rfl) H 0 rfl ((i + 1) * 1) (i * 1) (((cc.toList.drop (i * 1)).take ((xs.length - i) * 1))) (by first | (simp [hcl]; done) | (simp [hcl]; omega)) (by simpa using (H.cells 0 rfl).sub (i * 1) ((xs.length - i) * 1)) (by intro v hv; refine hone v ?_; show v ∈ List.take (xs.length * 1) _; rw [show xs.length * 1 = i * 1 + (xs.length - i) * 1 by omega, List.take_add]; exact List.mem_append_right _ hv) (fun _ => by omega) (fun _ => by omega) (by first | (rw [hnl]; simp; omega) | (rw [hnl]; omega)) L1 (by first | exact hL1.symm | simpa using hL1.symm) ?_
   have hlenL1 : L1.length = c := by rw [hL1]; simp only [List.length_append, List.length_take, List.length_drop, hnl, hcl]; omega
   intro w28 H
   refine RW.fin 0 [0, 1, 2] [(0, .slice (some ⟨b, 0, none⟩) (xs.length + 1) c), (1, .int .i64 (i : Int)), (2, .slice (some ⟨bl, 0, none⟩) 1 1)] (by as_aux_lemma => kernel_rfl) ?_
   refine WK.run 1 [0, 1, 2] [.code (cd Try.prog 35 [8, 0, 1, 0, 1, 0]), .code (cd Try.prog 35 [8, 0, 1, 0, 2]), .code (cd Try.prog 35 [9])] [(0, .slice (some ⟨b, 0, none⟩) (xs.length + 1) c), (1, .int .i64 (i : Int)), (2, .slice (some ⟨bl, 0, none⟩) 1 1)] (by as_aux_lemma => kernel_rfl) ?_
   refine WK.reg1 (l := sq 0 5) (by as_aux_lemma => kernel_rfl) (by as_aux_lemma => kernel_rfl) ?_
   refine RW.runP 2 [0, 2, 78, 79] (sq 2 5) [(0, .slice (some ⟨b, 0, none⟩) (xs.length + 1) c), (2, .slice (some ⟨bl, 0, none⟩) 1 1), (78, .slice (some ⟨b, 0, none⟩) (xs.length + 1) c), (79, .int .i64 (i : Int))] (by as_aux_lemma => kernel_rfl) (by as_aux_lemma => kernel_rfl) ?_
   refine RW.sliceR (κ := .seq) (d := some 80) (r := (sq 3 5)) (T := 22) (e := 3) (m := 1) (b := b) (o := 0) (len := (xs.length + 1)) (cap := c) (lv := (some (.int .i64 (i : Int)))) (hv := none) (by as_aux_lemma => kernel_rfl) (by as_aux_lemma => kernel_rfl) i (xs.length + 1) (.mk (by omega)) .nil (by omega) (by omega) ?_
   intro o29 ho30
   obtain rfl : o29 = 0 + i * 1 := by have := ho30 (by omega); omega
   refine RW.runP 1 [0, 80, 81] (sq 4 5) [(0, .slice (some ⟨b, 0, none⟩) (xs.length + 1) c), (80, .slice (some ⟨b, 0 + i * 1, none⟩) ((xs.length + 1) - i) (c - i)), (81, .slice (some ⟨bl, 0, none⟩) 1 1)] (by as_aux_lemma => kernel_rfl) (by as_aux_lemma => kernel_rfl) ?_
   obtain ⟨L2, hL2⟩ : ∃ L : List Value, L = L1.take (i * 1) ++ ([.int .i64 x] : List Value) ++ L1.drop (i * 1 + ([.int .i64 x] : List Value).length) := ⟨_, rfl⟩
   have hnl : ([.int .i64 x] : List Value).length = 1 := by simp [hcl]
   refine RW.copyR (d := some 82) (r := (sq 5 5)) (T := 22) (T2 := 22) (e := 3) (m := 1) (ty := 3) (b := b) (o1 := 0 + i * 1) (dl := (xs.length + 1) - i) (dc := c - i) (sb := bl) (o2 := 0) (sl := 1) (sc := 1) (by as_aux_lemma => kernel_rfl) (by as_aux_lemma => kernel_rfl) H 0 rfl (i * 1) (0) (([.int .i64 x] : List Value)) (by first | (simp; done) | (simp; omega)) (by simpa using H.cells 1 rfl) (by intro v hv; simp only [List.mem_singleton] at hv; subst hv; rfl) (fun _ => by omega) (fun _ => by omega) (by first | (rw [hnl]; simp; omega) | (rw [hnl]; omega)) L2 (by first | exact hL2.symm | simpa using hL2.symm) ?_
   have hlenL2 : L2.length = c := by rw [hL2]; simp only [List.length_append, List.length_take, List.length_drop, hnl, hcl, hlenL1]; omega
   intro w31 H
   refine RW.fin 0 [0] [(0, .slice (some ⟨b, 0, none⟩) (xs.length + 1) c)] (by as_aux_lemma => kernel_rfl) ?_
   refine WK.run 2 [6] [.code (cd Try.prog 35 [8, 0, 1, 0, 3]), .code (cd Try.prog 35 [9])] [(6, .slice (some ⟨b, 0, none⟩) (xs.length + 1) c)] (by as_aux_lemma => kernel_rfl) ?_
   refine WK.ret (v := .slice (some ⟨b, 0, none⟩) (xs.length + 1) c) Try.func35 (by as_aux_lemma => kernel_rfl) (by as_aux_lemma => kernel_rfl) ?_
   have hcut := ins_room (m := 1) (i := i) (n := xs.length) (by omega) rfl rfl hL1 hL2
   have hlen : xs.length + 1 = (xs.take i ++ x :: xs.drop i).length := by rw [ins_len hi]; try omega
   rw [hlen]
   have H := H.drop (M' := [(b, .cells L2.toArray 3 (0, 0))]) (W' := []) (by repeat (first | exact List.Sublist.refl _ | apply List.Sublist.cons_cons | apply List.Sublist.cons)) (by exact List.Sublist.refl _)
   obtain ⟨hE, h1⟩ := ins_fact (sh := Shape.int .i64) (xs := xs) (H.es 0 rfl) (by show xs.length * 1 ≤ _; omega) hone (H.rp 1 rfl) hi hcut
   exact ⟨_, rfl, (H.toOwn (sh := Shape.int .i64) (cap := c) (by simp only [List.size_toArray, hlenL2]; exact (Nat.mul_one _).symm) (by rw [ins_len hi]; omega) (by unfold maxLen; omega) h1 hE).pick [] rfl⟩
end Go.Proofs.Ythbegjaoifghlaa
