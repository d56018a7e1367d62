import Derived.Test.YthbegjaoifghlaaQ7
namespace Go.Proofs.Ythbegjaoifghlaa
open Go.BX

theorem ins_take {x : Int} : ∀ {xs : List Int} {k : Nat}, (∀ y ∈ xs.take k, y < x) → (∀ y, xs[k]? = some y → x < y) → ins x xs = xs.take k ++ x :: xs.drop k
  | [], k, _, _ => by simp [ins]
  | y :: r, 0, _, h => by
    have h1 := h y rfl
    unfold ins
    rw [if_pos (by omega)]
    rfl
  | y :: r, k + 1, h1, h2 => by
    have h3 := h1 y (by simp)
    unfold ins
    rw [if_neg (by omega), ins_take (k := k) (fun z hz => h1 z (by simp [hz])) (fun z hz => h2 z (by simpa using hz))]
    rfl
theorem drp_step {x : Int} {xs : List Int} {k : Nat} (hk : k < xs.length) (h : xs[k] ≠ x) : drp x (xs.take k) ++ [xs[k]] = drp x (xs.take (k + 1)) := by
  unfold drp
  rw [List.take_succ_eq_append_getElem hk, List.filter_append]
  simp [h]
theorem drp_skip {x : Int} {xs : List Int} {k : Nat} (hk : k < xs.length) (h : xs[k] = x) : drp x (xs.take k) = drp x (xs.take (k + 1)) := by
  unfold drp
  rw [List.take_succ_eq_append_getElem hk, List.filter_append]
  simp [h]
def WInv (x : Int) (xs : List Int) (k : Nat) (p : Bool) (ys : List Int) : Prop :=
  k ≤ xs.length ∧ ys.length ≤ k + 1 ∧ (p = false → ys = xs.take k ∧ ∀ y ∈ xs.take k, y < x) ∧ (p = true → ys ++ xs.drop k = ins x xs)
theorem WInv.a {x : Int} {xs ys : List Int} {k : Nat} {p : Bool} (h : WInv x xs k p ys) (hp : p = false) (hk : k < xs.length) (hgt : xs[k] > x) : WInv x xs (k + 1) true (ys ++ [x] ++ [xs[k]]) := by
  obtain ⟨h1, _, h3, _⟩ := h
  obtain ⟨rfl, h5⟩ := h3 hp
  refine ⟨by omega, by simp only [List.length_append, List.length_take, List.length_singleton]; omega, fun h => (by cases h), fun _ => ?_⟩
  rw [ins_take h5 (fun y hy => by rw [List.getElem?_eq_getElem hk] at hy; cases hy; exact hgt), List.drop_eq_getElem_cons hk]
  simp
theorem WInv.b {x : Int} {xs ys : List Int} {k : Nat} {p : Bool} (h : WInv x xs k p ys) (hp : p = false) (hk : k < xs.length) (hle : ¬ xs[k] > x) (hn : x ∉ xs) : WInv x xs (k + 1) p (ys ++ [xs[k]]) := by
  obtain ⟨h1, _, h3, _⟩ := h
  obtain ⟨rfl, h5⟩ := h3 hp
  refine ⟨by omega, by simp only [List.length_append, List.length_take, List.length_singleton]; omega, fun _ => ⟨(List.take_succ_eq_append_getElem hk).symm, fun y hy => ?_⟩, fun h => absurd (hp.symm.trans h) (by decide)⟩
  rcases (take_succ_mem hk).1 hy with hy | rfl
  · exact h5 y hy
  · have : x ≠ xs[k] := fun e => hn (e ▸ List.getElem_mem hk)
    omega
theorem WInv.c {x : Int} {xs ys : List Int} {k : Nat} {p : Bool} (h : WInv x xs k p ys) (hp : p = true) (hk : k < xs.length) : WInv x xs (k + 1) p (ys ++ [xs[k]]) := by
  obtain ⟨h1, h2, _, h4⟩ := h
  refine ⟨by omega, by simp only [List.length_append, List.length_singleton]; omega, fun h => absurd (hp.symm.trans h) (by decide), fun _ => ?_⟩
  rw [← h4 hp, List.drop_eq_getElem_cons hk]
  simp
theorem WInv.t {x : Int} {xs ys : List Int} {k : Nat} {p : Bool} (h : WInv x xs k p ys) (hp : p = true) (hk : xs.length ≤ k) : ys = ins x xs := by
  have h4 := h.2.2.2 hp
  rwa [List.drop_of_length_le hk, List.append_nil] at h4
theorem WInv.f {x : Int} {xs ys : List Int} {k : Nat} {p : Bool} (h : WInv x xs k p ys) (hp : p = false) (hk : xs.length ≤ k) : ys ++ [x] = ins x xs := by
  obtain ⟨rfl, h5⟩ := h.2.2.1 hp
  rw [ins_take h5 (fun y hy => by rw [List.getElem?_eq_none hk] at hy; cases hy), List.drop_of_length_le hk]
theorem WInv.s {x : Int} {xs : List Int} : WInv x xs 0 false [] := ⟨Nat.zero_le _, Nat.zero_le _, fun _ => ⟨rfl, fun y hy => (by simp at hy)⟩, fun h => (by cases h)⟩
theorem drp_le {x : Int} {xs : List Int} : (drp x xs).length ≤ xs.length := List.length_filter_le _ _

theorem refwithout_spec {S : Nat → Prop} {w : World} {xs : List Int} {a : Option Addr} {c : Nat} (h : (Shape.slice (.int .i64)).rep S w [.slice a xs.length c] xs) (x : Int) (hlen : (xs.length + 2) * 8 ≤ 140737488355328) :
    Calls Try.prog 27 #[.slice a xs.length c, .int .i64 x] w (Ret fun v w' => Ext w w' ∧ Hp w S [] [] [⟨Shape.int .i64, 3, v, drp x xs⟩] [] w') := by
  refine WK.calls1 (fn := Try.f27) (n := 27) (σ := [(0, .slice a xs.length c), (1, .int .i64 x)]) Try.func27 rfl (by as_aux_lemma => kernel_rfl) (by as_aux_lemma => kernel_rfl) (by as_aux_lemma => kernel_rfl) ?_
  have H := Hp.startF (w := w) (S := S) (G := [Rp (Shape.slice (Shape.int .i64)) [.slice a xs.length c] xs]) (.rp h .nil)
  refine WK.run 8 [0, 1, 5, 6] [.code (cd Try.prog 27 [2, 0, 1, 0]), .inBlock 0, .code (cd Try.prog 27 [3])] [(0, .slice a xs.length c), (1, .int .i64 x), (5, .slice none 0 0), (6, .int .i64 0)] (by as_aux_lemma => kernel_rfl) ?_
  have H := H.ownNil (Shape.int .i64) 3
  refine WK.loop (α := Nat × Option Addr × Nat) (b := cd Try.prog 27 [2, 0, 1, 0, 0]) (by as_aux_lemma => kernel_rfl) (fun st_ => match st_ with | (k, a9, c9) => [(0, .slice a xs.length c), (1, .int .i64 x), (5, .slice a9 ((drp x (xs.take k)).length) c9), (6, .int .i64 (k : Int))]) (fun st_ w' => match st_ with | (k, a9, c9) => Hp w S [] [] [⟨Shape.int .i64, 3, .slice a9 ((drp x (xs.take k)).length) c9, drp x (xs.take k)⟩] [Rp (Shape.slice (Shape.int .i64)) [.slice a xs.length c] xs] w' ∧ k ≤ xs.length) (fun st_ => match st_ with | (k, a9, c9) => xs.length - k) (0, none, 0) ⟨H, Nat.zero_le _⟩ rfl ?_
  rintro ⟨k, a9, c9⟩ w2 ⟨H, hinv0⟩ hback1
  have hdl : (drp x (xs.take k)).length ≤ k := Nat.le_trans drp_le (List.length_take_le _ _)
  refine WK.run 3 [0, 1, 5, 6, 10] [.code (cd Try.prog 27 [2, 0, 1, 0, 0, 0, 1]), .code (cd Try.prog 27 [2, 0, 1, 0, 0, 1]), .inLoop (cd Try.prog 27 [2, 0, 1, 0, 0]), .inBlock 0, .code (cd Try.prog 27 [3])] [(0, .slice a xs.length c), (1, .int .i64 x), (5, .slice a9 ((drp x (xs.take k)).length) c9), (6, .int .i64 (k : Int)), (10, .bool (decide (((k : Int) : Int) < ((xs.length : Nat) : Int))))] (by as_aux_lemma => kernel_rfl) ?_
  refine WK.cond1 (decide (((k : Int) : Int) < ((xs.length : Nat) : Int))) (by as_aux_lemma => kernel_rfl) (by as_aux_lemma => kernel_rfl) (fun h3 => ?_) (fun h3 => ?_)
  · skip
    replace h3 := of_decide_eq_true h3
    refine WK.run 4 [0, 1, 5, 6] [.code (cd Try.prog 27 [2, 0, 1, 0, 0, 1, 0, 0, 0]), .code (cd Try.prog 27 [2, 0, 1, 0, 0, 1, 0, 0, 1]), .inBlock 1, .code (cd Try.prog 27 [2, 0, 1, 0, 0, 2]), .inLoop (cd Try.prog 27 [2, 0, 1, 0, 0]), .inBlock 0, .code (cd Try.prog 27 [3])] [(0, .slice a xs.length c), (1, .int .i64 x), (5, .slice a9 ((drp x (xs.take k)).length) c9), (6, .int .i64 (k : Int))] (by as_aux_lemma => kernel_rfl) ?_
    refine WK.reg1 (l := sq 0 6) (by as_aux_lemma => kernel_rfl) (by as_aux_lemma => kernel_rfl) ?_
    refine RW.runP 2 [0, 1, 5, 6, 13, 14] (sq 2 6) [(0, .slice a xs.length c), (1, .int .i64 x), (5, .slice a9 ((drp x (xs.take k)).length) c9), (6, .int .i64 (k : Int)), (13, .slice a xs.length c), (14, .int .i64 (k : Int))] (by as_aux_lemma => kernel_rfl) (by as_aux_lemma => kernel_rfl) ?_
    have hx4 : k < xs.length := by omega
    refine RW.index (κ := .seq) (d := some 15) (r := (sq 3 6)) (T := 22) (e := 3) (ik := .i64) (ix := (k : Int)) (sh := (Shape.int .i64)) (x := xs[k]) (by as_aux_lemma => kernel_rfl) (by as_aux_lemma => kernel_rfl) H 0 rfl k (by omega) (List.getElem?_eq_getElem hx4) ?_
    intro b5 o6 es7 hr8 H
    have hb9 := Shape.i64_bd hr8
    obtain ⟨rfl, -⟩ := hr8
    refine RW.load (κ := .seq) (d := some 16) (r := (sq 4 6)) (T := 3) (b := b5) (o' := o6) (k := 0) (v := .int .i64 (xs[k])) (by as_aux_lemma => kernel_rfl) (H.fc 0 rfl) rfl (by as_aux_lemma => kernel_rfl) ?_
    refine RW.fin 2 [0, 1, 5, 6, 18] [(0, .slice a xs.length c), (1, .int .i64 x), (5, .slice a9 ((drp x (xs.take k)).length) c9), (6, .int .i64 (k : Int)), (18, .bool ((xs[k]) != x))] (by as_aux_lemma => kernel_rfl) ?_
    refine WK.cond1 ((xs[k]) != x) (by as_aux_lemma => kernel_rfl) (by as_aux_lemma => kernel_rfl) (fun h10 => ?_) (fun h10 => ?_)
    · skip
      replace h10 := bne_iff_ne.1 h10
      refine WK.reg1 (l := sq 0 8) (by as_aux_lemma => kernel_rfl) (by as_aux_lemma => kernel_rfl) ?_
      refine RW.runP 3 [0, 1, 5, 6, 19, 20, 21] (sq 3 8) [(0, .slice a xs.length c), (1, .int .i64 x), (5, .slice a9 ((drp x (xs.take k)).length) c9), (6, .int .i64 (k : Int)), (19, .slice a9 ((drp x (xs.take k)).length) c9), (20, .slice a xs.length c), (21, .int .i64 (k : Int))] (by as_aux_lemma => kernel_rfl) (by as_aux_lemma => kernel_rfl) ?_
      have hx11 : k < xs.length := by omega
      refine RW.index (κ := .seq) (d := some 22) (r := (sq 4 8)) (T := 22) (e := 3) (ik := .i64) (ix := (k : Int)) (sh := (Shape.int .i64)) (x := xs[k]) (by as_aux_lemma => kernel_rfl) (by as_aux_lemma => kernel_rfl) H 1 rfl k (by omega) (List.getElem?_eq_getElem hx11) ?_
      intro b12 o13 es14 hr15 H
      have hb16 := Shape.i64_bd hr15
      obtain ⟨rfl, -⟩ := hr15
      refine RW.load (κ := .seq) (d := some 23) (r := (sq 5 8)) (T := 3) (b := b12) (o' := o13) (k := 0) (v := .int .i64 (xs[k])) (by as_aux_lemma => kernel_rfl) (H.fc 0 rfl) rfl (by as_aux_lemma => kernel_rfl) ?_
      refine RW.new (κ := .seq) (d := some 24) (r := (sq 6 8)) (o := .cells #[.int .i64 (xs[k])] 3 (0, 0)) (v := fun b => .slice (some ⟨b, 0, none⟩) 1 1) (fun b => by as_aux_lemma => kernel_rfl) (nofun) H ?_
      intro b17 w18 H
      have H := H.freeze 0 rfl (Shape.int .i64) ([xs[k]] : List Int) 1 (by simp [maxLen]) (by first | exact Nat.le_refl _ | simp) (EsP.cons (c := [.int .i64 (xs[k])]) (Shape.int_mk ⟨by simp [IntKind.min, IntKind.max, IntKind.signed, IntKind.bits]; omega, by simp [IntKind.min, IntKind.max, IntKind.signed, IntKind.bits]; omega⟩) EsP.nil)
      have H : Hp w S [] [] [⟨Shape.int .i64, 3, .slice a9 ((drp x (xs.take k)).length) c9, drp x (xs.take k)⟩] [Rp (Shape.slice (Shape.int .i64)) [.slice (some ⟨b17, 0, none⟩) 1 1] ([xs[k]] : List Int), Fc b12 o13 [.int .i64 (xs[k])], Fc b5 o6 [.int .i64 (xs[k])], Rp (Shape.slice (Shape.int .i64)) [.slice a xs.length c] xs] _ := H
      refine RW.appendW (d := some 25) (r := (sq 7 8)) (T := 22) (ty := 22) (e := 3) (m := 1) (by_ := 8) (v := .slice a9 ((drp x (xs.take k)).length) c9) (a2 := (some ⟨b17, 0, none⟩)) (l2 := 1) (c2 := 1) (zs := drp x (xs.take (k + 1))) (by as_aux_lemma => kernel_rfl) (by as_aux_lemma => kernel_rfl) rfl H 0 rfl 0 rfl (drp_step (by omega) (by assumption)) (by rw [← drp_step (x := x) (xs := xs) (k := k) (by omega) (by assumption)]; simp; omega) ?_
      intro a19 c20 w22 H hc21
      have H : Hp w S [] [] [⟨Shape.int .i64, 3, .slice a19 ((drp x (xs.take (k + 1))).length) c20, drp x (xs.take (k + 1))⟩] [Rp (Shape.slice (Shape.int .i64)) [.slice (some ⟨b17, 0, none⟩) 1 1] ([xs[k]] : List Int), Fc b12 o13 [.int .i64 (xs[k])], Fc b5 o6 [.int .i64 (xs[k])], Rp (Shape.slice (Shape.int .i64)) [.slice a xs.length c] xs] _ := H
      refine RW.fin 1 [0, 1, 5, 6] [(0, .slice a xs.length c), (1, .int .i64 x), (5, .slice a19 ((drp x (xs.take (k + 1))).length) c20), (6, .int .i64 (k : Int))] (by as_aux_lemma => kernel_rfl) ?_
      refine WK.run 1 [0, 1, 5, 6] [.code (cd Try.prog 27 [2, 0, 1, 0, 0, 2]), .inLoop (cd Try.prog 27 [2, 0, 1, 0, 0]), .inBlock 0, .code (cd Try.prog 27 [3])] [(0, .slice a xs.length c), (1, .int .i64 x), (5, .slice a19 ((drp x (xs.take (k + 1))).length) c20), (6, .int .i64 (k : Int))] (by as_aux_lemma => kernel_rfl) ?_
      refine WK.reg1 (l := sq 0 3) (by as_aux_lemma => kernel_rfl) (by as_aux_lemma => kernel_rfl) ?_
      refine RW.runP 1 [0, 1, 5, 6, 11] (sq 1 3) [(0, .slice a xs.length c), (1, .int .i64 x), (5, .slice a19 ((drp x (xs.take (k + 1))).length) c20), (6, .int .i64 (k : Int)), (11, .int .i64 (k : Int))] (by as_aux_lemma => kernel_rfl) (by as_aux_lemma => kernel_rfl) ?_
      refine RW.wr64 (κ := .seq) (d := some 12) (r := (sq 2 3)) (t := (k : Int) + 1) (by as_aux_lemma => kernel_rfl) (by omega) ?_
      refine RW.fin 1 [0, 1, 5, 6] [(0, .slice a xs.length c), (1, .int .i64 x), (5, .slice a19 ((drp x (xs.take (k + 1))).length) c20), (6, .int .i64 ((k : Int) + 1))] (by as_aux_lemma => kernel_rfl) ?_
      
      have H := H.pick [3] (G' := [Rp (Shape.slice (Shape.int .i64)) [.slice a xs.length c] xs]) rfl
      exact WK.back (hback1 (k + 1, a19, c20) _ ⟨H, by omega⟩ (by first | omega | (simp only []; omega))) (by first | (rw [hks]; rfl) | rfl)
    · skip
      replace h10 := (bne_eq_false_iff_eq.1 h10)
      refine WK.run 2 [0, 1, 5, 6] [.code (cd Try.prog 27 [2, 0, 1, 0, 0, 2]), .inLoop (cd Try.prog 27 [2, 0, 1, 0, 0]), .inBlock 0, .code (cd Try.prog 27 [3])] [(0, .slice a xs.length c), (1, .int .i64 x), (5, .slice a9 ((drp x (xs.take k)).length) c9), (6, .int .i64 (k : Int))] (by as_aux_lemma => kernel_rfl) ?_
      refine WK.reg1 (l := sq 0 3) (by as_aux_lemma => kernel_rfl) (by as_aux_lemma => kernel_rfl) ?_
      refine RW.runP 1 [0, 1, 5, 6, 11] (sq 1 3) [(0, .slice a xs.length c), (1, .int .i64 x), (5, .slice a9 ((drp x (xs.take k)).length) c9), (6, .int .i64 (k : Int)), (11, .int .i64 (k : Int))] (by as_aux_lemma => kernel_rfl) (by as_aux_lemma => kernel_rfl) ?_
      refine RW.wr64 (κ := .seq) (d := some 12) (r := (sq 2 3)) (t := (k : Int) + 1) (by as_aux_lemma => kernel_rfl) (by omega) ?_
      refine RW.fin 1 [0, 1, 5, 6] [(0, .slice a xs.length c), (1, .int .i64 x), (5, .slice a9 ((drp x (xs.take k)).length) c9), (6, .int .i64 ((k : Int) + 1))] (by as_aux_lemma => kernel_rfl) ?_
      have hks := drp_skip (x := x) (xs := xs) (k := k) (by omega) (by assumption)
      have H := H.reW hks (by rw [hks])
      have H := H.pick [1] (G' := [Rp (Shape.slice (Shape.int .i64)) [.slice a xs.length c] xs]) rfl
      have H := H.drop (M' := []) (W' := [⟨Shape.int .i64, 3, .slice a9 ((drp x (xs.take (k + 1))).length) c9, drp x (xs.take (k + 1))⟩]) (by repeat (first | exact List.Sublist.refl _ | apply List.Sublist.cons_cons | apply List.Sublist.cons)) (by repeat (first | exact List.Sublist.refl _ | apply List.Sublist.cons_cons | apply List.Sublist.cons))
      exact WK.back (hback1 (k + 1, a9, c9) _ ⟨H, by omega⟩ (by first | omega | (simp only []; omega))) (by first | (rw [hks]; rfl) | rfl)
  · skip
    replace h3 := of_decide_eq_false h3
    refine WK.run 3 [4] [.code (cd Try.prog 27 [4])] [(4, .slice a9 ((drp x (xs.take k)).length) c9)] (by as_aux_lemma => kernel_rfl) ?_
    refine WK.ret (v := .slice a9 ((drp x (xs.take k)).length) c9) Try.func27 (by as_aux_lemma => kernel_rfl) (by as_aux_lemma => kernel_rfl) ?_
    exact ⟨_, rfl, H.done, (H.pick [] rfl).reW (by rw [List.take_of_length_le (by omega)]) (by rfl)⟩

theorem refwith_spec {S : Nat → Prop} {w : World} {xs : List Int} {a : Option Addr} {c : Nat} (h : (Shape.slice (.int .i64)).rep S w [.slice a xs.length c] xs) (x : Int) (hx : -9223372036854775808 ≤ x ∧ x ≤ 9223372036854775807) (hn : x ∉ xs) (hlen : (xs.length + 2) * 8 ≤ 140737488355328) :
    Calls Try.prog 26 #[.slice a xs.length c, .int .i64 x] w (Ret fun v w' => Ext w w' ∧ Hp w S [] [] [⟨Shape.int .i64, 3, v, ins x xs⟩] [] w') := by
  refine WK.calls1 (fn := Try.f26) (n := 42) (σ := [(0, .slice a xs.length c), (1, .int .i64 x)]) Try.func26 rfl (by as_aux_lemma => kernel_rfl) (by as_aux_lemma => kernel_rfl) (by as_aux_lemma => kernel_rfl) ?_
  have H := Hp.startF (w := w) (S := S) (G := [Rp (Shape.slice (Shape.int .i64)) [.slice a xs.length c] xs]) (.rp h .nil)
  refine WK.run 10 [0, 1, 5, 6, 7] [.code (cd Try.prog 26 [3, 0, 1, 0]), .inBlock 0, .code (cd Try.prog 26 [4])] [(0, .slice a xs.length c), (1, .int .i64 x), (5, .slice none 0 0), (6, .bool false), (7, .int .i64 0)] (by as_aux_lemma => kernel_rfl) ?_
  have H := H.ownNil (Shape.int .i64) 3
  refine WK.loop (α := Nat × Bool × List Int × Option Addr × Nat) (b := cd Try.prog 26 [3, 0, 1, 0, 0]) (by as_aux_lemma => kernel_rfl) (fun st_ => match st_ with | (k, p, ys, a9, c9) => [(0, .slice a xs.length c), (1, .int .i64 x), (5, .slice a9 ys.length c9), (6, .bool p), (7, .int .i64 (k : Int))]) (fun st_ w' => match st_ with | (k, p, ys, a9, c9) => Hp w S [] [] [⟨Shape.int .i64, 3, .slice a9 ys.length c9, ys⟩] [Rp (Shape.slice (Shape.int .i64)) [.slice a xs.length c] xs] w' ∧ WInv x xs k p ys) (fun st_ => match st_ with | (k, p, ys, a9, c9) => xs.length - k) (0, false, [], none, 0) ⟨H, WInv.s⟩ rfl ?_
  rintro ⟨k, p, ys, a9, c9⟩ w2 ⟨H, hinv0⟩ hback1
  have hk9 := hinv0.1
  have hy9 := hinv0.2.1
  refine WK.run 3 [0, 1, 5, 6, 7, 11] [.code (cd Try.prog 26 [3, 0, 1, 0, 0, 0, 1]), .code (cd Try.prog 26 [3, 0, 1, 0, 0, 1]), .inLoop (cd Try.prog 26 [3, 0, 1, 0, 0]), .inBlock 0, .code (cd Try.prog 26 [4])] [(0, .slice a xs.length c), (1, .int .i64 x), (5, .slice a9 ys.length c9), (6, .bool p), (7, .int .i64 (k : Int)), (11, .bool (decide (((k : Int) : Int) < ((xs.length : Nat) : Int))))] (by as_aux_lemma => kernel_rfl) ?_
  refine WK.cond1 (decide (((k : Int) : Int) < ((xs.length : Nat) : Int))) (by as_aux_lemma => kernel_rfl) (by as_aux_lemma => kernel_rfl) (fun h3 => ?_) (fun h3 => ?_)
  · skip
    replace h3 := of_decide_eq_true h3
    refine WK.run 5 [0, 1, 5, 6, 7] [.code (cd Try.prog 26 [3, 0, 1, 0, 0, 1, 0, 0, 0, 0]), .code (cd Try.prog 26 [3, 0, 1, 0, 0, 1, 0, 0, 0, 1]), .code (cd Try.prog 26 [3, 0, 1, 0, 0, 1, 0, 0, 1]), .inBlock 1, .code (cd Try.prog 26 [3, 0, 1, 0, 0, 2]), .inLoop (cd Try.prog 26 [3, 0, 1, 0, 0]), .inBlock 0, .code (cd Try.prog 26 [4])] [(0, .slice a xs.length c), (1, .int .i64 x), (5, .slice a9 ys.length c9), (6, .bool p), (7, .int .i64 (k : Int))] (by as_aux_lemma => kernel_rfl) ?_
    refine WK.reg1 (l := sq 0 10) (by as_aux_lemma => kernel_rfl) (by as_aux_lemma => kernel_rfl) ?_
    refine RW.runP 3 [0, 1, 5, 6, 7, 16] (sq 3 10) [(0, .slice a xs.length c), (1, .int .i64 x), (5, .slice a9 ys.length c9), (6, .bool p), (7, .int .i64 (k : Int)), (16, .bool (!p))] (by as_aux_lemma => kernel_rfl) (by as_aux_lemma => kernel_rfl) ?_
    refine RW.test (fun b_ => [(0, .slice a xs.length c), (1, .int .i64 x), (5, .slice a9 ys.length c9), (6, .bool p), (7, .int .i64 (k : Int)), (16, .bool b_)]) (!p) (fun h4 => ?_) (fun h4 => ?_)
    · skip
      replace h4 : (p) = false := by revert h4; cases (p) <;> simp
      refine RW.runP 2 [0, 1, 5, 6, 7, 16, 17, 18] (sq 5 10) [(0, .slice a xs.length c), (1, .int .i64 x), (5, .slice a9 ys.length c9), (6, .bool p), (7, .int .i64 (k : Int)), (16, .bool true), (17, .slice a xs.length c), (18, .int .i64 (k : Int))] (by as_aux_lemma => kernel_rfl) (by as_aux_lemma => kernel_rfl) ?_
      have hx5 : k < xs.length := by omega
      refine RW.index (κ := .seq) (d := some 19) (r := (sq 6 10)) (T := 22) (e := 3) (ik := .i64) (ix := (k : Int)) (sh := (Shape.int .i64)) (x := xs[k]) (by as_aux_lemma => kernel_rfl) (by as_aux_lemma => kernel_rfl) H 0 rfl k (by omega) (List.getElem?_eq_getElem hx5) ?_
      intro b6 o7 es8 hr9 H
      have hb10 := Shape.i64_bd hr9
      obtain ⟨rfl, -⟩ := hr9
      refine RW.load (κ := .seq) (d := some 20) (r := (sq 7 10)) (T := 3) (b := b6) (o' := o7) (k := 0) (v := .int .i64 (xs[k])) (by as_aux_lemma => kernel_rfl) (H.fc 0 rfl) rfl (by as_aux_lemma => kernel_rfl) ?_
      refine RW.fin 3 [0, 1, 5, 6, 7, 23] [(0, .slice a xs.length c), (1, .int .i64 x), (5, .slice a9 ys.length c9), (6, .bool p), (7, .int .i64 (k : Int)), (23, .bool (decide ((xs[k] : Int) > x)))] (by as_aux_lemma => kernel_rfl) ?_
      refine WK.cond1 (decide ((xs[k] : Int) > x)) (by as_aux_lemma => kernel_rfl) (by as_aux_lemma => kernel_rfl) (fun h11 => ?_) (fun h11 => ?_)
      · skip
        replace h11 := of_decide_eq_true h11
        refine WK.run 1 [0, 1, 5, 7] [.code (cd Try.prog 26 [3, 0, 1, 0, 0, 1, 0, 0, 0, 1, 0, 0]), .code (cd Try.prog 26 [3, 0, 1, 0, 0, 1, 0, 0, 0, 1, 0, 1]), .code (cd Try.prog 26 [3, 0, 1, 0, 0, 1, 0, 0, 1]), .inBlock 1, .code (cd Try.prog 26 [3, 0, 1, 0, 0, 2]), .inLoop (cd Try.prog 26 [3, 0, 1, 0, 0]), .inBlock 0, .code (cd Try.prog 26 [4])] [(0, .slice a xs.length c), (1, .int .i64 x), (5, .slice a9 ys.length c9), (7, .int .i64 (k : Int))] (by as_aux_lemma => kernel_rfl) ?_
        refine WK.reg1 (l := sq 0 5) (by as_aux_lemma => kernel_rfl) (by as_aux_lemma => kernel_rfl) ?_
        refine RW.runP 2 [0, 1, 5, 7, 24, 25] (sq 2 5) [(0, .slice a xs.length c), (1, .int .i64 x), (5, .slice a9 ys.length c9), (7, .int .i64 (k : Int)), (24, .slice a9 ys.length c9), (25, .int .i64 x)] (by as_aux_lemma => kernel_rfl) (by as_aux_lemma => kernel_rfl) ?_
        refine RW.new (κ := .seq) (d := some 26) (r := (sq 3 5)) (o := .cells #[.int .i64 x] 3 (0, 0)) (v := fun b => .slice (some ⟨b, 0, none⟩) 1 1) (fun b => by as_aux_lemma => kernel_rfl) (nofun) H ?_
        intro b12 w13 H
        have H := H.freeze 0 rfl (Shape.int .i64) ([x] : List Int) 1 (by simp [maxLen]) (by first | exact Nat.le_refl _ | simp) (EsP.cons (c := [.int .i64 x]) (Shape.int_mk ⟨by simp [IntKind.min, IntKind.max, IntKind.signed, IntKind.bits]; omega, by simp [IntKind.min, IntKind.max, IntKind.signed, IntKind.bits]; omega⟩) EsP.nil)
        have H : Hp w S [] [] [⟨Shape.int .i64, 3, .slice a9 ys.length c9, ys⟩] [Rp (Shape.slice (Shape.int .i64)) [.slice (some ⟨b12, 0, none⟩) 1 1] ([x] : List Int), Fc b6 o7 [.int .i64 (xs[k])], Rp (Shape.slice (Shape.int .i64)) [.slice a xs.length c] xs] _ := H
        refine RW.appendW (d := some 27) (r := (sq 4 5)) (T := 22) (ty := 22) (e := 3) (m := 1) (by_ := 8) (v := .slice a9 ys.length c9) (a2 := (some ⟨b12, 0, none⟩)) (l2 := 1) (c2 := 1) (zs := ys ++ ([x] : List Int)) (by as_aux_lemma => kernel_rfl) (by as_aux_lemma => kernel_rfl) rfl H 0 rfl 0 rfl (rfl) (by simp; omega) ?_
        intro a14 c15 w17 H hc16
        have H : Hp w S [] [] [⟨Shape.int .i64, 3, .slice a14 ((ys ++ ([x] : List Int)).length) c15, ys ++ ([x] : List Int)⟩] [Rp (Shape.slice (Shape.int .i64)) [.slice (some ⟨b12, 0, none⟩) 1 1] ([x] : List Int), Fc b6 o7 [.int .i64 (xs[k])], Rp (Shape.slice (Shape.int .i64)) [.slice a xs.length c] xs] _ := H
        refine RW.fin 1 [0, 1, 5, 7] [(0, .slice a xs.length c), (1, .int .i64 x), (5, .slice a14 ((ys ++ ([x] : List Int)).length) c15), (7, .int .i64 (k : Int))] (by as_aux_lemma => kernel_rfl) ?_
        refine WK.run 1 [0, 1, 5, 6, 7] [.code (cd Try.prog 26 [3, 0, 1, 0, 0, 1, 0, 0, 1]), .inBlock 1, .code (cd Try.prog 26 [3, 0, 1, 0, 0, 2]), .inLoop (cd Try.prog 26 [3, 0, 1, 0, 0]), .inBlock 0, .code (cd Try.prog 26 [4])] [(0, .slice a xs.length c), (1, .int .i64 x), (5, .slice a14 ((ys ++ ([x] : List Int)).length) c15), (6, .bool true), (7, .int .i64 (k : Int))] (by as_aux_lemma => kernel_rfl) ?_
        refine WK.reg1 (l := sq 0 8) (by as_aux_lemma => kernel_rfl) (by as_aux_lemma => kernel_rfl) ?_
        refine RW.runP 3 [0, 1, 5, 6, 7, 28, 29, 30] (sq 3 8) [(0, .slice a xs.length c), (1, .int .i64 x), (5, .slice a14 ((ys ++ ([x] : List Int)).length) c15), (6, .bool true), (7, .int .i64 (k : Int)), (28, .slice a14 ((ys ++ ([x] : List Int)).length) c15), (29, .slice a xs.length c), (30, .int .i64 (k : Int))] (by as_aux_lemma => kernel_rfl) (by as_aux_lemma => kernel_rfl) ?_
        have hx18 : k < xs.length := by omega
        refine RW.index (κ := .seq) (d := some 31) (r := (sq 4 8)) (T := 22) (e := 3) (ik := .i64) (ix := (k : Int)) (sh := (Shape.int .i64)) (x := xs[k]) (by as_aux_lemma => kernel_rfl) (by as_aux_lemma => kernel_rfl) H 2 rfl k (by omega) (List.getElem?_eq_getElem hx18) ?_
        intro b19 o20 es21 hr22 H
        have hb23 := Shape.i64_bd hr22
        obtain ⟨rfl, -⟩ := hr22
        refine RW.load (κ := .seq) (d := some 32) (r := (sq 5 8)) (T := 3) (b := b19) (o' := o20) (k := 0) (v := .int .i64 (xs[k])) (by as_aux_lemma => kernel_rfl) (H.fc 0 rfl) rfl (by as_aux_lemma => kernel_rfl) ?_
        refine RW.new (κ := .seq) (d := some 33) (r := (sq 6 8)) (o := .cells #[.int .i64 (xs[k])] 3 (0, 0)) (v := fun b => .slice (some ⟨b, 0, none⟩) 1 1) (fun b => by as_aux_lemma => kernel_rfl) (nofun) H ?_
        intro b24 w25 H
        have H := H.freeze 0 rfl (Shape.int .i64) ([xs[k]] : List Int) 1 (by simp [maxLen]) (by first | exact Nat.le_refl _ | simp) (EsP.cons (c := [.int .i64 (xs[k])]) (Shape.int_mk ⟨by simp [IntKind.min, IntKind.max, IntKind.signed, IntKind.bits]; omega, by simp [IntKind.min, IntKind.max, IntKind.signed, IntKind.bits]; omega⟩) EsP.nil)
        have H : Hp w S [] [] [⟨Shape.int .i64, 3, .slice a14 ((ys ++ ([x] : List Int)).length) c15, ys ++ ([x] : List Int)⟩] [Rp (Shape.slice (Shape.int .i64)) [.slice (some ⟨b24, 0, none⟩) 1 1] ([xs[k]] : List Int), Fc b19 o20 [.int .i64 (xs[k])], Rp (Shape.slice (Shape.int .i64)) [.slice (some ⟨b12, 0, none⟩) 1 1] ([x] : List Int), Fc b6 o7 [.int .i64 (xs[k])], Rp (Shape.slice (Shape.int .i64)) [.slice a xs.length c] xs] _ := H
        refine RW.appendW (d := some 34) (r := (sq 7 8)) (T := 22) (ty := 22) (e := 3) (m := 1) (by_ := 8) (v := .slice a14 ((ys ++ ([x] : List Int)).length) c15) (a2 := (some ⟨b24, 0, none⟩)) (l2 := 1) (c2 := 1) (zs := (ys ++ ([x] : List Int)) ++ ([xs[k]] : List Int)) (by as_aux_lemma => kernel_rfl) (by as_aux_lemma => kernel_rfl) rfl H 0 rfl 0 rfl (rfl) (by simp; omega) ?_
        intro a26 c27 w29 H hc28
        have H : Hp w S [] [] [⟨Shape.int .i64, 3, .slice a26 (((ys ++ ([x] : List Int)) ++ ([xs[k]] : List Int)).length) c27, (ys ++ ([x] : List Int)) ++ ([xs[k]] : List Int)⟩] [Rp (Shape.slice (Shape.int .i64)) [.slice (some ⟨b24, 0, none⟩) 1 1] ([xs[k]] : List Int), Fc b19 o20 [.int .i64 (xs[k])], Rp (Shape.slice (Shape.int .i64)) [.slice (some ⟨b12, 0, none⟩) 1 1] ([x] : List Int), Fc b6 o7 [.int .i64 (xs[k])], Rp (Shape.slice (Shape.int .i64)) [.slice a xs.length c] xs] _ := H
        refine RW.fin 1 [0, 1, 5, 6, 7] [(0, .slice a xs.length c), (1, .int .i64 x), (5, .slice a26 (((ys ++ ([x] : List Int)) ++ ([xs[k]] : List Int)).length) c27), (6, .bool true), (7, .int .i64 (k : Int))] (by as_aux_lemma => kernel_rfl) ?_
        refine WK.run 1 [0, 1, 5, 6, 7] [.code (cd Try.prog 26 [3, 0, 1, 0, 0, 2]), .inLoop (cd Try.prog 26 [3, 0, 1, 0, 0]), .inBlock 0, .code (cd Try.prog 26 [4])] [(0, .slice a xs.length c), (1, .int .i64 x), (5, .slice a26 (((ys ++ ([x] : List Int)) ++ ([xs[k]] : List Int)).length) c27), (6, .bool true), (7, .int .i64 (k : Int))] (by as_aux_lemma => kernel_rfl) ?_
        refine WK.reg1 (l := sq 0 3) (by as_aux_lemma => kernel_rfl) (by as_aux_lemma => kernel_rfl) ?_
        refine RW.runP 1 [0, 1, 5, 6, 7, 12] (sq 1 3) [(0, .slice a xs.length c), (1, .int .i64 x), (5, .slice a26 (((ys ++ ([x] : List Int)) ++ ([xs[k]] : List Int)).length) c27), (6, .bool true), (7, .int .i64 (k : Int)), (12, .int .i64 (k : Int))] (by as_aux_lemma => kernel_rfl) (by as_aux_lemma => kernel_rfl) ?_
        refine RW.wr64 (κ := .seq) (d := some 13) (r := (sq 2 3)) (t := (k : Int) + 1) (by as_aux_lemma => kernel_rfl) (by omega) ?_
        refine RW.fin 1 [0, 1, 5, 6, 7] [(0, .slice a xs.length c), (1, .int .i64 x), (5, .slice a26 (((ys ++ ([x] : List Int)) ++ ([xs[k]] : List Int)).length) c27), (6, .bool true), (7, .int .i64 ((k : Int) + 1))] (by as_aux_lemma => kernel_rfl) ?_
        have H := H.pick [4] (G' := [Rp (Shape.slice (Shape.int .i64)) [.slice a xs.length c] xs]) rfl
        exact WK.back (hback1 (k + 1, true, (ys ++ ([x] : List Int)) ++ ([xs[k]] : List Int), a26, c27) _ ⟨H, by first | exact hinv0.a (by assumption) (by omega) (by assumption) | exact hinv0.b (by assumption) (by omega) (by assumption) hn | exact hinv0.c (by assumption) (by omega)⟩ (by first | omega | (simp only []; omega))) (by as_aux_lemma => kernel_rfl)
      · skip
        replace h11 := of_decide_eq_false h11
        refine WK.run 1 [0, 1, 5, 6, 7] [.code (cd Try.prog 26 [3, 0, 1, 0, 0, 1, 0, 0, 1]), .inBlock 1, .code (cd Try.prog 26 [3, 0, 1, 0, 0, 2]), .inLoop (cd Try.prog 26 [3, 0, 1, 0, 0]), .inBlock 0, .code (cd Try.prog 26 [4])] [(0, .slice a xs.length c), (1, .int .i64 x), (5, .slice a9 ys.length c9), (6, .bool p), (7, .int .i64 (k : Int))] (by as_aux_lemma => kernel_rfl) ?_
        refine WK.reg1 (l := sq 0 8) (by as_aux_lemma => kernel_rfl) (by as_aux_lemma => kernel_rfl) ?_
        refine RW.runP 3 [0, 1, 5, 6, 7, 28, 29, 30] (sq 3 8) [(0, .slice a xs.length c), (1, .int .i64 x), (5, .slice a9 ys.length c9), (6, .bool p), (7, .int .i64 (k : Int)), (28, .slice a9 ys.length c9), (29, .slice a xs.length c), (30, .int .i64 (k : Int))] (by as_aux_lemma => kernel_rfl) (by as_aux_lemma => kernel_rfl) ?_
        have hx30 : k < xs.length := by omega
        refine RW.index (κ := .seq) (d := some 31) (r := (sq 4 8)) (T := 22) (e := 3) (ik := .i64) (ix := (k : Int)) (sh := (Shape.int .i64)) (x := xs[k]) (by as_aux_lemma => kernel_rfl) (by as_aux_lemma => kernel_rfl) H 1 rfl k (by omega) (List.getElem?_eq_getElem hx30) ?_
        intro b31 o32 es33 hr34 H
        have hb35 := Shape.i64_bd hr34
        obtain ⟨rfl, -⟩ := hr34
        refine RW.load (κ := .seq) (d := some 32) (r := (sq 5 8)) (T := 3) (b := b31) (o' := o32) (k := 0) (v := .int .i64 (xs[k])) (by as_aux_lemma => kernel_rfl) (H.fc 0 rfl) rfl (by as_aux_lemma => kernel_rfl) ?_
        refine RW.new (κ := .seq) (d := some 33) (r := (sq 6 8)) (o := .cells #[.int .i64 (xs[k])] 3 (0, 0)) (v := fun b => .slice (some ⟨b, 0, none⟩) 1 1) (fun b => by as_aux_lemma => kernel_rfl) (nofun) H ?_
        intro b36 w37 H
        have H := H.freeze 0 rfl (Shape.int .i64) ([xs[k]] : List Int) 1 (by simp [maxLen]) (by first | exact Nat.le_refl _ | simp) (EsP.cons (c := [.int .i64 (xs[k])]) (Shape.int_mk ⟨by simp [IntKind.min, IntKind.max, IntKind.signed, IntKind.bits]; omega, by simp [IntKind.min, IntKind.max, IntKind.signed, IntKind.bits]; omega⟩) EsP.nil)
        have H : Hp w S [] [] [⟨Shape.int .i64, 3, .slice a9 ys.length c9, ys⟩] [Rp (Shape.slice (Shape.int .i64)) [.slice (some ⟨b36, 0, none⟩) 1 1] ([xs[k]] : List Int), Fc b31 o32 [.int .i64 (xs[k])], Fc b6 o7 [.int .i64 (xs[k])], Rp (Shape.slice (Shape.int .i64)) [.slice a xs.length c] xs] _ := H
        refine RW.appendW (d := some 34) (r := (sq 7 8)) (T := 22) (ty := 22) (e := 3) (m := 1) (by_ := 8) (v := .slice a9 ys.length c9) (a2 := (some ⟨b36, 0, none⟩)) (l2 := 1) (c2 := 1) (zs := ys ++ ([xs[k]] : List Int)) (by as_aux_lemma => kernel_rfl) (by as_aux_lemma => kernel_rfl) rfl H 0 rfl 0 rfl (rfl) (by simp; omega) ?_
        intro a38 c39 w41 H hc40
        have H : Hp w S [] [] [⟨Shape.int .i64, 3, .slice a38 ((ys ++ ([xs[k]] : List Int)).length) c39, ys ++ ([xs[k]] : List Int)⟩] [Rp (Shape.slice (Shape.int .i64)) [.slice (some ⟨b36, 0, none⟩) 1 1] ([xs[k]] : List Int), Fc b31 o32 [.int .i64 (xs[k])], Fc b6 o7 [.int .i64 (xs[k])], Rp (Shape.slice (Shape.int .i64)) [.slice a xs.length c] xs] _ := H
        refine RW.fin 1 [0, 1, 5, 6, 7] [(0, .slice a xs.length c), (1, .int .i64 x), (5, .slice a38 ((ys ++ ([xs[k]] : List Int)).length) c39), (6, .bool p), (7, .int .i64 (k : Int))] (by as_aux_lemma => kernel_rfl) ?_
        refine WK.run 1 [0, 1, 5, 6, 7] [.code (cd Try.prog 26 [3, 0, 1, 0, 0, 2]), .inLoop (cd Try.prog 26 [3, 0, 1, 0, 0]), .inBlock 0, .code (cd Try.prog 26 [4])] [(0, .slice a xs.length c), (1, .int .i64 x), (5, .slice a38 ((ys ++ ([xs[k]] : List Int)).length) c39), (6, .bool p), (7, .int .i64 (k : Int))] (by as_aux_lemma => kernel_rfl) ?_
        refine WK.reg1 (l := sq 0 3) (by as_aux_lemma => kernel_rfl) (by as_aux_lemma => kernel_rfl) ?_
        refine RW.runP 1 [0, 1, 5, 6, 7, 12] (sq 1 3) [(0, .slice a xs.length c), (1, .int .i64 x), (5, .slice a38 ((ys ++ ([xs[k]] : List Int)).length) c39), (6, .bool p), (7, .int .i64 (k : Int)), (12, .int .i64 (k : Int))] (by as_aux_lemma => kernel_rfl) (by as_aux_lemma => kernel_rfl) ?_
        refine RW.wr64 (κ := .seq) (d := some 13) (r := (sq 2 3)) (t := (k : Int) + 1) (by as_aux_lemma => kernel_rfl) (by omega) ?_
        refine RW.fin 1 [0, 1, 5, 6, 7] [(0, .slice a xs.length c), (1, .int .i64 x), (5, .slice a38 ((ys ++ ([xs[k]] : List Int)).length) c39), (6, .bool p), (7, .int .i64 ((k : Int) + 1))] (by as_aux_lemma => kernel_rfl) ?_
        have H := H.pick [3] (G' := [Rp (Shape.slice (Shape.int .i64)) [.slice a xs.length c] xs]) rfl
        exact WK.back (hback1 (k + 1, p, ys ++ ([xs[k]] : List Int), a38, c39) _ ⟨H, by first | exact hinv0.a (by assumption) (by omega) (by assumption) | exact hinv0.b (by assumption) (by omega) (by assumption) hn | exact hinv0.c (by assumption) (by omega)⟩ (by first | omega | (simp only []; omega))) (by as_aux_lemma => kernel_rfl)
    · skip
      replace h4 : (p) = true := by revert h4; cases (p) <;> simp
      refine RW.fin 7 [0, 1, 5, 6, 7, 23] [(0, .slice a xs.length c), (1, .int .i64 x), (5, .slice a9 ys.length c9), (6, .bool p), (7, .int .i64 (k : Int)), (23, .bool false)] (by as_aux_lemma => kernel_rfl) ?_
      refine WK.run 2 [0, 1, 5, 6, 7] [.code (cd Try.prog 26 [3, 0, 1, 0, 0, 1, 0, 0, 1]), .inBlock 1, .code (cd Try.prog 26 [3, 0, 1, 0, 0, 2]), .inLoop (cd Try.prog 26 [3, 0, 1, 0, 0]), .inBlock 0, .code (cd Try.prog 26 [4])] [(0, .slice a xs.length c), (1, .int .i64 x), (5, .slice a9 ys.length c9), (6, .bool p), (7, .int .i64 (k : Int))] (by as_aux_lemma => kernel_rfl) ?_
      refine WK.reg1 (l := sq 0 8) (by as_aux_lemma => kernel_rfl) (by as_aux_lemma => kernel_rfl) ?_
      refine RW.runP 3 [0, 1, 5, 6, 7, 28, 29, 30] (sq 3 8) [(0, .slice a xs.length c), (1, .int .i64 x), (5, .slice a9 ys.length c9), (6, .bool p), (7, .int .i64 (k : Int)), (28, .slice a9 ys.length c9), (29, .slice a xs.length c), (30, .int .i64 (k : Int))] (by as_aux_lemma => kernel_rfl) (by as_aux_lemma => kernel_rfl) ?_
      have hx42 : k < xs.length := by omega
      refine RW.index (κ := .seq) (d := some 31) (r := (sq 4 8)) (T := 22) (e := 3) (ik := .i64) (ix := (k : Int)) (sh := (Shape.int .i64)) (x := xs[k]) (by as_aux_lemma => kernel_rfl) (by as_aux_lemma => kernel_rfl) H 0 rfl k (by omega) (List.getElem?_eq_getElem hx42) ?_
      intro b43 o44 es45 hr46 H
      have hb47 := Shape.i64_bd hr46
      obtain ⟨rfl, -⟩ := hr46
      refine RW.load (κ := .seq) (d := some 32) (r := (sq 5 8)) (T := 3) (b := b43) (o' := o44) (k := 0) (v := .int .i64 (xs[k])) (by as_aux_lemma => kernel_rfl) (H.fc 0 rfl) rfl (by as_aux_lemma => kernel_rfl) ?_
      refine RW.new (κ := .seq) (d := some 33) (r := (sq 6 8)) (o := .cells #[.int .i64 (xs[k])] 3 (0, 0)) (v := fun b => .slice (some ⟨b, 0, none⟩) 1 1) (fun b => by as_aux_lemma => kernel_rfl) (nofun) H ?_
      intro b48 w49 H
      have H := H.freeze 0 rfl (Shape.int .i64) ([xs[k]] : List Int) 1 (by simp [maxLen]) (by first | exact Nat.le_refl _ | simp) (EsP.cons (c := [.int .i64 (xs[k])]) (Shape.int_mk ⟨by simp [IntKind.min, IntKind.max, IntKind.signed, IntKind.bits]; omega, by simp [IntKind.min, IntKind.max, IntKind.signed, IntKind.bits]; omega⟩) EsP.nil)
      have H : Hp w S [] [] [⟨Shape.int .i64, 3, .slice a9 ys.length c9, ys⟩] [Rp (Shape.slice (Shape.int .i64)) [.slice (some ⟨b48, 0, none⟩) 1 1] ([xs[k]] : List Int), Fc b43 o44 [.int .i64 (xs[k])], Rp (Shape.slice (Shape.int .i64)) [.slice a xs.length c] xs] _ := H
      refine RW.appendW (d := some 34) (r := (sq 7 8)) (T := 22) (ty := 22) (e := 3) (m := 1) (by_ := 8) (v := .slice a9 ys.length c9) (a2 := (some ⟨b48, 0, none⟩)) (l2 := 1) (c2 := 1) (zs := ys ++ ([xs[k]] : List Int)) (by as_aux_lemma => kernel_rfl) (by as_aux_lemma => kernel_rfl) rfl H 0 rfl 0 rfl (rfl) (by simp; omega) ?_
      intro a50 c51 w53 H hc52
      have H : Hp w S [] [] [⟨Shape.int .i64, 3, .slice a50 ((ys ++ ([xs[k]] : List Int)).length) c51, ys ++ ([xs[k]] : List Int)⟩] [Rp (Shape.slice (Shape.int .i64)) [.slice (some ⟨b48, 0, none⟩) 1 1] ([xs[k]] : List Int), Fc b43 o44 [.int .i64 (xs[k])], Rp (Shape.slice (Shape.int .i64)) [.slice a xs.length c] xs] _ := H
      refine RW.fin 1 [0, 1, 5, 6, 7] [(0, .slice a xs.length c), (1, .int .i64 x), (5, .slice a50 ((ys ++ ([xs[k]] : List Int)).length) c51), (6, .bool p), (7, .int .i64 (k : Int))] (by as_aux_lemma => kernel_rfl) ?_
      refine WK.run 1 [0, 1, 5, 6, 7] [.code (cd Try.prog 26 [3, 0, 1, 0, 0, 2]), .inLoop (cd Try.prog 26 [3, 0, 1, 0, 0]), .inBlock 0, .code (cd Try.prog 26 [4])] [(0, .slice a xs.length c), (1, .int .i64 x), (5, .slice a50 ((ys ++ ([xs[k]] : List Int)).length) c51), (6, .bool p), (7, .int .i64 (k : Int))] (by as_aux_lemma => kernel_rfl) ?_
      refine WK.reg1 (l := sq 0 3) (by as_aux_lemma => kernel_rfl) (by as_aux_lemma => kernel_rfl) ?_
      refine RW.runP 1 [0, 1, 5, 6, 7, 12] (sq 1 3) [(0, .slice a xs.length c), (1, .int .i64 x), (5, .slice a50 ((ys ++ ([xs[k]] : List Int)).length) c51), (6, .bool p), (7, .int .i64 (k : Int)), (12, .int .i64 (k : Int))] (by as_aux_lemma => kernel_rfl) (by as_aux_lemma => kernel_rfl) ?_
      refine RW.wr64 (κ := .seq) (d := some 13) (r := (sq 2 3)) (t := (k : Int) + 1) (by as_aux_lemma => kernel_rfl) (by omega) ?_
      refine RW.fin 1 [0, 1, 5, 6, 7] [(0, .slice a xs.length c), (1, .int .i64 x), (5, .slice a50 ((ys ++ ([xs[k]] : List Int)).length) c51), (6, .bool p), (7, .int .i64 ((k : Int) + 1))] (by as_aux_lemma => kernel_rfl) ?_
      have H := H.pick [2] (G' := [Rp (Shape.slice (Shape.int .i64)) [.slice a xs.length c] xs]) rfl
      exact WK.back (hback1 (k + 1, p, ys ++ ([xs[k]] : List Int), a50, c51) _ ⟨H, by first | exact hinv0.a (by assumption) (by omega) (by assumption) | exact hinv0.b (by assumption) (by omega) (by assumption) hn | exact hinv0.c (by assumption) (by omega)⟩ (by first | omega | (simp only []; omega))) (by as_aux_lemma => kernel_rfl)
  · skip
    replace h3 := of_decide_eq_false h3
    refine WK.run 4 [1, 5, 36] [.code (cd Try.prog 26 [4, 0, 1]), .code (cd Try.prog 26 [5])] [(1, .int .i64 x), (5, .slice a9 ys.length c9), (36, .bool (!p))] (by as_aux_lemma => kernel_rfl) ?_
    refine WK.cond1 (!p) (by as_aux_lemma => kernel_rfl) (by as_aux_lemma => kernel_rfl) (fun h54 => ?_) (fun h54 => ?_)
    · skip
      replace h54 : (p) = false := by revert h54; cases (p) <;> simp
      refine WK.reg1 (l := sq 0 5) (by as_aux_lemma => kernel_rfl) (by as_aux_lemma => kernel_rfl) ?_
      refine RW.runP 2 [5, 37, 38] (sq 2 5) [(5, .slice a9 ys.length c9), (37, .slice a9 ys.length c9), (38, .int .i64 x)] (by as_aux_lemma => kernel_rfl) (by as_aux_lemma => kernel_rfl) ?_
      refine RW.new (κ := .seq) (d := some 39) (r := (sq 3 5)) (o := .cells #[.int .i64 x] 3 (0, 0)) (v := fun b => .slice (some ⟨b, 0, none⟩) 1 1) (fun b => by as_aux_lemma => kernel_rfl) (nofun) H ?_
      intro b55 w56 H
      have H := H.freeze 0 rfl (Shape.int .i64) ([x] : List Int) 1 (by simp [maxLen]) (by first | exact Nat.le_refl _ | simp) (EsP.cons (c := [.int .i64 x]) (Shape.int_mk ⟨by simp [IntKind.min, IntKind.max, IntKind.signed, IntKind.bits]; omega, by simp [IntKind.min, IntKind.max, IntKind.signed, IntKind.bits]; omega⟩) EsP.nil)
      have H : Hp w S [] [] [⟨Shape.int .i64, 3, .slice a9 ys.length c9, ys⟩] [Rp (Shape.slice (Shape.int .i64)) [.slice (some ⟨b55, 0, none⟩) 1 1] ([x] : List Int), Rp (Shape.slice (Shape.int .i64)) [.slice a xs.length c] xs] _ := H
      refine RW.appendW (d := some 40) (r := (sq 4 5)) (T := 22) (ty := 22) (e := 3) (m := 1) (by_ := 8) (v := .slice a9 ys.length c9) (a2 := (some ⟨b55, 0, none⟩)) (l2 := 1) (c2 := 1) (zs := ys ++ ([x] : List Int)) (by as_aux_lemma => kernel_rfl) (by as_aux_lemma => kernel_rfl) rfl H 0 rfl 0 rfl (rfl) (by simp; omega) ?_
      intro a57 c58 w60 H hc59
      have H : Hp w S [] [] [⟨Shape.int .i64, 3, .slice a57 ((ys ++ ([x] : List Int)).length) c58, ys ++ ([x] : List Int)⟩] [Rp (Shape.slice (Shape.int .i64)) [.slice (some ⟨b55, 0, none⟩) 1 1] ([x] : List Int), Rp (Shape.slice (Shape.int .i64)) [.slice a xs.length c] xs] _ := H
      refine RW.fin 1 [5] [(5, .slice a57 ((ys ++ ([x] : List Int)).length) c58)] (by as_aux_lemma => kernel_rfl) ?_
      refine WK.run 2 [4] [.code (cd Try.prog 26 [6])] [(4, .slice a57 ((ys ++ ([x] : List Int)).length) c58)] (by as_aux_lemma => kernel_rfl) ?_
      refine WK.ret (v := .slice a57 ((ys ++ ([x] : List Int)).length) c58) Try.func26 (by as_aux_lemma => kernel_rfl) (by as_aux_lemma => kernel_rfl) ?_
      exact ⟨_, rfl, H.done, (H.pick [] rfl).reW (hinv0.f (by assumption) (by omega))⟩
    · skip
      replace h54 : (p) = true := by revert h54; cases (p) <;> simp
      refine WK.run 3 [4] [.code (cd Try.prog 26 [6])] [(4, .slice a9 ys.length c9)] (by as_aux_lemma => kernel_rfl) ?_
      refine WK.ret (v := .slice a9 ys.length c9) Try.func26 (by as_aux_lemma => kernel_rfl) (by as_aux_lemma => kernel_rfl) ?_
      exact ⟨_, rfl, H.done, (H.pick [] rfl).reW (hinv0.t (by assumption) (by omega))⟩


end Go.Proofs.Ythbegjaoifghlaa
