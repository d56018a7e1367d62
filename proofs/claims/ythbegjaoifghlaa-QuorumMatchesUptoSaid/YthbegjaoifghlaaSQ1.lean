import Derived.Test.YthbegjaoifghlaaSQt
namespace Go.Proofs.Ythbegjaoifghlaa
open Go.BX
theorem index_spec {S : Nat → Prop} {w : World} {xs : List Int} {a : Option Addr} {c : Nat} (x : Int) (h : (Shape.slice (.int .i64)).rep S w [.slice a xs.length c] xs) :
 Calls Try.prog 33 #[.slice a xs.length c, .int .i64 x] w (Ret fun v w' => Ext w w' ∧ ∃ i : Int, v = .int .i64 i ∧ (0 ≤ i ↔ x ∈ xs)) := by
 have hlen := Shape.slice_len h
 refine WK.calls1 (fn := Try.f33) (n := 19) (σ := [(0, .slice a xs.length c), (1, .int .i64 x)]) Try.func33 rfl (by as_aux_lemma => kernel_rfl) (by as_aux_lemma => kernel_rfl) (by as_aux_lemma => kernel_rfl) ?_
 have H := Hp.startF (w := w) (S := S) (G := [Rp (Shape.slice (Shape.int .i64)) [.slice a xs.length c] xs]) (.rp h .nil)
 refine WK.run 6 [0, 1, 7, 8] [.code (cd Try.prog 33 [1, 0, 1, 0]), .inBlock 0, .code (cd Try.prog 33 [2])] [(0, .slice a xs.length c), (1, .int .i64 x), (7, .int .i64 ((xs.length : Nat) : Int)), (8, .int .i64 0)] (by as_aux_lemma => kernel_rfl) ?_
 refine WK.loop (α := Nat) (b := cd Try.prog 33 [1, 0, 1, 0, 0]) (by as_aux_lemma => kernel_rfl) (fun k => [(0, .slice a xs.length c), (1, .int .i64 x), (7, .int .i64 ((xs.length : Nat) : Int)), (8, .int .i64 (k : Int))]) (fun k w' => Hp w S [] [] [] [Rp (Shape.slice (Shape.int .i64)) [.slice a xs.length c] xs] w' ∧ k ≤ xs.length ∧ x ∉ xs.take k) (fun k => xs.length - k) 0 ⟨H, by simp⟩ (rfl) ?_
 rintro k w2 ⟨H, hinv0⟩ hback1
 refine WK.run 3 [0, 1, 7, 8, 9] [.code (cd Try.prog 33 [1, 0, 1, 0, 0, 1, 0]), .code (cd Try.prog 33 [1, 0, 1, 0, 0, 2]), .inLoop (cd Try.prog 33 [1, 0, 1, 0, 0]), .inBlock 0, .code (cd Try.prog 33 [2])] [(0, .slice a xs.length c), (1, .int .i64 x), (7, .int .i64 ((xs.length : Nat) : Int)), (8, .int .i64 (k : Int)), (9, .bool (decide (((k : Int) : Int) < ((xs.length : Nat) : Int))))] (by as_aux_lemma => kernel_rfl) ?_
 refine WK.cond1 (decide (((k : Int) : Int) < ((xs.length : Nat) : Int))) (by as_aux_lemma => kernel_rfl) (by as_aux_lemma => kernel_rfl) (fun h3 => ?_) (fun h3 => ?_)
 ·
  replace h3 := of_decide_eq_true h3
  refine WK.run 6 [0, 1, 5, 7, 8] [.code (cd Try.prog 33 [1, 0, 1, 0, 0, 2, 0, 0, 1, 0]), .code (cd Try.prog 33 [1, 0, 1, 0, 0, 2, 0, 0, 2]), .inBlock 1, .code (cd Try.prog 33 [1, 0, 1, 0, 0, 3]), .inLoop (cd Try.prog 33 [1, 0, 1, 0, 0]), .inBlock 0, .code (cd Try.prog 33 [2])] [(0, .slice a xs.length c), (1, .int .i64 x), (5, .int .i64 (k : Int)), (7, .int .i64 ((xs.length : Nat) : Int)), (8, .int .i64 (k : Int))] (by as_aux_lemma => kernel_rfl) ?_
  refine WK.reg1 (l := sq 0 6) (by as_aux_lemma => kernel_rfl) (by as_aux_lemma => kernel_rfl) ?_
  refine RW.runP 3 [0, 1, 5, 7, 8, 11, 12, 13] (sq 3 6) [(0, .slice a xs.length c), (1, .int .i64 x), (5, .int .i64 (k : Int)), (7, .int .i64 ((xs.length : Nat) : Int)), (8, .int .i64 (k : Int)), (11, .int .i64 x), (12, .slice a xs.length c), (13, .int .i64 (k : Int))] (by as_aux_lemma => kernel_rfl) (by as_aux_lemma => kernel_rfl) ?_
  have hx4 : k < xs.length := by omega
  refine RW.index (κ := .seq) (d := some 14) (r := (sq 4 6)) (T := 22) (e := 3) (ik := .i64) (ix := (k : Int)) (sh := (Shape.int .i64)) (x := xs[k]) (by as_aux_lemma => kernel_rfl) (by as_aux_lemma => kernel_rfl) H 0 rfl k (by omega) (List.getElem?_eq_getElem hx4) ?_
  intro b5 o6 es7 hr8 H
  have hb9 := Shape.i64_bd hr8
  obtain ⟨rfl, -⟩ := hr8
  refine RW.load (κ := .seq) (d := some 15) (r := (sq 5 6)) (T := 3) (b := b5) (o' := o6) (k := 0) (v := .int .i64 (xs[k])) (by as_aux_lemma => kernel_rfl) (H.fc 0 rfl) rfl (by as_aux_lemma => kernel_rfl) ?_
  refine RW.fin 1 [0, 1, 5, 7, 8, 16] [(0, .slice a xs.length c), (1, .int .i64 x), (5, .int .i64 (k : Int)), (7, .int .i64 ((xs.length : Nat) : Int)), (8, .int .i64 (k : Int)), (16, .bool (x == (xs[k])))] (by as_aux_lemma => kernel_rfl) ?_
  refine WK.cond1 (x == (xs[k])) (by as_aux_lemma => kernel_rfl) (by as_aux_lemma => kernel_rfl) (fun h10 => ?_) (fun h10 => ?_)
  ·
   replace h10 := eq_of_beq h10
   refine WK.run 2 [4] [.code (cd Try.prog 33 [1, 0, 1, 0, 0, 2, 0, 0, 2, 0, 1]), .inBlock 1, .code (cd Try.prog 33 [1, 0, 1, 0, 0, 3]), .inLoop (cd Try.prog 33 [1, 0, 1, 0, 0]), .inBlock 0, .code (cd Try.prog 33 [2])] [(4, .int .i64 (k : Int))] (by as_aux_lemma => kernel_rfl) ?_
   refine WK.ret (v := .int .i64 (k : Int)) Try.func33 (by as_aux_lemma => kernel_rfl) (by as_aux_lemma => kernel_rfl) ?_
   exact ⟨_, rfl, H.done, _, rfl, fun _ => by subst_vars; exact List.getElem_mem _, fun _ => by omega⟩
  ·
   replace h10 := ne_of_beq_false h10
   refine WK.run 2 [0, 1, 7, 8] [.code (cd Try.prog 33 [1, 0, 1, 0, 0, 3]), .inLoop (cd Try.prog 33 [1, 0, 1, 0, 0]), .inBlock 0, .code (cd Try.prog 33 [2])] [(0, .slice a xs.length c), (1, .int .i64 x), (7, .int .i64 ((xs.length : Nat) : Int)), (8, .int .i64 (k : Int))] (by as_aux_lemma => kernel_rfl) ?_
   refine WK.reg1 (l := sq 0 2) (by as_aux_lemma => kernel_rfl) (by as_aux_lemma => kernel_rfl) ?_
   refine RW.wr64 (κ := .seq) (d := some 18) (r := (sq 1 2)) (t := (k : Int) + 1) (by as_aux_lemma => kernel_rfl) (by omega) ?_
   refine RW.fin 1 [0, 1, 7, 8] [(0, .slice a xs.length c), (1, .int .i64 x), (7, .int .i64 ((xs.length : Nat) : Int)), (8, .int .i64 ((k : Int) + 1))] (by as_aux_lemma => kernel_rfl) ?_
   have H := H.pick [1] rfl
   exact WK.back (hback1 (k + 1) _ ⟨H, by omega, fun hm => by rcases (take_succ_mem (by omega)).1 hm with hm | hm; exact hinv0.2 hm; exact absurd hm (by assumption)⟩ (by first | omega | (simp only []; omega))) (by as_aux_lemma => kernel_rfl)
 ·
  replace h3 := of_decide_eq_false h3
  refine WK.run 3 [4] [.code (cd Try.prog 33 [3])] [(4, .int .i64 (-1))] (by as_aux_lemma => kernel_rfl) ?_
  refine WK.ret (v := .int .i64 (-1)) Try.func33 (by as_aux_lemma => kernel_rfl) (by as_aux_lemma => kernel_rfl) ?_
  exact ⟨_, rfl, H.done, _, rfl, fun h => absurd h (by omega), fun h => absurd (by rw [List.take_of_length_le (by omega)]; exact h) hinv0.2⟩
theorem contains_spec {S : Nat → Prop} {w : World} {xs : List Int} {a : Option Addr} {c : Nat} (x : Int) (h : (Shape.slice (.int .i64)).rep S w [.slice a xs.length c] xs) :
 Calls Try.prog 21 #[.slice a xs.length c, .int .i64 x] w (Ret fun v w' => Ext w w' ∧ v = .bool (decide (x ∈ xs))) := by
 refine WK.calls1 (fn := Try.f21) (n := 9) (σ := [(0, .slice a xs.length c), (1, .int .i64 x)]) Try.func21 rfl (by as_aux_lemma => kernel_rfl) (by as_aux_lemma => kernel_rfl) (by as_aux_lemma => kernel_rfl) ?_
 have H := Hp.startF (w := w) (S := S) (G := [Rp (Shape.slice (Shape.int .i64)) [.slice a xs.length c] xs]) (.rp h .nil)
 refine WK.run 3 [0, 1] [.code (cd Try.prog 21 [1, 0]), .code (cd Try.prog 21 [2])] [(0, .slice a xs.length c), (1, .int .i64 x)] (by as_aux_lemma => kernel_rfl) ?_
 refine WK.reg1 (l := sq 0 5) (by as_aux_lemma => kernel_rfl) (by as_aux_lemma => kernel_rfl) ?_
 refine RW.runP 2 [5, 6] (sq 2 5) [(5, .slice a xs.length c), (6, .int .i64 x)] (by as_aux_lemma => kernel_rfl) (by as_aux_lemma => kernel_rfl) ?_
 refine RW.call (κ := .seq) (d := some 7) (r := (sq 3 5)) (g := 33) (args := #[.slice a xs.length c, .int .i64 x]) (by as_aux_lemma => kernel_rfl) (nofun) (index_spec x (H.rp 0 rfl)) ?_
 rintro _ w1 hE ⟨ix, rfl, hix⟩
 have H := H.ext hE
 refine RW.fin 2 [4] [(4, .bool (decide ((ix : Int) ≥ 0)))] (by as_aux_lemma => kernel_rfl) ?_
 refine WK.ret (v := .bool (decide ((ix : Int) ≥ 0))) Try.func21 (by as_aux_lemma => kernel_rfl) (by as_aux_lemma => kernel_rfl) ?_
 refine ⟨_, rfl, H.done, ?_⟩
 congr 1
 exact decide_eq_decide.2 hix
theorem rises_spec {S : Nat → Prop} {w : World} {xs : List Int} {a : Option Addr} {c : Nat} (h : (Shape.slice (.int .i64)).rep S w [.slice a xs.length c] xs) :
 Calls Try.prog 18 #[.slice a xs.length c] w (Ret fun v w' => Ext w w' ∧ v = .bool (risesFrom 0 xs)) := by
 have hlen := Shape.slice_len h
 refine WK.calls1 (fn := Try.f18) (n := 21) (σ := [(0, .slice a xs.length c)]) Try.func18 rfl (by as_aux_lemma => kernel_rfl) (by as_aux_lemma => kernel_rfl) (by as_aux_lemma => kernel_rfl) ?_
 have H := Hp.startF (w := w) (S := S) (G := [Rp (Shape.slice (Shape.int .i64)) [.slice a xs.length c] xs]) (.rp h .nil)
 refine WK.run 8 [3, 6, 7, 8] [.code (cd Try.prog 18 [2, 0, 1, 0]), .inBlock 0, .code (cd Try.prog 18 [3])] [(3, .int .i64 0), (6, .slice a xs.length c), (7, .int .i64 ((xs.length : Nat) : Int)), (8, .int .i64 0)] (by as_aux_lemma => kernel_rfl) ?_
 refine WK.loop (α := Nat × Int) (b := cd Try.prog 18 [2, 0, 1, 0, 0]) (by as_aux_lemma => kernel_rfl) (fun st_ => match st_ with | (k, l) => [(3, .int .i64 l), (6, .slice a xs.length c), (7, .int .i64 ((xs.length : Nat) : Int)), (8, .int .i64 (k : Int))]) (fun st_ w' => match st_ with | (k, l) => Hp w S [] [] [] [Rp (Shape.slice (Shape.int .i64)) [.slice a xs.length c] xs] w' ∧ k ≤ xs.length ∧ risesFrom 0 xs = risesFrom l (xs.drop k)) (fun st_ => match st_ with | (k, l) => xs.length - k) (0, 0) ⟨H, by simp⟩ (rfl) ?_
 rintro ⟨k, l⟩ w2 ⟨H, hinv0⟩ hback1
 refine WK.run 3 [3, 6, 7, 8, 9] [.code (cd Try.prog 18 [2, 0, 1, 0, 0, 1, 0]), .code (cd Try.prog 18 [2, 0, 1, 0, 0, 2]), .inLoop (cd Try.prog 18 [2, 0, 1, 0, 0]), .inBlock 0, .code (cd Try.prog 18 [3])] [(3, .int .i64 l), (6, .slice a xs.length c), (7, .int .i64 ((xs.length : Nat) : Int)), (8, .int .i64 (k : Int)), (9, .bool (decide (((k : Int) : Int) < ((xs.length : Nat) : Int))))] (by as_aux_lemma => kernel_rfl) ?_
 refine WK.cond1 (decide (((k : Int) : Int) < ((xs.length : Nat) : Int))) (by as_aux_lemma => kernel_rfl) (by as_aux_lemma => kernel_rfl) (fun h3 => ?_) (fun h3 => ?_)
 ·
  replace h3 := of_decide_eq_true h3
  refine WK.run 4 [3, 6, 7, 8] [.code (cd Try.prog 18 [2, 0, 1, 0, 0, 2, 0, 0, 0]), .code (cd Try.prog 18 [2, 0, 1, 0, 0, 2, 0, 0, 1]), .inBlock 1, .code (cd Try.prog 18 [2, 0, 1, 0, 0, 3]), .inLoop (cd Try.prog 18 [2, 0, 1, 0, 0]), .inBlock 0, .code (cd Try.prog 18 [3])] [(3, .int .i64 l), (6, .slice a xs.length c), (7, .int .i64 ((xs.length : Nat) : Int)), (8, .int .i64 (k : Int))] (by as_aux_lemma => kernel_rfl) ?_
  refine WK.reg1 (l := sq 0 3) (by as_aux_lemma => kernel_rfl) (by as_aux_lemma => kernel_rfl) ?_
  have hx4 : k < xs.length := by omega
  refine RW.index (κ := .seq) (d := some 10) (r := (sq 1 3)) (T := 22) (e := 3) (ik := .i64) (ix := (k : Int)) (sh := (Shape.int .i64)) (x := xs[k]) (by as_aux_lemma => kernel_rfl) (by as_aux_lemma => kernel_rfl) H 0 rfl k (by omega) (List.getElem?_eq_getElem hx4) ?_
  intro b5 o6 es7 hr8 H
  have hb9 := Shape.i64_bd hr8
  obtain ⟨rfl, -⟩ := hr8
  refine RW.load (κ := .seq) (d := some 11) (r := (sq 2 3)) (T := 3) (b := b5) (o' := o6) (k := 0) (v := .int .i64 (xs[k])) (by as_aux_lemma => kernel_rfl) (H.fc 0 rfl) rfl (by as_aux_lemma => kernel_rfl) ?_
  refine RW.fin 1 [3, 5, 6, 7, 8] [(3, .int .i64 l), (5, .int .i64 (xs[k])), (6, .slice a xs.length c), (7, .int .i64 ((xs.length : Nat) : Int)), (8, .int .i64 (k : Int))] (by as_aux_lemma => kernel_rfl) ?_
  refine WK.run 2 [3, 5, 6, 7, 8] [.code (cd Try.prog 18 [2, 0, 1, 0, 0, 2, 0, 0, 1, 0, 0]), .code (cd Try.prog 18 [2, 0, 1, 0, 0, 2, 0, 0, 1, 0, 1]), .code (cd Try.prog 18 [2, 0, 1, 0, 0, 2, 0, 0, 2]), .inBlock 1, .code (cd Try.prog 18 [2, 0, 1, 0, 0, 3]), .inLoop (cd Try.prog 18 [2, 0, 1, 0, 0]), .inBlock 0, .code (cd Try.prog 18 [3])] [(3, .int .i64 l), (5, .int .i64 (xs[k])), (6, .slice a xs.length c), (7, .int .i64 ((xs.length : Nat) : Int)), (8, .int .i64 (k : Int))] (by as_aux_lemma => kernel_rfl) ?_
  refine WK.reg1 (l := sq 0 7) (by as_aux_lemma => kernel_rfl) (by as_aux_lemma => kernel_rfl) ?_
  refine RW.runP 4 [5, 6, 7, 8, 15] (sq 4 7) [(5, .int .i64 (xs[k])), (6, .slice a xs.length c), (7, .int .i64 ((xs.length : Nat) : Int)), (8, .int .i64 (k : Int)), (15, .bool (decide ((xs[k] : Int) ≤ l)))] (by as_aux_lemma => kernel_rfl) (by as_aux_lemma => kernel_rfl) ?_
  refine RW.test (fun b_ => [(5, .int .i64 (xs[k])), (6, .slice a xs.length c), (7, .int .i64 ((xs.length : Nat) : Int)), (8, .int .i64 (k : Int)), (15, .bool b_)]) (decide ((xs[k] : Int) ≤ l)) (fun h10 => ?_) (fun h10 => ?_)
  ·
   replace h10 := of_decide_eq_true h10
   refine RW.fin 3 [5, 6, 7, 8, 18] [(5, .int .i64 (xs[k])), (6, .slice a xs.length c), (7, .int .i64 ((xs.length : Nat) : Int)), (8, .int .i64 (k : Int)), (18, .bool true)] (by as_aux_lemma => kernel_rfl) ?_
   refine WK.run 3 [2] [.code (cd Try.prog 18 [2, 0, 1, 0, 0, 2, 0, 0, 1, 0, 1, 0, 1]), .code (cd Try.prog 18 [2, 0, 1, 0, 0, 2, 0, 0, 2]), .inBlock 1, .code (cd Try.prog 18 [2, 0, 1, 0, 0, 3]), .inLoop (cd Try.prog 18 [2, 0, 1, 0, 0]), .inBlock 0, .code (cd Try.prog 18 [3])] [(2, .bool false)] (by as_aux_lemma => kernel_rfl) ?_
   refine WK.ret (v := .bool false) Try.func18 (by as_aux_lemma => kernel_rfl) (by as_aux_lemma => kernel_rfl) ?_
   refine ⟨_, rfl, H.done, ?_⟩
   congr 1
   rw [hinv0.2]
   rw [risesFrom_step (by omega), if_pos (by omega)]
  ·
   replace h10 := of_decide_eq_false h10
   refine RW.fin 3 [5, 6, 7, 8, 18] [(5, .int .i64 (xs[k])), (6, .slice a xs.length c), (7, .int .i64 ((xs.length : Nat) : Int)), (8, .int .i64 (k : Int)), (18, .bool (decide ((xs[k] : Int) > 32)))] (by as_aux_lemma => kernel_rfl) ?_
   refine WK.cond1 (decide ((xs[k] : Int) > 32)) (by as_aux_lemma => kernel_rfl) (by as_aux_lemma => kernel_rfl) (fun h11 => ?_) (fun h11 => ?_)
   ·
    replace h11 := of_decide_eq_true h11
    refine WK.run 2 [2] [.code (cd Try.prog 18 [2, 0, 1, 0, 0, 2, 0, 0, 1, 0, 1, 0, 1]), .code (cd Try.prog 18 [2, 0, 1, 0, 0, 2, 0, 0, 2]), .inBlock 1, .code (cd Try.prog 18 [2, 0, 1, 0, 0, 3]), .inLoop (cd Try.prog 18 [2, 0, 1, 0, 0]), .inBlock 0, .code (cd Try.prog 18 [3])] [(2, .bool false)] (by as_aux_lemma => kernel_rfl) ?_
    refine WK.ret (v := .bool false) Try.func18 (by as_aux_lemma => kernel_rfl) (by as_aux_lemma => kernel_rfl) ?_
    refine ⟨_, rfl, H.done, ?_⟩
    congr 1
    rw [hinv0.2]
    rw [risesFrom_step (by omega), if_pos (by omega)]
   ·
    replace h11 := of_decide_eq_false h11
    refine WK.run 3 [3, 6, 7, 8] [.code (cd Try.prog 18 [2, 0, 1, 0, 0, 3]), .inLoop (cd Try.prog 18 [2, 0, 1, 0, 0]), .inBlock 0, .code (cd Try.prog 18 [3])] [(3, .int .i64 (xs[k])), (6, .slice a xs.length c), (7, .int .i64 ((xs.length : Nat) : Int)), (8, .int .i64 (k : Int))] (by as_aux_lemma => kernel_rfl) ?_
    refine WK.reg1 (l := sq 0 2) (by as_aux_lemma => kernel_rfl) (by as_aux_lemma => kernel_rfl) ?_
    refine RW.wr64 (κ := .seq) (d := some 20) (r := (sq 1 2)) (t := (k : Int) + 1) (by as_aux_lemma => kernel_rfl) (by omega) ?_
    refine RW.fin 1 [3, 6, 7, 8] [(3, .int .i64 (xs[k])), (6, .slice a xs.length c), (7, .int .i64 ((xs.length : Nat) : Int)), (8, .int .i64 ((k : Int) + 1))] (by as_aux_lemma => kernel_rfl) ?_
    have H := H.pick [1] rfl
    exact WK.back (hback1 (k + 1, xs[k]) _ ⟨H, by omega, by rw [hinv0.2, risesFrom_step (by omega), if_neg (by omega)]⟩ (by first | omega | (simp only []; omega))) (by as_aux_lemma => kernel_rfl)
 ·
  replace h3 := of_decide_eq_false h3
  refine WK.run 3 [2] [.code (cd Try.prog 18 [4])] [(2, .bool true)] (by as_aux_lemma => kernel_rfl) ?_
  refine WK.ret (v := .bool true) Try.func18 (by as_aux_lemma => kernel_rfl) (by as_aux_lemma => kernel_rfl) ?_
  refine ⟨_, rfl, H.done, ?_⟩
  congr 1
  rw [hinv0.2]
  rw [List.drop_of_length_le (by omega)]; rfl
theorem common_spec {S : Nat → Prop} {w : World} {xs ys : List Int} {a a2 : Option Addr} {c c2 : Nat} (h : (Shape.slice (.int .i64)).rep S w [.slice a xs.length c] xs) (h2 : (Shape.slice (.int .i64)).rep S w [.slice a2 ys.length c2] ys) :
 Calls Try.prog 19 #[.slice a xs.length c, .slice a2 ys.length c2] w (Ret fun v w' => Ext w w' ∧ v = .int .i64 (common xs ys : Nat)) := by
 have hlen := Shape.slice_len h
 refine WK.calls1 (fn := Try.f19) (n := 21) (σ := [(0, .slice a xs.length c), (1, .slice a2 ys.length c2)]) Try.func19 rfl (by as_aux_lemma => kernel_rfl) (by as_aux_lemma => kernel_rfl) (by as_aux_lemma => kernel_rfl) ?_
 have H := Hp.startF (w := w) (S := S) (G := [Rp (Shape.slice (Shape.int .i64)) [.slice a xs.length c] xs, Rp (Shape.slice (Shape.int .i64)) [.slice a2 ys.length c2] ys]) (.rp h (.rp h2 .nil))
 refine WK.run 8 [1, 5, 8, 9, 10] [.code (cd Try.prog 19 [2, 0, 1, 0]), .inBlock 0, .code (cd Try.prog 19 [3])] [(1, .slice a2 ys.length c2), (5, .int .i64 0), (8, .slice a xs.length c), (9, .int .i64 ((xs.length : Nat) : Int)), (10, .int .i64 0)] (by as_aux_lemma => kernel_rfl) ?_
 refine WK.loop (α := Nat) (b := cd Try.prog 19 [2, 0, 1, 0, 0]) (by as_aux_lemma => kernel_rfl) (fun k => [(1, .slice a2 ys.length c2), (5, .int .i64 ((common (xs.take k) ys : Nat) : Int)), (8, .slice a xs.length c), (9, .int .i64 ((xs.length : Nat) : Int)), (10, .int .i64 (k : Int))]) (fun k w' => Hp w S [] [] [] [Rp (Shape.slice (Shape.int .i64)) [.slice a xs.length c] xs, Rp (Shape.slice (Shape.int .i64)) [.slice a2 ys.length c2] ys] w' ∧ k ≤ xs.length) (fun k => xs.length - k) 0 ⟨H, Nat.zero_le _⟩ (rfl) ?_
 rintro k w2 ⟨H, hinv0⟩ hback1
 have hcl := common_le (xs.take k) ys
 have htl : (xs.take k).length ≤ k := List.length_take_le _ _
 have hcs := @common_succ xs ys k
 refine WK.run 3 [1, 5, 8, 9, 10, 11] [.code (cd Try.prog 19 [2, 0, 1, 0, 0, 1, 0]), .code (cd Try.prog 19 [2, 0, 1, 0, 0, 2]), .inLoop (cd Try.prog 19 [2, 0, 1, 0, 0]), .inBlock 0, .code (cd Try.prog 19 [3])] [(1, .slice a2 ys.length c2), (5, .int .i64 ((common (xs.take k) ys : Nat) : Int)), (8, .slice a xs.length c), (9, .int .i64 ((xs.length : Nat) : Int)), (10, .int .i64 (k : Int)), (11, .bool (decide (((k : Int) : Int) < ((xs.length : Nat) : Int))))] (by as_aux_lemma => kernel_rfl) ?_
 refine WK.cond1 (decide (((k : Int) : Int) < ((xs.length : Nat) : Int))) (by as_aux_lemma => kernel_rfl) (by as_aux_lemma => kernel_rfl) (fun h3 => ?_) (fun h3 => ?_)
 ·
  replace h3 := of_decide_eq_true h3
  refine WK.run 4 [1, 5, 8, 9, 10] [.code (cd Try.prog 19 [2, 0, 1, 0, 0, 2, 0, 0, 0]), .code (cd Try.prog 19 [2, 0, 1, 0, 0, 2, 0, 0, 1]), .inBlock 1, .code (cd Try.prog 19 [2, 0, 1, 0, 0, 3]), .inLoop (cd Try.prog 19 [2, 0, 1, 0, 0]), .inBlock 0, .code (cd Try.prog 19 [3])] [(1, .slice a2 ys.length c2), (5, .int .i64 ((common (xs.take k) ys : Nat) : Int)), (8, .slice a xs.length c), (9, .int .i64 ((xs.length : Nat) : Int)), (10, .int .i64 (k : Int))] (by as_aux_lemma => kernel_rfl) ?_
  refine WK.reg1 (l := sq 0 3) (by as_aux_lemma => kernel_rfl) (by as_aux_lemma => kernel_rfl) ?_
  have hx4 : k < xs.length := by omega
  refine RW.index (κ := .seq) (d := some 12) (r := (sq 1 3)) (T := 22) (e := 3) (ik := .i64) (ix := (k : Int)) (sh := (Shape.int .i64)) (x := xs[k]) (by as_aux_lemma => kernel_rfl) (by as_aux_lemma => kernel_rfl) H 0 rfl k (by omega) (List.getElem?_eq_getElem hx4) ?_
  intro b5 o6 es7 hr8 H
  have hb9 := Shape.i64_bd hr8
  obtain ⟨rfl, -⟩ := hr8
  refine RW.load (κ := .seq) (d := some 13) (r := (sq 2 3)) (T := 3) (b := b5) (o' := o6) (k := 0) (v := .int .i64 (xs[k])) (by as_aux_lemma => kernel_rfl) (H.fc 0 rfl) rfl (by as_aux_lemma => kernel_rfl) ?_
  refine RW.fin 1 [1, 5, 7, 8, 9, 10] [(1, .slice a2 ys.length c2), (5, .int .i64 ((common (xs.take k) ys : Nat) : Int)), (7, .int .i64 (xs[k])), (8, .slice a xs.length c), (9, .int .i64 ((xs.length : Nat) : Int)), (10, .int .i64 (k : Int))] (by as_aux_lemma => kernel_rfl) ?_
  refine WK.run 1 [1, 5, 7, 8, 9, 10] [.code (cd Try.prog 19 [2, 0, 1, 0, 0, 2, 0, 0, 1, 0]), .code (cd Try.prog 19 [2, 0, 1, 0, 0, 2, 0, 0, 2]), .inBlock 1, .code (cd Try.prog 19 [2, 0, 1, 0, 0, 3]), .inLoop (cd Try.prog 19 [2, 0, 1, 0, 0]), .inBlock 0, .code (cd Try.prog 19 [3])] [(1, .slice a2 ys.length c2), (5, .int .i64 ((common (xs.take k) ys : Nat) : Int)), (7, .int .i64 (xs[k])), (8, .slice a xs.length c), (9, .int .i64 ((xs.length : Nat) : Int)), (10, .int .i64 (k : Int))] (by as_aux_lemma => kernel_rfl) ?_
  refine WK.reg1 (l := sq 0 3) (by as_aux_lemma => kernel_rfl) (by as_aux_lemma => kernel_rfl) ?_
  refine RW.runP 2 [1, 5, 8, 9, 10, 14, 15] (sq 2 3) [(1, .slice a2 ys.length c2), (5, .int .i64 ((common (xs.take k) ys : Nat) : Int)), (8, .slice a xs.length c), (9, .int .i64 ((xs.length : Nat) : Int)), (10, .int .i64 (k : Int)), (14, .slice a2 ys.length c2), (15, .int .i64 (xs[k]))] (by as_aux_lemma => kernel_rfl) (by as_aux_lemma => kernel_rfl) ?_
  refine RW.call (κ := .seq) (d := some 16) (r := (sq 3 3)) (g := 21) (args := #[.slice a2 ys.length c2, .int .i64 (xs[k])]) (by as_aux_lemma => kernel_rfl) (nofun) (contains_spec (xs[k]) (H.rp 2 rfl)) ?_
  rintro _ w10 hE11 rfl
  have H := H.ext hE11
  refine RW.fin 0 [1, 5, 8, 9, 10, 16] [(1, .slice a2 ys.length c2), (5, .int .i64 ((common (xs.take k) ys : Nat) : Int)), (8, .slice a xs.length c), (9, .int .i64 ((xs.length : Nat) : Int)), (10, .int .i64 (k : Int)), (16, .bool (decide (xs[k] ∈ ys)))] (by as_aux_lemma => kernel_rfl) ?_
  refine WK.cond1 (decide (xs[k] ∈ ys)) (by as_aux_lemma => kernel_rfl) (by as_aux_lemma => kernel_rfl) (fun h12 => ?_) (fun h12 => ?_)
  ·
   replace h12 := of_decide_eq_true h12
   refine WK.reg1 (l := sq 0 3) (by as_aux_lemma => kernel_rfl) (by as_aux_lemma => kernel_rfl) ?_
   refine RW.runP 1 [1, 5, 8, 9, 10, 17] (sq 1 3) [(1, .slice a2 ys.length c2), (5, .int .i64 ((common (xs.take k) ys : Nat) : Int)), (8, .slice a xs.length c), (9, .int .i64 ((xs.length : Nat) : Int)), (10, .int .i64 (k : Int)), (17, .int .i64 ((common (xs.take k) ys : Nat) : Int))] (by as_aux_lemma => kernel_rfl) (by as_aux_lemma => kernel_rfl) ?_
   refine RW.wr64 (κ := .seq) (d := some 18) (r := (sq 2 3)) (t := ((common (xs.take k) ys : Nat) : Int) + 1) (by as_aux_lemma => kernel_rfl) (by omega) ?_
   refine RW.fin 1 [1, 5, 8, 9, 10] [(1, .slice a2 ys.length c2), (5, .int .i64 (((common (xs.take k) ys : Nat) : Int) + 1)), (8, .slice a xs.length c), (9, .int .i64 ((xs.length : Nat) : Int)), (10, .int .i64 (k : Int))] (by as_aux_lemma => kernel_rfl) ?_
   refine WK.run 1 [1, 5, 8, 9, 10] [.code (cd Try.prog 19 [2, 0, 1, 0, 0, 3]), .inLoop (cd Try.prog 19 [2, 0, 1, 0, 0]), .inBlock 0, .code (cd Try.prog 19 [3])] [(1, .slice a2 ys.length c2), (5, .int .i64 (((common (xs.take k) ys : Nat) : Int) + 1)), (8, .slice a xs.length c), (9, .int .i64 ((xs.length : Nat) : Int)), (10, .int .i64 (k : Int))] (by as_aux_lemma => kernel_rfl) ?_
   refine WK.reg1 (l := sq 0 2) (by as_aux_lemma => kernel_rfl) (by as_aux_lemma => kernel_rfl) ?_
   refine RW.wr64 (κ := .seq) (d := some 19) (r := (sq 1 2)) (t := (k : Int) + 1) (by as_aux_lemma => kernel_rfl) (by omega) ?_
   refine RW.fin 1 [1, 5, 8, 9, 10] [(1, .slice a2 ys.length c2), (5, .int .i64 (((common (xs.take k) ys : Nat) : Int) + 1)), (8, .slice a xs.length c), (9, .int .i64 ((xs.length : Nat) : Int)), (10, .int .i64 ((k : Int) + 1))] (by as_aux_lemma => kernel_rfl) ?_
   have H := H.pick [1, 2] rfl
   exact WK.back (hback1 (k + 1) _ ⟨H, by omega⟩ (by first | omega | (simp only []; omega))) (by rw [hcs (by omega)]; simp [*]; done)
  ·
   replace h12 := of_decide_eq_false h12
   refine WK.run 2 [1, 5, 8, 9, 10] [.code (cd Try.prog 19 [2, 0, 1, 0, 0, 3]), .inLoop (cd Try.prog 19 [2, 0, 1, 0, 0]), .inBlock 0, .code (cd Try.prog 19 [3])] [(1, .slice a2 ys.length c2), (5, .int .i64 ((common (xs.take k) ys : Nat) : Int)), (8, .slice a xs.length c), (9, .int .i64 ((xs.length : Nat) : Int)), (10, .int .i64 (k : Int))] (by as_aux_lemma => kernel_rfl) ?_
   refine WK.reg1 (l := sq 0 2) (by as_aux_lemma => kernel_rfl) (by as_aux_lemma => kernel_rfl) ?_
   refine RW.wr64 (κ := .seq) (d := some 19) (r := (sq 1 2)) (t := (k : Int) + 1) (by as_aux_lemma => kernel_rfl) (by omega) ?_
   refine RW.fin 1 [1, 5, 8, 9, 10] [(1, .slice a2 ys.length c2), (5, .int .i64 ((common (xs.take k) ys : Nat) : Int)), (8, .slice a xs.length c), (9, .int .i64 ((xs.length : Nat) : Int)), (10, .int .i64 ((k : Int) + 1))] (by as_aux_lemma => kernel_rfl) ?_
   have H := H.pick [1, 2] rfl
   exact WK.back (hback1 (k + 1) _ ⟨H, by omega⟩ (by first | omega | (simp only []; omega))) (by rw [hcs (by omega)]; simp [*]; done)
 ·
  replace h3 := of_decide_eq_false h3
  refine WK.run 3 [4] [.code (cd Try.prog 19 [4])] [(4, .int .i64 ((common (xs.take k) ys : Nat) : Int))] (by as_aux_lemma => kernel_rfl) ?_
  refine WK.ret (v := .int .i64 ((common (xs.take k) ys : Nat) : Int)) Try.func19 (by as_aux_lemma => kernel_rfl) (by as_aux_lemma => kernel_rfl) ?_
  refine ⟨_, rfl, H.done, ?_⟩
  rw [List.take_of_length_le (by omega)]
end Go.Proofs.Ythbegjaoifghlaa
