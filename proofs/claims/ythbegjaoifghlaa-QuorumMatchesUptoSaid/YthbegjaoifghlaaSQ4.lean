import Derived.Test.YthbegjaoifghlaaSQ3
import Derived.Test.YthbegjaoifghlaaSBxA
namespace Go.Proofs.Ythbegjaoifghlaa
open Go.BX
theorem with_spec {S : Nat → Prop} {w : World} {xs : List Int} {a : Option Addr} {c : Nat} (h : (Shape.slice (.int .i64)).rep S w [.slice a xs.length c] xs) (x : Int) (hx : -9223372036854775808 ≤ x ∧ x ≤ 9223372036854775807) (hby : (xs.length + 1) * 8 ≤ 140737488355328) :
 Calls Try.prog 23 #[.slice a xs.length c, .int .i64 x] w (Ret fun v w' => Ext w w' ∧ ∃ i : Nat, i ≤ xs.length ∧ (0 < i → ∀ y, xs[i - 1]? = some y → y < x) ∧ (∀ y, xs[i]? = some y → x ≤ y) ∧ Hp w S [] [] [⟨Shape.int .i64, 3, v, xs.take i ++ x :: xs.drop i⟩] [] w') := by
 refine WK.calls1 (fn := Try.f23) (n := 19) (σ := [(0, .slice a xs.length c), (1, .int .i64 x)]) Try.func23 rfl (by as_aux_lemma => kernel_rfl) (by as_aux_lemma => kernel_rfl) (by as_aux_lemma => kernel_rfl) ?_
 have H := Hp.startF (w := w) (S := S) (G := [Rp (Shape.slice (Shape.int .i64)) [.slice a xs.length c] xs]) (.rp h .nil)
 refine WK.run 3 [0, 1] [.code (cd Try.prog 23 [1, 0]), .code (cd Try.prog 23 [2])] [(0, .slice a xs.length c), (1, .int .i64 x)] (by as_aux_lemma => kernel_rfl) ?_
 refine WK.reg1 (l := sq 0 8) (by as_aux_lemma => kernel_rfl) (by as_aux_lemma => kernel_rfl) ?_
 refine RW.runP 2 [0, 1, 8, 9] (sq 2 8) [(0, .slice a xs.length c), (1, .int .i64 x), (8, .slice a xs.length c), (9, .int .i64 x)] (by as_aux_lemma => kernel_rfl) (by as_aux_lemma => kernel_rfl) ?_
 refine RW.call (κ := .seq) (d := some 10) (r := (sq 3 8)) (g := 34) (args := #[.slice a xs.length c, .int .i64 x]) (by as_aux_lemma => kernel_rfl) (nofun) (bsearch_spec x (H.rp 0 rfl) (by omega)) ?_
 rintro _ w1 hE4 ⟨at2, fd3, rfl, hat5, hlo6, hhi7⟩
 have H := H.ext hE4
 refine RW.fin 5 [0, 1, 5] [(0, .slice a xs.length c), (1, .int .i64 x), (5, .int .i64 (at2 : Int))] (by as_aux_lemma => kernel_rfl) ?_
 refine WK.run 1 [0, 1, 5] [.code (cd Try.prog 23 [2, 0]), .code (cd Try.prog 23 [3])] [(0, .slice a xs.length c), (1, .int .i64 x), (5, .int .i64 (at2 : Int))] (by as_aux_lemma => kernel_rfl) ?_
 refine WK.reg1 (l := sq 0 7) (by as_aux_lemma => kernel_rfl) (by as_aux_lemma => kernel_rfl) ?_
 refine RW.runP 1 [1, 5, 13] (sq 1 7) [(1, .int .i64 x), (5, .int .i64 (at2 : Int)), (13, .slice a xs.length c)] (by as_aux_lemma => kernel_rfl) (by as_aux_lemma => kernel_rfl) ?_
 refine RW.call (κ := .seq) (d := some 14) (r := (sq 2 7)) (g := 22) (args := #[.slice a xs.length c]) (by as_aux_lemma => kernel_rfl) (nofun) (clone_spec (H.rp 0 rfl) (by omega)) ?_
 rintro v9 w8 - H'
 have H := H.back (M1 := []) (W1 := []) H'
 obtain ⟨a10, c11, rfl, hc12, hm13⟩ := H.ownForm 0 rfl
 have H : Hp w S [] [] [⟨Shape.int .i64, 3, .slice a10 xs.length c11, xs⟩] [Rp (Shape.slice (Shape.int .i64)) [.slice a xs.length c] xs] _ := H
 refine RW.runP 2 [14, 15, 16] (sq 4 7) [(14, .slice a10 xs.length c11), (15, .int .i64 (at2 : Int)), (16, .int .i64 x)] (by as_aux_lemma => kernel_rfl) (by as_aux_lemma => kernel_rfl) ?_
 refine RW.new (κ := .seq) (d := some 17) (r := (sq 5 7)) (o := .cells #[.int .i64 x] 3 (0, 0)) (v := fun b => .slice (some ⟨b, 0, none⟩) 1 1) (fun b => by as_aux_lemma => kernel_rfl) (nofun) H ?_
 intro b14 w15 H
 have H := H.addRp (Shape.int .i64) [.int .i64 x] x (Shape.i64_in (by first | omega | (simp <;> omega)) (by first | omega | (simp <;> omega)))
 refine RW.callS (d := some 18) (r := (sq 6 7)) (g := 35) (args := #[.slice a10 xs.length c11, .int .i64 (at2 : Int), .slice (some ⟨b14, 0, none⟩) 1 1]) (by as_aux_lemma => kernel_rfl) (insert_spec (i := at2) ((H.lend (M1 := [(b14, .cells #[.int .i64 x] 3 (0, 0))]) (W1 := [⟨Shape.int .i64, 3, .slice a10 xs.length c11, xs⟩])).pick [0] rfl) (by omega) (by omega)) ?_
 rintro v17 w16 H'
 have H := H.back (M1 := [(b14, .cells #[.int .i64 x] 3 (0, 0))]) (W1 := [⟨Shape.int .i64, 3, .slice a10 xs.length c11, xs⟩]) H'
 obtain ⟨a18, c19, rfl, hc20, hm21⟩ := H.ownForm 0 rfl
 have H := H.pick (List.range' 1 1) rfl
 have H : Hp w S [] [] [⟨Shape.int .i64, 3, .slice a18 ((xs.take at2 ++ x :: xs.drop at2).length) c19, (xs.take at2 ++ x :: xs.drop at2)⟩] [Rp (Shape.slice (Shape.int .i64)) [.slice a xs.length c] xs] _ := H
 refine RW.fin 1 [4] [(4, .slice a18 ((xs.take at2 ++ x :: xs.drop at2).length) c19)] (by as_aux_lemma => kernel_rfl) ?_
 refine WK.ret (v := .slice a18 ((xs.take at2 ++ x :: xs.drop at2).length) c19) Try.func23 (by as_aux_lemma => kernel_rfl) (by as_aux_lemma => kernel_rfl) ?_
 exact ⟨_, rfl, H.done, at2, hat5, hlo6, hhi7, H.pick [] rfl⟩
theorem without1_spec {S : Nat → Prop} {w : World} {bx : Nat} {x : Int} (y : Int) (h : (Fc bx 0 [.int .i64 x]).p S w) :
 Calls Try.prog 37 #[.int .i64 y, .pointer (some ⟨bx, 0, none⟩)] w (Ret fun v w' => Ext w w' ∧ v = .bool (y == x)) := by
 refine WK.calls1 (fn := Try.f37) (n := 7) (σ := [(0, .int .i64 y), (1, .pointer (some ⟨bx, 0, none⟩))]) Try.func37 rfl (by as_aux_lemma => kernel_rfl) (by as_aux_lemma => kernel_rfl) (by as_aux_lemma => kernel_rfl) ?_
 have H := Hp.startF (w := w) (S := S) (G := [Fc bx 0 [.int .i64 x]]) (.cons h .nil)
 refine WK.run 3 [0, 1] [.code (cd Try.prog 37 [1, 0]), .code (cd Try.prog 37 [2])] [(0, .int .i64 y), (1, .pointer (some ⟨bx, 0, none⟩))] (by as_aux_lemma => kernel_rfl) ?_
 refine WK.reg1 (l := sq 0 4) (by as_aux_lemma => kernel_rfl) (by as_aux_lemma => kernel_rfl) ?_
 refine RW.runP 1 [1, 4] (sq 1 4) [(1, .pointer (some ⟨bx, 0, none⟩)), (4, .int .i64 y)] (by as_aux_lemma => kernel_rfl) (by as_aux_lemma => kernel_rfl) ?_
 refine RW.load (κ := .seq) (d := some 5) (r := (sq 2 4)) (T := 3) (b := bx) (o' := 0) (k := 0) (v := .int .i64 x) (by as_aux_lemma => kernel_rfl) (H.fc 0 rfl) rfl (by as_aux_lemma => kernel_rfl) ?_
 refine RW.fin 2 [3] [(3, .bool (y == x))] (by as_aux_lemma => kernel_rfl) ?_
 refine WK.ret (v := .bool (y == x)) Try.func37 (by as_aux_lemma => kernel_rfl) (by as_aux_lemma => kernel_rfl) ?_
 exact ⟨_, rfl, H.done, rfl⟩
theorem indexfunc_spec {S : Nat → Prop} {w : World} {bx : Nat} {x : Int} {xs : List Int} {a : Option Addr} {c : Nat} (hxs : (Shape.slice (.int .i64)).rep S w [.slice a xs.length c] xs) (h : (Fc bx 0 [.int .i64 x]).p S w) :
 Calls Try.prog 47 #[.slice a xs.length c, .func (.func 37) #[] #[.pointer (some ⟨bx, 0, none⟩)]] w (Ret fun v w' => Ext w w' ∧ ∃ i : Int, v = .int .i64 i ∧ ((i = -1 ∧ x ∉ xs) ∨ ∃ k : Nat, i = k ∧ ∃ h : k < xs.length, xs[k] = x ∧ x ∉ xs.take k)) := by
 have hlen := Shape.slice_len hxs
 refine WK.calls1 (fn := Try.f47) (n := 19) (σ := [(0, .slice a xs.length c), (1, .func (.func 37) #[] #[.pointer (some ⟨bx, 0, none⟩)])]) Try.func47 rfl (by as_aux_lemma => kernel_rfl) (by as_aux_lemma => kernel_rfl) (by as_aux_lemma => kernel_rfl) ?_
 have H := Hp.startF (w := w) (S := S) (G := [Rp (Shape.slice (Shape.int .i64)) [.slice a xs.length c] xs, Fc bx 0 [.int .i64 x]]) (.rp hxs (.cons h .nil))
 refine WK.run 6 [0, 1, 7, 8] [.code (cd Try.prog 47 [1, 0, 1, 0]), .inBlock 0, .code (cd Try.prog 47 [2])] [(0, .slice a xs.length c), (1, .func (.func 37) #[] #[.pointer (some ⟨bx, 0, none⟩)]), (7, .int .i64 ((xs.length : Nat) : Int)), (8, .int .i64 0)] (by as_aux_lemma => kernel_rfl) ?_
 refine WK.loop (α := Nat) (b := cd Try.prog 47 [1, 0, 1, 0, 0]) (by as_aux_lemma => kernel_rfl) (fun k => [(0, .slice a xs.length c), (1, .func (.func 37) #[] #[.pointer (some ⟨bx, 0, none⟩)]), (7, .int .i64 ((xs.length : Nat) : Int)), (8, .int .i64 (k : Int))]) (fun k w' => Hp w S [] [] [] [Rp (Shape.slice (Shape.int .i64)) [.slice a xs.length c] xs, Fc bx 0 [.int .i64 x]] w' ∧ k ≤ xs.length ∧ x ∉ xs.take k) (fun k => xs.length - k) 0 ⟨H, by simp⟩ (rfl) ?_
 rintro k w2 ⟨H, hinv0⟩ hback1
 refine WK.run 3 [0, 1, 7, 8, 9] [.code (cd Try.prog 47 [1, 0, 1, 0, 0, 1, 0]), .code (cd Try.prog 47 [1, 0, 1, 0, 0, 2]), .inLoop (cd Try.prog 47 [1, 0, 1, 0, 0]), .inBlock 0, .code (cd Try.prog 47 [2])] [(0, .slice a xs.length c), (1, .func (.func 37) #[] #[.pointer (some ⟨bx, 0, none⟩)]), (7, .int .i64 ((xs.length : Nat) : Int)), (8, .int .i64 (k : Int)), (9, .bool (decide (((k : Int) : Int) < ((xs.length : Nat) : Int))))] (by as_aux_lemma => kernel_rfl) ?_
 refine WK.cond1 (decide (((k : Int) : Int) < ((xs.length : Nat) : Int))) (by as_aux_lemma => kernel_rfl) (by as_aux_lemma => kernel_rfl) (fun h3 => ?_) (fun h3 => ?_)
 ·
  replace h3 := of_decide_eq_true h3
  refine WK.run 6 [0, 1, 5, 7, 8] [.code (cd Try.prog 47 [1, 0, 1, 0, 0, 2, 0, 0, 1, 0]), .code (cd Try.prog 47 [1, 0, 1, 0, 0, 2, 0, 0, 2]), .inBlock 1, .code (cd Try.prog 47 [1, 0, 1, 0, 0, 3]), .inLoop (cd Try.prog 47 [1, 0, 1, 0, 0]), .inBlock 0, .code (cd Try.prog 47 [2])] [(0, .slice a xs.length c), (1, .func (.func 37) #[] #[.pointer (some ⟨bx, 0, none⟩)]), (5, .int .i64 (k : Int)), (7, .int .i64 ((xs.length : Nat) : Int)), (8, .int .i64 (k : Int))] (by as_aux_lemma => kernel_rfl) ?_
  refine WK.reg1 (l := sq 0 6) (by as_aux_lemma => kernel_rfl) (by as_aux_lemma => kernel_rfl) ?_
  refine RW.runP 3 [0, 1, 5, 7, 8, 11, 12, 13] (sq 3 6) [(0, .slice a xs.length c), (1, .func (.func 37) #[] #[.pointer (some ⟨bx, 0, none⟩)]), (5, .int .i64 (k : Int)), (7, .int .i64 ((xs.length : Nat) : Int)), (8, .int .i64 (k : Int)), (11, .func (.func 37) #[] #[.pointer (some ⟨bx, 0, none⟩)]), (12, .slice a xs.length c), (13, .int .i64 (k : Int))] (by as_aux_lemma => kernel_rfl) (by as_aux_lemma => kernel_rfl) ?_
  have hx4 : k < xs.length := by omega
  refine RW.index (κ := .seq) (d := some 14) (r := (sq 4 6)) (T := 22) (e := 3) (ik := .i64) (ix := (k : Int)) (sh := (Shape.int .i64)) (x := xs[k]) (by as_aux_lemma => kernel_rfl) (by as_aux_lemma => kernel_rfl) H 0 rfl k (by omega) (List.getElem?_eq_getElem hx4) ?_
  intro b5 o6 es7 hr8 H
  have hb9 := Shape.i64_bd hr8
  obtain ⟨rfl, -⟩ := hr8
  refine RW.load (κ := .seq) (d := some 15) (r := (sq 5 6)) (T := 3) (b := b5) (o' := o6) (k := 0) (v := .int .i64 (xs[k])) (by as_aux_lemma => kernel_rfl) (H.fc 0 rfl) rfl (by as_aux_lemma => kernel_rfl) ?_
  refine RW.call (κ := .seq) (d := some 16) (r := (sq 6 6)) (g := 37) (args := #[.int .i64 (xs[k]), .pointer (some ⟨bx, 0, none⟩)]) (by as_aux_lemma => kernel_rfl) (nofun) (without1_spec (xs[k]) (H.fact 2 rfl)) ?_
  rintro _ w10 hE11 rfl
  have H := H.ext hE11
  refine RW.fin 0 [0, 1, 5, 7, 8, 16] [(0, .slice a xs.length c), (1, .func (.func 37) #[] #[.pointer (some ⟨bx, 0, none⟩)]), (5, .int .i64 (k : Int)), (7, .int .i64 ((xs.length : Nat) : Int)), (8, .int .i64 (k : Int)), (16, .bool ((xs[k]) == x))] (by as_aux_lemma => kernel_rfl) ?_
  refine WK.cond1 ((xs[k]) == x) (by as_aux_lemma => kernel_rfl) (by as_aux_lemma => kernel_rfl) (fun h12 => ?_) (fun h12 => ?_)
  ·
   replace h12 := eq_of_beq h12
   refine WK.run 2 [4] [.code (cd Try.prog 47 [1, 0, 1, 0, 0, 2, 0, 0, 2, 0, 1]), .inBlock 1, .code (cd Try.prog 47 [1, 0, 1, 0, 0, 3]), .inLoop (cd Try.prog 47 [1, 0, 1, 0, 0]), .inBlock 0, .code (cd Try.prog 47 [2])] [(4, .int .i64 (k : Int))] (by as_aux_lemma => kernel_rfl) ?_
   refine WK.ret (v := .int .i64 (k : Int)) Try.func47 (by as_aux_lemma => kernel_rfl) (by as_aux_lemma => kernel_rfl) ?_
   exact ⟨_, rfl, H.done, _, rfl, .inr ⟨k, rfl, by omega, by assumption, hinv0.2⟩⟩
  ·
   replace h12 := ne_of_beq_false h12
   refine WK.run 2 [0, 1, 7, 8] [.code (cd Try.prog 47 [1, 0, 1, 0, 0, 3]), .inLoop (cd Try.prog 47 [1, 0, 1, 0, 0]), .inBlock 0, .code (cd Try.prog 47 [2])] [(0, .slice a xs.length c), (1, .func (.func 37) #[] #[.pointer (some ⟨bx, 0, none⟩)]), (7, .int .i64 ((xs.length : Nat) : Int)), (8, .int .i64 (k : Int))] (by as_aux_lemma => kernel_rfl) ?_
   refine WK.reg1 (l := sq 0 2) (by as_aux_lemma => kernel_rfl) (by as_aux_lemma => kernel_rfl) ?_
   refine RW.wr64 (κ := .seq) (d := some 18) (r := (sq 1 2)) (t := (k : Int) + 1) (by as_aux_lemma => kernel_rfl) (by omega) ?_
   refine RW.fin 1 [0, 1, 7, 8] [(0, .slice a xs.length c), (1, .func (.func 37) #[] #[.pointer (some ⟨bx, 0, none⟩)]), (7, .int .i64 ((xs.length : Nat) : Int)), (8, .int .i64 ((k : Int) + 1))] (by as_aux_lemma => kernel_rfl) ?_
   have H := H.pick [1, 2] rfl
   exact WK.back (hback1 (k + 1) _ ⟨H, by omega, fun hm => by rcases (take_succ_mem (by omega)).1 hm with hm | hm; exact hinv0.2 hm; exact absurd hm.symm (by assumption)⟩ (by first | omega | (simp only []; omega))) (by as_aux_lemma => kernel_rfl)
 ·
  replace h3 := of_decide_eq_false h3
  refine WK.run 3 [4] [.code (cd Try.prog 47 [3])] [(4, .int .i64 (-1))] (by as_aux_lemma => kernel_rfl) ?_
  refine WK.ret (v := .int .i64 (-1)) Try.func47 (by as_aux_lemma => kernel_rfl) (by as_aux_lemma => kernel_rfl) ?_
  exact ⟨_, rfl, H.done, _, rfl, .inl ⟨rfl, fun h => hinv0.2 (by rw [List.take_of_length_le (by omega)]; exact h)⟩⟩
theorem delete_spec {S : Nat → Prop} {w : World} {O : List Nat} {bx : Nat} {x : Int} {xs : List Int} {a : Option Addr} {c : Nat} (H0 : Hp w S O [(bx, .cells #[.int .i64 x] 3 (0, 0))] [⟨Shape.int .i64, 3, .slice a xs.length c, xs⟩] [] w) :
 Calls Try.prog 36 #[.slice a xs.length c, .func (.func 37) #[] #[.pointer (some ⟨bx, 0, none⟩)]] w (Ret fun v w' => Hp w S O [(bx, .cells #[.int .i64 x] 3 (0, 0))] [⟨Shape.int .i64, 3, v, xs.filter (fun y => y != x)⟩] [] w') := by
 obtain ⟨_, _, he, hnc, hcm⟩ := H0.ownForm 0 rfl
 simp only [Value.slice.injEq, true_and] at he
 obtain ⟨rfl, rfl⟩ := he
 refine WK.calls1 (fn := Try.f36) (n := 42) (σ := [(0, .slice a xs.length c), (1, .func (.func 37) #[] #[.pointer (some ⟨bx, 0, none⟩)])]) Try.func36 rfl (by as_aux_lemma => kernel_rfl) (by as_aux_lemma => kernel_rfl) (by as_aux_lemma => kernel_rfl) ?_
 have H := H0
 refine WK.run 3 [0, 1] [.code (cd Try.prog 36 [1, 0]), .code (cd Try.prog 36 [2])] [(0, .slice a xs.length c), (1, .func (.func 37) #[] #[.pointer (some ⟨bx, 0, none⟩)])] (by as_aux_lemma => kernel_rfl) ?_
 refine WK.reg1 (l := sq 0 4) (by as_aux_lemma => kernel_rfl) (by as_aux_lemma => kernel_rfl) ?_
 refine RW.runP 2 [0, 1, 8, 9] (sq 2 4) [(0, .slice a xs.length c), (1, .func (.func 37) #[] #[.pointer (some ⟨bx, 0, none⟩)]), (8, .slice a xs.length c), (9, .func (.func 37) #[] #[.pointer (some ⟨bx, 0, none⟩)])] (by as_aux_lemma => kernel_rfl) (by as_aux_lemma => kernel_rfl) ?_
 refine RW.call (κ := .seq) (d := some 10) (r := (sq 3 4)) (g := 47) (args := #[.slice a xs.length c, .func (.func 37) #[] #[.pointer (some ⟨bx, 0, none⟩)]]) (by as_aux_lemma => kernel_rfl) (nofun) (indexfunc_spec (H.view 0 rfl) (H.viewM 0 rfl (by simp))) ?_
 rintro _ w1 hE2 ⟨ix, rfl, hix⟩
 have H := H.ext hE2
 refine RW.fin 1 [0, 1, 5] [(0, .slice a xs.length c), (1, .func (.func 37) #[] #[.pointer (some ⟨bx, 0, none⟩)]), (5, .int .i64 ix)] (by as_aux_lemma => kernel_rfl) ?_
 refine WK.run 3 [0, 1, 5, 12] [.code (cd Try.prog 36 [2, 0, 1]), .code (cd Try.prog 36 [3])] [(0, .slice a xs.length c), (1, .func (.func 37) #[] #[.pointer (some ⟨bx, 0, none⟩)]), (5, .int .i64 ix), (12, .bool (ix == (-1)))] (by as_aux_lemma => kernel_rfl) ?_
 refine WK.cond1 (ix == (-1)) (by as_aux_lemma => kernel_rfl) (by as_aux_lemma => kernel_rfl) (fun h3 => ?_) (fun h3 => ?_)
 ·
  replace h3 := eq_of_beq h3
  have hnx : x ∉ xs := by rcases hix with hq | ⟨k, hq, _⟩; exact hq.2; omega
  refine WK.run 2 [4] [.code (cd Try.prog 36 [2, 0, 1, 0, 1]), .code (cd Try.prog 36 [3])] [(4, .slice a xs.length c)] (by as_aux_lemma => kernel_rfl) ?_
  refine WK.ret (v := .slice a xs.length c) Try.func36 (by as_aux_lemma => kernel_rfl) (by as_aux_lemma => kernel_rfl) ?_
  exact ⟨_, rfl, H.reW (filter_ne hnx).symm⟩
 ·
  replace h3 := ne_of_beq_false h3
  obtain ⟨k0, rfl, hk0, hkx, hkn⟩ := hix.resolve_left (fun hq => h3 hq.1)
  refine WK.run 3 [0, 1, 5] [.code (cd Try.prog 36 [3, 0, 0]), .code (cd Try.prog 36 [3, 0, 1]), .code (cd Try.prog 36 [4])] [(0, .slice a xs.length c), (1, .func (.func 37) #[] #[.pointer (some ⟨bx, 0, none⟩)]), (5, .int .i64 (k0 : Int))] (by as_aux_lemma => kernel_rfl) ?_
  refine WK.reg1 (l := sq 0 3) (by as_aux_lemma => kernel_rfl) (by as_aux_lemma => kernel_rfl) ?_
  refine RW.runP 1 [0, 1, 5, 14] (sq 1 3) [(0, .slice a xs.length c), (1, .func (.func 37) #[] #[.pointer (some ⟨bx, 0, none⟩)]), (5, .int .i64 (k0 : Int)), (14, .int .i64 (k0 : Int))] (by as_aux_lemma => kernel_rfl) (by as_aux_lemma => kernel_rfl) ?_
  refine RW.wr64 (κ := .seq) (d := some 15) (r := (sq 2 3)) (t := (k0 : Int) + 1) (by as_aux_lemma => kernel_rfl) (by omega) ?_
  refine RW.fin 1 [0, 1, 5, 6] [(0, .slice a xs.length c), (1, .func (.func 37) #[] #[.pointer (some ⟨bx, 0, none⟩)]), (5, .int .i64 (k0 : Int)), (6, .int .i64 ((k0 : Int) + 1))] (by as_aux_lemma => kernel_rfl) ?_
  refine WK.run 1 [0, 1, 5, 6] [.code (cd Try.prog 36 [3, 0, 1, 0]), .inBlock 0, .code (cd Try.prog 36 [4])] [(0, .slice a xs.length c), (1, .func (.func 37) #[] #[.pointer (some ⟨bx, 0, none⟩)]), (5, .int .i64 (k0 : Int)), (6, .int .i64 ((k0 : Int) + 1))] (by as_aux_lemma => kernel_rfl) ?_
  have hst := delAt_start hk0 hkx hkn
  have H := H.reW hst.2
  refine WK.loop (α := Nat × Nat) (b := cd Try.prog 36 [3, 0, 1, 0, 0]) (by as_aux_lemma => kernel_rfl) (fun st_ => match st_ with | (i, j) => [(0, .slice a xs.length c), (1, .func (.func 37) #[] #[.pointer (some ⟨bx, 0, none⟩)]), (5, .int .i64 (i : Int)), (6, .int .i64 (j : Int))]) (fun st_ w' => match st_ with | (i, j) => Hp w S O [(bx, .cells #[.int .i64 x] 3 (0, 0))] [⟨Shape.int .i64, 3, .slice a xs.length c, delAt x xs i j⟩] [] w' ∧ i < j ∧ j ≤ xs.length ∧ ((xs.take j).filter (fun y => y != x)).length = i) (fun st_ => match st_ with | (i, j) => xs.length - j) (k0, k0 + 1) ⟨H, by omega, by omega, hst.1⟩ (rfl) ?_
  rintro ⟨i, j⟩ w5 ⟨H, hinv0⟩ hback4
  refine WK.run 3 [0, 1, 5, 6, 19] [.code (cd Try.prog 36 [3, 0, 1, 0, 0, 0, 1]), .code (cd Try.prog 36 [3, 0, 1, 0, 0, 1]), .inLoop (cd Try.prog 36 [3, 0, 1, 0, 0]), .inBlock 0, .code (cd Try.prog 36 [4])] [(0, .slice a xs.length c), (1, .func (.func 37) #[] #[.pointer (some ⟨bx, 0, none⟩)]), (5, .int .i64 (i : Int)), (6, .int .i64 (j : Int)), (19, .bool (decide (((j : Int) : Int) < ((xs.length : Nat) : Int))))] (by as_aux_lemma => kernel_rfl) ?_
  refine WK.cond1 (decide (((j : Int) : Int) < ((xs.length : Nat) : Int))) (by as_aux_lemma => kernel_rfl) (by as_aux_lemma => kernel_rfl) (fun h6 => ?_) (fun h6 => ?_)
  ·
   replace h6 := of_decide_eq_true h6
   refine WK.run 4 [0, 1, 5, 6] [.code (cd Try.prog 36 [3, 0, 1, 0, 0, 1, 0, 0, 0]), .code (cd Try.prog 36 [3, 0, 1, 0, 0, 1, 0, 0, 1]), .inBlock 1, .code (cd Try.prog 36 [3, 0, 1, 0, 0, 2]), .inLoop (cd Try.prog 36 [3, 0, 1, 0, 0]), .inBlock 0, .code (cd Try.prog 36 [4])] [(0, .slice a xs.length c), (1, .func (.func 37) #[] #[.pointer (some ⟨bx, 0, none⟩)]), (5, .int .i64 (i : Int)), (6, .int .i64 (j : Int))] (by as_aux_lemma => kernel_rfl) ?_
   refine WK.reg1 (l := sq 0 5) (by as_aux_lemma => kernel_rfl) (by as_aux_lemma => kernel_rfl) ?_
   refine RW.runP 2 [0, 1, 5, 6, 22, 23] (sq 2 5) [(0, .slice a xs.length c), (1, .func (.func 37) #[] #[.pointer (some ⟨bx, 0, none⟩)]), (5, .int .i64 (i : Int)), (6, .int .i64 (j : Int)), (22, .slice a xs.length c), (23, .int .i64 (j : Int))] (by as_aux_lemma => kernel_rfl) (by as_aux_lemma => kernel_rfl) ?_
   have hn8 : xs.length = (delAt x xs i j).length := (delAt_len (x := x) (xs := xs) (i := i) (j := j) hinv0.2.2 (by omega)).symm
   have hx7 : j < (delAt x xs i j).length := by rw [delAt_len hinv0.2.2 (by omega)]; omega
   refine RW.indexW (κ := .seq) (d := some 24) (r := (sq 3 5)) (T := 22) (e := 3) (m := 1) (ik := .i64) (ix := (j : Int)) (sh := (Shape.int .i64)) (xs := delAt x xs i j) (a := a) (len := xs.length) (cap := c) (by as_aux_lemma => kernel_rfl) (by as_aux_lemma => kernel_rfl) rfl H j (by omega) hx7 hn8 ?_
   intro b9 es10 ha11 hcell12 hr13
   rw [delAt_get hinv0.2.2 (by omega) (by omega)] at hr13
   have hb14 := Shape.i64_bd hr13
   obtain ⟨rfl, -⟩ := hr13
   refine RW.load (κ := .seq) (d := some 25) (r := (sq 4 5)) (T := 3) (b := b9) (o' := j * 1) (k := 0) (v := .int .i64 (xs[j])) (by as_aux_lemma => kernel_rfl) hcell12 rfl (by as_aux_lemma => kernel_rfl) ?_
   refine RW.fin 1 [0, 1, 5, 6, 7] [(0, .slice a xs.length c), (1, .func (.func 37) #[] #[.pointer (some ⟨bx, 0, none⟩)]), (5, .int .i64 (i : Int)), (6, .int .i64 (j : Int)), (7, .int .i64 (xs[j]))] (by as_aux_lemma => kernel_rfl) ?_
   refine WK.run 1 [0, 1, 5, 6, 7] [.code (cd Try.prog 36 [3, 0, 1, 0, 0, 1, 0, 0, 1, 0]), .code (cd Try.prog 36 [3, 0, 1, 0, 0, 1, 0, 0, 2]), .inBlock 1, .code (cd Try.prog 36 [3, 0, 1, 0, 0, 2]), .inLoop (cd Try.prog 36 [3, 0, 1, 0, 0]), .inBlock 0, .code (cd Try.prog 36 [4])] [(0, .slice a xs.length c), (1, .func (.func 37) #[] #[.pointer (some ⟨bx, 0, none⟩)]), (5, .int .i64 (i : Int)), (6, .int .i64 (j : Int)), (7, .int .i64 (xs[j]))] (by as_aux_lemma => kernel_rfl) ?_
   refine WK.reg1 (l := sq 0 4) (by as_aux_lemma => kernel_rfl) (by as_aux_lemma => kernel_rfl) ?_
   refine RW.runP 2 [0, 1, 5, 6, 7, 26, 27] (sq 2 4) [(0, .slice a xs.length c), (1, .func (.func 37) #[] #[.pointer (some ⟨bx, 0, none⟩)]), (5, .int .i64 (i : Int)), (6, .int .i64 (j : Int)), (7, .int .i64 (xs[j])), (26, .func (.func 37) #[] #[.pointer (some ⟨bx, 0, none⟩)]), (27, .int .i64 (xs[j]))] (by as_aux_lemma => kernel_rfl) (by as_aux_lemma => kernel_rfl) ?_
   refine RW.call (κ := .seq) (d := some 28) (r := (sq 3 4)) (g := 37) (args := #[.int .i64 (xs[j]), .pointer (some ⟨bx, 0, none⟩)]) (by as_aux_lemma => kernel_rfl) (nofun) (without1_spec (xs[j]) (H.viewM 0 rfl (by simp))) ?_
   rintro _ w15 hE16 rfl
   have H := H.ext hE16
   refine RW.fin 1 [0, 1, 5, 6, 7, 29] [(0, .slice a xs.length c), (1, .func (.func 37) #[] #[.pointer (some ⟨bx, 0, none⟩)]), (5, .int .i64 (i : Int)), (6, .int .i64 (j : Int)), (7, .int .i64 (xs[j])), (29, .bool (!((xs[j]) == x)))] (by as_aux_lemma => kernel_rfl) ?_
   refine WK.cond1 (!((xs[j]) == x)) (by as_aux_lemma => kernel_rfl) (by as_aux_lemma => kernel_rfl) (fun h17 => ?_) (fun h17 => ?_)
   ·
    replace h17 : ((xs[j]) == x) = false := by revert h17; cases ((xs[j]) == x) <;> simp
    replace h17 := ne_of_beq_false h17
    refine WK.run 1 [0, 1, 5, 6, 7] [.code (cd Try.prog 36 [3, 0, 1, 0, 0, 1, 0, 0, 2, 0, 0]), .code (cd Try.prog 36 [3, 0, 1, 0, 0, 1, 0, 0, 2, 0, 1]), .inBlock 1, .code (cd Try.prog 36 [3, 0, 1, 0, 0, 2]), .inLoop (cd Try.prog 36 [3, 0, 1, 0, 0]), .inBlock 0, .code (cd Try.prog 36 [4])] [(0, .slice a xs.length c), (1, .func (.func 37) #[] #[.pointer (some ⟨bx, 0, none⟩)]), (5, .int .i64 (i : Int)), (6, .int .i64 (j : Int)), (7, .int .i64 (xs[j]))] (by as_aux_lemma => kernel_rfl) ?_
    refine WK.reg1 (l := sq 0 5) (by as_aux_lemma => kernel_rfl) (by as_aux_lemma => kernel_rfl) ?_
    refine RW.runP 3 [0, 1, 5, 6, 30, 31, 32] (sq 3 5) [(0, .slice a xs.length c), (1, .func (.func 37) #[] #[.pointer (some ⟨bx, 0, none⟩)]), (5, .int .i64 (i : Int)), (6, .int .i64 (j : Int)), (30, .slice a xs.length c), (31, .int .i64 (i : Int)), (32, .int .i64 (xs[j]))] (by as_aux_lemma => kernel_rfl) (by as_aux_lemma => kernel_rfl) ?_
    have hn19 : xs.length = (delAt x xs i j).length := (delAt_len (x := x) (xs := xs) (i := i) (j := j) hinv0.2.2 (by omega)).symm
    have hx18 : i < (delAt x xs i j).length := by rw [delAt_len hinv0.2.2 (by omega)]; omega
    refine RW.indexW (κ := .seq) (d := some 33) (r := (sq 4 5)) (T := 22) (e := 3) (m := 1) (ik := .i64) (ix := (i : Int)) (sh := (Shape.int .i64)) (xs := delAt x xs i j) (a := a) (len := xs.length) (cap := c) (by as_aux_lemma => kernel_rfl) (by as_aux_lemma => kernel_rfl) rfl H i (by omega) hx18 hn19 ?_
    intro b20 es21 ha22 hcell23 hr24
    have hb25 := Shape.i64_bd hr24
    obtain ⟨rfl, -⟩ := hr24
    refine RW.storeW (d := none) (r := (sq 5 5)) (e := 3) (m := 1) (b := b20) (k := i) (v := .int .i64 (xs[j])) (by as_aux_lemma => kernel_rfl) rfl (by as_aux_lemma => kernel_rfl) H ha22 hx18 hn19 (xs[j]) (Shape.i64_in (by first | omega | (simp <;> omega)) (by first | omega | (simp <;> omega))) ?_
    intro w26 H
    refine RW.fin 0 [0, 1, 5, 6] [(0, .slice a xs.length c), (1, .func (.func 37) #[] #[.pointer (some ⟨bx, 0, none⟩)]), (5, .int .i64 (i : Int)), (6, .int .i64 (j : Int))] (by as_aux_lemma => kernel_rfl) ?_
    refine WK.reg1 (l := sq 0 3) (by as_aux_lemma => kernel_rfl) (by as_aux_lemma => kernel_rfl) ?_
    refine RW.runP 1 [0, 1, 5, 6, 34] (sq 1 3) [(0, .slice a xs.length c), (1, .func (.func 37) #[] #[.pointer (some ⟨bx, 0, none⟩)]), (5, .int .i64 (i : Int)), (6, .int .i64 (j : Int)), (34, .int .i64 (i : Int))] (by as_aux_lemma => kernel_rfl) (by as_aux_lemma => kernel_rfl) ?_
    refine RW.wr64 (κ := .seq) (d := some 35) (r := (sq 2 3)) (t := (i : Int) + 1) (by as_aux_lemma => kernel_rfl) (by omega) ?_
    refine RW.fin 1 [0, 1, 5, 6] [(0, .slice a xs.length c), (1, .func (.func 37) #[] #[.pointer (some ⟨bx, 0, none⟩)]), (5, .int .i64 ((i : Int) + 1)), (6, .int .i64 (j : Int))] (by as_aux_lemma => kernel_rfl) ?_
    refine WK.run 1 [0, 1, 5, 6] [.code (cd Try.prog 36 [3, 0, 1, 0, 0, 2]), .inLoop (cd Try.prog 36 [3, 0, 1, 0, 0]), .inBlock 0, .code (cd Try.prog 36 [4])] [(0, .slice a xs.length c), (1, .func (.func 37) #[] #[.pointer (some ⟨bx, 0, none⟩)]), (5, .int .i64 ((i : Int) + 1)), (6, .int .i64 (j : Int))] (by as_aux_lemma => kernel_rfl) ?_
    refine WK.reg1 (l := sq 0 3) (by as_aux_lemma => kernel_rfl) (by as_aux_lemma => kernel_rfl) ?_
    refine RW.runP 1 [0, 1, 5, 6, 20] (sq 1 3) [(0, .slice a xs.length c), (1, .func (.func 37) #[] #[.pointer (some ⟨bx, 0, none⟩)]), (5, .int .i64 ((i : Int) + 1)), (6, .int .i64 (j : Int)), (20, .int .i64 (j : Int))] (by as_aux_lemma => kernel_rfl) (by as_aux_lemma => kernel_rfl) ?_
    refine RW.wr64 (κ := .seq) (d := some 21) (r := (sq 2 3)) (t := (j : Int) + 1) (by as_aux_lemma => kernel_rfl) (by omega) ?_
    refine RW.fin 1 [0, 1, 5, 6] [(0, .slice a xs.length c), (1, .func (.func 37) #[] #[.pointer (some ⟨bx, 0, none⟩)]), (5, .int .i64 ((i : Int) + 1)), (6, .int .i64 ((j : Int) + 1))] (by as_aux_lemma => kernel_rfl) ?_
    have hkp := delAt_keep hinv0.2.2 (by omega) (by omega) (by assumption)
    have H := H.reW hkp.2
    have H := H.drop (M' := [(bx, .cells #[.int .i64 x] 3 (0, 0))]) (W' := [⟨Shape.int .i64, 3, .slice a xs.length c, delAt x xs (i + 1) (j + 1)⟩]) (by repeat (first | exact List.Sublist.refl _ | apply List.Sublist.cons_cons | apply List.Sublist.cons)) (by repeat (first | exact List.Sublist.refl _ | apply List.Sublist.cons_cons | apply List.Sublist.cons))
    exact WK.back (hback4 (i + 1, j + 1) _ ⟨H, by omega, by omega, by first | exact hkp.1 | (rw [hks]; exact hinv0.2.2)⟩ (by first | omega | (simp only []; omega))) (by as_aux_lemma => kernel_rfl)
   ·
    replace h17 : ((xs[j]) == x) = true := by revert h17; cases ((xs[j]) == x) <;> simp
    replace h17 := eq_of_beq h17
    refine WK.run 2 [0, 1, 5, 6] [.code (cd Try.prog 36 [3, 0, 1, 0, 0, 2]), .inLoop (cd Try.prog 36 [3, 0, 1, 0, 0]), .inBlock 0, .code (cd Try.prog 36 [4])] [(0, .slice a xs.length c), (1, .func (.func 37) #[] #[.pointer (some ⟨bx, 0, none⟩)]), (5, .int .i64 (i : Int)), (6, .int .i64 (j : Int))] (by as_aux_lemma => kernel_rfl) ?_
    refine WK.reg1 (l := sq 0 3) (by as_aux_lemma => kernel_rfl) (by as_aux_lemma => kernel_rfl) ?_
    refine RW.runP 1 [0, 1, 5, 6, 20] (sq 1 3) [(0, .slice a xs.length c), (1, .func (.func 37) #[] #[.pointer (some ⟨bx, 0, none⟩)]), (5, .int .i64 (i : Int)), (6, .int .i64 (j : Int)), (20, .int .i64 (j : Int))] (by as_aux_lemma => kernel_rfl) (by as_aux_lemma => kernel_rfl) ?_
    refine RW.wr64 (κ := .seq) (d := some 21) (r := (sq 2 3)) (t := (j : Int) + 1) (by as_aux_lemma => kernel_rfl) (by omega) ?_
    refine RW.fin 1 [0, 1, 5, 6] [(0, .slice a xs.length c), (1, .func (.func 37) #[] #[.pointer (some ⟨bx, 0, none⟩)]), (5, .int .i64 (i : Int)), (6, .int .i64 ((j : Int) + 1))] (by as_aux_lemma => kernel_rfl) ?_
    have hks := delAt_skip (x := x) (xs := xs) (j := j) (by omega) (by assumption)
    have H := H.reW (ys := delAt x xs i (j + 1)) (by unfold delAt; rw [hks])
    have H := H.drop (M' := [(bx, .cells #[.int .i64 x] 3 (0, 0))]) (W' := [⟨Shape.int .i64, 3, .slice a xs.length c, delAt x xs i (j + 1)⟩]) (by repeat (first | exact List.Sublist.refl _ | apply List.Sublist.cons_cons | apply List.Sublist.cons)) (by repeat (first | exact List.Sublist.refl _ | apply List.Sublist.cons_cons | apply List.Sublist.cons))
    exact WK.back (hback4 (i, j + 1) _ ⟨H, by omega, by omega, by first | exact hkp.1 | (rw [hks]; exact hinv0.2.2)⟩ (by first | omega | (simp only []; omega))) (by as_aux_lemma => kernel_rfl)
  ·
   replace h6 := of_decide_eq_false h6
   refine WK.run 2 [0, 5] [.code (cd Try.prog 36 [4, 0]), .code (cd Try.prog 36 [5])] [(0, .slice a xs.length c), (5, .int .i64 (i : Int))] (by as_aux_lemma => kernel_rfl) ?_
   refine WK.reg1 (l := sq 0 4) (by as_aux_lemma => kernel_rfl) (by as_aux_lemma => kernel_rfl) ?_
   refine RW.runP 2 [0, 5, 36, 37] (sq 2 4) [(0, .slice a xs.length c), (5, .int .i64 (i : Int)), (36, .slice a xs.length c), (37, .int .i64 (i : Int))] (by as_aux_lemma => kernel_rfl) (by as_aux_lemma => kernel_rfl) ?_
   refine RW.readS (κ := .seq) (d := some 38) (r := (sq 3 4)) (s := semV (Instr.sliceAt 22 (.slice a xs.length c) (some (.int .i64 (i : Int))) none none)) (v := .slice (if c = i then a else a.map (·.add (i * 1))) (xs.length - i) (c - i)) (by as_aux_lemma => kernel_rfl) (fun w' _ => semV_run (sliceAt_run (e := 3) (m := 1) (by as_aux_lemma => kernel_rfl) (lo := i) (hi := xs.length) (.mk (by omega)) .nil (by omega) (by omega))) ?_
   refine RW.clearW (d := none) (r := (sq 4 4)) (T := 22) (e := 3) (m := 1) (ty := 0) (a1 := (if c = i then a else a.map (·.add (i * 1)))) (l1 := xs.length - i) (c1 := c - i) (k := i) (sh := Shape.int .i64) (xs := delAt x xs i j) (a := a) (len := xs.length) (cap := c) (by as_aux_lemma => kernel_rfl) (by as_aux_lemma => kernel_rfl) rfl (by as_aux_lemma => kernel_rfl) H (fun _ => if_neg (by omega)) (by rw [delAt_len hinv0.2.2 (by omega)]; omega) ((delAt_len (x := x) (xs := xs) (i := i) (j := j) hinv0.2.2 (by omega)).symm) (by omega) ?_
   intro w27 H
   refine RW.fin 0 [0, 5] [(0, .slice a xs.length c), (5, .int .i64 (i : Int))] (by as_aux_lemma => kernel_rfl) ?_
   refine WK.run 1 [0, 5] [.code (cd Try.prog 36 [5, 0]), .code (cd Try.prog 36 [6])] [(0, .slice a xs.length c), (5, .int .i64 (i : Int))] (by as_aux_lemma => kernel_rfl) ?_
   refine WK.reg1 (l := sq 0 4) (by as_aux_lemma => kernel_rfl) (by as_aux_lemma => kernel_rfl) ?_
   refine RW.runP 2 [39, 40] (sq 2 4) [(39, .slice a xs.length c), (40, .int .i64 (i : Int))] (by as_aux_lemma => kernel_rfl) (by as_aux_lemma => kernel_rfl) ?_
   refine RW.readS (κ := .seq) (d := some 41) (r := (sq 3 4)) (s := semV (Instr.sliceAt 22 (.slice a xs.length c) none (some (.int .i64 (i : Int))) none)) (v := .slice a i c) (by as_aux_lemma => kernel_rfl) (fun w' _ => semV_run (sliceAt_run0 (e := 3) (m := 1) (by as_aux_lemma => kernel_rfl) (hi := i) (.mk (by omega)) (by omega))) ?_
   refine RW.fin 1 [4] [(4, .slice a i c)] (by as_aux_lemma => kernel_rfl) ?_
   refine WK.ret (v := .slice a i c) Try.func36 (by as_aux_lemma => kernel_rfl) (by as_aux_lemma => kernel_rfl) ?_
   exact ⟨_, rfl, H.reW (delAt_end hinv0.2.2 (by omega))⟩
end Go.Proofs.Ythbegjaoifghlaa
