import Derived.Test.YtkjkmogipidkiaaGreatSBxA
import Derived.Test.YtkjkmogipidkiaaGreatSQt
namespace Go.Proofs.YtkjkmogipidkiaaGreat
open Go.BX
theorem index_spec {S : Nat → Prop} {w : World} {xs : List Int} {a : Option Addr} {c : Nat} (x : Int) (h : (Shape.slice (.int .i64)).rep S w [.slice a xs.length c] xs) :
 Calls Tryz.prog 129 #[.slice a xs.length c, .I x] w (Ret fun v w' => Ext w w' ∧ ∃ i : Int, v = .I i ∧ (0 ≤ i ↔ x ∈ xs)) := by
 have hlen := Shape.slice_len h
 refine uS1 Tryz.func129 ?_
 have H := Hp.startF (.rp h .nil)
 refine uR 6 [.c [1, 0, 1, 0], .b 0, .c [2]] ?_
 refine uL (α := Nat) (g := 129) (p := [1, 0, 1, 0, 0]) (fun k => [(0, .slice a xs.length c), (1, .I x), (7, .I ((xs.length : Nat) : Int)), (8, .I k)]) (fun k w' => Hp w S [] [] [] [Rp (Shape.slice (Shape.int .i64)) [.slice a xs.length c] xs] w' ∧ k ≤ xs.length ∧ x ∉ xs.take k) (fun k => xs.length - k) 0 ⟨H, by simp⟩ ?_
 rintro k _ ⟨H, d⟩ e
 refine uR 3 [.c [1, 0, 1, 0, 0, 1, 0], .c [1, 0, 1, 0, 0, 2], .l [1, 0, 1, 0, 0], .b 0, .c [2]] ?_
 refine qD (((k : Int) : Int) < ((xs.length : Nat) : Int)) (fun n => ?_) (fun n => ?_)
 ·
  refine uR 6 [.c [1, 0, 1, 0, 0, 2, 0, 0, 1, 0], .c [1, 0, 1, 0, 0, 2, 0, 0, 2], .b 1, .c [1, 0, 1, 0, 0, 3], .l [1, 0, 1, 0, 0], .b 0, .c [2]] ?_
  refine qG (sq 0 6) ?_
  refine uP 3 ?_
  have j : k < xs.length := by omega
  refine uX 26 (k : Int) H 0 rfl k (by omega) (List.getElem?_eq_getElem j) ?_
  intro _ _ _ f H
  have o := Shape.i64_bd f
  obtain ⟨rfl, -⟩ := f
  refine uV 3 0 (H.fc 0 rfl) ?_
  refine uF 1 ?_
  refine qE x (xs[k]) (fun m => ?_) (fun m => ?_)
  ·
   refine uR 2 [.c [1, 0, 1, 0, 0, 2, 0, 0, 2, 0, 1], .b 1, .c [1, 0, 1, 0, 0, 3], .l [1, 0, 1, 0, 0], .b 0, .c [2]] ?_
   refine qT (.I k) Tryz.func129 ?_
   exact ⟨_, rfl, H.done, _, rfl, fun _ => by subst_vars; exact List.getElem_mem _, fun _ => by omega⟩
  ·
   refine uR 2 [.c [1, 0, 1, 0, 0, 3], .l [1, 0, 1, 0, 0], .b 0, .c [2]] ?_
   refine qG (sq 0 2) ?_
   refine uI ((k : Int) + 1) ?_
   refine uF 1 ?_
   have H := H.pick [1] rfl
   exact uB (e (k + 1) _ ⟨H, by omega, fun hm => by rcases (take_succ_mem (by omega)).1 hm with hm | hm; exact d.2 hm; exact absurd hm (by assumption)⟩ (by first | omega | (simp only []; omega)))
 ·
  refine uR 3 [.c [3]] ?_
  refine qT (.I (-1)) Tryz.func129 ?_
  exact ⟨_, rfl, H.done, _, rfl, fun h => absurd h (by omega), fun h => absurd (by rw [List.take_of_length_le (by omega)]; exact h) d.2⟩
theorem contains_spec {S : Nat → Prop} {w : World} {xs : List Int} {a : Option Addr} {c : Nat} (x : Int) (h : (Shape.slice (.int .i64)).rep S w [.slice a xs.length c] xs) :
 Calls Tryz.prog 105 #[.slice a xs.length c, .I x] w (Ret fun v w' => Ext w w' ∧ v = .bool (decide (x ∈ xs))) := by
 refine uS1 Tryz.func105 ?_
 have H := Hp.startF (.rp h .nil)
 refine uR 3 [.c [1, 0], .c [2]] ?_
 refine qG (sq 0 5) ?_
 refine uP 2 ?_
 refine uK (index_spec x (H.rp 0 rfl)) ?_
 rintro _ _ hE ⟨ix, rfl, hix⟩
 have H := H.ext hE
 refine uF 2 ?_
 refine qT (.bool (decide ((ix : Int) ≥ 0))) Tryz.func105 ?_
 refine ⟨_, rfl, H.done, ?_⟩
 congr 1
 exact decide_eq_decide.2 hix
theorem rises_spec {S : Nat → Prop} {w : World} {xs : List Int} {a : Option Addr} {c : Nat} (h : (Shape.slice (.int .i64)).rep S w [.slice a xs.length c] xs) :
 Calls Tryz.prog 101 #[.slice a xs.length c] w (Ret fun v w' => Ext w w' ∧ v = .bool (risesFrom 0 xs)) := by
 have hlen := Shape.slice_len h
 refine uS1 Tryz.func101 ?_
 have H := Hp.startF (.rp h .nil)
 refine uR 8 [.c [2, 0, 1, 0], .b 0, .c [3]] ?_
 refine uL (α := Nat × Int) (g := 101) (p := [2, 0, 1, 0, 0]) (fun (k, l) => [(3, .I l), (6, .slice a xs.length c), (7, .I ((xs.length : Nat) : Int)), (8, .I k)]) (fun (k, l) w' => Hp w S [] [] [] [Rp (Shape.slice (Shape.int .i64)) [.slice a xs.length c] xs] w' ∧ k ≤ xs.length ∧ risesFrom 0 xs = risesFrom l (xs.drop k)) (fun (k, l) => xs.length - k) (0, 0) ⟨H, by simp⟩ ?_
 rintro ⟨k, l⟩ _ ⟨H, d⟩ e
 refine uR 3 [.c [2, 0, 1, 0, 0, 1, 0], .c [2, 0, 1, 0, 0, 2], .l [2, 0, 1, 0, 0], .b 0, .c [3]] ?_
 refine qD (((k : Int) : Int) < ((xs.length : Nat) : Int)) (fun n => ?_) (fun n => ?_)
 ·
  refine uR 4 [.c [2, 0, 1, 0, 0, 2, 0, 0, 0], .c [2, 0, 1, 0, 0, 2, 0, 0, 1], .b 1, .c [2, 0, 1, 0, 0, 3], .l [2, 0, 1, 0, 0], .b 0, .c [3]] ?_
  refine qG (sq 0 3) ?_
  have i : k < xs.length := by omega
  refine uX 26 (k : Int) H 0 rfl k (by omega) (List.getElem?_eq_getElem i) ?_
  intro _ _ _ f H
  have o := Shape.i64_bd f
  obtain ⟨rfl, -⟩ := f
  refine uV 3 0 (H.fc 0 rfl) ?_
  refine uF 1 ?_
  refine uR 2 [.c [2, 0, 1, 0, 0, 2, 0, 0, 1, 0, 0], .c [2, 0, 1, 0, 0, 2, 0, 0, 1, 0, 1], .c [2, 0, 1, 0, 0, 2, 0, 0, 2], .b 1, .c [2, 0, 1, 0, 0, 3], .l [2, 0, 1, 0, 0], .b 0, .c [3]] ?_
  refine qG (sq 0 7) ?_
  refine uP 4 ?_
  refine uD 15 ((xs[k] : Int) ≤ l) (fun j => ?_) (fun j => ?_)
  ·
   refine uF 3 ?_
   refine uR 3 [.c [2, 0, 1, 0, 0, 2, 0, 0, 1, 0, 1, 0, 1], .c [2, 0, 1, 0, 0, 2, 0, 0, 2], .b 1, .c [2, 0, 1, 0, 0, 3], .l [2, 0, 1, 0, 0], .b 0, .c [3]] ?_
   refine qT (.bool false) Tryz.func101 ?_
   refine ⟨_, rfl, H.done, ?_⟩
   congr 1
   rw [d.2]
   rw [risesFrom_step (by omega), if_pos (by omega)]
  ·
   refine uF 3 ?_
   refine qD ((xs[k] : Int) > 32) (fun m => ?_) (fun m => ?_)
   ·
    refine uR 2 [.c [2, 0, 1, 0, 0, 2, 0, 0, 1, 0, 1, 0, 1], .c [2, 0, 1, 0, 0, 2, 0, 0, 2], .b 1, .c [2, 0, 1, 0, 0, 3], .l [2, 0, 1, 0, 0], .b 0, .c [3]] ?_
    refine qT (.bool false) Tryz.func101 ?_
    refine ⟨_, rfl, H.done, ?_⟩
    congr 1
    rw [d.2]
    rw [risesFrom_step (by omega), if_pos (by omega)]
   ·
    refine uR 3 [.c [2, 0, 1, 0, 0, 3], .l [2, 0, 1, 0, 0], .b 0, .c [3]] ?_
    refine qG (sq 0 2) ?_
    refine uI ((k : Int) + 1) ?_
    refine qF 1 [(3, .I (xs[k])), (6, .slice a xs.length c), (7, .I ((xs.length : Nat) : Int)), (8, .I ((k : Int) + 1))] ?_
    have H := H.pick [1] rfl
    exact uB (e (k + 1, xs[k]) _ ⟨H, by omega, by rw [d.2, risesFrom_step (by omega), if_neg (by omega)]⟩ (by first | omega | (simp only []; omega)))
 ·
  refine uR 3 [.c [4]] ?_
  refine qT (.bool true) Tryz.func101 ?_
  refine ⟨_, rfl, H.done, ?_⟩
  congr 1
  rw [d.2]
  rw [List.drop_of_length_le (by omega)]; rfl
theorem common_spec {S : Nat → Prop} {w : World} {xs ys : List Int} {a a2 : Option Addr} {c c2 : Nat} (h : (Shape.slice (.int .i64)).rep S w [.slice a xs.length c] xs) (h2 : (Shape.slice (.int .i64)).rep S w [.slice a2 ys.length c2] ys) :
 Calls Tryz.prog 102 #[.slice a xs.length c, .slice a2 ys.length c2] w (Ret fun v w' => Ext w w' ∧ v = .I (common xs ys : Nat)) := by
 have hlen := Shape.slice_len h
 refine uS1 Tryz.func102 ?_
 have H := Hp.startF (.rp h (.rp h2 .nil))
 refine uR 8 [.c [2, 0, 1, 0], .b 0, .c [3]] ?_
 refine uL (α := Nat) (g := 102) (p := [2, 0, 1, 0, 0]) (fun k => [(1, .slice a2 ys.length c2), (5, .I ((common (xs.take k) ys : Nat) : Int)), (8, .slice a xs.length c), (9, .I ((xs.length : Nat) : Int)), (10, .I k)]) (fun k w' => Hp w S [] [] [] [Rp (Shape.slice (Shape.int .i64)) [.slice a xs.length c] xs, Rp (Shape.slice (Shape.int .i64)) [.slice a2 ys.length c2] ys] w' ∧ k ≤ xs.length) (fun k => xs.length - k) 0 ⟨H, Nat.zero_le _⟩ ?_
 rintro k _ ⟨H, _⟩ d
 have hcl := common_le (xs.take k) ys
 have htl : (xs.take k).length ≤ k := List.length_take_le _ _
 have hcs := @common_succ xs ys k
 refine uR 3 [.c [2, 0, 1, 0, 0, 1, 0], .c [2, 0, 1, 0, 0, 2], .l [2, 0, 1, 0, 0], .b 0, .c [3]] ?_
 refine qD (((k : Int) : Int) < ((xs.length : Nat) : Int)) (fun m => ?_) (fun m => ?_)
 ·
  refine uR 4 [.c [2, 0, 1, 0, 0, 2, 0, 0, 0], .c [2, 0, 1, 0, 0, 2, 0, 0, 1], .b 1, .c [2, 0, 1, 0, 0, 3], .l [2, 0, 1, 0, 0], .b 0, .c [3]] ?_
  refine qG (sq 0 3) ?_
  have i : k < xs.length := by omega
  refine uX 26 (k : Int) H 0 rfl k (by omega) (List.getElem?_eq_getElem i) ?_
  intro _ _ _ e H
  have n := Shape.i64_bd e
  obtain ⟨rfl, -⟩ := e
  refine uV 3 0 (H.fc 0 rfl) ?_
  refine uF 1 ?_
  refine uR 1 [.c [2, 0, 1, 0, 0, 2, 0, 0, 1, 0], .c [2, 0, 1, 0, 0, 2, 0, 0, 2], .b 1, .c [2, 0, 1, 0, 0, 3], .l [2, 0, 1, 0, 0], .b 0, .c [3]] ?_
  refine qG (sq 0 3) ?_
  refine uP 2 ?_
  refine uK (contains_spec (xs[k]) (H.rp 2 rfl)) ?_
  rintro _ _ f rfl
  have H := H.ext f
  refine uF 0 ?_
  refine qD (xs[k] ∈ ys) (fun j => ?_) (fun j => ?_)
  ·
   refine qG (sq 0 3) ?_
   refine uP 1 ?_
   refine uI (((common (xs.take k) ys : Nat) : Int) + 1) ?_
   refine uF 1 ?_
   refine uR 1 [.c [2, 0, 1, 0, 0, 3], .l [2, 0, 1, 0, 0], .b 0, .c [3]] ?_
   refine qG (sq 0 2) ?_
   refine uI ((k : Int) + 1) ?_
   refine qF 1 [(1, .slice a2 ys.length c2), (5, .I (((common (xs.take k) ys : Nat) : Int) + 1)), (8, .slice a xs.length c), (9, .I ((xs.length : Nat) : Int)), (10, .I ((k : Int) + 1))] ?_
   have H := H.pick [1, 2] rfl
   exact WK.back (d (k + 1) _ ⟨H, by omega⟩ (by first | omega | (simp only []; omega))) (by rw [hcs (by omega)]; simp [*]; done)
  ·
   refine uR 2 [.c [2, 0, 1, 0, 0, 3], .l [2, 0, 1, 0, 0], .b 0, .c [3]] ?_
   refine qG (sq 0 2) ?_
   refine uI ((k : Int) + 1) ?_
   refine qF 1 [(1, .slice a2 ys.length c2), (5, .I ((common (xs.take k) ys : Nat) : Int)), (8, .slice a xs.length c), (9, .I ((xs.length : Nat) : Int)), (10, .I ((k : Int) + 1))] ?_
   have H := H.pick [1, 2] rfl
   exact WK.back (d (k + 1) _ ⟨H, by omega⟩ (by first | omega | (simp only []; omega))) (by rw [hcs (by omega)]; simp [*]; done)
 ·
  refine uR 3 [.c [4]] ?_
  refine qT (.I ((common (xs.take k) ys : Nat) : Int)) Tryz.func102 ?_
  refine ⟨_, rfl, H.done, ?_⟩
  rw [List.take_of_length_le (by omega)]
end Go.Proofs.YtkjkmogipidkiaaGreat
