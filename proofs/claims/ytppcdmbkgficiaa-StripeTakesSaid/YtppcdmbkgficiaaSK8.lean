import Derived.Test.YtppcdmbkgficiaaSBxA
import Derived.Test.YtppcdmbkgficiaaSK7
namespace Go.Proofs.Ytppcdmbkgficiaa
open Go.BX
theorem eg_ok {size k : Int} (h : elG size k = 0) : 0 ≤ size ∧ size ≤ 65536 ∧ 1 ≤ k ∧ k ≤ 255 := Classical.byContradiction fun hn => by
 unfold elG at h
 rw [if_neg (show ¬ okL4 size k from hn)] at h
 cases h
theorem eg_no {size k n : Int} (h : okS size k n) : elG size k = 0 := if_pos ⟨h.1, h.2.1, h.2.2.1, by have := h.2.2.2; omega⟩
theorem ez_yes {size k n : Int} (h : okS size k n) : ezI size k n = 0 := if_pos h
theorem r4dec_ref {S : Nat → Prop} {w : World} {a : Option Addr} {m c : Nat} (size k n y : Int) (hy : y ≠ 0) (hp : ∀ w2, Ext w w2 → Calls Try.prog 76 #[.slice a m c, .I size, .I k, .I n] w2 (Ret fun v w3 => Ext w2 w3 ∧ v = .tuple #[.slice none 0 0, .I y])) :
 Calls Try.prog 41 #[.slice a m c, .I size, .I k, .I n] w (Ret fun v w' => Ext w w' ∧ v = .tuple #[.slice none 0 0, .I y]) := by
 refine uS1 Try.func41 ?_
 have H := Hp.startF (w := w) (S := S) (G := []) .nil
 refine uR 3 [.c [1, 0], .c [2]] ?_
 refine qG (sq 0 10) ?_
 refine uP 4 ?_
 refine uK (hp _ H.done) ?_
 rintro _ _ b rfl
 have H := H.ext b
 refine uF 5 ?_
 refine uR 3 [.c [2, 0, 1], .c [3]] ?_
 refine qN y 0 (fun d => ?_) (fun d => ?_)
 ·
  refine uR 2 [.c [2, 0, 1, 0, 1], .c [3]] ?_
  refine qT (.tuple #[.slice none 0 0, .I y]) Try.func41 ?_
  exact ⟨_, rfl, H.done, rfl⟩
 ·
  omega
theorem r4reb_ref {S : Nat → Prop} {w : World} {a : Option Addr} {m c : Nat} (size k n y : Int) (hy : y ≠ 0) (hb : okS size k n) (x : Int) (hx : 0 ≤ x ∧ x < n) (hp : ∀ w2, Ext w w2 → Calls Try.prog 76 #[.slice a m c, .I size, .I k, .I n] w2 (Ret fun v w3 => Ext w2 w3 ∧ v = .tuple #[.slice none 0 0, .I y])) :
 Calls Try.prog 42 #[.slice a m c, .I size, .I k, .I n, .I x] w (Ret fun v w' => Ext w w' ∧ v = .tuple #[.slice none 0 0, .I y]) := by
 have l := eg_no hb
 have o := ez_yes hb
 unfold okS at hb
 refine uS1 Try.func42 ?_
 have H := Hp.startF (w := w) (S := S) (G := []) .nil
 refine uR 3 [.c [1, 0], .c [2]] ?_
 refine qG (sq 0 8) ?_
 refine uP 2 ?_
 refine uK (lenR_gen (S := fun _ => True) size k) ?_
 rintro _ _ b rfl
 have H := H.ext b
 refine uF 5 ?_
 refine uR 2 [.c [2, 0, 0], .c [2, 0, 1], .c [3]] ?_
 refine qG (sq 0 20) ?_
 refine uP 3 ?_
 refine uN 29 (elG size k) 0 (fun f => ?_) (fun f => ?_)
 ·
  omega
 ·
  refine uP 5 ?_
  refine uD 34 ((n : Int) < k) (fun g => ?_) (fun g => ?_)
  ·
   omega
  ·
   refine uP 4 ?_
   refine uD 38 ((n : Int) > 255) (fun h => ?_) (fun h => ?_)
   ·
    omega
   ·
    refine uP 4 ?_
    refine uD 42 ((x : Int) < 0) (fun i => ?_) (fun i => ?_)
    ·
     omega
    ·
     refine uF 4 ?_
     refine qD ((x : Int) ≥ n) (fun j => ?_) (fun j => ?_)
     ·
      omega
     ·
      refine uR 2 [.c [3, 0], .c [4]] ?_
      refine qG (sq 0 10) ?_
      refine qP 4 (sq 4 10) [(2, .I k), (3, .I n), (4, .I x), (48, .slice a m c), (49, .I size), (50, .I k), (51, .I n)] ?_
      refine uK (hp _ H.done) ?_
      rintro _ _ d rfl
      have H := H.ext d
      refine uF 5 ?_
      refine uR 3 [.c [4, 0, 1], .c [5]] ?_
      refine qN y 0 (fun e => ?_) (fun e => ?_)
      ·
       refine uR 2 [.c [4, 0, 1, 0, 1], .c [5]] ?_
       refine qT (.tuple #[.slice none 0 0, .I y]) Try.func42 ?_
       exact ⟨_, rfl, H.done, rfl⟩
      ·
       omega
theorem r4reb_arg {S : Nat → Prop} {w : World} {a : Option Addr} {m c : Nat} (size k n x : Int) (hb : ¬ (okS size k n ∧ 0 ≤ x ∧ x < n)) :
 Calls Try.prog 42 #[.slice a m c, .I size, .I k, .I n, .I x] w (Ret fun v w' => Ext w w' ∧ v = .tuple #[.slice none 0 0, .I 2]) := by
 refine uS1 Try.func42 ?_
 have H := Hp.startF (w := w) (S := S) (G := []) .nil
 refine uR 3 [.c [1, 0], .c [2]] ?_
 refine qG (sq 0 8) ?_
 refine uP 2 ?_
 refine uK (lenR_gen (S := fun _ => True) size k) ?_
 rintro _ _ b rfl
 have H := H.ext b
 refine uF 5 ?_
 refine uR 2 [.c [2, 0, 0], .c [2, 0, 1], .c [3]] ?_
 refine qG (sq 0 20) ?_
 refine uP 3 ?_
 refine uN 29 (elG size k) 0 (fun d => ?_) (fun d => ?_)
 ·
  refine uF 17 ?_
  refine uR 3 [.c [2, 0, 1, 0, 1], .c [3]] ?_
  refine qT (.tuple #[.slice none 0 0, .I 2]) Try.func42 ?_
  exact ⟨_, rfl, H.done, rfl⟩
 ·
  refine uP 5 ?_
  refine uD 34 ((n : Int) < k) (fun e => ?_) (fun e => ?_)
  ·
   refine uF 12 ?_
   refine uR 3 [.c [2, 0, 1, 0, 1], .c [3]] ?_
   refine qT (.tuple #[.slice none 0 0, .I 2]) Try.func42 ?_
   exact ⟨_, rfl, H.done, rfl⟩
  ·
   refine qP 4 (sq 12 20) [(0, .slice a m c), (1, .I size), (2, .I k), (3, .I n), (4, .I x), (38, .bool (decide ((n : Int) > 255)))] ?_
   refine uD 38 ((n : Int) > 255) (fun f => ?_) (fun f => ?_)
   ·
    refine uF 8 ?_
    refine uR 3 [.c [2, 0, 1, 0, 1], .c [3]] ?_
    refine qT (.tuple #[.slice none 0 0, .I 2]) Try.func42 ?_
    exact ⟨_, rfl, H.done, rfl⟩
   ·
    refine uP 4 ?_
    refine uD 42 ((x : Int) < 0) (fun g => ?_) (fun g => ?_)
    ·
     refine uF 4 ?_
     refine uR 3 [.c [2, 0, 1, 0, 1], .c [3]] ?_
     refine qT (.tuple #[.slice none 0 0, .I 2]) Try.func42 ?_
     exact ⟨_, rfl, H.done, rfl⟩
    ·
     refine uF 4 ?_
     refine qD ((x : Int) ≥ n) (fun h => ?_) (fun h => ?_)
     ·
      refine uR 2 [.c [2, 0, 1, 0, 1], .c [3]] ?_
      refine qT (.tuple #[.slice none 0 0, .I 2]) Try.func42 ?_
      exact ⟨_, rfl, H.done, rfl⟩
     ·
      exact absurd (by have q9 := eg_ok (size := size) (k := k) (by omega); unfold okS; omega) hb
theorem r4pick_arg {S : Nat → Prop} {w : World} {a : Option Addr} {m c : Nat} (size k n : Int) (hb : ¬ okS size k n) :
 Calls Try.prog 76 #[.slice a m c, .I size, .I k, .I n] w (Ret fun v w' => Ext w w' ∧ v = .tuple #[.slice none 0 0, .I 2]) := by
 refine uS1 Try.func76 ?_
 have H := Hp.startF (w := w) (S := S) (G := []) .nil
 refine uR 3 [.c [1, 0], .c [2]] ?_
 refine qG (sq 0 8) ?_
 refine uP 2 ?_
 refine uK (lenR_gen (S := fun _ => True) size k) ?_
 rintro _ _ b rfl
 have H := H.ext b
 refine uF 5 ?_
 refine uR 2 [.c [2, 0, 0], .c [2, 0, 1], .c [3]] ?_
 refine qG (sq 0 11) ?_
 refine uP 3 ?_
 refine uN 26 (elG size k) 0 (fun d => ?_) (fun d => ?_)
 ·
  refine uF 8 ?_
  refine uR 3 [.c [2, 0, 1, 0, 1], .c [3]] ?_
  refine qT (.tuple #[.slice none 0 0, .I 2]) Try.func76 ?_
  exact ⟨_, rfl, H.done, rfl⟩
 ·
  refine uP 5 ?_
  refine uD 31 ((n : Int) < k) (fun e => ?_) (fun e => ?_)
  ·
   refine uF 3 ?_
   refine uR 3 [.c [2, 0, 1, 0, 1], .c [3]] ?_
   refine qT (.tuple #[.slice none 0 0, .I 2]) Try.func76 ?_
   exact ⟨_, rfl, H.done, rfl⟩
  ·
   refine qF 3 [(0, .slice a m c), (2, .I k), (3, .I n), (10, .I (llG size k)), (34, .bool (decide ((n : Int) > 255)))] ?_
   refine qD ((n : Int) > 255) (fun f => ?_) (fun f => ?_)
   ·
    refine uR 2 [.c [2, 0, 1, 0, 1], .c [3]] ?_
    refine qT (.tuple #[.slice none 0 0, .I 2]) Try.func76 ?_
    exact ⟨_, rfl, H.done, rfl⟩
   ·
    exact absurd (by have q9 := eg_ok (size := size) (k := k) (by omega); unfold okS; omega) hb
theorem chosen_arg {S : Nat → Prop} {w : World} {a : Option Addr} {m c : Nat} (size k n : Int) (hb : ¬ okS size k n) :
 Calls Try.prog 99 #[.slice a m c, .I size, .I k, .I n] w (Ret fun v w' => Ext w w' ∧ v = .tuple #[.slice none 0 0, .I 0, .I 2]) := by
 have b : ezI size k n = 2 := if_neg hb
 refine uS1 Try.func99 ?_
 have H := Hp.startF (w := w) (S := S) (G := []) .nil
 refine uR 3 [.c [1, 0], .c [2]] ?_
 refine qG (sq 0 9) ?_
 refine uP 3 ?_
 refine uK (sizes_gen (S := fun _ => True) size k n) ?_
 rintro _ _ d rfl
 have H := H.ext d
 refine uF 5 ?_
 refine uR 3 [.c [2, 0, 1], .c [3]] ?_
 refine qN (ezI size k n) 0 (fun e => ?_) (fun e => ?_)
 ·
  refine uR 2 [.c [2, 0, 1, 0, 1], .c [3]] ?_
  refine qT (.tuple #[.slice none 0 0, .I 0, .I (ezI size k n)]) Try.func99 ?_
  exact ⟨_, rfl, H.done, by rw [b]⟩
 ·
  omega
theorem data_ref {S : Nat → Prop} {w : World} {a : Option Addr} {m c : Nat} (size k n y : Int) (hy : y ≠ 0) (hp : ∀ w2, Ext w w2 → Calls Try.prog 99 #[.slice a m c, .I size, .I k, .I n] w2 (Ret fun v w3 => Ext w2 w3 ∧ v = .tuple #[.slice none 0 0, .I 0, .I y])) :
 Calls Try.prog 69 #[.slice a m c, .I size, .I k, .I n] w (Ret fun v w' => Ext w w' ∧ v = .tuple #[.slice none 0 0, .I 0, .I y]) := by
 refine uS1 Try.func69 ?_
 have H := Hp.startF (w := w) (S := S) (G := []) .nil
 refine uR 3 [.c [1, 0], .c [2]] ?_
 refine qG (sq 0 12) ?_
 refine uP 4 ?_
 refine uK (hp _ H.done) ?_
 rintro _ _ b rfl
 have H := H.ext b
 refine uF 7 ?_
 refine uR 3 [.c [2, 0, 1], .c [3]] ?_
 refine qN y 0 (fun d => ?_) (fun d => ?_)
 ·
  refine uR 2 [.c [2, 0, 1, 0, 1], .c [3]] ?_
  refine qT (.tuple #[.slice none 0 0, .I 0, .I y]) Try.func69 ?_
  exact ⟨_, rfl, H.done, rfl⟩
 ·
  omega
theorem decode_ref {S : Nat → Prop} {w : World} {a : Option Addr} {m c : Nat} (size k n y : Int) (hy : y ≠ 0) (hp : ∀ w2, Ext w w2 → Calls Try.prog 69 #[.slice a m c, .I size, .I k, .I n] w2 (Ret fun v w3 => Ext w2 w3 ∧ v = .tuple #[.slice none 0 0, .I 0, .I y])) :
 Calls Try.prog 31 #[.slice a m c, .I size, .I k, .I n] w (Ret fun v w' => Ext w w' ∧ v = .tuple #[.slice none 0 0, .I y]) := by
 refine uS1 Try.func31 ?_
 have H := Hp.startF (w := w) (S := S) (G := []) .nil
 refine uR 3 [.c [1, 0], .c [2]] ?_
 refine qG (sq 0 12) ?_
 refine uP 4 ?_
 refine uK (hp _ H.done) ?_
 rintro _ _ b rfl
 have H := H.ext b
 refine uF 7 ?_
 refine uR 3 [.c [2, 0, 1], .c [3]] ?_
 refine qN y 0 (fun d => ?_) (fun d => ?_)
 ·
  refine uR 2 [.c [2, 0, 1, 0, 1], .c [3]] ?_
  refine qT (.tuple #[.slice none 0 0, .I y]) Try.func31 ?_
  exact ⟨_, rfl, H.done, rfl⟩
 ·
  omega
theorem rebuild_ref {S : Nat → Prop} {w : World} {a : Option Addr} {m c : Nat} (size k n y : Int) (hy : y ≠ 0) (hb : okS size k n) (x : Int) (hx : 0 ≤ x ∧ x < n) (hp : ∀ w2, Ext w w2 → Calls Try.prog 69 #[.slice a m c, .I size, .I k, .I n] w2 (Ret fun v w3 => Ext w2 w3 ∧ v = .tuple #[.slice none 0 0, .I 0, .I y])) :
 Calls Try.prog 32 #[.slice a m c, .I size, .I k, .I n, .I x] w (Ret fun v w' => Ext w w' ∧ v = .tuple #[.slice none 0 0, .I y]) := by
 have i := eg_no hb
 have j := ez_yes hb
 unfold okS at hb
 refine uS1 Try.func32 ?_
 have H := Hp.startF (w := w) (S := S) (G := []) .nil
 refine uR 4 [.c [1, 0, 0], .c [1, 0, 1], .c [2]] ?_
 refine qG (sq 0 9) ?_
 refine uP 3 ?_
 refine uK (sizes_gen (S := fun _ => True) size k n) ?_
 rintro _ _ d rfl
 have H := H.ext d
 refine uF 5 ?_
 refine uR 1 [.c [1, 0, 1, 0], .c [1, 0, 2], .c [2]] ?_
 refine qG (sq 0 9) ?_
 refine uP 3 ?_
 refine uN 28 (ezI size k n) 0 (fun g => ?_) (fun g => ?_)
 ·
  omega
 ·
  refine uP 2 ?_
  refine uI (n - 1) ?_
  refine uK (between_spec (S := fun _ => True) x 0 (n - 1)) ?_
  rintro _ _ e rfl
  have H := H.ext e
  refine uF 2 ?_
  refine qC (!(decide (0 ≤ x ∧ x ≤ n - 1))) (fun b => ?_) (fun b => ?_)
  ·
   replace b : (decide (0 ≤ x ∧ x ≤ n - 1)) = false := by revert b; cases (decide (0 ≤ x ∧ x ≤ n - 1)) <;> simp
   replace b := of_decide_eq_false b
   omega
  ·
   replace b : (decide (0 ≤ x ∧ x ≤ n - 1)) = true := by revert b; cases (decide (0 ≤ x ∧ x ≤ n - 1)) <;> simp
   replace b := of_decide_eq_true b
   refine uR 2 [.c [2, 0], .c [3]] ?_
   refine qG (sq 0 12) ?_
   refine uP 4 ?_
   refine uK (hp _ H.done) ?_
   rintro _ _ f rfl
   have H := H.ext f
   refine uF 7 ?_
   refine qR 3 [.c [3, 0, 1], .c [4]] [(2, .I k), (3, .I n), (4, .I x), (14, .slice none 0 0), (15, .I 0), (16, .I y), (45, .bool (y != 0))] ?_
   refine qN y 0 (fun h => ?_) (fun h => ?_)
   ·
    refine uR 2 [.c [3, 0, 1, 0, 1], .c [4]] ?_
    refine qT (.tuple #[.slice none 0 0, .I y]) Try.func32 ?_
    exact ⟨_, rfl, H.done, rfl⟩
   ·
    omega
theorem rebuild_arg {S : Nat → Prop} {w : World} {a : Option Addr} {m c : Nat} (size k n x : Int) (hb : ¬ (okS size k n ∧ 0 ≤ x ∧ x < n)) :
 Calls Try.prog 32 #[.slice a m c, .I size, .I k, .I n, .I x] w (Ret fun v w' => Ext w w' ∧ v = .tuple #[.slice none 0 0, .I 2]) := by
 refine uS1 Try.func32 ?_
 have H := Hp.startF (w := w) (S := S) (G := []) .nil
 refine uR 4 [.c [1, 0, 0], .c [1, 0, 1], .c [2]] ?_
 refine qG (sq 0 9) ?_
 refine uP 3 ?_
 refine uK (sizes_gen (S := fun _ => True) size k n) ?_
 rintro _ _ d rfl
 have H := H.ext d
 refine uF 5 ?_
 refine uR 1 [.c [1, 0, 1, 0], .c [1, 0, 2], .c [2]] ?_
 refine qG (sq 0 9) ?_
 refine uP 3 ?_
 refine uN 28 (ezI size k n) 0 (fun f => ?_) (fun f => ?_)
 ·
  refine uF 6 ?_
  refine uR 3 [.c [1, 0, 2, 0, 1], .c [2]] ?_
  refine qT (.tuple #[.slice none 0 0, .I 2]) Try.func32 ?_
  exact ⟨_, rfl, H.done, rfl⟩
 ·
  have hokz := ez_ok (size := size) (k := k) (n := n) (by omega)
  unfold okZ at hokz
  refine uP 2 ?_
  refine uI (n - 1) ?_
  refine uK (between_spec (S := fun _ => True) x 0 (n - 1)) ?_
  rintro _ _ e rfl
  have H := H.ext e
  refine uF 2 ?_
  refine qC (!(decide (0 ≤ x ∧ x ≤ n - 1))) (fun b => ?_) (fun b => ?_)
  ·
   replace b : (decide (0 ≤ x ∧ x ≤ n - 1)) = false := by revert b; cases (decide (0 ≤ x ∧ x ≤ n - 1)) <;> simp
   replace b := of_decide_eq_false b
   refine uR 2 [.c [1, 0, 2, 0, 1], .c [2]] ?_
   refine qT (.tuple #[.slice none 0 0, .I 2]) Try.func32 ?_
   exact ⟨_, rfl, H.done, rfl⟩
  ·
   replace b : (decide (0 ≤ x ∧ x ≤ n - 1)) = true := by revert b; cases (decide (0 ≤ x ∧ x ≤ n - 1)) <;> simp
   replace b := of_decide_eq_true b
   exact absurd (by have q9 := ez_ok (size := size) (k := k) (n := n) (by omega); unfold okZ at q9; unfold okS; omega) hb
end Go.Proofs.Ytppcdmbkgficiaa
