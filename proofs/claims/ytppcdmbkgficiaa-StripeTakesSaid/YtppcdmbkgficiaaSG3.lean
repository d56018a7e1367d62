import Derived.Test.YtppcdmbkgficiaaSBxA
import Derived.Test.YtppcdmbkgficiaaSG2
namespace Go.Proofs.Ytppcdmbkgficiaa
open Go.BX
theorem between_spec {S : Nat → Prop} {w : World} (x l h : Int) :
 Calls Try.prog 71 #[.I x, .I l, .I h] w (Ret fun v w' => Ext w w' ∧ v = .bool (decide (l ≤ x ∧ x ≤ h))) := by
 refine uS1 Try.func71 ?_
 have H := Hp.startF (w := w) (S := S) (G := []) .nil
 refine uR 3 [.c [1, 0], .c [2]] ?_
 refine qG (sq 0 9) ?_
 refine uP 4 ?_
 refine uD 10 ((x : Int) ≥ l) (fun a => ?_) (fun a => ?_)
 ·
  refine uF 5 ?_
  refine qT (.bool (decide ((x : Int) ≤ h))) Try.func71 ?_
  refine ⟨_, rfl, H.done, ?_⟩
  congr 1
  exact decide_eq_decide.2 (by omega)
 ·
  refine uF 5 ?_
  refine qT (.bool false) Try.func71 ?_
  refine ⟨_, rfl, H.done, ?_⟩
  congr 1
  exact (decide_eq_false (by omega)).symm
def lenOf (size k : Nat) : Nat := (size + k - 1) / k
theorem lenOf_int {size k : Nat} (_hs : 0 < k) : ((size : Int) + (k : Int) - 1) / (k : Int) = ((lenOf size k : Nat) : Int) := by
 unfold lenOf
 rw [Int.natCast_ediv]
 congr 1
 omega
theorem lenOf_le {size k : Nat} (hk : 0 < k) : lenOf size k ≤ size := by
 unfold lenOf
 rcases Nat.eq_zero_or_pos size with rfl | h
 · rw [Nat.div_eq_of_lt (by omega)]; exact Nat.le_refl _
 · rw [Nat.div_le_iff_le_mul_add_pred hk]
   have : 1 * size ≤ k * size := Nat.mul_le_mul_right _ hk
   omega
theorem lenOf_mul {size k : Nat} (hk : 0 < k) : size ≤ k * lenOf size k := by
 unfold lenOf
 have a := Nat.div_add_mod (size + k - 1) k
 have b := Nat.mod_lt (size + k - 1) hk
 omega
theorem length_ok {S : Nat → Prop} {w : World} (size k : Nat) (hs : size ≤ 65536) (hk : 1 ≤ k) (hk2 : k ≤ 255) :
 Calls Try.prog 35 #[.I size, .I k] w (Ret fun v w' => Ext w w' ∧ v = .tuple #[.I ((lenOf size k : Nat) : Int), .I 0]) := by
 refine uS1 Try.func35 ?_
 have H := Hp.startF (w := w) (S := S) (G := []) .nil
 refine uR 4 [.c [1, 0, 0], .c [1, 0, 1], .c [2]] ?_
 refine qG (sq 0 8) ?_
 refine uP 1 ?_
 refine uK (between_spec (S := fun _ => True) (size : Int) 0 65536) ?_
 rintro _ _ e rfl
 have H := H.ext e
 refine uP 2 ?_
 refine uT 9 (!(decide (0 ≤ (size : Int) ∧ (size : Int) ≤ 65536))) (fun a => ?_) (fun a => ?_)
 ·
  replace a : (decide (0 ≤ (size : Int) ∧ (size : Int) ≤ 65536)) = false := by revert a; cases (decide (0 ≤ (size : Int) ∧ (size : Int) ≤ 65536)) <;> simp
  replace a := of_decide_eq_false a
  exact absurd (by omega) a
 ·
  replace a : (decide (0 ≤ (size : Int) ∧ (size : Int) ≤ 65536)) = true := by revert a; cases (decide (0 ≤ (size : Int) ∧ (size : Int) ≤ 65536)) <;> simp
  replace a := of_decide_eq_true a
  refine uP 1 ?_
  refine uK (between_spec (S := fun _ => True) (k : Int) 1 255) ?_
  rintro _ _ f rfl
  have H := H.ext f
  refine uF 2 ?_
  refine qC (!(decide (1 ≤ (k : Int) ∧ (k : Int) ≤ 255))) (fun b => ?_) (fun b => ?_)
  ·
   replace b : (decide (1 ≤ (k : Int) ∧ (k : Int) ≤ 255)) = false := by revert b; cases (decide (1 ≤ (k : Int) ∧ (k : Int) ≤ 255)) <;> simp
   replace b := of_decide_eq_false b
   exact absurd (by omega) b
  ·
   replace b : (decide (1 ≤ (k : Int) ∧ (k : Int) ≤ 255)) = true := by revert b; cases (decide (1 ≤ (k : Int) ∧ (k : Int) ≤ 255)) <;> simp
   replace b := of_decide_eq_true b
   refine uR 2 [.c [2, 0], .c [3]] ?_
   refine qG (sq 0 8) ?_
   refine uP 2 ?_
   refine uI ((size : Int) + (k : Int)) ?_
   refine uI (((size : Int) + (k : Int)) - 1) ?_
   refine uP 1 ?_
   refine RW.readS (κ := .seq) (d := some 19) (r := (sq 6 8)) (s := semV (Op.intDiv .quo .i64 (((size : Int) + (k : Int)) - 1) (k : Int))) (v := .I ((((size : Int) + (k : Int)) - 1) / (k : Int))) (by as_aux_lemma => kernel_rfl) (fun w' _ => semV_run (quo_run_i64 (by omega) (by omega))) ?_
   refine uF 2 ?_
   refine qT (.tuple #[.I ((((size : Int) + (k : Int)) - 1) / (k : Int)), .I 0]) Try.func35 ?_
   refine ⟨_, rfl, H.done, ?_⟩
   rw [lenOf_int (by omega)]
theorem length_bad {S : Nat → Prop} {w : World} (size k : Int) (hb : ¬ (0 ≤ size ∧ size ≤ 65536 ∧ 1 ≤ k ∧ k ≤ 255)) :
 Calls Try.prog 35 #[.I size, .I k] w (Ret fun v w' => Ext w w' ∧ v = .tuple #[.I 0, .I 2]) := by
 refine uS1 Try.func35 ?_
 have H := Hp.startF (w := w) (S := S) (G := []) .nil
 refine uR 4 [.c [1, 0, 0], .c [1, 0, 1], .c [2]] ?_
 refine qG (sq 0 8) ?_
 refine uP 1 ?_
 refine uK (between_spec (S := fun _ => True) size 0 65536) ?_
 rintro _ _ d rfl
 have H := H.ext d
 refine uP 2 ?_
 refine uT 9 (!(decide (0 ≤ size ∧ size ≤ 65536))) (fun a => ?_) (fun a => ?_)
 ·
  replace a : (decide (0 ≤ size ∧ size ≤ 65536)) = false := by revert a; cases (decide (0 ≤ size ∧ size ≤ 65536)) <;> simp
  replace a := of_decide_eq_false a
  refine uF 4 ?_
  refine uR 3 [.c [1, 0, 1, 0, 1], .c [2]] ?_
  refine qT (.tuple #[.I 0, .I 2]) Try.func35 ?_
  exact ⟨_, rfl, H.done, rfl⟩
 ·
  replace a : (decide (0 ≤ size ∧ size ≤ 65536)) = true := by revert a; cases (decide (0 ≤ size ∧ size ≤ 65536)) <;> simp
  replace a := of_decide_eq_true a
  refine uP 1 ?_
  refine uK (between_spec (S := fun _ => True) k 1 255) ?_
  rintro _ _ e rfl
  have H := H.ext e
  refine uF 2 ?_
  refine qC (!(decide (1 ≤ k ∧ k ≤ 255))) (fun b => ?_) (fun b => ?_)
  ·
   replace b : (decide (1 ≤ k ∧ k ≤ 255)) = false := by revert b; cases (decide (1 ≤ k ∧ k ≤ 255)) <;> simp
   replace b := of_decide_eq_false b
   refine uR 2 [.c [1, 0, 1, 0, 1], .c [2]] ?_
   refine qT (.tuple #[.I 0, .I 2]) Try.func35 ?_
   exact ⟨_, rfl, H.done, rfl⟩
  ·
   replace b : (decide (1 ≤ k ∧ k ≤ 255)) = true := by revert b; cases (decide (1 ≤ k ∧ k ≤ 255)) <;> simp
   replace b := of_decide_eq_true b
   exact absurd (by omega) hb
theorem sizes_ok {S : Nat → Prop} {w : World} (size k n : Nat) (hs : size ≤ 65536) (hk : 1 ≤ k) (hkn : k ≤ n) (hn : n ≤ 255) :
 Calls Try.prog 66 #[.I size, .I k, .I n] w (Ret fun v w' => Ext w w' ∧ v = .tuple #[.I ((lenOf size k : Nat) : Int), .I 0]) := by
 refine uS1 Try.func66 ?_
 have H := Hp.startF (w := w) (S := S) (G := []) .nil
 refine uR 3 [.c [1, 0], .c [2]] ?_
 refine qG (sq 0 8) ?_
 refine uP 2 ?_
 refine uK (length_ok (S := fun _ => True) size k (by omega) (by omega) (by omega)) ?_
 rintro _ _ b rfl
 have H := H.ext b
 refine uF 5 ?_
 refine uR 2 [.c [2, 0, 0], .c [2, 0, 1], .c [3]] ?_
 refine qG (sq 0 8) ?_
 refine uP 5 ?_
 refine uK (between_spec (S := fun _ => True) (n : Int) (k : Int) 255) ?_
 rintro _ _ d rfl
 have H := H.ext d
 refine uF 2 ?_
 refine qC (!(decide ((k : Int) ≤ (n : Int) ∧ (n : Int) ≤ 255))) (fun a => ?_) (fun a => ?_)
 ·
  replace a : (decide ((k : Int) ≤ (n : Int) ∧ (n : Int) ≤ 255)) = false := by revert a; cases (decide ((k : Int) ≤ (n : Int) ∧ (n : Int) ≤ 255)) <;> simp
  replace a := of_decide_eq_false a
  exact absurd (by omega) a
 ·
  replace a : (decide ((k : Int) ≤ (n : Int) ∧ (n : Int) ≤ 255)) = true := by revert a; cases (decide ((k : Int) ≤ (n : Int) ∧ (n : Int) ≤ 255)) <;> simp
  replace a := of_decide_eq_true a
  refine uR 3 [.c [4]] ?_
  refine qT (.tuple #[.I ((lenOf size k : Nat) : Int), .I 0]) Try.func66 ?_
  exact ⟨_, rfl, H.done, rfl⟩
theorem sizes_badn {S : Nat → Prop} {w : World} (size k : Nat) (n : Int) (hs : size ≤ 65536) (hk : 1 ≤ k) (hk2 : k ≤ 255) (hb : ¬ ((k : Int) ≤ n ∧ n ≤ 255)) :
 Calls Try.prog 66 #[.I size, .I k, .I n] w (Ret fun v w' => Ext w w' ∧ v = .tuple #[.I 0, .I 2]) := by
 refine uS1 Try.func66 ?_
 have H := Hp.startF (w := w) (S := S) (G := []) .nil
 refine uR 3 [.c [1, 0], .c [2]] ?_
 refine qG (sq 0 8) ?_
 refine uP 2 ?_
 refine uK (length_ok (S := fun _ => True) size k (by omega) (by omega) (by omega)) ?_
 rintro _ _ b rfl
 have H := H.ext b
 refine uF 5 ?_
 refine uR 2 [.c [2, 0, 0], .c [2, 0, 1], .c [3]] ?_
 refine qG (sq 0 8) ?_
 refine uP 5 ?_
 refine uK (between_spec (S := fun _ => True) n (k : Int) 255) ?_
 rintro _ _ d rfl
 have H := H.ext d
 refine uF 2 ?_
 refine qC (!(decide ((k : Int) ≤ n ∧ n ≤ 255))) (fun a => ?_) (fun a => ?_)
 ·
  replace a : (decide ((k : Int) ≤ n ∧ n ≤ 255)) = false := by revert a; cases (decide ((k : Int) ≤ n ∧ n ≤ 255)) <;> simp
  replace a := of_decide_eq_false a
  refine uR 2 [.c [2, 0, 1, 0, 1], .c [3]] ?_
  refine qT (.tuple #[.I 0, .I 2]) Try.func66 ?_
  exact ⟨_, rfl, H.done, rfl⟩
 ·
  replace a : (decide ((k : Int) ≤ n ∧ n ≤ 255)) = true := by revert a; cases (decide ((k : Int) ≤ n ∧ n ≤ 255)) <;> simp
  replace a := of_decide_eq_true a
  exact absurd (by omega) hb
theorem sizes_badk {S : Nat → Prop} {w : World} (size k n : Int) (hb : ¬ (0 ≤ size ∧ size ≤ 65536 ∧ 1 ≤ k ∧ k ≤ 255)) :
 Calls Try.prog 66 #[.I size, .I k, .I n] w (Ret fun v w' => Ext w w' ∧ v = .tuple #[.I 0, .I 2]) := by
 refine uS1 Try.func66 ?_
 have H := Hp.startF (w := w) (S := S) (G := []) .nil
 refine uR 3 [.c [1, 0], .c [2]] ?_
 refine qG (sq 0 8) ?_
 refine uP 2 ?_
 refine uK (length_bad (S := fun _ => True) size k (by omega)) ?_
 rintro _ _ a rfl
 have H := H.ext a
 refine uF 5 ?_
 refine uR 7 [.c [4]] ?_
 refine qT (.tuple #[.I 0, .I 2]) Try.func66 ?_
 exact ⟨_, rfl, H.done, rfl⟩
theorem sizes_bad {S : Nat → Prop} {w : World} (size k n : Int) (hb : ¬ (0 ≤ size ∧ size ≤ 65536 ∧ 1 ≤ k ∧ k ≤ n ∧ n ≤ 255)) :
 Calls Try.prog 66 #[.I size, .I k, .I n] w (Ret fun v w' => Ext w w' ∧ v = .tuple #[.I 0, .I 2]) := by
 by_cases h : 0 ≤ size ∧ size ≤ 65536 ∧ 1 ≤ k ∧ k ≤ 255
 · obtain ⟨a, _, _, _⟩ := h
   obtain ⟨size, rfl⟩ := Int.eq_ofNat_of_zero_le a
   obtain ⟨k, rfl⟩ := Int.eq_ofNat_of_zero_le (show 0 ≤ k by omega)
   exact sizes_badn (S := S) size k n (by omega) (by omega) (by omega) (by omega)
 · exact sizes_badk (S := S) size k n h
def mixAll : List (BitVec 8) → List (List (BitVec 8)) → List (BitVec 8) → List (BitVec 8)
 | c :: r, d :: ds, acc => mixAll r ds (mixL acc d c)
 | _, _, acc => acc
theorem mixAll_nil (ds : List (List (BitVec 8))) (acc : List (BitVec 8)) : mixAll [] ds acc = acc := by
 cases ds <;> rfl
theorem mixAll_step {row : List (BitVec 8)} {ds : List (List (BitVec 8))} {acc : List (BitVec 8)} {j : Nat} (h1 : j < row.length) (h2 : j < ds.length) : mixAll (row.drop j) (ds.drop j) acc = mixAll (row.drop (j + 1)) (ds.drop (j + 1)) (mixL acc ds[j] row[j]) := by
 rw [List.drop_eq_getElem_cons h1, List.drop_eq_getElem_cons h2]; rfl
theorem mixAll_len : ∀ {row : List (BitVec 8)} {ds : List (List (BitVec 8))} {acc : List (BitVec 8)} {l : Nat}, acc.length = l → (∀ d ∈ ds, d.length = l) → (mixAll row ds acc).length = l
 | [], ds, acc, l, h, _ => by rw [mixAll_nil]; exact h
 | c :: r, [], acc, l, h, _ => h
 | c :: r, d :: ds, acc, l, h, hd => by
  have h1 := hd d (by simp)
  exact mixAll_len (row := r) (ds := ds) (by rw [mixL_len (by omega)]; exact h) fun x hx => hd x (by simp [hx])
theorem mixed_spec {S : Nat → Prop} {w : World} {row : List (BitVec 8)} {ds : List (List (BitVec 8))} {a ad : Option Addr} {ka kd : Nat} (l : Nat) (h1 : SB.rep S w [.slice a row.length ka] row) (h2 : (Shape.slice SB).rep S w [.slice ad ds.length kd] ds) (hle : row.length ≤ ds.length) (hd : ∀ d ∈ ds, d.length = l) (hl : l ≤ 1099511627776) :
 Calls Try.prog 68 #[.slice a row.length ka, .slice ad ds.length kd, .I l] w (Ret fun v w' => Ext w w' ∧ Hp w S [] [] [⟨Sb, 5, v, mixAll row ds (List.replicate l 0#8)⟩] [] w') := by
 have hlr := Shape.slice_len h1
 refine uS1 Try.func68 ?_
 have H := Hp.startF (.rp h1 (.rp h2 .nil))
 refine uR 3 [.c [1, 0], .c [2]] ?_
 refine qG (sq 0 3) ?_
 refine uP 1 ?_
 refine RW.makeW Sb (κ := .seq) (d := some 11) (r := (sq 2 3)) (T := 23) (e := 5) (by_ := 1) (v0 := .int .u8 0) (0#8 : BitVec 8) (kl := .i64) (kc := .i64) (lv := (l : Int)) (cv := (l : Int)) (by as_aux_lemma => kernel_rfl) (nofun) (by as_aux_lemma => kernel_rfl) rfl H l l (by omega) (by omega) (by omega) (by omega) (by omega) (fun _ _ => rfl) ?_
 intro o _ H
 have H : Hp w S [] [] [⟨Sb, 5, .slice (some ⟨o, 0, none⟩) l l, (List.replicate l (0#8 : BitVec 8))⟩] [_, _] _ := H
 refine uF 1 ?_
 refine qR 4 [.c [2, 0, 1, 0], .b 0, .c [3]] [(1, .slice ad ds.length kd), (7, .slice (some ⟨o, 0, none⟩) l l), (12, .slice a row.length ka), (13, .I ((row.length : Nat) : Int)), (14, .I 0)] ?_
 have H := H.reW (v' := .slice (some ⟨o, 0, none⟩) (List.replicate l 0#8).length l) rfl (by rw [List.length_replicate])
 refine WK.loop (α := Nat × List (BitVec 8) × Option Addr × Nat) (b := cd Try.prog 68 [2, 0, 1, 0, 0]) (by as_aux_lemma => kernel_rfl) (fun (j, acc, g, h) => [(1, .slice ad ds.length kd), (7, .slice g acc.length h), (12, .slice a row.length ka), (13, .I ((row.length : Nat) : Int)), (14, .I j)]) (fun (j, acc, g, h) w' => Hp w S [] [] [⟨Sb, 5, .slice g acc.length h, acc⟩] [Rp SB [.slice a row.length ka] row, Rp (Shape.slice SB) [.slice ad ds.length kd] ds] w' ∧ j ≤ row.length ∧ acc.length = l ∧ mixAll (row.drop j) (ds.drop j) acc = mixAll row ds (List.replicate l 0#8)) (fun (j, acc, g, h) => row.length - j) (0, List.replicate l 0#8, (some ⟨o, 0, none⟩), l) ⟨H, Nat.zero_le _, List.length_replicate, rfl⟩ (by simp) ?_
 rintro ⟨j, acc, g, h⟩ _ ⟨H, f⟩ i
 refine uR 3 [.c [2, 0, 1, 0, 0, 1, 0], .c [2, 0, 1, 0, 0, 2], .l [2, 0, 1, 0, 0], .b 0, .c [3]] ?_
 refine qD (((j : Int) : Int) < ((row.length : Nat) : Int)) (fun C => ?_) (fun C => ?_)
 ·
  refine uR 4 [.c [2, 0, 1, 0, 0, 2, 0, 0, 0], .c [2, 0, 1, 0, 0, 2, 0, 0, 1], .b 1, .c [2, 0, 1, 0, 0, 3], .l [2, 0, 1, 0, 0], .b 0, .c [3]] ?_
  refine qG (sq 0 5) ?_
  refine uP 1 ?_
  have t : j < row.length := by omega
  refine uX 23 (j : Int) H 0 rfl j (by omega) (List.getElem?_eq_getElem t) ?_
  intro D E _ q H
  obtain rfl := q
  refine uV 5 0 (H.fc 0 rfl) ?_
  refine uF 2 ?_
  refine uR 2 [.c [2, 0, 1, 0, 0, 2, 0, 0, 2], .b 1, .c [2, 0, 1, 0, 0, 3], .l [2, 0, 1, 0, 0], .b 0, .c [3]] ?_
  refine qN (((row[j]).toNat : Nat) : Int) 0 (fun u => ?_) (fun u => ?_)
  ·
   have F := hd (ds[j]) (List.getElem_mem _)
   have G := f.2.1
   refine qG (sq 0 11) ?_
   refine uP 3 ?_
   have s : j < ds.length := by omega
   refine uX 29 (j : Int) H 2 rfl j (by omega) (List.getElem?_eq_getElem s) ?_
   intro x y _ k H
   obtain ⟨z, A, rfl⟩ := Shape.slice_form' k
   have H := H.addR k
   refine uV 23 0 (H.fc 1 rfl) ?_
   refine uP 1 ?_
   have H : Hp w S [] [] [] [Rp SB [.slice g acc.length h] acc, _, Fc x y [.slice z (ds[j]).length A], Fc D E [.int .u8 (((row[j]).toNat : Nat) : Int)], _, _] _ := H.freezeW 0 rfl
   refine uK (mix_spec (xs := acc) (ys := ds[j]) (row[j]) (H.rp 0 rfl) (H.rp 1 rfl) (by first | omega | assumption) (by omega)) ?_
   rintro _ _ - ⟨m, n, rfl, H'⟩
   have H := H.back (M1 := []) (W1 := []) H'
   have H : Hp w S [] [] [⟨Sb, 5, .slice m ((mixL acc (ds[j]) (row[j])).length) n, mixL acc (ds[j]) (row[j])⟩] [_, _, _, _, _, _] _ := H
   refine uF 4 ?_
   refine uR 1 [.c [2, 0, 1, 0, 0, 3], .l [2, 0, 1, 0, 0], .b 0, .c [3]] ?_
   refine qG (sq 0 2) ?_
   refine uI ((j : Int) + 1) ?_
   refine qF 1 [(1, .slice ad ds.length kd), (7, .slice m ((mixL acc (ds[j]) (row[j])).length) n), (12, .slice a row.length ka), (13, .I ((row.length : Nat) : Int)), (14, .I ((j : Int) + 1))] ?_
   have H := H.pick [4, 5] rfl
   exact WK.back (i (j + 1, mixL acc (ds[j]) (row[j]), m, n) _ ⟨H, by omega, by first | exact f.2.1 | (rw [mixL_len (by omega)]; exact f.2.1), by rw [← f.2.2, mixAll_step (j := j) (by omega) (by omega)] <;> first | rfl | rw [p]⟩ (by first | omega | (simp only []; omega))) (by first | rfl | simp)
  ·
   have p : mixL acc (ds[j]) (row[j]) = acc := by
    have B : row[j] = 0#8 := BitVec.eq_of_toNat_eq (by have hq8 : (0#8).toNat = 0 := rfl; omega)
    rw [B]; exact mixL_zero (by rw [f.2.1, hd (ds[j]) (List.getElem_mem _)])
   refine uR 2 [.c [2, 0, 1, 0, 0, 3], .l [2, 0, 1, 0, 0], .b 0, .c [3]] ?_
   refine qG (sq 0 2) ?_
   refine uI ((j : Int) + 1) ?_
   refine qF 1 [(1, .slice ad ds.length kd), (7, .slice g acc.length h), (12, .slice a row.length ka), (13, .I ((row.length : Nat) : Int)), (14, .I ((j : Int) + 1))] ?_
   have H := H.pick [1, 2] rfl
   exact WK.back (i (j + 1, acc, g, h) _ ⟨H, by omega, by first | exact f.2.1 | (rw [mixL_len (by omega)]; exact f.2.1), by rw [← f.2.2, mixAll_step (j := j) (by omega) (by omega)] <;> first | rfl | rw [p]⟩ (by first | omega | (simp only []; omega))) (by first | rfl | simp)
 ·
  refine uR 3 [.c [4]] ?_
  refine qT (.slice g acc.length h) Try.func68 ?_
  refine ⟨_, rfl, H.done, (H.pick [] rfl).reW ?_⟩
  rw [← f.2.2, List.drop_of_length_le (by omega), mixAll_nil]
def chunk (xs : List (BitVec 8)) (l i : Nat) : List (BitVec 8) := (xs.drop (i * l)).take l ++ List.replicate (l - (xs.length - i * l)) 0#8
def dataOf (xs : List (BitVec 8)) (l k : Nat) : List (List (BitVec 8)) := (List.range k).map (chunk xs l)
def enc (xs : List (BitVec 8)) (k n : Nat) : List (List (BitVec 8)) :=
 dataOf xs (lenOf xs.length k) k ++ (List.range (n - k)).map fun j => mixAll (genRow k (k + j)) (dataOf xs (lenOf xs.length k) k) (List.replicate (lenOf xs.length k) 0#8)
theorem chunk_len (xs : List (BitVec 8)) (l i : Nat) : (chunk xs l i).length = l := by
 simp [chunk]; omega
theorem dataOf_len (xs : List (BitVec 8)) (l k : Nat) : (dataOf xs l k).length = k := by simp [dataOf]
theorem dataOf_all (xs : List (BitVec 8)) (l k : Nat) : ∀ d ∈ dataOf xs l k, d.length = l := by
 intro d hd
 obtain ⟨i, _, rfl⟩ := List.mem_map.1 hd
 exact chunk_len xs l i
theorem enc_len {xs : List (BitVec 8)} {k n : Nat} (h : k ≤ n) : (enc xs k n).length = n := by
 simp [enc, dataOf_len]; omega
theorem chunk_copy (xs : List (BitVec 8)) (l i : Nat) : (xs.drop (i * l)).take (List.replicate l 0#8).length ++ (List.replicate l 0#8).drop (xs.drop (i * l)).length = chunk xs l i := by
 simp [chunk]
theorem chunk_zero {xs : List (BitVec 8)} {l i : Nat} (h : xs.length ≤ i * l) : List.replicate l 0#8 = chunk xs l i := by
 unfold chunk
 rw [List.drop_of_length_le h, Nat.sub_eq_zero_of_le h]
 simp
theorem enc_get1 {xs : List (BitVec 8)} {k n i : Nat} (h : i < k) : (enc xs k n)[i]? = some (chunk xs (lenOf xs.length k) i) := by
 unfold enc
 rw [List.getElem?_append_left (by rw [dataOf_len]; exact h)]
 simp [dataOf, h]
theorem enc_get2 {xs : List (BitVec 8)} {k n j : Nat} (h : j < n - k) : (enc xs k n)[k + j]? = some (mixAll (genRow k (k + j)) (dataOf xs (lenOf xs.length k) k) (List.replicate (lenOf xs.length k) 0#8)) := by
 unfold enc
 rw [List.getElem?_append_right (by rw [dataOf_len]; omega), dataOf_len, Nat.add_sub_cancel_left]
 simp [h]
theorem take_snoc {α : Type} {l : List α} {i : Nat} {x : α} (h : l[i]? = some x) : l.take i ++ [x] = l.take (i + 1) := by
 rw [List.take_add_one, h]; rfl
theorem enc_data {xs : List (BitVec 8)} {k n j : Nat} : ((enc xs k n).take (k + j)).take k = dataOf xs (lenOf xs.length k) k := by
 rw [List.take_take, Nat.min_eq_left (by omega)]
 unfold enc
 rw [List.take_append_of_le_length (by rw [dataOf_len]; exact Nat.le_refl _), List.take_of_length_le (by rw [dataOf_len]; exact Nat.le_refl _)]
theorem gen_drop {k n j : Nat} (h : j < n - k) : ((gen k n).drop k)[j]? = some (genRow k (k + j)) := by
 rw [List.getElem?_drop]
 unfold gen
 rw [List.getElem?_map, List.getElem?_range (by omega)]
 rfl
theorem genRow_len (k i : Nat) : (genRow k i).length = k := by simp [genRow]
theorem encode_ok {S : Nat → Prop} {w : World} {xs : List (BitVec 8)} {a : Option Addr} {c : Nat} (k n : Nat) (h : SB.rep S w [.slice a xs.length c] xs) (hs : xs.length ≤ 65536) (hk : 1 ≤ k) (hkn : k ≤ n) (hn : n ≤ 255) :
 Calls Try.prog 29 #[.slice a xs.length c, .I k, .I n] w (Ret fun v w' => Ext w w' ∧ ∃ (a : Option Addr) (c : Nat), v = .tuple #[.slice a (enc xs k n).length c, .I 0] ∧ (Shape.slice SB).rep (Nw S w) w' [.slice a (enc xs k n).length c] (enc xs k n)) := by
 have hL := lenOf_le (size := xs.length) (k := k) (by omega)
 refine uS1 Try.func29 ?_
 have H := Hp.startF (.rp h .nil)
 refine uR 3 [.c [1, 0], .c [2]] ?_
 refine qG (sq 0 10) ?_
 refine uP 4 ?_
 refine uK (sizes_ok (S := fun _ => True) xs.length k n (by omega) (by omega) (by omega) (by omega)) ?_
 rintro _ _ P rfl
 have H := H.ext P
 refine uF 5 ?_
 refine uR 11 [.c [4, 0, 1, 0], .b 0, .c [5]] ?_
 have H := H.ownNil SB 23
 refine uL (α := Nat × Option Addr × Nat) (g := 29) (p := [4, 0, 1, 0, 0]) (fun (i, ao, co) => [(0, .slice a xs.length c), (1, .I k), (2, .I n), (8, .I ((lenOf xs.length k : Nat) : Int)), (10, .slice ao (((enc xs k n).take i).length) co), (29, .I k), (30, .I i)]) (fun (i, ao, co) w' => Hp w S [] [] [⟨SB, 23, .slice ao (((enc xs k n).take i).length) co, (enc xs k n).take i⟩] [Rp SB [.slice a xs.length c] xs] w' ∧ i ≤ k) (fun (i, ao, co) => k - i) (0, none, 0) ⟨H, Nat.zero_le _⟩ ?_
 rintro ⟨i, ao, co⟩ _ ⟨H, _⟩ q
 have hil : i * (lenOf xs.length k) ≤ 255 * 65536 := Nat.mul_le_mul (by omega) (by omega)
 have Y : (i : Int) * (((lenOf xs.length k) : Nat) : Int) = ((i * (lenOf xs.length k) : Nat) : Int) := by simp
 refine uR 3 [.c [4, 0, 1, 0, 0, 1, 0], .c [4, 0, 1, 0, 0, 2], .l [4, 0, 1, 0, 0], .b 0, .c [5]] ?_
 refine qD (((i : Int) : Int) < (k : Int)) (fun Z => ?_) (fun Z => ?_)
 ·
  refine uR 6 [.c [4, 0, 1, 0, 0, 2, 0, 0, 1, 0], .c [4, 0, 1, 0, 0, 2, 0, 0, 2], .b 1, .c [4, 0, 1, 0, 0, 3], .l [4, 0, 1, 0, 0], .b 0, .c [5]] ?_
  refine qG (sq 0 3) ?_
  refine uP 1 ?_
  refine RW.makeW Sb (κ := .seq) (d := some 34) (r := (sq 2 3)) (T := 23) (e := 5) (by_ := 1) (v0 := .int .u8 0) (0#8 : BitVec 8) (kl := .i64) (kc := .i64) (lv := ((lenOf xs.length k : Nat) : Int)) (cv := ((lenOf xs.length k : Nat) : Int)) (by as_aux_lemma => kernel_rfl) (nofun) (by as_aux_lemma => kernel_rfl) rfl H (lenOf xs.length k) (lenOf xs.length k) (by omega) (by omega) (by omega) (by omega) (by omega) (fun _ _ => rfl) ?_
  intro f _ H
  have H : Hp w S [] [] [⟨Sb, 5, .slice (some ⟨f, 0, none⟩) (lenOf xs.length k) (lenOf xs.length k), (List.replicate (lenOf xs.length k) (0#8 : BitVec 8))⟩, _] [_] _ := H
  refine uF 1 ?_
  refine uR 2 [.c [4, 0, 1, 0, 0, 2, 0, 0, 2, 0, 0], .c [4, 0, 1, 0, 0, 2, 0, 0, 2, 0, 1], .c [4, 0, 1, 0, 0, 2, 0, 0, 3], .b 1, .c [4, 0, 1, 0, 0, 3], .l [4, 0, 1, 0, 0], .b 0, .c [5]] ?_
  refine qG (sq 0 4) ?_
  refine uP 2 ?_
  refine uI ((i : Int) * ((lenOf xs.length k : Nat) : Int)) ?_
  refine uF 1 ?_
  refine uR 2 [.c [4, 0, 1, 0, 0, 2, 0, 0, 2, 0, 2], .c [4, 0, 1, 0, 0, 2, 0, 0, 3], .b 1, .c [4, 0, 1, 0, 0, 3], .l [4, 0, 1, 0, 0], .b 0, .c [5]] ?_
  refine qD (((i : Int) * ((lenOf xs.length k : Nat) : Int) : Int) < ((xs.length : Nat) : Int)) (fun h8 => ?_) (fun h8 => ?_)
  ·
   refine qG (sq 0 5) ?_
   refine uP 3 ?_
   refine RW.slice (κ := .seq) (d := some 45) (r := (sq 4 5)) (T := 23) (e := 5) (sh := Sb) (a := a) (len := xs.length) (cap := c) (zs := (xs.drop (i * (lenOf xs.length k)))) (lv := (some (.I ((i : Int) * ((lenOf xs.length k : Nat) : Int))))) (hv := none) (by as_aux_lemma => kernel_rfl) (by as_aux_lemma => kernel_rfl) H 0 rfl (i * (lenOf xs.length k)) xs.length (.mk (by omega)) .nil (by omega) (by omega) (by rw [List.take_of_length_le (Nat.le_refl _)]) ?_
   intro Q H
   refine RW.copyW (d := some 46) (r := (sq 5 5)) (T := 23) (T2 := 23) (e := 5) (ty := 3) (m := 1) (zs := chunk xs (lenOf xs.length k) i) (a := (some ⟨f, 0, none⟩)) (dl := (lenOf xs.length k)) (dc := (lenOf xs.length k)) (a2 := Q) (sl := ((xs.drop (i * (lenOf xs.length k))).length)) (sc := (c - (i * (lenOf xs.length k)))) (by as_aux_lemma => kernel_rfl) (by as_aux_lemma => kernel_rfl) rfl H 0 rfl (by simp) (chunk_copy _ _ _) ?_
   intro _ H
   have H : Hp w S [] [] [⟨Sb, 5, .slice (some ⟨f, 0, none⟩) (lenOf xs.length k) (lenOf xs.length k), chunk xs (lenOf xs.length k) i⟩, _] [Rp SB [.slice Q ((xs.drop (i * (lenOf xs.length k))).length) (c - (i * (lenOf xs.length k)))] (xs.drop (i * (lenOf xs.length k))), _] _ := H
   refine uF 0 ?_
   refine qG (sq 0 5) ?_
   refine qP 2 (sq 2 5) [(0, .slice a xs.length c), (1, .I k), (2, .I n), (8, .I ((lenOf xs.length k : Nat) : Int)), (10, .slice ao (((enc xs k n).take i).length) co), (29, .I k), (30, .I i), (47, .slice ao (((enc xs k n).take i).length) co), (48, .slice (some ⟨f, 0, none⟩) (lenOf xs.length k) (lenOf xs.length k))] ?_
   refine RW.new (κ := .seq) (d := some 49) (r := (sq 3 5)) (o := .cells #[.slice (some ⟨f, 0, none⟩) (lenOf xs.length k) (lenOf xs.length k)] 23 (0, 0)) (v := fun b => .slice (some ⟨b, 0, none⟩) 1 1) (fun b => by as_aux_lemma => kernel_rfl) (nofun) H ?_
   intro B _ H
   have H : Hp w S [] [(B, .cells #[.slice (some ⟨f, 0, none⟩) (lenOf xs.length k) (lenOf xs.length k)] 23 (0, 0))] [_] [Rp SB [.slice (some ⟨f, 0, none⟩) (lenOf xs.length k) (lenOf xs.length k)] (chunk xs (lenOf xs.length k) i), _, _] _ := H.freezeW 0 rfl
   have H := H.freeze 0 rfl SB ([chunk xs (lenOf xs.length k) i] : List (List (BitVec 8))) 1 (by simp [maxLen]) (by first | exact Nat.le_refl _ | simp) (EsP.cons (c := [.slice (some ⟨f, 0, none⟩) (lenOf xs.length k) (lenOf xs.length k)]) (H.rp 0 rfl) EsP.nil)
   have H : Hp w S [] [] [_] [Rp (Shape.slice SB) [.slice (some ⟨B, 0, none⟩) 1 1] ([chunk xs (lenOf xs.length k) i] : List (List (BitVec 8))), _, _, _] _ := H
   refine uA 29 29 24 ((enc xs k n).take (i + 1)) H 0 rfl 0 rfl (take_snoc (by rw [enc_get1 (by omega)] <;> first | rfl | (rw [← chunk_zero (by omega)]))) (by rw [List.length_take]; omega) ?_
   intro C D _ H _
   have H : Hp w S [] [] [⟨SB, 23, .slice C (((enc xs k n).take (i + 1)).length) D, (enc xs k n).take (i + 1)⟩] [_, _, _, _] _ := H
   refine uF 1 ?_
   refine uR 1 [.c [4, 0, 1, 0, 0, 3], .l [4, 0, 1, 0, 0], .b 0, .c [5]] ?_
   refine qG (sq 0 2) ?_
   refine uI ((i : Int) + 1) ?_
   refine uF 1 ?_
   have H := H.pick [3] rfl
   exact uB (q (i + 1, C, D) _ ⟨H, by omega⟩ (by first | omega | (simp only []; omega)))
  ·
   refine uR 1 [.c [4, 0, 1, 0, 0, 2, 0, 0, 3], .b 1, .c [4, 0, 1, 0, 0, 3], .l [4, 0, 1, 0, 0], .b 0, .c [5]] ?_
   refine qG (sq 0 5) ?_
   refine uP 2 ?_
   refine RW.new (κ := .seq) (d := some 49) (r := (sq 3 5)) (o := .cells #[.slice (some ⟨f, 0, none⟩) (lenOf xs.length k) (lenOf xs.length k)] 23 (0, 0)) (v := fun b => .slice (some ⟨b, 0, none⟩) 1 1) (fun b => by as_aux_lemma => kernel_rfl) (nofun) H ?_
   intro E _ H
   have H : Hp w S [] [(E, .cells #[.slice (some ⟨f, 0, none⟩) (lenOf xs.length k) (lenOf xs.length k)] 23 (0, 0))] [_] [Rp SB [.slice (some ⟨f, 0, none⟩) (lenOf xs.length k) (lenOf xs.length k)] (List.replicate (lenOf xs.length k) (0#8 : BitVec 8)), _] _ := H.freezeW 0 rfl
   have H := H.freeze 0 rfl SB ([(List.replicate (lenOf xs.length k) (0#8 : BitVec 8))] : List (List (BitVec 8))) 1 (by simp [maxLen]) (by first | exact Nat.le_refl _ | simp) (EsP.cons (c := [.slice (some ⟨f, 0, none⟩) (lenOf xs.length k) (lenOf xs.length k)]) (H.rp 0 rfl) EsP.nil)
   have H : Hp w S [] [] [_] [Rp (Shape.slice SB) [.slice (some ⟨E, 0, none⟩) 1 1] ([(List.replicate (lenOf xs.length k) (0#8 : BitVec 8))] : List (List (BitVec 8))), _, _] _ := H
   refine uA 29 29 24 ((enc xs k n).take (i + 1)) H 0 rfl 0 rfl (take_snoc (by rw [enc_get1 (by omega)] <;> first | rfl | (rw [← chunk_zero (by omega)]))) (by rw [List.length_take]; omega) ?_
   intro F G _ H _
   have H : Hp w S [] [] [⟨SB, 23, .slice F (((enc xs k n).take (i + 1)).length) G, (enc xs k n).take (i + 1)⟩] [_, _, _] _ := H
   refine uF 1 ?_
   refine uR 1 [.c [4, 0, 1, 0, 0, 3], .l [4, 0, 1, 0, 0], .b 0, .c [5]] ?_
   refine qG (sq 0 2) ?_
   refine uI ((i : Int) + 1) ?_
   refine uF 1 ?_
   have H := H.pick [2] rfl
   exact uB (q (i + 1, F, G) _ ⟨H, by omega⟩ (by first | omega | (simp only []; omega)))
 ·
  refine uR 2 [.c [5, 0], .c [6]] ?_
  refine qG (sq 0 8) ?_
  refine uP 2 ?_
  refine uK (generator_spec (S := Av S w [] (idsOf [] [⟨SB, 23, .slice ao (((enc xs k n).take i).length) co, (enc xs k n).take i⟩])) k n (by omega) (by omega) (by omega)) ?_
  rintro _ _ N ⟨z, t, rfl, O⟩
  have H := H.addM N O
  refine qF 5 [(1, .I k), (8, .I ((lenOf xs.length k : Nat) : Int)), (10, .slice ao (((enc xs k n).take i).length) co), (14, .slice z (gen k n).length t)] ?_
  refine uR 2 [.c [6, 0, 0], .c [6, 0, 1], .c [7]] ?_
  refine qG (sq 0 5) ?_
  refine uP 2 ?_
  refine RW.slice (κ := .seq) (d := some 60) (r := (sq 3 5)) (T := 29) (e := 23) (sh := SB) (a := z) (len := (gen k n).length) (cap := t) (zs := ((gen k n).drop k)) (lv := (some (.I k))) (hv := none) (by as_aux_lemma => kernel_rfl) (by as_aux_lemma => kernel_rfl) H 0 rfl k (gen k n).length (.mk (by omega)) .nil (by rw [gen_len]; omega) (by rw [gen_len]; omega) (by rw [List.take_of_length_le (Nat.le_refl _)]) ?_
  intro J H
  refine uF 2 ?_
  refine uR 1 [.c [6, 0, 1, 0], .b 2, .c [7]] ?_
  have hik : k = i := by omega
  subst hik
  refine uL (α := Nat × Option Addr × Nat) (g := 29) (p := [6, 0, 1, 0, 0]) (fun (j, ao, co) => [(1, .I k), (8, .I ((lenOf xs.length k : Nat) : Int)), (10, .slice ao (((enc xs k n).take (k + j)).length) co), (60, .slice J (((gen k n).drop k).length) (t - k)), (61, .I ((((gen k n).drop k).length : Nat) : Int)), (62, .I j)]) (fun (j, ao, co) w' => Hp w S [] [] [⟨SB, 23, .slice ao (((enc xs k n).take (k + j)).length) co, (enc xs k n).take (k + j)⟩] [Rp (Shape.slice SB) [.slice J (((gen k n).drop k).length) (t - k)] ((gen k n).drop k), Rp (Shape.slice SB) [.slice z (gen k n).length t] (gen k n), Rp SB [.slice a xs.length c] xs] w' ∧ j ≤ n - k) (fun (j, ao, co) => n - k - j) (0, ao, co) ⟨H, Nat.zero_le _⟩ ?_
  rintro ⟨j, ao, co⟩ _ ⟨H, _⟩ y
  have hdl : ((gen k n).drop k).length = n - k := by rw [List.length_drop, gen_len]
  have a0 : ((enc xs k n).take (k + j)).length = k + j := by rw [List.length_take, enc_len (by omega)]; omega
  refine uR 3 [.c [6, 0, 1, 0, 0, 1, 0], .c [6, 0, 1, 0, 0, 2], .l [6, 0, 1, 0, 0], .b 2, .c [7]] ?_
  refine qD (((j : Int) : Int) < ((((gen k n).drop k).length : Nat) : Int)) (fun R => ?_) (fun R => ?_)
  ·
   refine uR 4 [.c [6, 0, 1, 0, 0, 2, 0, 0, 0], .c [6, 0, 1, 0, 0, 2, 0, 0, 1], .b 3, .c [6, 0, 1, 0, 0, 3], .l [6, 0, 1, 0, 0], .b 2, .c [7]] ?_
   refine qG (sq 0 3) ?_
   have b0 : j < ((gen k n).drop k).length := by omega
   refine uX 29 (j : Int) H 0 rfl j (by omega) (gen_drop (by omega)) ?_
   intro U V _ A H
   obtain ⟨W, X, rfl⟩ := Shape.slice_form' A
   have H := H.addR A
   refine uV 23 0 (H.fc 1 rfl) ?_
   refine uF 1 ?_
   refine qG (sq 0 10) ?_
   refine uP 4 ?_
   refine RW.readS (κ := .seq) (d := some 70) (r := (sq 5 10)) (s := semV (Instr.sliceAt 29 (.slice ao (((enc xs k n).take (k + j)).length) co) none (some (.I k)) none)) (v := .slice ao ((dataOf xs (lenOf xs.length k) k).length) co) (by as_aux_lemma => kernel_rfl) (fun w' _ => semV_run (by rw [dataOf_len]; exact sliceAt_run0 (e := 23) (m := 1) (by as_aux_lemma => kernel_rfl) (hi := k) (.mk (by omega)) (by have := H.ownForm 0 rfl; obtain ⟨_, _, hq, hq2, _⟩ := this; simp only [Value.slice.injEq] at hq; rw [List.length_take, enc_len (by omega)] at hq2; omega))) ?_
   refine uP 1 ?_
   refine uK (mixed_spec (S := fun _ => True) (row := (genRow k (k + j))) (ds := dataOf xs (lenOf xs.length k) k) (lenOf xs.length k) (H.viewR 0 rfl) (Shape.rep_take (H.view 0 rfl) k (by rw [List.length_take, enc_len (by omega)]; omega) enc_data) (by rw [genRow_len, dataOf_len]; exact Nat.le_refl _) (dataOf_all _ _ _) (by omega)) ?_
   rintro _ _ - H'
   have H := H.back (M1 := []) (W1 := []) H'.reSbv
   obtain ⟨u, x, rfl, _, _⟩ := H.ownForm 0 rfl
   have H : Hp w S [] [] [⟨Sb, 5, .slice u ((mixAll (genRow k (k + j)) (dataOf xs (lenOf xs.length k) k) (List.replicate (lenOf xs.length k) 0#8)).length) x, mixAll (genRow k (k + j)) (dataOf xs (lenOf xs.length k) k) (List.replicate (lenOf xs.length k) 0#8)⟩, _] [_, Fc U V [.slice W ((genRow k (k + j)).length) X], _, _, _] _ := H
   refine RW.new (κ := .seq) (d := some 73) (r := (sq 8 10)) (o := .cells #[.slice u ((mixAll (genRow k (k + j)) (dataOf xs (lenOf xs.length k) k) (List.replicate (lenOf xs.length k) 0#8)).length) x] 23 (0, 0)) (v := fun b => .slice (some ⟨b, 0, none⟩) 1 1) (fun b => by as_aux_lemma => kernel_rfl) (nofun) H ?_
   intro K _ H
   have H : Hp w S [] [(K, .cells #[.slice u ((mixAll (genRow k (k + j)) (dataOf xs (lenOf xs.length k) k) (List.replicate (lenOf xs.length k) 0#8)).length) x] 23 (0, 0))] [_] [Rp SB [.slice u ((mixAll (genRow k (k + j)) (dataOf xs (lenOf xs.length k) k) (List.replicate (lenOf xs.length k) 0#8)).length) x] (mixAll (genRow k (k + j)) (dataOf xs (lenOf xs.length k) k) (List.replicate (lenOf xs.length k) 0#8)), _, _, _, _, _] _ := H.freezeW 0 rfl
   have H := H.freeze 0 rfl SB ([mixAll (genRow k (k + j)) (dataOf xs (lenOf xs.length k) k) (List.replicate (lenOf xs.length k) 0#8)] : List (List (BitVec 8))) 1 (by simp [maxLen]) (by first | exact Nat.le_refl _ | simp) (EsP.cons (c := [.slice u ((mixAll (genRow k (k + j)) (dataOf xs (lenOf xs.length k) k) (List.replicate (lenOf xs.length k) 0#8)).length) x]) (H.rp 0 rfl) EsP.nil)
   have H : Hp w S [] [] [_] [Rp (Shape.slice SB) [.slice (some ⟨K, 0, none⟩) 1 1] ([mixAll (genRow k (k + j)) (dataOf xs (lenOf xs.length k) k) (List.replicate (lenOf xs.length k) 0#8)] : List (List (BitVec 8))), _, _, _, _, _, _] _ := H
   refine uA 29 29 24 ((enc xs k n).take (k + j + 1)) H 0 rfl 0 rfl (take_snoc (enc_get2 (by omega))) (by rw [List.length_take]; omega) ?_
   intro L M _ H _
   have H : Hp w S [] [] [⟨SB, 23, .slice L (((enc xs k n).take (k + j + 1)).length) M, (enc xs k n).take (k + j + 1)⟩] [_, _, _, _, _, _, _] _ := H
   refine uF 1 ?_
   refine uR 1 [.c [6, 0, 1, 0, 0, 3], .l [6, 0, 1, 0, 0], .b 2, .c [7]] ?_
   refine qG (sq 0 2) ?_
   refine uI ((j : Int) + 1) ?_
   refine uF 1 ?_
   have H := H.pick [4, 5, 6] rfl
   exact uB (y (j + 1, L, M) _ ⟨H, by omega⟩ (by first | omega | (simp only []; omega)))
  ·
   refine uR 3 [.c [8]] ?_
   refine qT (.tuple #[.slice ao (((enc xs k n).take (k + j)).length) co, .I 0]) Try.func29 ?_
   have H : Hp w S [] [] [] [Rp (Shape.slice SB) [.slice ao (((enc xs k n).take (k + j)).length) co] ((enc xs k n).take (k + j)), _, _, _] _ := H.freezeW 0 rfl
   rw [List.take_of_length_le (by rw [enc_len (by omega)]; rw [List.length_drop, gen_len] at *; omega)] at H ⊢
   exact ⟨_, rfl, H.done, _, _, rfl, H.out (H.rp 0 rfl)⟩
end Go.Proofs.Ytppcdmbkgficiaa
