import Derived.Test.YtppcdmbkgficiaaSBxA
import Derived.Test.YtppcdmbkgficiaaSE2
import Derived.Test.YtppcdmbkgficiaaSBxB
namespace Go.Proofs.Ytppcdmbkgficiaa
open Go.BX
theorem r4len_ok {S : Nat → Prop} {w : World} (size k : Nat) (hs : size ≤ 65536) (hk : 1 ≤ k) (hk2 : k ≤ 255) :
 Calls Try.prog 36 #[.I size, .I k] w (Ret fun v w' => Ext w w' ∧ v = .tuple #[.I ((lenOf size k : Nat) : Int), .I 0]) := by
 refine uS1 Try.func36 ?_
 have H := Hp.startF (w := w) (S := S) (G := []) .nil
 refine uR 4 [.c [1, 0, 0], .c [1, 0, 1], .c [2]] ?_
 refine qG (sq 0 14) ?_
 refine uP 3 ?_
 refine uD 8 (((size : Int) : Int) < 0) (fun a => ?_) (fun a => ?_)
 ·
  omega
 ·
  refine uP 4 ?_
  refine uD 12 (((size : Int) : Int) > 65536) (fun b => ?_) (fun b => ?_)
  ·
   omega
  ·
   refine uP 4 ?_
   refine uD 16 (((k : Int) : Int) < 1) (fun e => ?_) (fun e => ?_)
   ·
    omega
   ·
    refine uF 3 ?_
    refine qD (((k : Int) : Int) > 255) (fun f => ?_) (fun f => ?_)
    ·
     omega
    ·
     refine uR 2 [.c [2, 0], .c [3]] ?_
     refine qG (sq 0 8) ?_
     refine uP 2 ?_
     refine uI ((size : Int) + (k : Int)) ?_
     refine uI (((size : Int) + (k : Int)) - 1) ?_
     refine uP 1 ?_
     refine RW.readS (κ := .seq) (d := some 25) (r := (sq 6 8)) (s := semV (Op.intDiv .quo .i64 (((size : Int) + (k : Int)) - 1) (k : Int))) (v := .I ((lenOf size k : Nat) : Int)) (by as_aux_lemma => kernel_rfl) (fun w' _ => semV_run (quo_nat (r := lenOf size k) (by omega) (by omega) (by rw [show ((size : Int) + (k : Int) - 1) = ((size + k - 1 : Nat) : Int) by omega]; rfl))) ?_
     refine uF 2 ?_
     refine qT (.tuple #[.I ((lenOf size k : Nat) : Int), .I 0]) Try.func36 ?_
     exact ⟨_, rfl, H.done, rfl⟩
theorem r4len_bad {S : Nat → Prop} {w : World} (size k : Int) (hb : ¬ (0 ≤ size ∧ size ≤ 65536 ∧ 1 ≤ k ∧ k ≤ 255)) :
 Calls Try.prog 36 #[.I size, .I k] w (Ret fun v w' => Ext w w' ∧ v = .tuple #[.I 0, .I 2]) := by
 refine uS1 Try.func36 ?_
 have H := Hp.startF (w := w) (S := S) (G := []) .nil
 refine uR 4 [.c [1, 0, 0], .c [1, 0, 1], .c [2]] ?_
 refine WK.join (fun b_ : Bool => b_ = decide (size < 0 ∨ size > 65536 ∨ k < 1 ∨ k > 255)) (fun b_ => [(0, .I size), (1, .I k), (19, .bool b_)]) [Cq Try.prog 36 [1, 0, 1], Cq Try.prog 36 [2]] (fun b => ?_) (fun e d => ?_)
 ·
  refine qG (sq 0 14) ?_
  refine uP 3 ?_
  refine uD 8 ((size : Int) < 0) (fun f => ?_) (fun f => ?_)
  ·
   refine uF 11 ?_
   exact uB (b true ((decide_eq_true (by omega)).symm))
  ·
   refine uP 4 ?_
   refine uD 12 ((size : Int) > 65536) (fun g => ?_) (fun g => ?_)
   ·
    refine uF 7 ?_
    exact uB (b true ((decide_eq_true (by omega)).symm))
   ·
    refine uP 4 ?_
    refine uD 16 ((k : Int) < 1) (fun h => ?_) (fun h => ?_)
    ·
     refine uF 3 ?_
     exact uB (b true ((decide_eq_true (by omega)).symm))
    ·
     refine uF 3 ?_
     exact uB (b (decide ((k : Int) > 255)) (decide_eq_decide.2 (by constructor <;> intro _ <;> omega)))
 ·
  refine qC e (fun a => ?_) (fun a => ?_)
  ·
   rw [d] at a
   replace a := of_decide_eq_true a
   refine uR 2 [.c [1, 0, 1, 0, 1], .c [2]] ?_
   refine qT (.tuple #[.I 0, .I 2]) Try.func36 ?_
   exact ⟨_, rfl, H.done, rfl⟩
  ·
   rw [d] at a
   replace a := of_decide_eq_false a
   exact absurd (by omega) hb
def fillRow (xs : List (BitVec 8)) (l t i : Nat) : List (BitVec 8) := (List.range l).map fun u => if t * l + u < i then xs.getD (t * l + u) 0#8 else 0#8
def fillSt (xs : List (BitVec 8)) (l n i : Nat) : List (List (BitVec 8)) := (List.range n).map fun t => fillRow xs l t i
theorem fillRow_len (xs : List (BitVec 8)) (l t i : Nat) : (fillRow xs l t i).length = l := by simp [fillRow]
theorem fillSt_at {xs : List (BitVec 8)} {l n q i : Nat} (h : q < n) : (fillSt xs l n i)[q]? = some (fillRow xs l q i) := by
 unfold fillSt
 rw [List.getElem?_map, List.getElem?_range h]; rfl
theorem fillSt_zero {xs : List (BitVec 8)} {l n : Nat} : List.replicate n (List.replicate l 0#8) = fillSt xs l n 0 := by
 apply List.ext_getElem?
 intro t
 rw [List.getElem?_replicate]
 split
 · rename_i h
   rw [fillSt_at h]
   congr 1
   apply List.ext_getElem?
   intro u
   unfold fillRow
   rw [List.getElem?_replicate, List.getElem?_map]
   split
   · rename_i h2
     rw [List.getElem?_range h2]
     simp
   · rename_i h2
     rw [List.getElem?_eq_none (by simpa using h2)]; rfl
 · rename_i h
   rw [List.getElem?_eq_none (by simpa [fillSt] using h)]
theorem fillRow_set {xs : List (BitVec 8)} {l q u i : Nat} (hqu : q * l + u = i) (hu : u < l) (hi : i < xs.length) : (fillRow xs l q i).set u xs[i] = fillRow xs l q (i + 1) := by
 unfold fillRow
 apply List.ext_getElem?
 intro v
 rw [List.getElem?_set]
 split
 · rename_i ev
   subst ev
   rw [List.getElem?_map, List.getElem?_range hu]
   simp only [List.length_map, List.length_range, if_pos hu, Option.map_some, hqu, if_pos (Nat.lt_succ_self i)]
   rw [List.getD_eq_getElem?_getD, List.getElem?_eq_getElem hi]; rfl
 · rename_i ev
   rw [List.getElem?_map, List.getElem?_map]
   by_cases hv : v < l
   · rw [List.getElem?_range hv]
     simp only [Option.map_some]
     congr 1
     by_cases h1 : q * l + v < i
     · rw [if_pos h1, if_pos (by omega)]
     · rw [if_neg h1, if_neg (by omega)]
   · rw [List.getElem?_eq_none (by simpa using hv)]; rfl
theorem fillRow_other {xs : List (BitVec 8)} {l q u i t : Nat} (hqu : q * l + u = i) (hu : u < l) (ht : t ≠ q) : fillRow xs l t i = fillRow xs l t (i + 1) := by
 unfold fillRow
 apply List.map_congr_left
 intro v hv
 have hv := List.mem_range.1 hv
 have hne : t * l + v ≠ i := by
  intro e
  rcases Nat.lt_trichotomy t q with h | h | h
  · have := Nat.mul_le_mul_right l (Nat.succ_le_of_lt h)
    rw [Nat.succ_mul] at this
    omega
  · exact ht h
  · have := Nat.mul_le_mul_right l (Nat.succ_le_of_lt h)
    rw [Nat.succ_mul] at this
    omega
 by_cases h1 : t * l + v < i
 · rw [if_pos h1, if_pos (by omega)]
 · rw [if_neg h1, if_neg (by omega)]
theorem fillSt_set {xs : List (BitVec 8)} {l n q u i : Nat} (hqu : q * l + u = i) (hu : u < l) (hi : i < xs.length) (hq : q < n) : (fillSt xs l n i).set q ((fillRow xs l q i).set u xs[i]) = fillSt xs l n (i + 1) := by
 rw [fillRow_set hqu hu hi]
 apply List.ext_getElem?
 intro t
 rw [List.getElem?_set]
 split
 · rename_i et
   subst et
   rw [fillSt_at hq, if_pos (by simpa [fillSt] using hq)]
 · rename_i et
   by_cases ht : t < n
   · rw [fillSt_at ht, fillSt_at ht, fillRow_other hqu hu (fun q => et q.symm)]
   · rw [List.getElem?_eq_none (by simpa [fillSt] using ht), List.getElem?_eq_none (by simpa [fillSt] using ht)]
theorem fillRow_all {xs : List (BitVec 8)} {l t : Nat} : fillRow xs l t xs.length = chunk xs l t := by
 unfold fillRow chunk
 apply List.ext_getElem?
 intro u
 rw [List.getElem?_map]
 by_cases hu : u < l
 · rw [List.getElem?_range hu]
   simp only [Option.map_some]
   by_cases h1 : t * l + u < xs.length
   · rw [if_pos h1, List.getElem?_append_left (by simp; omega), List.getElem?_take, if_pos hu, List.getElem?_drop, List.getD_eq_getElem?_getD, List.getElem?_eq_getElem h1]; rfl
   · rw [if_neg h1, List.getElem?_append_right (by simp; omega), List.getElem?_replicate, if_pos (by simp; omega)]
 · rw [List.getElem?_eq_none (by simpa using hu), List.getElem?_eq_none (by simp; omega)]; rfl
def encSt (xs : List (BitVec 8)) (l k n i j : Nat) : List (List (BitVec 8)) := (List.range n).map fun t => if t < k then chunk xs l t else mixAll ((genRow k t).take (if t < i then k else if t = i then j else 0)) (dataOf xs l k) (List.replicate l 0#8)
theorem encSt_len (xs : List (BitVec 8)) (l k n i j : Nat) : (encSt xs l k n i j).length = n := by simp [encSt]
theorem encSt_at {xs : List (BitVec 8)} {l k n i j t : Nat} (h : t < n) : (encSt xs l k n i j)[t]? = some (if t < k then chunk xs l t else mixAll ((genRow k t).take (if t < i then k else if t = i then j else 0)) (dataOf xs l k) (List.replicate l 0#8)) := by
 unfold encSt
 rw [List.getElem?_map, List.getElem?_range h]; rfl
theorem encSt_lo {xs : List (BitVec 8)} {l k n i j t : Nat} (h : t < n) (hk : t < k) (hl : t < (encSt xs l k n i j).length) : (encSt xs l k n i j)[t] = chunk xs l t := by
 have := encSt_at (xs := xs) (l := l) (k := k) (i := i) (j := j) h
 rw [List.getElem?_eq_getElem hl, if_pos hk] at this
 exact Option.some.inj this
theorem encSt_hi {xs : List (BitVec 8)} {l k n i j : Nat} (h : i < n) (hk : k ≤ i) (hl : i < (encSt xs l k n i j).length) : (encSt xs l k n i j)[i] = mixAll ((genRow k i).take j) (dataOf xs l k) (List.replicate l 0#8) := by
 have := encSt_at (xs := xs) (l := l) (k := k) (i := i) (j := j) h
 rw [List.getElem?_eq_getElem hl, if_neg (by omega), if_neg (Nat.lt_irrefl i), if_pos rfl] at this
 exact Option.some.inj this
theorem encSt_start {xs : List (BitVec 8)} {l k n : Nat} (hm : xs.length ≤ k * l) : fillSt xs l n xs.length = encSt xs l k n k 0 := by
 unfold fillSt encSt
 apply List.map_congr_left
 intro t _
 rw [fillRow_all]
 split
 · rfl
 · rename_i h
   rw [show (if t = k then 0 else 0 : Nat) = 0 by split <;> rfl, List.take_zero, mixAll_nil]
   exact (chunk_zero (Nat.le_trans hm (Nat.mul_le_mul_right l (by omega)))).symm
theorem mixAll_take : ∀ {row : List (BitVec 8)} {ds : List (List (BitVec 8))} {acc : List (BitVec 8)} {j : Nat} {c : BitVec 8} {d : List (BitVec 8)}, row[j]? = some c → ds[j]? = some d → mixAll (row.take (j + 1)) ds acc = mixL (mixAll (row.take j) ds acc) d c
 | [], _, _, _, _, _, h, _ => by simp at h
 | _ :: _, [], _, _, _, _, _, h => by simp at h
 | x :: row, y :: ds, acc, 0, c, d, h1, h2 => by
  simp only [List.getElem?_cons_zero, Option.some.injEq] at h1 h2
  subst h1
  subst h2
  rw [List.take_succ_cons, List.take_zero, List.take_zero, mixAll_nil]
  show mixAll [] ds (mixL acc y x) = _
  rw [mixAll_nil]
 | x :: row, y :: ds, acc, j + 1, c, d, h1, h2 => by
  rw [List.take_succ_cons, List.take_succ_cons]
  exact mixAll_take (row := row) (ds := ds) (acc := mixL acc y x) (by simpa using h1) (by simpa using h2)
theorem genRow_get {k i j : Nat} (h : j < k) : (genRow k i)[j]? = some (genE k i j) := by
 unfold genRow
 rw [List.getElem?_map, List.getElem?_range h]; rfl
theorem data_get {xs : List (BitVec 8)} {l k j : Nat} (h : j < k) : (dataOf xs l k)[j]? = some (chunk xs l j) := by
 unfold dataOf
 rw [List.getElem?_map, List.getElem?_range h]; rfl
theorem mixG_len {xs : List (BitVec 8)} {l k : Nat} {row : List (BitVec 8)} : (mixAll row (dataOf xs l k) (List.replicate l 0#8)).length = l := mixAll_len List.length_replicate (dataOf_all xs l k)
theorem encSt_set {xs : List (BitVec 8)} {l k n i j : Nat} (hk : k ≤ i) (hi : i < n) (hj : j < k) : (encSt xs l k n i j).set i (mixL (mixAll ((genRow k i).take j) (dataOf xs l k) (List.replicate l 0#8)) (chunk xs l j) (genE k i j)) = encSt xs l k n i (j + 1) := by
 apply List.ext_getElem?
 intro t
 rw [List.getElem?_set]
 split
 · rename_i et
   subst et
   rw [encSt_at hi, if_pos (by rw [encSt_len]; exact hi), if_neg (by omega), if_neg (Nat.lt_irrefl i), if_pos rfl, mixAll_take (genRow_get hj) (data_get hj)]
 · rename_i et
   have a : ¬ t = i := fun q => et q.symm
   by_cases ht : t < n
   · rw [encSt_at ht, encSt_at ht, if_neg a, if_neg a]
   · rw [List.getElem?_eq_none (by rw [encSt_len]; omega), List.getElem?_eq_none (by rw [encSt_len]; omega)]
theorem encSt_full {xs : List (BitVec 8)} {l k n i : Nat} : encSt xs l k n i k = encSt xs l k n (i + 1) 0 := by
 unfold encSt
 apply List.map_congr_left
 intro t _
 split
 · rfl
 · congr 2
   split
   · rw [if_pos (by omega)]
   · split
     · rw [if_pos (by omega)]
     · rw [if_neg (by omega)]; split <;> rfl
theorem encSt_all {xs : List (BitVec 8)} {k n : Nat} (hkn : k ≤ n) : encSt xs (lenOf xs.length k) k n n 0 = enc xs k n := by
 apply List.ext_getElem?
 intro t
 by_cases ht : t < n
 · rw [encSt_at ht]
   by_cases h : t < k
   · rw [if_pos h, enc_get1 h]
   · obtain ⟨j, rfl⟩ : ∃ j, t = k + j := ⟨t - k, by omega⟩
     rw [if_neg h, enc_get2 (by omega), if_pos ht, List.take_of_length_le (by rw [genRow_len]; exact Nat.le_refl _)]
 · rw [List.getElem?_eq_none (by rw [encSt_len]; omega), List.getElem?_eq_none (by rw [enc_len hkn]; omega)]
theorem quo_bd {i l k n : Nat} {m : Nat} (hi : i < m) (hm : m ≤ k * l) (hkn : k ≤ n) : 0 < l ∧ i / l < n ∧ i % l < l ∧ i / l * l + i % l = i := by
 have a : 0 < l := by
  rcases Nat.eq_zero_or_pos l with h | h
  · subst h; rw [Nat.mul_zero] at hm; omega
  · exact h
 refine ⟨a, Nat.lt_of_lt_of_le ((Nat.div_lt_iff_lt_mul a).2 (by omega)) hkn, Nat.mod_lt _ a, ?_⟩
 rw [Nat.mul_comm]
 exact Nat.div_add_mod i l
set_option maxHeartbeats 2000000 in
theorem r4enc_ok {S : Nat → Prop} {w : World} {xs : List (BitVec 8)} {a : Option Addr} {c : Nat} (k n : Nat) (h : SB.rep S w [.slice a xs.length c] xs) (hs : xs.length ≤ 65536) (hk : 1 ≤ k) (hkn : k ≤ n) (hn : n ≤ 255) :
 Calls Try.prog 34 #[.slice a xs.length c, .I k, .I n] w (Ret fun v w' => Ext w w' ∧ ∃ (a' : Option Addr) (c' : Nat), v = .tuple #[.slice a' (enc xs k n).length c', .I 0] ∧ (Shape.slice SB).rep (Nw S w) w' [.slice a' (enc xs k n).length c'] (enc xs k n)) := by
 obtain ⟨l, hl⟩ : ∃ l, lenOf xs.length k = l := ⟨_, rfl⟩
 have hll : l ≤ 65536 := by rw [← hl]; exact Nat.le_trans (lenOf_le (by omega)) hs
 have hmul : xs.length ≤ k * l := by rw [← hl]; exact lenOf_mul (by omega)
 refine qS (fn := Try.f34) (n := 105) (σ := [(0, .slice a xs.length c), (1, .I k), (2, .I n)]) Try.func34 ?_
 have H := Hp.startF (w := w) (S := S) (G := [Rp SB [.slice a xs.length c] xs]) (.rp h .nil)
 refine qR 3 [.c [1, 0], .c [2]] [(0, .slice a xs.length c), (1, .I k), (2, .I n)] ?_
 refine qG (sq 0 9) ?_
 refine qP 3 (sq 3 9) [(0, .slice a xs.length c), (1, .I k), (2, .I n), (19, .I ((xs.length : Nat) : Int)), (20, .I k)] ?_
 refine qK .seq (some 21) (sq 4 9) 36 #[.I ((xs.length : Nat) : Int), .I k] (r4len_ok (S := fun _ => True) xs.length k hs hk (by omega)) ?_
 rintro _ w1 hE2 rfl
 have H := H.ext hE2
 rw [hl]
 refine qF 5 [(0, .slice a xs.length c), (1, .I k), (2, .I n), (8, .I l), (9, .I 0)] ?_
 refine qR 2 [.c [2, 0, 0], .c [2, 0, 1], .c [3]] [(0, .slice a xs.length c), (1, .I k), (2, .I n), (8, .I l), (9, .I 0)] ?_
 refine qG (sq 0 11) ?_
 refine qP 8 (sq 8 11) [(0, .slice a xs.length c), (1, .I k), (2, .I n), (8, .I l), (31, .bool (decide (((n : Int) : Int) < (k : Int))))] ?_
 refine uD 31 (((n : Int) : Int) < (k : Int)) (fun h3 => ?_) (fun h3 => ?_)
 ·
  omega
 ·
  refine qF 3 [(0, .slice a xs.length c), (1, .I k), (2, .I n), (8, .I l), (34, .bool (decide (((n : Int) : Int) > 255)))] ?_
  refine qD (((n : Int) : Int) > 255) (fun h4 => ?_) (fun h4 => ?_)
  ·
   omega
  ·
   refine qR 7 [.c [4, 0, 1, 0], .b 0, .c [5]] [(0, .slice a xs.length c), (1, .I k), (2, .I n), (8, .I l), (10, .slice none 0 0), (11, .I 0)] ?_
   have H := H.ownNil Shape.raw 23
   have H : Hp w S [] [] (⟨Shape.raw, 23, .slice none 0 0, ([] : List RowD).map RowD.v⟩ :: (rowsW 5 ([] : List RowD))) [Rp SB [.slice a xs.length c] xs] _ := H
   refine uL (α := Nat × List RowD × Option Addr × Nat) (g := 34) (p := [4, 0, 1, 0, 0]) (fun (i, R, ao, co) => [(0, .slice a xs.length c), (1, .I k), (2, .I n), (8, .I l), (10, .slice ao (R.map RowD.v).length co), (11, .I i)]) (fun (i, R, ao, co) w' => Hp w S [] [] (⟨Shape.raw, 23, .slice ao (R.map RowD.v).length co, R.map RowD.v⟩ :: (rowsW 5 R)) [Rp SB [.slice a xs.length c] xs] w' ∧ i ≤ n ∧ R.length = i ∧ (∀ r ∈ R, r.n = l) ∧ R.map RowD.xs = List.replicate i (List.replicate l 0#8)) (fun (i, R, ao, co) => n - i) (0, ([] : List RowD), none, 0) ⟨H, by omega, rfl, fun r h => (by cases h), rfl⟩ ?_
   rintro ⟨i, R, ao, co⟩ w6 ⟨H, hinv0⟩ hback5
   have hRl : (R.map RowD.v).length = i := by rw [List.length_map]; exact hinv0.2.1
   refine qR 3 [.c [4, 0, 1, 0, 0, 0, 1], .c [4, 0, 1, 0, 0, 1], .l [4, 0, 1, 0, 0], .b 0, .c [5]] [(0, .slice a xs.length c), (1, .I k), (2, .I n), (8, .I l), (10, .slice ao (R.map RowD.v).length co), (11, .I i), (37, .bool (decide (((i : Int) : Int) < (n : Int))))] ?_
   refine qD (((i : Int) : Int) < (n : Int)) (fun h7 => ?_) (fun h7 => ?_)
   ·
    refine qR 3 [.c [4, 0, 1, 0, 0, 1, 0, 0], .b 1, .c [4, 0, 1, 0, 0, 2], .l [4, 0, 1, 0, 0], .b 0, .c [5]] [(0, .slice a xs.length c), (1, .I k), (2, .I n), (8, .I l), (10, .slice ao (R.map RowD.v).length co), (11, .I i)] ?_
    refine qG (sq 0 6) ?_
    refine qP 2 (sq 2 6) [(0, .slice a xs.length c), (1, .I k), (2, .I n), (8, .I l), (10, .slice ao (R.map RowD.v).length co), (11, .I i), (40, .slice ao (R.map RowD.v).length co), (41, .I l)] ?_
    refine RW.makeW Sb (κ := .seq) (d := some 42) (r := (sq 3 6)) (T := 23) (e := 5) (by_ := 1) (v0 := .int .u8 0) (0#8 : BitVec 8) (kl := .i64) (kc := .i64) (lv := (l : Int)) (cv := (l : Int)) (by as_aux_lemma => kernel_rfl) (nofun) (by as_aux_lemma => kernel_rfl) rfl H l l (by omega) (by omega) (by omega) (by omega) (by omega) (fun _ _ => rfl) ?_
    intro b8 w9 H
    have H := H.perms (M' := []) (W' := (⟨Shape.raw, 23, .slice ao (R.map RowD.v).length co, R.map RowD.v⟩ :: (rowsW 5 (R ++ [(⟨some ⟨b8, 0, none⟩, l, l, (List.replicate l (0#8 : BitVec 8))⟩ : RowD)])))) (List.Perm.refl _) (((rowsW_snoc (r := (⟨some ⟨b8, 0, none⟩, l, l, (List.replicate l (0#8 : BitVec 8))⟩ : RowD))).append_left ([⟨Shape.raw, 23, .slice ao (R.map RowD.v).length co, R.map RowD.v⟩] : List OwnS)).trans List.perm_middle)
    have H : Hp w S [] [] (⟨Shape.raw, 23, .slice ao (R.map RowD.v).length co, R.map RowD.v⟩ :: (rowsW 5 (R ++ [(⟨some ⟨b8, 0, none⟩, l, l, (List.replicate l (0#8 : BitVec 8))⟩ : RowD)]))) [Rp SB [.slice a xs.length c] xs] _ := H
    refine RW.new (κ := .seq) (d := some 43) (r := (sq 4 6)) (o := .cells #[.slice (some ⟨b8, 0, none⟩) l l] 23 (0, 0)) (v := fun b => .slice (some ⟨b, 0, none⟩) 1 1) (fun b => by as_aux_lemma => kernel_rfl) (nofun) H ?_
    intro b10 w11 H
    have H := H.freeze 0 rfl Shape.raw ([.slice (some ⟨b8, 0, none⟩) l l] : List Value) 1 (by simp [maxLen]) (Nat.le_refl _) (EsP.cons (c := [.slice (some ⟨b8, 0, none⟩) l l]) ⟨rfl, rfl⟩ EsP.nil)
    have H : Hp w S [] [] (⟨Shape.raw, 23, .slice ao (R.map RowD.v).length co, R.map RowD.v⟩ :: (rowsW 5 (R ++ [(⟨some ⟨b8, 0, none⟩, l, l, (List.replicate l (0#8 : BitVec 8))⟩ : RowD)]))) [Rp (Shape.slice Shape.raw) [.slice (some ⟨b10, 0, none⟩) 1 1] ([.slice (some ⟨b8, 0, none⟩) l l] : List Value), Rp SB [.slice a xs.length c] xs] _ := H
    refine RW.appendW (d := some 44) (r := (sq 5 6)) (T := 29) (ty := 29) (e := 23) (m := 1) (by_ := 24) (v := .slice ao (R.map RowD.v).length co) (a2 := (some ⟨b10, 0, none⟩)) (l2 := 1) (c2 := 1) (zs := (R ++ [(⟨some ⟨b8, 0, none⟩, l, l, (List.replicate l (0#8 : BitVec 8))⟩ : RowD)]).map RowD.v) (by as_aux_lemma => kernel_rfl) (by as_aux_lemma => kernel_rfl) rfl H 0 rfl 0 rfl (by rw [List.map_append]; rfl) (by rw [List.map_append, List.length_append, hRl]; simp only [List.map_cons, List.map_nil, List.length_cons, List.length_nil]; omega) ?_
    intro a12 c13 w15 H hc14
    have H : Hp w S [] [] (⟨Shape.raw, 23, .slice a12 (((R ++ [(⟨some ⟨b8, 0, none⟩, l, l, (List.replicate l (0#8 : BitVec 8))⟩ : RowD)]).map RowD.v).length) c13, (R ++ [(⟨some ⟨b8, 0, none⟩, l, l, (List.replicate l (0#8 : BitVec 8))⟩ : RowD)]).map RowD.v⟩ :: (rowsW 5 (R ++ [(⟨some ⟨b8, 0, none⟩, l, l, (List.replicate l (0#8 : BitVec 8))⟩ : RowD)]))) [Rp (Shape.slice Shape.raw) [.slice (some ⟨b10, 0, none⟩) 1 1] ([.slice (some ⟨b8, 0, none⟩) l l] : List Value), Rp SB [.slice a xs.length c] xs] _ := H
    refine qF 1 [(0, .slice a xs.length c), (1, .I k), (2, .I n), (8, .I l), (10, .slice a12 (((R ++ [(⟨some ⟨b8, 0, none⟩, l, l, (List.replicate l (0#8 : BitVec 8))⟩ : RowD)]).map RowD.v).length) c13), (11, .I i)] ?_
    refine qR 1 [.c [4, 0, 1, 0, 0, 2], .l [4, 0, 1, 0, 0], .b 0, .c [5]] [(0, .slice a xs.length c), (1, .I k), (2, .I n), (8, .I l), (10, .slice a12 (((R ++ [(⟨some ⟨b8, 0, none⟩, l, l, (List.replicate l (0#8 : BitVec 8))⟩ : RowD)]).map RowD.v).length) c13), (11, .I i)] ?_
    refine qG (sq 0 3) ?_
    refine qP 1 (sq 1 3) [(0, .slice a xs.length c), (1, .I k), (2, .I n), (8, .I l), (10, .slice a12 (((R ++ [(⟨some ⟨b8, 0, none⟩, l, l, (List.replicate l (0#8 : BitVec 8))⟩ : RowD)]).map RowD.v).length) c13), (11, .I i), (38, .I i)] ?_
    refine qI .seq 39 (sq 2 3) ((i : Int) + 1) ?_
    refine qF 1 [(0, .slice a xs.length c), (1, .I k), (2, .I n), (8, .I l), (10, .slice a12 (((R ++ [(⟨some ⟨b8, 0, none⟩, l, l, (List.replicate l (0#8 : BitVec 8))⟩ : RowD)]).map RowD.v).length) c13), (11, .I ((i : Int) + 1))] ?_
    have H := H.pick [1] rfl
    exact uB (hback5 (i + 1, (R ++ [(⟨some ⟨b8, 0, none⟩, l, l, (List.replicate l (0#8 : BitVec 8))⟩ : RowD)]), a12, c13) _ ⟨H, by omega, by rw [List.length_append, hinv0.2.1]; rfl, by intro r hr; rcases List.mem_append.1 hr with hr | hr; exact hinv0.2.2.1 r hr; rw [List.mem_singleton.1 hr], by rw [List.map_append, hinv0.2.2.2, List.replicate_succ']; rfl⟩ (by first | omega | (simp only []; omega)))
   ·
    have hin : i = n := by omega
    have hRn : (R.map RowD.v).length = n := by omega
    rw [hRn] at H ⊢
    have hR0 := hinv0.2.1.trans hin
    have hRx := hinv0.2.2.2
    rw [hin] at hRx
    refine qR 5 [.c [5, 0, 1, 0], .b 2, .c [6]] [(0, .slice a xs.length c), (1, .I k), (2, .I n), (8, .I l), (10, .slice ao n co), (12, .I 0)] ?_
    refine uL (α := Nat × List RowD) (g := 34) (p := [5, 0, 1, 0, 0]) (fun (i, Q) => [(0, .slice a xs.length c), (1, .I k), (2, .I n), (8, .I l), (10, .slice ao n co), (12, .I i)]) (fun (i, Q) w' => Hp w S [] [] (⟨Shape.raw, 23, .slice ao n co, Q.map RowD.v⟩ :: (rowsW 5 Q)) [Rp SB [.slice a xs.length c] xs] w' ∧ i ≤ xs.length ∧ Q.length = n ∧ (∀ r ∈ Q, r.n = l) ∧ Q.map RowD.xs = fillSt xs l n i) (fun (i, Q) => xs.length - i) (0, R) ⟨H, by omega, hR0, hinv0.2.2.1, by rw [hRx]; exact fillSt_zero⟩ ?_
    rintro ⟨i, Q⟩ w17 ⟨H, hinv1⟩ hback16
    refine qR 3 [.c [5, 0, 1, 0, 0, 0, 1], .c [5, 0, 1, 0, 0, 1], .l [5, 0, 1, 0, 0], .b 2, .c [6]] [(0, .slice a xs.length c), (1, .I k), (2, .I n), (8, .I l), (10, .slice ao n co), (12, .I i), (48, .bool (decide (((i : Int) : Int) < ((xs.length : Nat) : Int))))] ?_
    refine qD (((i : Int) : Int) < ((xs.length : Nat) : Int)) (fun h18 => ?_) (fun h18 => ?_)
    ·
     obtain ⟨hl0, hqn, hul, hqu⟩ := quo_bd (i := i) (l := l) (n := n) (by omega : i < xs.length) hmul hkn
     obtain ⟨q, hq⟩ : ∃ q, i / l = q := ⟨_, rfl⟩
     obtain ⟨u, hu⟩ : ∃ u, i % l = u := ⟨_, rfl⟩
     rw [hq] at hqn hqu
     rw [hu] at hul hqu
     refine qR 3 [.c [5, 0, 1, 0, 0, 1, 0, 0], .b 3, .c [5, 0, 1, 0, 0, 2], .l [5, 0, 1, 0, 0], .b 2, .c [6]] [(0, .slice a xs.length c), (1, .I k), (2, .I n), (8, .I l), (10, .slice ao n co), (12, .I i)] ?_
     refine WK.draw1 14 (qs [0, 1, 2, 3, 4, 5, 6, 7, 8, 9, 10, 11, 12, 13]) [(0, .qui), (1, .qui), (2, .qui), (3, .qui), (4, .qui), (5, .qui), (6, .qui), (7, .qui), (8, .qui), (9, .qui), (10, .qui), (11, .qui), (12, .qui), (13, .qui), (14, .seq)] Try_mixed (by as_aux_lemma => kernel_rfl) (by as_aux_lemma => kernel_rfl) (by as_aux_lemma => kernel_rfl) ?_
     have H := H.draw
     generalize ({ w17 with drawn := w17.drawn + 1 } : World) = w19 at H ⊢
     refine qP 3 [(3, .qui), (4, .qui), (5, .qui), (6, .qui), (7, .qui), (8, .qui), (9, .qui), (10, .qui), (11, .qui), (12, .qui), (13, .qui), (14, .seq)] [(0, .slice a xs.length c), (1, .I k), (2, .I n), (8, .I l), (10, .slice ao n co), (12, .I i), (51, .slice ao n co), (52, .I i), (53, .I l)] ?_
     refine RW.readS (κ := .qui) (d := some 54) (r := [(4, .qui), (5, .qui), (6, .qui), (7, .qui), (8, .qui), (9, .qui), (10, .qui), (11, .qui), (12, .qui), (13, .qui), (14, .seq)]) (s := semV (Op.intDiv .quo .i64 (i : Int) (l : Int))) (v := .I q) (by as_aux_lemma => kernel_rfl) (fun w' _ => semV_run (quo_nat (r := q) (by omega) (by omega) (by rw [← hq]; rfl))) ?_
     obtain ⟨rr20, hrr21⟩ : ∃ q_, Q[q]? = some q_ := ⟨_, List.getElem?_eq_getElem (by omega)⟩
     have H := H.perms (M' := []) (W' := (⟨Shape.raw, 23, .slice ao n co, Q.map RowD.v⟩ :: ⟨Sb, 5, .slice rr20.a rr20.n rr20.c, rr20.xs⟩ :: (rowsW 5 (Q.eraseIdx q)))) (List.Perm.refl _) ((rowsW_pick hrr21).append_left ([⟨Shape.raw, 23, .slice ao n co, Q.map RowD.v⟩] : List OwnS))
     have hrx : rr20.xs = fillRow xs l q i := Option.some.inj ((rowsX_at hrr21 hinv1.2.2.2).symm.trans (fillSt_at (by omega)))
     have hrl : rr20.xs.length = l := by rw [hrx, fillRow_len]
     have hrn : rr20.n = l := hinv1.2.2.1 rr20 (List.mem_of_getElem? hrr21)
     have hn23 : n = (Q.map RowD.v).length := by rw [List.length_map]; omega
     have hx22 : q < (Q.map RowD.v).length := by rw [List.length_map]; omega
     refine RW.indexW (κ := .qui) (d := some 55) (r := [(5, .qui), (6, .qui), (7, .qui), (8, .qui), (9, .qui), (10, .qui), (11, .qui), (12, .qui), (13, .qui), (14, .seq)]) (T := 29) (e := 23) (m := 1) (ik := .i64) (ix := (q : Int)) (sh := Shape.raw) (xs := Q.map RowD.v) (a := ao) (len := n) (cap := co) (by as_aux_lemma => kernel_rfl) (by as_aux_lemma => kernel_rfl) rfl H q (by omega) hx22 hn23 ?_
     intro b24 es25 ha26 hcell27 hr28
     rw [rowsV_at hrr21] at hr28
     obtain ⟨rfl, -⟩ := hr28
     refine qL .qui 56 [(6, .qui), (7, .qui), (8, .qui), (9, .qui), (10, .qui), (11, .qui), (12, .qui), (13, .qui), (14, .seq)] 23 b24 (q * 1) 0 (.slice rr20.a rr20.n rr20.c) hcell27 ?_
     refine qP 2 [(8, .qui), (9, .qui), (10, .qui), (11, .qui), (12, .qui), (13, .qui), (14, .seq)] [(0, .slice a xs.length c), (1, .I k), (2, .I n), (8, .I l), (10, .slice ao n co), (12, .I i), (56, .slice rr20.a rr20.n rr20.c), (57, .I i), (58, .I l)] ?_
     refine RW.readS (κ := .qui) (d := some 59) (r := [(9, .qui), (10, .qui), (11, .qui), (12, .qui), (13, .qui), (14, .seq)]) (s := semV (Op.intDiv .rem .i64 (i : Int) (l : Int))) (v := .I u) (by as_aux_lemma => kernel_rfl) (fun w' _ => semV_run (rem_nat (r := u) (by omega) (by omega) (by rw [← hu]; rfl))) ?_
     refine qP 2 [(11, .qui), (12, .qui), (13, .qui), (14, .seq)] [(0, .slice a xs.length c), (1, .I k), (2, .I n), (8, .I l), (10, .slice ao n co), (12, .I i), (56, .slice rr20.a rr20.n rr20.c), (59, .I u), (60, .slice a xs.length c), (61, .I i)] ?_
     have hx29 : i < xs.length := by omega
     refine qX .qui 62 [(12, .qui), (13, .qui), (14, .seq)] 23 5 (i : Int) Sb (xs[i]) H 0 rfl i (by omega) (List.getElem?_eq_getElem hx29) ?_
     intro b30 o31 es32 hr33 H
     obtain rfl := hr33
     refine qL .qui 63 [(13, .qui), (14, .seq)] 5 b30 o31 0 (.int .u8 (((xs[i]).toNat : Nat) : Int)) (H.fc 0 rfl) ?_
     have H := H.frontW 1 (W' := (⟨Sb, 5, .slice rr20.a rr20.n rr20.c, rr20.xs⟩ :: ⟨Shape.raw, 23, .slice ao n co, Q.map RowD.v⟩ :: (rowsW 5 (Q.eraseIdx q)))) rfl
     have hn35 : rr20.n = rr20.xs.length := by omega
     have hx34 : u < rr20.xs.length := by omega
     refine RW.indexW (κ := .qui) (d := some 64) (r := [(14, .seq)]) (T := 23) (e := 5) (m := 1) (ik := .i64) (ix := (u : Int)) (sh := Sb) (xs := rr20.xs) (a := rr20.a) (len := rr20.n) (cap := rr20.c) (by as_aux_lemma => kernel_rfl) (by as_aux_lemma => kernel_rfl) rfl H u (by omega) hx34 hn35 ?_
     intro b36 es37 ha38 hcell39 hr40
     obtain rfl := hr40
     refine RW.storeW (d := none) (r := []) (e := 5) (m := 1) (b := b36) (k := u) (v := .int .u8 (((xs[i]).toNat : Nat) : Int)) (by as_aux_lemma => kernel_rfl) rfl (by as_aux_lemma => kernel_rfl) H ha38 hx34 hn35 (xs[i]) Shape.bv_mk ?_
     intro w41 H
     refine qF 0 [(0, .slice a xs.length c), (1, .I k), (2, .I n), (8, .I l), (10, .slice ao n co), (12, .I i)] ?_
     refine qR 1 [.c [5, 0, 1, 0, 0, 2], .l [5, 0, 1, 0, 0], .b 2, .c [6]] [(0, .slice a xs.length c), (1, .I k), (2, .I n), (8, .I l), (10, .slice ao n co), (12, .I i)] ?_
     refine qG (sq 0 3) ?_
     refine qP 1 (sq 1 3) [(0, .slice a xs.length c), (1, .I k), (2, .I n), (8, .I l), (10, .slice ao n co), (12, .I i), (49, .I i)] ?_
     refine qI .seq 50 (sq 2 3) ((i : Int) + 1) ?_
     refine qF 1 [(0, .slice a xs.length c), (1, .I k), (2, .I n), (8, .I l), (10, .slice ao n co), (12, .I ((i : Int) + 1))] ?_
     have H := H.frontW 1 (W' := (⟨Shape.raw, 23, .slice ao n co, Q.map RowD.v⟩ :: ⟨Sb, 5, .slice rr20.a rr20.n rr20.c, rr20.xs.set u (xs[i])⟩ :: (rowsW 5 (Q.eraseIdx q)))) rfl
     have H := H.perms (M' := []) (W' := (⟨Shape.raw, 23, .slice ao n co, Q.map RowD.v⟩ :: (rowsW 5 (Q.set q (⟨rr20.a, rr20.n, rr20.c, rr20.xs.set u (xs[i])⟩ : RowD))))) (List.Perm.refl _) ((rowsW_put (⟨rr20.a, rr20.n, rr20.c, rr20.xs.set u (xs[i])⟩ : RowD) (List.getElem?_eq_some_iff.1 hrr21).1).append_left ([⟨Shape.raw, 23, .slice ao n co, Q.map RowD.v⟩] : List OwnS))
     have H := H.reW (ys := (Q.set q (⟨rr20.a, rr20.n, rr20.c, rr20.xs.set u (xs[i])⟩ : RowD)).map RowD.v) (rowsV_set (r' := (⟨rr20.a, rr20.n, rr20.c, rr20.xs.set u (xs[i])⟩ : RowD)) hrr21 rfl)
     have H : Hp w S [] [] (⟨Shape.raw, 23, .slice ao n co, (Q.set q (⟨rr20.a, rr20.n, rr20.c, rr20.xs.set u (xs[i])⟩ : RowD)).map RowD.v⟩ :: (rowsW 5 (Q.set q (⟨rr20.a, rr20.n, rr20.c, rr20.xs.set u (xs[i])⟩ : RowD)))) [Fc b30 o31 [.int .u8 (((xs[i]).toNat : Nat) : Int)], Rp SB [.slice a xs.length c] xs] _ := H
     have H := H.pick [1] rfl
     exact uB (hback16 (i + 1, (Q.set q (⟨rr20.a, rr20.n, rr20.c, rr20.xs.set u (xs[i])⟩ : RowD))) _ ⟨H, by omega, by rw [List.length_set]; exact hinv1.2.1, rows_n hinv1.2.2.1 hrr21 rfl, by rw [rowsX_set, hinv1.2.2.2]; simp only []; rw [hrx]; exact fillSt_set hqu hul (by omega) hqn⟩ (by first | omega | (simp only []; omega)))
    ·
     have hix : i = xs.length := by omega
     have H := H.freezeRows0
     have H := H.reW (ys := encSt xs l k n k 0) (by rw [hinv1.2.2.2, hix]; exact encSt_start hmul)
     obtain ⟨ob, -, rfl, -⟩ := H.ownCell 0 (by rw [encSt_len]; omega) (encSt_len ..).symm
     refine qR 2 [.c [6, 0], .c [7]] [(1, .I k), (2, .I n), (10, .slice (some ⟨ob, 0, none⟩) n co)] ?_
     refine qG (sq 0 8) ?_
     refine uP 2 ?_
     refine qK .seq (some 68) (sq 3 8) 72 #[.I k, .I n] (rgen_spec (S := Av S w [] (idsOf [] [⟨SB, 23, .slice (some ⟨ob, 0, none⟩) n co, encSt xs l k n k 0⟩])) k n hk hkn hn) ?_
     rintro _ w42 hE45 ⟨a43, c44, rfl, hr46⟩
     have H := H.addN hE45 (F := Rp (Shape.slice SB) [.slice a43 (gen k n).length c44] (gen k n)) hr46
     refine qF 5 [(1, .I k), (2, .I n), (10, .slice (some ⟨ob, 0, none⟩) n co), (13, .slice a43 (gen k n).length c44)] ?_
     refine qR 4 [.c [7, 0, 1, 0], .b 4, .c [8]] [(1, .I k), (2, .I n), (10, .slice (some ⟨ob, 0, none⟩) n co), (13, .slice a43 (gen k n).length c44), (15, .I k)] ?_
     refine uL (α := Nat) (g := 34) (p := [7, 0, 1, 0, 0]) (fun i => [(1, .I k), (2, .I n), (10, .slice (some ⟨ob, 0, none⟩) n co), (13, .slice a43 (gen k n).length c44), (15, .I i)]) (fun i w' => Hp w S [] [] [⟨SB, 23, .slice (some ⟨ob, 0, none⟩) n co, encSt xs l k n i 0⟩] [Rp (Shape.slice SB) [.slice a43 (gen k n).length c44] (gen k n), Rp SB [.slice a xs.length c] xs] w' ∧ k ≤ i ∧ i ≤ n) (fun i => n - i) k ⟨H, by omega⟩ ?_
     rintro i w48 ⟨H, hinv2⟩ hback47
     refine qR 3 [.c [7, 0, 1, 0, 0, 0, 1], .c [7, 0, 1, 0, 0, 1], .l [7, 0, 1, 0, 0], .b 4, .c [8]] [(1, .I k), (2, .I n), (10, .slice (some ⟨ob, 0, none⟩) n co), (13, .slice a43 (gen k n).length c44), (15, .I i), (74, .bool (decide (((i : Int) : Int) < (n : Int))))] ?_
     refine qD (((i : Int) : Int) < (n : Int)) (fun h49 => ?_) (fun h49 => ?_)
     ·
      refine qR 6 [.c [7, 0, 1, 0, 0, 1, 0, 0, 1, 0], .b 6, .b 5, .c [7, 0, 1, 0, 0, 2], .l [7, 0, 1, 0, 0], .b 4, .c [8]] [(1, .I k), (2, .I n), (10, .slice (some ⟨ob, 0, none⟩) n co), (13, .slice a43 (gen k n).length c44), (15, .I i), (16, .I 0)] ?_
      refine uL (α := Nat) (g := 34) (p := [7, 0, 1, 0, 0, 1, 0, 0, 1, 0, 0]) (fun j => [(1, .I k), (2, .I n), (10, .slice (some ⟨ob, 0, none⟩) n co), (13, .slice a43 (gen k n).length c44), (15, .I i), (16, .I j)]) (fun j w' => Hp w S [] [] [⟨SB, 23, .slice (some ⟨ob, 0, none⟩) n co, encSt xs l k n i j⟩] [Rp (Shape.slice SB) [.slice a43 (gen k n).length c44] (gen k n), Rp SB [.slice a xs.length c] xs] w' ∧ j ≤ k) (fun j => k - j) 0 ⟨H, by omega⟩ ?_
      rintro j w51 ⟨H, hinv3⟩ hback50
      refine qR 3 [.c [7, 0, 1, 0, 0, 1, 0, 0, 1, 0, 0, 0, 1], .c [7, 0, 1, 0, 0, 1, 0, 0, 1, 0, 0, 1], .l [7, 0, 1, 0, 0, 1, 0, 0, 1, 0, 0], .b 6, .b 5, .c [7, 0, 1, 0, 0, 2], .l [7, 0, 1, 0, 0], .b 4, .c [8]] [(1, .I k), (2, .I n), (10, .slice (some ⟨ob, 0, none⟩) n co), (13, .slice a43 (gen k n).length c44), (15, .I i), (16, .I j), (79, .bool (decide (((j : Int) : Int) < (k : Int))))] ?_
      refine qD (((j : Int) : Int) < (k : Int)) (fun h52 => ?_) (fun h52 => ?_)
      ·
       refine qR 3 [.c [7, 0, 1, 0, 0, 1, 0, 0, 1, 0, 0, 1, 0, 0], .b 7, .c [7, 0, 1, 0, 0, 1, 0, 0, 1, 0, 0, 2], .l [7, 0, 1, 0, 0, 1, 0, 0, 1, 0, 0], .b 6, .b 5, .c [7, 0, 1, 0, 0, 2], .l [7, 0, 1, 0, 0], .b 4, .c [8]] [(1, .I k), (2, .I n), (10, .slice (some ⟨ob, 0, none⟩) n co), (13, .slice a43 (gen k n).length c44), (15, .I i), (16, .I j)] ?_
       refine WK.drawH1 [ob] (.node (qs [0, 1, 2, 3, 4, 6, 7, 8, 10, 11, 12, 14]) (.cons 5 (.node [] (.cons 9 (.leaf [(13, .seq), (15, .qui), (16, .qui), (17, .seq), (18, .qui), (19, .qui), (20, .qui), (21, .qui), (22, .seq)]) (.cons 13 (.leaf [(15, .qui), (16, .qui), (9, .seq), (17, .seq), (18, .qui), (19, .qui), (20, .qui), (21, .qui), (22, .seq)]) .nil))) (.cons 9 (.node [] (.cons 5 (.leaf [(13, .seq), (15, .qui), (16, .qui), (17, .seq), (18, .qui), (19, .qui), (20, .qui), (21, .qui), (22, .seq)]) (.cons 13 (.leaf [(15, .qui), (16, .qui), (5, .seq), (17, .seq), (18, .qui), (19, .qui), (20, .qui), (21, .qui), (22, .seq)]) .nil))) (.cons 13 (.node (qs [15, 16]) (.cons 5 (.leaf [(9, .seq), (17, .seq), (18, .qui), (19, .qui), (20, .qui), (21, .qui), (22, .seq)]) (.cons 9 (.leaf [(5, .seq), (17, .seq), (18, .qui), (19, .qui), (20, .qui), (21, .qui), (22, .seq)]) .nil))) .nil)))) Try_mixed (by as_aux_lemma => kernel_rfl) (by as_aux_lemma => kernel_rfl) ?_
       intro w53 hw54
       have H := H.draw
       rw [← hw54] at H
       clear hw54
       have hS := Chg.refl w53 [ob]
       refine RG.node' (qs [0, 1, 2, 3, 4, 6, 7, 8, 10, 11, 12, 14]) (by as_aux_lemma => kernel_rfl) ?_
       refine qHP hS 4 (qs [4, 6, 7, 8, 10, 11, 12, 14]) [(1, .I k), (2, .I n), (10, .slice (some ⟨ob, 0, none⟩) n co), (13, .slice a43 (gen k n).length c44), (15, .I i), (16, .I j), (83, .slice (some ⟨ob, 0, none⟩) n co), (84, .I i), (85, .slice (some ⟨ob, 0, none⟩) n co), (86, .I i)] ?_
       have hn56 : n = (encSt xs l k n i j).length := (encSt_len ..).symm
       have hx55 : i < (encSt xs l k n i j).length := by rw [encSt_len]; omega
       refine RH.indexW (d := some 87) (r := (qs [6, 7, 8, 10, 11, 12, 14])) (T := 29) (e := 23) (m := 1) (ik := .i64) (ix := (i : Int)) (sh := SB) (xs := encSt xs l k n i j) (a := (some ⟨ob, 0, none⟩)) (len := n) (cap := co) (by as_aux_lemma => kernel_rfl) hS (by as_aux_lemma => kernel_rfl) rfl H i (by omega) hx55 hn56 ?_
       intro b57 es58 ha59 hcell60 hr61
       cases ha59
       rw [encSt_hi (by omega) (by omega)] at hr61
       obtain ⟨a62, k63, rfl⟩ := Shape.slice_form' hr61
       have H := H.add (F := Rp SB [.slice a62 ((mixAll ((genRow k i).take j) (dataOf xs l k) (List.replicate l 0#8)).length) k63] (mixAll ((genRow k i).take j) (dataOf xs l k) (List.replicate l 0#8))) hr61
       refine qHP hS 2 (qs [8, 10, 11, 12, 14]) [(1, .I k), (2, .I n), (10, .slice (some ⟨ob, 0, none⟩) n co), (13, .slice a43 (gen k n).length c44), (15, .I i), (16, .I j), (83, .slice (some ⟨ob, 0, none⟩) n co), (84, .I i), (87, .pointer (some ⟨ob, i * 1, none⟩)), (89, .slice (some ⟨ob, 0, none⟩) n co), (90, .I j)] ?_
       have hn65 : n = (encSt xs l k n i j).length := (encSt_len ..).symm
       have hx64 : j < (encSt xs l k n i j).length := by rw [encSt_len]; omega
       refine RH.indexW (d := some 91) (r := (qs [10, 11, 12, 14])) (T := 29) (e := 23) (m := 1) (ik := .i64) (ix := (j : Int)) (sh := SB) (xs := encSt xs l k n i j) (a := (some ⟨ob, 0, none⟩)) (len := n) (cap := co) (by as_aux_lemma => kernel_rfl) hS (by as_aux_lemma => kernel_rfl) rfl H j (by omega) hx64 hn65 ?_
       intro b66 es67 ha68 hcell69 hr70
       cases ha68
       rw [encSt_lo (by omega) (by omega)] at hr70
       obtain ⟨a71, k72, rfl⟩ := Shape.slice_form' hr70
       have H := H.add (F := Rp SB [.slice a71 (chunk xs l j).length k72] (chunk xs l j)) hr70
       refine qHP hS 2 (qs [12, 14]) [(1, .I k), (2, .I n), (10, .slice (some ⟨ob, 0, none⟩) n co), (13, .slice a43 (gen k n).length c44), (15, .I i), (16, .I j), (83, .slice (some ⟨ob, 0, none⟩) n co), (84, .I i), (87, .pointer (some ⟨ob, i * 1, none⟩)), (91, .pointer (some ⟨ob, j * 1, none⟩)), (93, .slice a43 (gen k n).length c44), (94, .I i)] ?_
       have hx73 : i < (gen k n).length := by rw [gen_len]; omega
       refine RH.index (d := some 95) (r := [(14, .qui)]) (T := 29) (e := 23) (ik := .i64) (ix := (i : Int)) (sh := SB) (x := (genRow k i)) (by as_aux_lemma => kernel_rfl) hS (by as_aux_lemma => kernel_rfl) H 2 rfl i (by omega) (gen_get (by omega)) ?_
       intro b74 o75 es76 hr77 H
       obtain ⟨a78, k79, rfl⟩ := Shape.slice_form' hr77
       have H := H.add (F := Rp SB [.slice a78 (genRow k i).length k79] (genRow k i)) hr77
       refine RH.finB hS 1 [1, 2, 10, 13, 15, 16, 83, 84, 87, 91, 95, 97] [(1, .I k), (2, .I n), (10, .slice (some ⟨ob, 0, none⟩) n co), (13, .slice a43 (gen k n).length c44), (15, .I i), (16, .I j), (83, .slice (some ⟨ob, 0, none⟩) n co), (84, .I i), (87, .pointer (some ⟨ob, i * 1, none⟩)), (91, .pointer (some ⟨ob, j * 1, none⟩)), (95, .P b74 o75), (97, .I j)] (by as_aux_lemma => kernel_rfl) ?_
       refine (RGB.cons' ?_ (RGB.cons' ?_ (RGB.cons' ?_ RGB.nil')))
       ·
        refine RG.node' [(5, .seq)] (by as_aux_lemma => kernel_rfl) ?_
        have Hr := H
        refine RH.chn hS ?_
        refine qL .chn 88 [] 23 ob (i * 1) 0 (.slice a62 ((mixAll ((genRow k i).take j) (dataOf xs l k) (List.replicate l 0#8)).length) k63) hcell60 ?_
        intro hS
        refine RH.finB hS 0 [1, 2, 10, 13, 15, 16, 83, 84, 88, 91, 95, 97] [(1, .I k), (2, .I n), (10, .slice (some ⟨ob, 0, none⟩) n co), (13, .slice a43 (gen k n).length c44), (15, .I i), (16, .I j), (83, .slice (some ⟨ob, 0, none⟩) n co), (84, .I i), (88, .slice a62 ((mixAll ((genRow k i).take j) (dataOf xs l k) (List.replicate l 0#8)).length) k63), (91, .pointer (some ⟨ob, j * 1, none⟩)), (95, .P b74 o75), (97, .I j)] (by as_aux_lemma => kernel_rfl) ?_
        refine (RGB.cons' ?_ (RGB.cons' ?_ RGB.nil'))
        ·
         refine RG.leaf' [(9, .seq), (13, .seq), (15, .qui), (16, .qui), (17, .seq), (18, .qui), (19, .qui), (20, .qui), (21, .qui), (22, .seq)] (by as_aux_lemma => kernel_rfl) ?_
         have Hr := H
         refine RH.chn hS ?_
         refine qL .chn 92 [] 23 ob (j * 1) 0 (.slice a71 (chunk xs l j).length k72) hcell69 ?_
         intro hS
         have Hr := H
         refine RH.chn hS ?_
         refine qL .chn 96 [] 23 b74 o75 0 (.slice a78 (genRow k i).length k79) (H.fc 1 rfl) ?_
         intro hS
         have hx83 : j < (genRow k i).length := by rw [genRow_len]; omega
         refine RH.index (d := some 98) (r := [(16, .qui), (17, .seq), (18, .qui), (19, .qui), (20, .qui), (21, .qui), (22, .seq)]) (T := 23) (e := 5) (ik := .i64) (ix := (j : Int)) (sh := Sb) (x := (genE k i j)) (by as_aux_lemma => kernel_rfl) hS (by as_aux_lemma => kernel_rfl) H 0 rfl j (by omega) (genRow_get (by omega)) ?_
         intro b84 o85 es86 hr87 H
         obtain rfl := hr87
         refine RH.load (d := some 99) (r := [(17, .seq), (18, .qui), (19, .qui), (20, .qui), (21, .qui), (22, .seq)]) (T := 5) (b := b84) (o' := o85) (k := 0) (v := .int .u8 (((genE k i j).toNat : Nat) : Int)) (by as_aux_lemma => kernel_rfl) hS (H.fc 0 rfl) (by intro hq; simp only [List.mem_cons, List.not_mem_nil, or_false] at hq; exact H.neFW 0 rfl 0 rfl hq) (by simp) rfl (by as_aux_lemma => kernel_rfl) ?_
         have Hr := H
         refine RH.chn hS ?_
         refine qK .chn (some 100) [] 73 #[.slice a62 ((mixAll ((genRow k i).take j) (dataOf xs l k) (List.replicate l 0#8)).length) k63, .slice a71 (chunk xs l j).length k72, .int .u8 (((genE k i j).toNat : Nat) : Int)] (r1mix_spec (S := Av S w [] (idsOf [] [⟨SB, 23, .slice (some ⟨ob, 0, none⟩) n co, encSt xs l k n i j⟩])) (xs := (mixAll ((genRow k i).take j) (dataOf xs l k) (List.replicate l 0#8))) (ys := (chunk xs l j)) (genE k i j) (H.rp 4 rfl) (H.rp 3 rfl) (by rw [mixG_len, chunk_len]) (by rw [mixG_len]; omega)) ?_
         rintro _ w89 hE92 ⟨a90, c91, rfl, hr93⟩
         have H := H.addN hE92 (F := Rp SB [.slice a90 ((mixL (mixAll ((genRow k i).take j) (dataOf xs l k) (List.replicate l 0#8)) (chunk xs l j) (genE k i j)).length) c91] (mixL (mixAll ((genRow k i).take j) (dataOf xs l k) (List.replicate l 0#8)) (chunk xs l j) (genE k i j))) hr93
         intro hS
         refine qHP hS 3 [(21, .qui), (22, .seq)] [(1, .I k), (2, .I n), (10, .slice (some ⟨ob, 0, none⟩) n co), (13, .slice a43 (gen k n).length c44), (15, .I i), (16, .I j), (83, .slice (some ⟨ob, 0, none⟩) n co), (84, .I i), (101, .slice a90 ((mixL (mixAll ((genRow k i).take j) (dataOf xs l k) (List.replicate l 0#8)) (chunk xs l j) (genE k i j)).length) c91)] ?_
         have hn95 : n = (encSt xs l k n i j).length := (encSt_len ..).symm
         have hx94 : i < (encSt xs l k n i j).length := by rw [encSt_len]; omega
         refine RH.indexW (d := some 103) (r := [(22, .seq)]) (T := 29) (e := 23) (m := 1) (ik := .i64) (ix := (i : Int)) (sh := SB) (xs := encSt xs l k n i j) (a := (some ⟨ob, 0, none⟩)) (len := n) (cap := co) (by as_aux_lemma => kernel_rfl) hS (by as_aux_lemma => kernel_rfl) rfl H i (by omega) hx94 hn95 ?_
         intro b96 es97 ha98 hcell99 hr100
         cases ha98
         obtain ⟨a101, k102, rfl⟩ := Shape.slice_form' hr100
         have H := H.add (F := Rp SB [.slice a101 (((encSt xs l k n i j)[i]).length) k102] ((encSt xs l k n i j)[i])) hr100
         refine RH.sto ?_
         refine RW.storeWC (d := none) (r := []) (e := 23) (m := 1) (b := ob) (k := i) (v := .slice a90 ((mixL (mixAll ((genRow k i).take j) (dataOf xs l k) (List.replicate l 0#8)) (chunk xs l j) (genE k i j)).length) c91) (by as_aux_lemma => kernel_rfl) rfl (by as_aux_lemma => kernel_rfl) H rfl hx94 hn95 (mixL (mixAll ((genRow k i).take j) (dataOf xs l k) (List.replicate l 0#8)) (chunk xs l j) (genE k i j)) (H.rp 1 rfl) ?_
         intro w104 hch103 H
         have H := H.reW (ys := encSt xs l k n i (j + 1)) (encSt_set (by omega) (by omega) (by omega))
         have hS105 := hS.sto hch103 (.inr (by simp))
         refine ⟨hS105, ?_⟩
         have hS := hS105
         refine RH.fin hS 0 [1, 2, 10, 13, 15, 16] [(1, .I k), (2, .I n), (10, .slice (some ⟨ob, 0, none⟩) n co), (13, .slice a43 (gen k n).length c44), (15, .I i), (16, .I j)] (by as_aux_lemma => kernel_rfl) ?_
         refine qR 1 [.c [7, 0, 1, 0, 0, 1, 0, 0, 1, 0, 0, 2], .l [7, 0, 1, 0, 0, 1, 0, 0, 1, 0, 0], .b 6, .b 5, .c [7, 0, 1, 0, 0, 2], .l [7, 0, 1, 0, 0], .b 4, .c [8]] [(1, .I k), (2, .I n), (10, .slice (some ⟨ob, 0, none⟩) n co), (13, .slice a43 (gen k n).length c44), (15, .I i), (16, .I j)] ?_
         refine qG (sq 0 3) ?_
         refine uP 1 ?_
         refine qI .seq 81 (sq 2 3) ((j : Int) + 1) ?_
         refine qF 1 [(1, .I k), (2, .I n), (10, .slice (some ⟨ob, 0, none⟩) n co), (13, .slice a43 (gen k n).length c44), (15, .I i), (16, .I ((j : Int) + 1))] ?_
         have H := H.pick [7, 8] rfl
         exact uB (hback50 (j + 1) _ ⟨H, by omega⟩ (by first | omega | (simp only []; omega)))
        ·
         refine RG.leaf' [(13, .seq), (15, .qui), (16, .qui), (9, .seq), (17, .seq), (18, .qui), (19, .qui), (20, .qui), (21, .qui), (22, .seq)] (by as_aux_lemma => kernel_rfl) ?_
         have Hr := H
         refine RH.chn hS ?_
         refine qL .chn 96 [] 23 b74 o75 0 (.slice a78 (genRow k i).length k79) (H.fc 1 rfl) ?_
         intro hS
         have hx107 : j < (genRow k i).length := by rw [genRow_len]; omega
         refine RH.index (d := some 98) (r := [(16, .qui), (9, .seq), (17, .seq), (18, .qui), (19, .qui), (20, .qui), (21, .qui), (22, .seq)]) (T := 23) (e := 5) (ik := .i64) (ix := (j : Int)) (sh := Sb) (x := (genE k i j)) (by as_aux_lemma => kernel_rfl) hS (by as_aux_lemma => kernel_rfl) H 0 rfl j (by omega) (genRow_get (by omega)) ?_
         intro b108 o109 es110 hr111 H
         obtain rfl := hr111
         refine RH.load (d := some 99) (r := [(9, .seq), (17, .seq), (18, .qui), (19, .qui), (20, .qui), (21, .qui), (22, .seq)]) (T := 5) (b := b108) (o' := o109) (k := 0) (v := .int .u8 (((genE k i j).toNat : Nat) : Int)) (by as_aux_lemma => kernel_rfl) hS (H.fc 0 rfl) (by intro hq; simp only [List.mem_cons, List.not_mem_nil, or_false] at hq; exact H.neFW 0 rfl 0 rfl hq) (by simp) rfl (by as_aux_lemma => kernel_rfl) ?_
         have Hr := H
         refine RH.chn hS ?_
         refine qL .chn 92 [] 23 ob (j * 1) 0 (.slice a71 (chunk xs l j).length k72) hcell69 ?_
         intro hS
         have Hr := H
         refine RH.chn hS ?_
         refine qK .chn (some 100) [] 73 #[.slice a62 ((mixAll ((genRow k i).take j) (dataOf xs l k) (List.replicate l 0#8)).length) k63, .slice a71 (chunk xs l j).length k72, .int .u8 (((genE k i j).toNat : Nat) : Int)] (r1mix_spec (S := Av S w [] (idsOf [] [⟨SB, 23, .slice (some ⟨ob, 0, none⟩) n co, encSt xs l k n i j⟩])) (xs := (mixAll ((genRow k i).take j) (dataOf xs l k) (List.replicate l 0#8))) (ys := (chunk xs l j)) (genE k i j) (H.rp 4 rfl) (H.rp 3 rfl) (by rw [mixG_len, chunk_len]) (by rw [mixG_len]; omega)) ?_
         rintro _ w114 hE117 ⟨a115, c116, rfl, hr118⟩
         have H := H.addN hE117 (F := Rp SB [.slice a115 ((mixL (mixAll ((genRow k i).take j) (dataOf xs l k) (List.replicate l 0#8)) (chunk xs l j) (genE k i j)).length) c116] (mixL (mixAll ((genRow k i).take j) (dataOf xs l k) (List.replicate l 0#8)) (chunk xs l j) (genE k i j))) hr118
         intro hS
         refine qHP hS 3 [(21, .qui), (22, .seq)] [(1, .I k), (2, .I n), (10, .slice (some ⟨ob, 0, none⟩) n co), (13, .slice a43 (gen k n).length c44), (15, .I i), (16, .I j), (83, .slice (some ⟨ob, 0, none⟩) n co), (84, .I i), (101, .slice a115 ((mixL (mixAll ((genRow k i).take j) (dataOf xs l k) (List.replicate l 0#8)) (chunk xs l j) (genE k i j)).length) c116)] ?_
         have hn120 : n = (encSt xs l k n i j).length := (encSt_len ..).symm
         have hx119 : i < (encSt xs l k n i j).length := by rw [encSt_len]; omega
         refine RH.indexW (d := some 103) (r := [(22, .seq)]) (T := 29) (e := 23) (m := 1) (ik := .i64) (ix := (i : Int)) (sh := SB) (xs := encSt xs l k n i j) (a := (some ⟨ob, 0, none⟩)) (len := n) (cap := co) (by as_aux_lemma => kernel_rfl) hS (by as_aux_lemma => kernel_rfl) rfl H i (by omega) hx119 hn120 ?_
         intro b121 es122 ha123 hcell124 hr125
         cases ha123
         obtain ⟨a126, k127, rfl⟩ := Shape.slice_form' hr125
         have H := H.add (F := Rp SB [.slice a126 (((encSt xs l k n i j)[i]).length) k127] ((encSt xs l k n i j)[i])) hr125
         refine RH.sto ?_
         refine RW.storeWC (d := none) (r := []) (e := 23) (m := 1) (b := ob) (k := i) (v := .slice a115 ((mixL (mixAll ((genRow k i).take j) (dataOf xs l k) (List.replicate l 0#8)) (chunk xs l j) (genE k i j)).length) c116) (by as_aux_lemma => kernel_rfl) rfl (by as_aux_lemma => kernel_rfl) H rfl hx119 hn120 (mixL (mixAll ((genRow k i).take j) (dataOf xs l k) (List.replicate l 0#8)) (chunk xs l j) (genE k i j)) (H.rp 1 rfl) ?_
         intro w129 hch128 H
         have H := H.reW (ys := encSt xs l k n i (j + 1)) (encSt_set (by omega) (by omega) (by omega))
         have hS130 := hS.sto hch128 (.inr (by simp))
         refine ⟨hS130, ?_⟩
         have hS := hS130
         refine RH.fin hS 0 [1, 2, 10, 13, 15, 16] [(1, .I k), (2, .I n), (10, .slice (some ⟨ob, 0, none⟩) n co), (13, .slice a43 (gen k n).length c44), (15, .I i), (16, .I j)] (by as_aux_lemma => kernel_rfl) ?_
         refine qR 1 [.c [7, 0, 1, 0, 0, 1, 0, 0, 1, 0, 0, 2], .l [7, 0, 1, 0, 0, 1, 0, 0, 1, 0, 0], .b 6, .b 5, .c [7, 0, 1, 0, 0, 2], .l [7, 0, 1, 0, 0], .b 4, .c [8]] [(1, .I k), (2, .I n), (10, .slice (some ⟨ob, 0, none⟩) n co), (13, .slice a43 (gen k n).length c44), (15, .I i), (16, .I j)] ?_
         refine qG (sq 0 3) ?_
         refine qP 1 (sq 1 3) [(1, .I k), (2, .I n), (10, .slice (some ⟨ob, 0, none⟩) n co), (13, .slice a43 (gen k n).length c44), (15, .I i), (16, .I j), (80, .I j)] ?_
         refine qI .seq 81 (sq 2 3) ((j : Int) + 1) ?_
         refine qF 1 [(1, .I k), (2, .I n), (10, .slice (some ⟨ob, 0, none⟩) n co), (13, .slice a43 (gen k n).length c44), (15, .I i), (16, .I ((j : Int) + 1))] ?_
         have H := H.pick [7, 8] rfl
         exact uB (hback50 (j + 1) _ ⟨H, by omega⟩ (by first | omega | (simp only []; omega)))
       ·
        refine RG.node' [(9, .seq)] (by as_aux_lemma => kernel_rfl) ?_
        have Hr := H
        refine RH.chn hS ?_
        refine qL .chn 92 [] 23 ob (j * 1) 0 (.slice a71 (chunk xs l j).length k72) hcell69 ?_
        intro hS
        refine RH.finB hS 0 [1, 2, 10, 13, 15, 16, 83, 84, 87, 92, 95, 97] [(1, .I k), (2, .I n), (10, .slice (some ⟨ob, 0, none⟩) n co), (13, .slice a43 (gen k n).length c44), (15, .I i), (16, .I j), (83, .slice (some ⟨ob, 0, none⟩) n co), (84, .I i), (87, .pointer (some ⟨ob, i * 1, none⟩)), (92, .slice a71 (chunk xs l j).length k72), (95, .P b74 o75), (97, .I j)] (by as_aux_lemma => kernel_rfl) ?_
        refine (RGB.cons' ?_ (RGB.cons' ?_ RGB.nil'))
        ·
         refine RG.leaf' [(5, .seq), (13, .seq), (15, .qui), (16, .qui), (17, .seq), (18, .qui), (19, .qui), (20, .qui), (21, .qui), (22, .seq)] (by as_aux_lemma => kernel_rfl) ?_
         have Hr := H
         refine RH.chn hS ?_
         refine qL .chn 88 [] 23 ob (i * 1) 0 (.slice a62 ((mixAll ((genRow k i).take j) (dataOf xs l k) (List.replicate l 0#8)).length) k63) hcell60 ?_
         intro hS
         have Hr := H
         refine RH.chn hS ?_
         refine qL .chn 96 [] 23 b74 o75 0 (.slice a78 (genRow k i).length k79) (H.fc 1 rfl) ?_
         intro hS
         have hx134 : j < (genRow k i).length := by rw [genRow_len]; omega
         refine RH.index (d := some 98) (r := [(16, .qui), (17, .seq), (18, .qui), (19, .qui), (20, .qui), (21, .qui), (22, .seq)]) (T := 23) (e := 5) (ik := .i64) (ix := (j : Int)) (sh := Sb) (x := (genE k i j)) (by as_aux_lemma => kernel_rfl) hS (by as_aux_lemma => kernel_rfl) H 0 rfl j (by omega) (genRow_get (by omega)) ?_
         intro b135 o136 es137 hr138 H
         obtain rfl := hr138
         refine RH.load (d := some 99) (r := [(17, .seq), (18, .qui), (19, .qui), (20, .qui), (21, .qui), (22, .seq)]) (T := 5) (b := b135) (o' := o136) (k := 0) (v := .int .u8 (((genE k i j).toNat : Nat) : Int)) (by as_aux_lemma => kernel_rfl) hS (H.fc 0 rfl) (by intro hq; simp only [List.mem_cons, List.not_mem_nil, or_false] at hq; exact H.neFW 0 rfl 0 rfl hq) (by simp) rfl (by as_aux_lemma => kernel_rfl) ?_
         have Hr := H
         refine RH.chn hS ?_
         refine qK .chn (some 100) [] 73 #[.slice a62 ((mixAll ((genRow k i).take j) (dataOf xs l k) (List.replicate l 0#8)).length) k63, .slice a71 (chunk xs l j).length k72, .int .u8 (((genE k i j).toNat : Nat) : Int)] (r1mix_spec (S := Av S w [] (idsOf [] [⟨SB, 23, .slice (some ⟨ob, 0, none⟩) n co, encSt xs l k n i j⟩])) (xs := (mixAll ((genRow k i).take j) (dataOf xs l k) (List.replicate l 0#8))) (ys := (chunk xs l j)) (genE k i j) (H.rp 4 rfl) (H.rp 3 rfl) (by rw [mixG_len, chunk_len]) (by rw [mixG_len]; omega)) ?_
         rintro _ w140 hE143 ⟨a141, c142, rfl, hr144⟩
         have H := H.addN hE143 (F := Rp SB [.slice a141 ((mixL (mixAll ((genRow k i).take j) (dataOf xs l k) (List.replicate l 0#8)) (chunk xs l j) (genE k i j)).length) c142] (mixL (mixAll ((genRow k i).take j) (dataOf xs l k) (List.replicate l 0#8)) (chunk xs l j) (genE k i j))) hr144
         intro hS
         refine qHP hS 3 [(21, .qui), (22, .seq)] [(1, .I k), (2, .I n), (10, .slice (some ⟨ob, 0, none⟩) n co), (13, .slice a43 (gen k n).length c44), (15, .I i), (16, .I j), (83, .slice (some ⟨ob, 0, none⟩) n co), (84, .I i), (101, .slice a141 ((mixL (mixAll ((genRow k i).take j) (dataOf xs l k) (List.replicate l 0#8)) (chunk xs l j) (genE k i j)).length) c142)] ?_
         have hn146 : n = (encSt xs l k n i j).length := (encSt_len ..).symm
         have hx145 : i < (encSt xs l k n i j).length := by rw [encSt_len]; omega
         refine RH.indexW (d := some 103) (r := [(22, .seq)]) (T := 29) (e := 23) (m := 1) (ik := .i64) (ix := (i : Int)) (sh := SB) (xs := encSt xs l k n i j) (a := (some ⟨ob, 0, none⟩)) (len := n) (cap := co) (by as_aux_lemma => kernel_rfl) hS (by as_aux_lemma => kernel_rfl) rfl H i (by omega) hx145 hn146 ?_
         intro b147 es148 ha149 hcell150 hr151
         cases ha149
         obtain ⟨a152, k153, rfl⟩ := Shape.slice_form' hr151
         have H := H.add (F := Rp SB [.slice a152 (((encSt xs l k n i j)[i]).length) k153] ((encSt xs l k n i j)[i])) hr151
         refine RH.sto ?_
         refine RW.storeWC (d := none) (r := []) (e := 23) (m := 1) (b := ob) (k := i) (v := .slice a141 ((mixL (mixAll ((genRow k i).take j) (dataOf xs l k) (List.replicate l 0#8)) (chunk xs l j) (genE k i j)).length) c142) (by as_aux_lemma => kernel_rfl) rfl (by as_aux_lemma => kernel_rfl) H rfl hx145 hn146 (mixL (mixAll ((genRow k i).take j) (dataOf xs l k) (List.replicate l 0#8)) (chunk xs l j) (genE k i j)) (H.rp 1 rfl) ?_
         intro w155 hch154 H
         have H := H.reW (ys := encSt xs l k n i (j + 1)) (encSt_set (by omega) (by omega) (by omega))
         have hS156 := hS.sto hch154 (.inr (by simp))
         refine ⟨hS156, ?_⟩
         have hS := hS156
         refine RH.fin hS 0 [1, 2, 10, 13, 15, 16] [(1, .I k), (2, .I n), (10, .slice (some ⟨ob, 0, none⟩) n co), (13, .slice a43 (gen k n).length c44), (15, .I i), (16, .I j)] (by as_aux_lemma => kernel_rfl) ?_
         refine uR 1 [.c [7, 0, 1, 0, 0, 1, 0, 0, 1, 0, 0, 2], .l [7, 0, 1, 0, 0, 1, 0, 0, 1, 0, 0], .b 6, .b 5, .c [7, 0, 1, 0, 0, 2], .l [7, 0, 1, 0, 0], .b 4, .c [8]] ?_
         refine qG (sq 0 3) ?_
         refine qP 1 (sq 1 3) [(1, .I k), (2, .I n), (10, .slice (some ⟨ob, 0, none⟩) n co), (13, .slice a43 (gen k n).length c44), (15, .I i), (16, .I j), (80, .I j)] ?_
         refine qI .seq 81 (sq 2 3) ((j : Int) + 1) ?_
         refine qF 1 [(1, .I k), (2, .I n), (10, .slice (some ⟨ob, 0, none⟩) n co), (13, .slice a43 (gen k n).length c44), (15, .I i), (16, .I ((j : Int) + 1))] ?_
         have H := H.pick [7, 8] rfl
         exact uB (hback50 (j + 1) _ ⟨H, by omega⟩ (by first | omega | (simp only []; omega)))
        ·
         refine RG.leaf' [(13, .seq), (15, .qui), (16, .qui), (5, .seq), (17, .seq), (18, .qui), (19, .qui), (20, .qui), (21, .qui), (22, .seq)] (by as_aux_lemma => kernel_rfl) ?_
         have Hr := H
         refine RH.chn hS ?_
         refine qL .chn 96 [] 23 b74 o75 0 (.slice a78 (genRow k i).length k79) (H.fc 1 rfl) ?_
         intro hS
         have hx158 : j < (genRow k i).length := by rw [genRow_len]; omega
         refine RH.index (d := some 98) (r := [(16, .qui), (5, .seq), (17, .seq), (18, .qui), (19, .qui), (20, .qui), (21, .qui), (22, .seq)]) (T := 23) (e := 5) (ik := .i64) (ix := (j : Int)) (sh := Sb) (x := (genE k i j)) (by as_aux_lemma => kernel_rfl) hS (by as_aux_lemma => kernel_rfl) H 0 rfl j (by omega) (genRow_get (by omega)) ?_
         intro b159 o160 es161 hr162 H
         obtain rfl := hr162
         refine RH.load (d := some 99) (r := [(5, .seq), (17, .seq), (18, .qui), (19, .qui), (20, .qui), (21, .qui), (22, .seq)]) (T := 5) (b := b159) (o' := o160) (k := 0) (v := .int .u8 (((genE k i j).toNat : Nat) : Int)) (by as_aux_lemma => kernel_rfl) hS (H.fc 0 rfl) (by intro hq; simp only [List.mem_cons, List.not_mem_nil, or_false] at hq; exact H.neFW 0 rfl 0 rfl hq) (by simp) rfl (by as_aux_lemma => kernel_rfl) ?_
         have Hr := H
         refine RH.chn hS ?_
         refine qL .chn 88 [] 23 ob (i * 1) 0 (.slice a62 ((mixAll ((genRow k i).take j) (dataOf xs l k) (List.replicate l 0#8)).length) k63) hcell60 ?_
         intro hS
         have Hr := H
         refine RH.chn hS ?_
         refine qK .chn (some 100) [] 73 #[.slice a62 ((mixAll ((genRow k i).take j) (dataOf xs l k) (List.replicate l 0#8)).length) k63, .slice a71 (chunk xs l j).length k72, .int .u8 (((genE k i j).toNat : Nat) : Int)] (r1mix_spec (S := Av S w [] (idsOf [] [⟨SB, 23, .slice (some ⟨ob, 0, none⟩) n co, encSt xs l k n i j⟩])) (xs := (mixAll ((genRow k i).take j) (dataOf xs l k) (List.replicate l 0#8))) (ys := (chunk xs l j)) (genE k i j) (H.rp 4 rfl) (H.rp 3 rfl) (by rw [mixG_len, chunk_len]) (by rw [mixG_len]; omega)) ?_
         rintro _ w165 hE168 ⟨a166, c167, rfl, hr169⟩
         have H := H.addN hE168 (F := Rp SB [.slice a166 ((mixL (mixAll ((genRow k i).take j) (dataOf xs l k) (List.replicate l 0#8)) (chunk xs l j) (genE k i j)).length) c167] (mixL (mixAll ((genRow k i).take j) (dataOf xs l k) (List.replicate l 0#8)) (chunk xs l j) (genE k i j))) hr169
         intro hS
         refine qHP hS 3 [(21, .qui), (22, .seq)] [(1, .I k), (2, .I n), (10, .slice (some ⟨ob, 0, none⟩) n co), (13, .slice a43 (gen k n).length c44), (15, .I i), (16, .I j), (83, .slice (some ⟨ob, 0, none⟩) n co), (84, .I i), (101, .slice a166 ((mixL (mixAll ((genRow k i).take j) (dataOf xs l k) (List.replicate l 0#8)) (chunk xs l j) (genE k i j)).length) c167)] ?_
         have hn171 : n = (encSt xs l k n i j).length := (encSt_len ..).symm
         have hx170 : i < (encSt xs l k n i j).length := by rw [encSt_len]; omega
         refine RH.indexW (d := some 103) (r := [(22, .seq)]) (T := 29) (e := 23) (m := 1) (ik := .i64) (ix := (i : Int)) (sh := SB) (xs := encSt xs l k n i j) (a := (some ⟨ob, 0, none⟩)) (len := n) (cap := co) (by as_aux_lemma => kernel_rfl) hS (by as_aux_lemma => kernel_rfl) rfl H i (by omega) hx170 hn171 ?_
         intro b172 es173 ha174 hcell175 hr176
         cases ha174
         obtain ⟨a177, k178, rfl⟩ := Shape.slice_form' hr176
         have H := H.add (F := Rp SB [.slice a177 (((encSt xs l k n i j)[i]).length) k178] ((encSt xs l k n i j)[i])) hr176
         refine RH.sto ?_
         refine RW.storeWC (d := none) (r := []) (e := 23) (m := 1) (b := ob) (k := i) (v := .slice a166 ((mixL (mixAll ((genRow k i).take j) (dataOf xs l k) (List.replicate l 0#8)) (chunk xs l j) (genE k i j)).length) c167) (by as_aux_lemma => kernel_rfl) rfl (by as_aux_lemma => kernel_rfl) H rfl hx170 hn171 (mixL (mixAll ((genRow k i).take j) (dataOf xs l k) (List.replicate l 0#8)) (chunk xs l j) (genE k i j)) (H.rp 1 rfl) ?_
         intro w180 hch179 H
         have H := H.reW (ys := encSt xs l k n i (j + 1)) (encSt_set (by omega) (by omega) (by omega))
         have hS181 := hS.sto hch179 (.inr (by simp))
         refine ⟨hS181, ?_⟩
         have hS := hS181
         refine RH.fin hS 0 [1, 2, 10, 13, 15, 16] [(1, .I k), (2, .I n), (10, .slice (some ⟨ob, 0, none⟩) n co), (13, .slice a43 (gen k n).length c44), (15, .I i), (16, .I j)] (by as_aux_lemma => kernel_rfl) ?_
         refine qR 1 [.c [7, 0, 1, 0, 0, 1, 0, 0, 1, 0, 0, 2], .l [7, 0, 1, 0, 0, 1, 0, 0, 1, 0, 0], .b 6, .b 5, .c [7, 0, 1, 0, 0, 2], .l [7, 0, 1, 0, 0], .b 4, .c [8]] [(1, .I k), (2, .I n), (10, .slice (some ⟨ob, 0, none⟩) n co), (13, .slice a43 (gen k n).length c44), (15, .I i), (16, .I j)] ?_
         refine qG (sq 0 3) ?_
         refine qP 1 (sq 1 3) [(1, .I k), (2, .I n), (10, .slice (some ⟨ob, 0, none⟩) n co), (13, .slice a43 (gen k n).length c44), (15, .I i), (16, .I j), (80, .I j)] ?_
         refine qI .seq 81 (sq 2 3) ((j : Int) + 1) ?_
         refine qF 1 [(1, .I k), (2, .I n), (10, .slice (some ⟨ob, 0, none⟩) n co), (13, .slice a43 (gen k n).length c44), (15, .I i), (16, .I ((j : Int) + 1))] ?_
         have H := H.pick [7, 8] rfl
         exact uB (hback50 (j + 1) _ ⟨H, by omega⟩ (by first | omega | (simp only []; omega)))
       ·
        refine RG.node' [(13, .seq), (15, .qui), (16, .qui)] (by as_aux_lemma => kernel_rfl) ?_
        have Hr := H
        refine RH.chn hS ?_
        refine qL .chn 96 [] 23 b74 o75 0 (.slice a78 (genRow k i).length k79) (H.fc 1 rfl) ?_
        intro hS
        have hx183 : j < (genRow k i).length := by rw [genRow_len]; omega
        refine RH.index (d := some 98) (r := [(16, .qui)]) (T := 23) (e := 5) (ik := .i64) (ix := (j : Int)) (sh := Sb) (x := (genE k i j)) (by as_aux_lemma => kernel_rfl) hS (by as_aux_lemma => kernel_rfl) H 0 rfl j (by omega) (genRow_get (by omega)) ?_
        intro b184 o185 es186 hr187 H
        obtain rfl := hr187
        refine RH.load (d := some 99) (r := []) (T := 5) (b := b184) (o' := o185) (k := 0) (v := .int .u8 (((genE k i j).toNat : Nat) : Int)) (by as_aux_lemma => kernel_rfl) hS (H.fc 0 rfl) (by intro hq; simp only [List.mem_cons, List.not_mem_nil, or_false] at hq; exact H.neFW 0 rfl 0 rfl hq) (by simp) rfl (by as_aux_lemma => kernel_rfl) ?_
        refine RH.finB hS 0 [1, 2, 10, 13, 15, 16, 83, 84, 87, 91, 99] [(1, .I k), (2, .I n), (10, .slice (some ⟨ob, 0, none⟩) n co), (13, .slice a43 (gen k n).length c44), (15, .I i), (16, .I j), (83, .slice (some ⟨ob, 0, none⟩) n co), (84, .I i), (87, .pointer (some ⟨ob, i * 1, none⟩)), (91, .pointer (some ⟨ob, j * 1, none⟩)), (99, .int .u8 (((genE k i j).toNat : Nat) : Int))] (by as_aux_lemma => kernel_rfl) ?_
        refine (RGB.cons' ?_ (RGB.cons' ?_ RGB.nil'))
        ·
         refine RG.leaf' [(5, .seq), (9, .seq), (17, .seq), (18, .qui), (19, .qui), (20, .qui), (21, .qui), (22, .seq)] (by as_aux_lemma => kernel_rfl) ?_
         have Hr := H
         refine RH.chn hS ?_
         refine qL .chn 88 [] 23 ob (i * 1) 0 (.slice a62 ((mixAll ((genRow k i).take j) (dataOf xs l k) (List.replicate l 0#8)).length) k63) hcell60 ?_
         intro hS
         have Hr := H
         refine RH.chn hS ?_
         refine qL .chn 92 [] 23 ob (j * 1) 0 (.slice a71 (chunk xs l j).length k72) hcell69 ?_
         intro hS
         have Hr := H
         refine RH.chn hS ?_
         refine qK .chn (some 100) [] 73 #[.slice a62 ((mixAll ((genRow k i).take j) (dataOf xs l k) (List.replicate l 0#8)).length) k63, .slice a71 (chunk xs l j).length k72, .int .u8 (((genE k i j).toNat : Nat) : Int)] (r1mix_spec (S := Av S w [] (idsOf [] [⟨SB, 23, .slice (some ⟨ob, 0, none⟩) n co, encSt xs l k n i j⟩])) (xs := (mixAll ((genRow k i).take j) (dataOf xs l k) (List.replicate l 0#8))) (ys := (chunk xs l j)) (genE k i j) (H.rp 4 rfl) (H.rp 3 rfl) (by rw [mixG_len, chunk_len]) (by rw [mixG_len]; omega)) ?_
         rintro _ w191 hE194 ⟨a192, c193, rfl, hr195⟩
         have H := H.addN hE194 (F := Rp SB [.slice a192 ((mixL (mixAll ((genRow k i).take j) (dataOf xs l k) (List.replicate l 0#8)) (chunk xs l j) (genE k i j)).length) c193] (mixL (mixAll ((genRow k i).take j) (dataOf xs l k) (List.replicate l 0#8)) (chunk xs l j) (genE k i j))) hr195
         intro hS
         refine qHP hS 3 [(21, .qui), (22, .seq)] [(1, .I k), (2, .I n), (10, .slice (some ⟨ob, 0, none⟩) n co), (13, .slice a43 (gen k n).length c44), (15, .I i), (16, .I j), (83, .slice (some ⟨ob, 0, none⟩) n co), (84, .I i), (101, .slice a192 ((mixL (mixAll ((genRow k i).take j) (dataOf xs l k) (List.replicate l 0#8)) (chunk xs l j) (genE k i j)).length) c193)] ?_
         have hn197 : n = (encSt xs l k n i j).length := (encSt_len ..).symm
         have hx196 : i < (encSt xs l k n i j).length := by rw [encSt_len]; omega
         refine RH.indexW (d := some 103) (r := [(22, .seq)]) (T := 29) (e := 23) (m := 1) (ik := .i64) (ix := (i : Int)) (sh := SB) (xs := encSt xs l k n i j) (a := (some ⟨ob, 0, none⟩)) (len := n) (cap := co) (by as_aux_lemma => kernel_rfl) hS (by as_aux_lemma => kernel_rfl) rfl H i (by omega) hx196 hn197 ?_
         intro b198 es199 ha200 hcell201 hr202
         cases ha200
         obtain ⟨a203, k204, rfl⟩ := Shape.slice_form' hr202
         have H := H.add (F := Rp SB [.slice a203 (((encSt xs l k n i j)[i]).length) k204] ((encSt xs l k n i j)[i])) hr202
         refine RH.sto ?_
         refine RW.storeWC (d := none) (r := []) (e := 23) (m := 1) (b := ob) (k := i) (v := .slice a192 ((mixL (mixAll ((genRow k i).take j) (dataOf xs l k) (List.replicate l 0#8)) (chunk xs l j) (genE k i j)).length) c193) (by as_aux_lemma => kernel_rfl) rfl (by as_aux_lemma => kernel_rfl) H rfl hx196 hn197 (mixL (mixAll ((genRow k i).take j) (dataOf xs l k) (List.replicate l 0#8)) (chunk xs l j) (genE k i j)) (H.rp 1 rfl) ?_
         intro w206 hch205 H
         have H := H.reW (ys := encSt xs l k n i (j + 1)) (encSt_set (by omega) (by omega) (by omega))
         have hS207 := hS.sto hch205 (.inr (by simp))
         refine ⟨hS207, ?_⟩
         have hS := hS207
         refine RH.fin hS 0 [1, 2, 10, 13, 15, 16] [(1, .I k), (2, .I n), (10, .slice (some ⟨ob, 0, none⟩) n co), (13, .slice a43 (gen k n).length c44), (15, .I i), (16, .I j)] (by as_aux_lemma => kernel_rfl) ?_
         refine uR 1 [.c [7, 0, 1, 0, 0, 1, 0, 0, 1, 0, 0, 2], .l [7, 0, 1, 0, 0, 1, 0, 0, 1, 0, 0], .b 6, .b 5, .c [7, 0, 1, 0, 0, 2], .l [7, 0, 1, 0, 0], .b 4, .c [8]] ?_
         refine qG (sq 0 3) ?_
         refine qP 1 (sq 1 3) [(1, .I k), (2, .I n), (10, .slice (some ⟨ob, 0, none⟩) n co), (13, .slice a43 (gen k n).length c44), (15, .I i), (16, .I j), (80, .I j)] ?_
         refine qI .seq 81 (sq 2 3) ((j : Int) + 1) ?_
         refine qF 1 [(1, .I k), (2, .I n), (10, .slice (some ⟨ob, 0, none⟩) n co), (13, .slice a43 (gen k n).length c44), (15, .I i), (16, .I ((j : Int) + 1))] ?_
         have H := H.pick [7, 8] rfl
         exact uB (hback50 (j + 1) _ ⟨H, by omega⟩ (by first | omega | (simp only []; omega)))
        ·
         refine RG.leaf' [(9, .seq), (5, .seq), (17, .seq), (18, .qui), (19, .qui), (20, .qui), (21, .qui), (22, .seq)] (by as_aux_lemma => kernel_rfl) ?_
         have Hr := H
         refine RH.chn hS ?_
         refine qL .chn 92 [] 23 ob (j * 1) 0 (.slice a71 (chunk xs l j).length k72) hcell69 ?_
         intro hS
         have Hr := H
         refine RH.chn hS ?_
         refine qL .chn 88 [] 23 ob (i * 1) 0 (.slice a62 ((mixAll ((genRow k i).take j) (dataOf xs l k) (List.replicate l 0#8)).length) k63) hcell60 ?_
         intro hS
         have Hr := H
         refine RH.chn hS ?_
         refine qK .chn (some 100) [] 73 #[.slice a62 ((mixAll ((genRow k i).take j) (dataOf xs l k) (List.replicate l 0#8)).length) k63, .slice a71 (chunk xs l j).length k72, .int .u8 (((genE k i j).toNat : Nat) : Int)] (r1mix_spec (S := Av S w [] (idsOf [] [⟨SB, 23, .slice (some ⟨ob, 0, none⟩) n co, encSt xs l k n i j⟩])) (xs := (mixAll ((genRow k i).take j) (dataOf xs l k) (List.replicate l 0#8))) (ys := (chunk xs l j)) (genE k i j) (H.rp 4 rfl) (H.rp 3 rfl) (by rw [mixG_len, chunk_len]) (by rw [mixG_len]; omega)) ?_
         rintro _ w211 hE214 ⟨a212, c213, rfl, hr215⟩
         have H := H.addN hE214 (F := Rp SB [.slice a212 ((mixL (mixAll ((genRow k i).take j) (dataOf xs l k) (List.replicate l 0#8)) (chunk xs l j) (genE k i j)).length) c213] (mixL (mixAll ((genRow k i).take j) (dataOf xs l k) (List.replicate l 0#8)) (chunk xs l j) (genE k i j))) hr215
         intro hS
         refine qHP hS 3 [(21, .qui), (22, .seq)] [(1, .I k), (2, .I n), (10, .slice (some ⟨ob, 0, none⟩) n co), (13, .slice a43 (gen k n).length c44), (15, .I i), (16, .I j), (83, .slice (some ⟨ob, 0, none⟩) n co), (84, .I i), (101, .slice a212 ((mixL (mixAll ((genRow k i).take j) (dataOf xs l k) (List.replicate l 0#8)) (chunk xs l j) (genE k i j)).length) c213)] ?_
         have hn217 : n = (encSt xs l k n i j).length := (encSt_len ..).symm
         have hx216 : i < (encSt xs l k n i j).length := by rw [encSt_len]; omega
         refine RH.indexW (d := some 103) (r := [(22, .seq)]) (T := 29) (e := 23) (m := 1) (ik := .i64) (ix := (i : Int)) (sh := SB) (xs := encSt xs l k n i j) (a := (some ⟨ob, 0, none⟩)) (len := n) (cap := co) (by as_aux_lemma => kernel_rfl) hS (by as_aux_lemma => kernel_rfl) rfl H i (by omega) hx216 hn217 ?_
         intro b218 es219 ha220 hcell221 hr222
         cases ha220
         obtain ⟨a223, k224, rfl⟩ := Shape.slice_form' hr222
         have H := H.add (F := Rp SB [.slice a223 (((encSt xs l k n i j)[i]).length) k224] ((encSt xs l k n i j)[i])) hr222
         refine RH.sto ?_
         refine RW.storeWC (d := none) (r := []) (e := 23) (m := 1) (b := ob) (k := i) (v := .slice a212 ((mixL (mixAll ((genRow k i).take j) (dataOf xs l k) (List.replicate l 0#8)) (chunk xs l j) (genE k i j)).length) c213) (by as_aux_lemma => kernel_rfl) rfl (by as_aux_lemma => kernel_rfl) H rfl hx216 hn217 (mixL (mixAll ((genRow k i).take j) (dataOf xs l k) (List.replicate l 0#8)) (chunk xs l j) (genE k i j)) (H.rp 1 rfl) ?_
         intro w226 hch225 H
         have H := H.reW (ys := encSt xs l k n i (j + 1)) (encSt_set (by omega) (by omega) (by omega))
         have hS227 := hS.sto hch225 (.inr (by simp))
         refine ⟨hS227, ?_⟩
         have hS := hS227
         refine RH.fin hS 0 [1, 2, 10, 13, 15, 16] [(1, .I k), (2, .I n), (10, .slice (some ⟨ob, 0, none⟩) n co), (13, .slice a43 (gen k n).length c44), (15, .I i), (16, .I j)] (by as_aux_lemma => kernel_rfl) ?_
         refine qR 1 [.c [7, 0, 1, 0, 0, 1, 0, 0, 1, 0, 0, 2], .l [7, 0, 1, 0, 0, 1, 0, 0, 1, 0, 0], .b 6, .b 5, .c [7, 0, 1, 0, 0, 2], .l [7, 0, 1, 0, 0], .b 4, .c [8]] [(1, .I k), (2, .I n), (10, .slice (some ⟨ob, 0, none⟩) n co), (13, .slice a43 (gen k n).length c44), (15, .I i), (16, .I j)] ?_
         refine qG (sq 0 3) ?_
         refine qP 1 (sq 1 3) [(1, .I k), (2, .I n), (10, .slice (some ⟨ob, 0, none⟩) n co), (13, .slice a43 (gen k n).length c44), (15, .I i), (16, .I j), (80, .I j)] ?_
         refine qI .seq 81 (sq 2 3) ((j : Int) + 1) ?_
         refine qF 1 [(1, .I k), (2, .I n), (10, .slice (some ⟨ob, 0, none⟩) n co), (13, .slice a43 (gen k n).length c44), (15, .I i), (16, .I ((j : Int) + 1))] ?_
         have H := H.pick [7, 8] rfl
         exact uB (hback50 (j + 1) _ ⟨H, by omega⟩ (by first | omega | (simp only []; omega)))
      ·
       have hjk : j = k := by omega
       have H := H.reW (ys := encSt xs l k n (i + 1) 0) (by rw [hjk]; exact encSt_full)
       refine qR 2 [.c [7, 0, 1, 0, 0, 2], .l [7, 0, 1, 0, 0], .b 4, .c [8]] [(1, .I k), (2, .I n), (10, .slice (some ⟨ob, 0, none⟩) n co), (13, .slice a43 (gen k n).length c44), (15, .I i)] ?_
       refine qG (sq 0 3) ?_
       refine qP 1 (sq 1 3) [(1, .I k), (2, .I n), (10, .slice (some ⟨ob, 0, none⟩) n co), (13, .slice a43 (gen k n).length c44), (15, .I i), (75, .I i)] ?_
       refine qI .seq 76 (sq 2 3) ((i : Int) + 1) ?_
       refine qF 1 [(1, .I k), (2, .I n), (10, .slice (some ⟨ob, 0, none⟩) n co), (13, .slice a43 (gen k n).length c44), (15, .I ((i : Int) + 1))] ?_
       exact uB (hback47 (i + 1) _ ⟨H, by omega⟩ (by first | omega | (simp only []; omega)))
     ·
      refine qR 3 [.c [9]] [(6, .slice (some ⟨ob, 0, none⟩) n co), (7, .I 0)] ?_
      refine qT (.tuple #[.slice (some ⟨ob, 0, none⟩) n co, .I 0]) Try.func34 ?_
      have hin : i = n := by omega
      have H := H.reW (v' := .slice (some ⟨ob, 0, none⟩) (enc xs k n).length co) (ys := enc xs k n) (by rw [hin, ← hl]; exact encSt_all hkn) (by rw [enc_len hkn])
      have H := H.freezeW 0 rfl
      exact ⟨_, rfl, H.done, _, _, by rw [enc_len hkn], H.out (H.rp 0 rfl)⟩
end Go.Proofs.Ytppcdmbkgficiaa
