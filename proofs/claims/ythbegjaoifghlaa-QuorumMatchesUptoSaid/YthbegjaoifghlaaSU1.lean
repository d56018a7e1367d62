import Derived.Test.YthbegjaoifghlaaSQ6
import Derived.Test.YthbegjaoifghlaaSBxA
import Derived.Sort.AssemblyPlain
namespace Go.Proofs.Ythbegjaoifghlaa
open Go.BX
open Go.Sort (swp insInner insOuter insertionSort ltInt siftDown heapBuild heapPop heapSort reverseLoop reverseRange)
theorem tl_len {d : Array Int} : d.toList.length = d.size := rfl
theorem tl_at {d : Array Int} {k : Nat} (h : k < d.toList.length) : d.toList[k]'h = d[k]! := by
 rw [Array.getElem_toList, getElem!_pos]
theorem swp_size (d : Array Int) (i j : Nat) : (swp d i j).size = d.size := by simp [swp]
theorem swp_tl {d : Array Int} {i j : Nat} : (d.toList.set i d[j]!).set j d[i]! = (swp d i j).toList := by
 unfold swp
 rw [Array.toList_setIfInBounds, Array.toList_setIfInBounds]
theorem ltI {x y : Int} : ltInt x y = true ↔ x < y := decide_eq_true_iff
theorem ltI0 {x y : Int} : ltInt x y = false ↔ ¬ x < y := decide_eq_false_iff_not
theorem insInner_go {a j : Nat} {e : Array Int} (h1 : a < j + 1) (h2 : e[j + 1]! < e[j]!) : insInner ltInt a (j + 1) e = insInner ltInt a j (swp e (j + 1) j) := by
 rw [insInner]
 rw [if_pos (by rw [Bool.and_eq_true]; exact ⟨decide_eq_true h1, ltI.2 h2⟩)]
theorem insInner_low {a j : Nat} {e : Array Int} (h1 : j ≤ a) : insInner ltInt a j e = e := by
 cases j with
 | zero => rfl
 | succ j =>
  rw [insInner, if_neg]
  rw [Bool.and_eq_true]
  exact fun q => absurd (of_decide_eq_true q.1) (by omega)
theorem insInner_stop {a j : Nat} {e : Array Int} (h2 : ¬ e[j + 1]! < e[j]!) : insInner ltInt a (j + 1) e = e := by
 rw [insInner, if_neg]
 rw [Bool.and_eq_true]
 exact fun q => h2 (ltI.1 q.2)
theorem insIn_go {a j : Nat} {e : Array Int} (h1 : a < j) (h2 : e[j]! < e[j - 1]!) : insInner ltInt a (j - 1) (swp e j (j - 1)) = insInner ltInt a j e := by
 obtain ⟨m, rfl⟩ : ∃ m, j = m + 1 := ⟨j - 1, by omega⟩
 exact (insInner_go h1 h2).symm
theorem insIn_stop {a j : Nat} {e : Array Int} (h1 : a < j) (h2 : ¬ e[j]! < e[j - 1]!) : insInner ltInt a j e = e := by
 obtain ⟨m, rfl⟩ : ∃ m, j = m + 1 := ⟨j - 1, by omega⟩
 exact insInner_stop h2
theorem insOuter_go {a b i : Nat} {d : Array Int} (h : i < b) : insOuter ltInt a b i d = insOuter ltInt a b (i + 1) (insInner ltInt a i d) := by
 rw [insOuter, if_pos h]
theorem insOuter_stop {a b i : Nat} {d : Array Int} (h : b ≤ i) : insOuter ltInt a b i d = d := by
 rw [insOuter, if_neg (by omega)]
theorem revLoop_go {i j : Nat} {d : Array Int} (h : i < j) : reverseLoop i j d = reverseLoop (i + 1) (j - 1) (swp d i j) := by
 rw [reverseLoop, if_pos h]
theorem revLoop_stop {i j : Nat} {d : Array Int} (h : j ≤ i) : reverseLoop i j d = d := by
 rw [reverseLoop, if_neg (by omega)]
theorem sd_stop {hi first root : Nat} {e : Array Int} (h : hi ≤ 2 * root + 1) : siftDown ltInt hi first root e = e := by
 rw [siftDown, dif_pos h]
theorem sd_rgo {hi first root : Nat} {e : Array Int} (h1 : 2 * root + 2 < hi) (h2 : e[first + (2 * root + 1)]! < e[first + (2 * root + 1) + 1]!) (h3 : e[first + root]! < e[first + (2 * root + 2)]!) :
 siftDown ltInt hi first root e = siftDown ltInt hi first (2 * root + 2) (swp e (first + root) (first + (2 * root + 2))) := by
 rw [siftDown, dif_neg (by omega), if_pos (by rw [Bool.and_eq_true]; exact ⟨decide_eq_true (by omega), ltI.2 h2⟩), if_neg (by rw [ltI.2 h3]; decide), dif_pos h1]
theorem sd_rstop {hi first root : Nat} {e : Array Int} (h1 : 2 * root + 2 < hi) (h2 : e[first + (2 * root + 1)]! < e[first + (2 * root + 1) + 1]!) (h3 : ¬ e[first + root]! < e[first + (2 * root + 2)]!) :
 siftDown ltInt hi first root e = e := by
 rw [siftDown, dif_neg (by omega), if_pos (by rw [Bool.and_eq_true]; exact ⟨decide_eq_true (by omega), ltI.2 h2⟩), if_pos (by rw [ltI0.2 h3]; decide)]
theorem sd_lgo {hi first root : Nat} {e : Array Int} (h0 : 2 * root + 1 < hi) (h2 : ¬ (2 * root + 2 < hi ∧ e[first + (2 * root + 1)]! < e[first + (2 * root + 1) + 1]!)) (h3 : e[first + root]! < e[first + (2 * root + 1)]!) :
 siftDown ltInt hi first root e = siftDown ltInt hi first (2 * root + 1) (swp e (first + root) (first + (2 * root + 1))) := by
 rw [siftDown, dif_neg (by omega), if_neg (by rw [Bool.and_eq_true]; exact fun q => h2 ⟨of_decide_eq_true q.1, ltI.1 q.2⟩), if_neg (by rw [ltI.2 h3]; decide)]
theorem sd_lstop {hi first root : Nat} {e : Array Int} (h0 : 2 * root + 1 < hi) (h2 : ¬ (2 * root + 2 < hi ∧ e[first + (2 * root + 1)]! < e[first + (2 * root + 1) + 1]!)) (h3 : ¬ e[first + root]! < e[first + (2 * root + 1)]!) :
 siftDown ltInt hi first root e = e := by
 rw [siftDown, dif_neg (by omega), if_neg (by rw [Bool.and_eq_true]; exact fun q => h2 ⟨of_decide_eq_true q.1, ltI.1 q.2⟩), if_pos (by rw [ltI0.2 h3]; decide)]
theorem sd_size (hi first : Nat) : ∀ (m root : Nat) (e : Array Int), hi - root ≤ m → (siftDown ltInt hi first root e).size = e.size := by
 intro m
 induction m with
 | zero => intro root e h; rw [sd_stop (by omega)]
 | succ m ih =>
  intro root e h
  by_cases h0 : hi ≤ 2 * root + 1
  · rw [sd_stop h0]
  by_cases h2 : 2 * root + 2 < hi ∧ e[first + (2 * root + 1)]! < e[first + (2 * root + 1) + 1]!
  · by_cases h3 : e[first + root]! < e[first + (2 * root + 2)]!
    · rw [sd_rgo h2.1 h2.2 h3, ih _ _ (by omega), swp_size]
    · rw [sd_rstop h2.1 h2.2 h3]
  · by_cases h3 : e[first + root]! < e[first + (2 * root + 1)]!
    · rw [sd_lgo (by omega) h2 h3, ih _ _ (by omega), swp_size]
    · rw [sd_lstop (by omega) h2 h3]
theorem siftDown_size {hi first root : Nat} {e : Array Int} : (siftDown ltInt hi first root e).size = e.size := sd_size hi first _ root e (Nat.le_refl _)
theorem unan_spec {S : Nat → Prop} {w : World} (x : Int) :
 Calls Try.prog 69 #[.int .u64 x] w (Ret fun v w' => Ext w w' ∧ v = .bool false) := by
 refine qS (fn := Try.f69) (n := 6) (σ := [(0, .int .u64 x)]) Try.func69 ?_
 have H := Hp.startF (w := w) (S := S) (G := []) .nil
 refine qR 4 [.c [2]] [(2, .bool (x != x))] ?_
 refine qT (.bool (x != x)) Try.func69 ?_
 first | exact ⟨_, rfl, H.done, rfl⟩ | (refine ⟨_, rfl, H.done, ?_⟩; simp)
theorem uless_spec {S : Nat → Prop} {w : World} (x y : Int) :
 Calls Try.prog 55 #[.int .u64 x, .int .u64 y] w (Ret fun v w' => Ext w w' ∧ v = .bool (decide (x < y))) := by
 refine qS (fn := Try.f55) (n := 17) (σ := [(0, .int .u64 x), (1, .int .u64 y)]) Try.func55 ?_
 have H := Hp.startF (w := w) (S := S) (G := []) .nil
 refine qR 3 [.c [1, 0], .c [2]] [(0, .int .u64 x), (1, .int .u64 y)] ?_
 refine qG (sq 0 13) ?_
 refine qP 1 (sq 1 13) [(0, .int .u64 x), (1, .int .u64 y), (5, .int .u64 x)] ?_
 refine qK .seq (some 6) (sq 2 13) 69 #[.int .u64 x] (unan_spec (S := fun _ => True) x) ?_
 rintro _ w1 hE2 rfl
 have H := H.ext hE2
 refine qF 11 [(4, .bool (decide ((x : Int) < y)))] ?_
 refine qT (.bool (decide ((x : Int) < y))) Try.func55 ?_
 first | exact ⟨_, rfl, H.done, rfl⟩ | (refine ⟨_, rfl, H.done, ?_⟩; simp [*])
theorem uins_spec {S : Nat → Prop} {w : World} {O : List Nat} {d : Array Int} {pb z q : Nat} {a : Nat} {aI : Int} (haI : aI = (a : Int)) {b : Nat} {bI : Int} (hbI : bI = (b : Int)) (hab : a ≤ b) (hb : b ≤ d.size) (H0 : Hp w S O [] [⟨Shape.int .u64, 44, .slice (some ⟨pb, 0, none⟩) z q, d.toList⟩] [] w) (hz : d.size = z) (hle : z ≤ 1048576) :
 Calls Try.prog 49 #[.slice (some ⟨pb, 0, none⟩) z q, .I aI, .I bI] w (Ret fun v w' => v = .tuple #[] ∧ Hp w S O [] [⟨Shape.int .u64, 44, .slice (some ⟨pb, 0, none⟩) z q, (insertionSort ltInt d a b).toList⟩] [] w') := by
 subst haI
 subst hbI
 refine qS (fn := Try.f49) (n := 49) (σ := [(0, .slice (some ⟨pb, 0, none⟩) z q), (1, .I a), (2, .I b)]) Try.func49 ?_
 have H := H0
 refine qR 1 [.c [0], .c [1]] [(0, .slice (some ⟨pb, 0, none⟩) z q), (1, .I a), (2, .I b)] ?_
 refine qG (sq 0 3) ?_
 refine qP 1 (sq 1 3) [(0, .slice (some ⟨pb, 0, none⟩) z q), (1, .I a), (2, .I b), (8, .I a)] ?_
 refine qI .seq 9 (sq 2 3) ((a : Int) + 1) ?_
 refine qF 1 [(0, .slice (some ⟨pb, 0, none⟩) z q), (1, .I a), (2, .I b), (6, .I ((a : Int) + 1))] ?_
 refine qR 1 [.c [1, 0], .b 0] [(0, .slice (some ⟨pb, 0, none⟩) z q), (1, .I a), (2, .I b), (6, .I ((a : Int) + 1))] ?_
 refine WK.loop (α := Nat × Array Int) (b := cd Try.prog 49 [1, 0, 0]) (by as_aux_lemma => kernel_rfl) (fun st_ => match st_ with | (i, f) => [(0, .slice (some ⟨pb, 0, none⟩) z q), (1, .I a), (2, .I b), (6, .I i)]) (fun st_ w' => match st_ with | (i, f) => Hp w S O [] [⟨Shape.int .u64, 44, .slice (some ⟨pb, 0, none⟩) z q, f.toList⟩] [] w' ∧ insOuter ltInt a b i f = (insertionSort ltInt d a b) ∧ f.size = z) (fun st_ => match st_ with | (i, f) => b - i) ((a + 1), d) ⟨H, rfl, hz⟩ (rfl) ?_
 rintro ⟨i, f⟩ w2 ⟨H, hinv0⟩ hback1
 refine qR 3 [.c [1, 0, 0, 0, 1], .c [1, 0, 0, 1], .l [1, 0, 0], .b 0] [(0, .slice (some ⟨pb, 0, none⟩) z q), (1, .I a), (2, .I b), (6, .I i), (12, .bool (decide (((i : Int) : Int) < (b : Int))))] ?_
 refine qD (((i : Int) : Int) < (b : Int)) (fun h3 => ?_) (fun h3 => ?_)
 ·
  refine qR 6 [.c [1, 0, 0, 1, 0, 0, 1, 0], .b 2, .b 1, .c [1, 0, 0, 2], .l [1, 0, 0], .b 0] [(0, .slice (some ⟨pb, 0, none⟩) z q), (1, .I a), (2, .I b), (6, .I i), (7, .I i)] ?_
  refine WK.loop (α := Nat × Array Int) (b := cd Try.prog 49 [1, 0, 0, 1, 0, 0, 1, 0, 0]) (by as_aux_lemma => kernel_rfl) (fun st_ => match st_ with | (j, e) => [(0, .slice (some ⟨pb, 0, none⟩) z q), (1, .I a), (2, .I b), (6, .I i), (7, .I j)]) (fun st_ w' => match st_ with | (j, e) => Hp w S O [] [⟨Shape.int .u64, 44, .slice (some ⟨pb, 0, none⟩) z q, e.toList⟩] [] w' ∧ insInner ltInt a j e = insInner ltInt a i f ∧ e.size = z ∧ j ≤ i) (fun st_ => match st_ with | (j, e) => j) (i, f) ⟨H, rfl, hinv0.2, Nat.le_refl _⟩ (rfl) ?_
  rintro ⟨j, e⟩ w5 ⟨H, hinv1⟩ hback4
  refine qR 2 [.c [1, 0, 0, 1, 0, 0, 1, 0, 0, 0, 0], .c [1, 0, 0, 1, 0, 0, 1, 0, 0, 0, 1], .c [1, 0, 0, 1, 0, 0, 1, 0, 0, 1], .l [1, 0, 0, 1, 0, 0, 1, 0, 0], .b 2, .b 1, .c [1, 0, 0, 2], .l [1, 0, 0], .b 0] [(0, .slice (some ⟨pb, 0, none⟩) z q), (1, .I a), (2, .I b), (6, .I i), (7, .I j)] ?_
  refine WK.draw1 15 [(0, .qui), (1, .qui), (2, .qui), (3, .qui), (4, .qui), (5, .qui), (6, .qui), (7, .qui), (8, .qui), (9, .qui), (10, .qui), (11, .qui), (12, .qui), (13, .chn), (14, .qui)] [(0, .qui), (1, .qui), (2, .qui), (3, .qui), (4, .qui), (5, .qui), (6, .qui), (7, .qui), (8, .qui), (9, .qui), (10, .qui), (11, .qui), (12, .qui), (13, .chn), (14, .qui)] Try_mixed (by as_aux_lemma => kernel_rfl) (by as_aux_lemma => kernel_rfl) (by as_aux_lemma => kernel_rfl) ?_
  have H := H.draw
  generalize ({ w5 with drawn := w5.drawn + 1 } : World) = w6 at H ⊢
  refine qP 4 [(4, .qui), (5, .qui), (6, .qui), (7, .qui), (8, .qui), (9, .qui), (10, .qui), (11, .qui), (12, .qui), (13, .chn), (14, .qui)] [(0, .slice (some ⟨pb, 0, none⟩) z q), (1, .I a), (2, .I b), (6, .I i), (7, .I j), (19, .bool (decide (((j : Int) : Int) > (a : Int))))] ?_
  refine tD (fun b_ => [(0, .slice (some ⟨pb, 0, none⟩) z q), (1, .I a), (2, .I b), (6, .I i), (7, .I j), (19, .bool b_)]) (((j : Int) : Int) > (a : Int)) (fun h7 => ?_) (fun h7 => ?_)
  ·
   refine qP 2 [(6, .qui), (7, .qui), (8, .qui), (9, .qui), (10, .qui), (11, .qui), (12, .qui), (13, .chn), (14, .qui)] [(0, .slice (some ⟨pb, 0, none⟩) z q), (1, .I a), (2, .I b), (6, .I i), (7, .I j), (19, .bool true), (20, .slice (some ⟨pb, 0, none⟩) z q), (21, .I j)] ?_
   have hn9 : z = e.toList.length := by rw [tl_len (d := e)]; omega
   have hx8 : j < e.toList.length := by rw [tl_len (d := e)]; omega
   refine RW.indexW (κ := .qui) (d := some 22) (r := [(7, .qui), (8, .qui), (9, .qui), (10, .qui), (11, .qui), (12, .qui), (13, .chn), (14, .qui)]) (T := 58) (e := 44) (m := 1) (ik := .i64) (ix := (j : Int)) (sh := (Shape.int .u64)) (xs := e.toList) (a := (some ⟨pb, 0, none⟩)) (len := z) (cap := q) (by as_aux_lemma => kernel_rfl) (by as_aux_lemma => kernel_rfl) rfl H j (by omega) hx8 hn9 ?_
   intro b10 es11 ha12 hcell13 hr14
   cases ha12
   rw [tl_at (d := e) (k := j) _] at hr14
   have hb15 := Shape.u64_bd hr14
   obtain ⟨rfl, -⟩ := hr14
   refine qL .qui 23 [(8, .qui), (9, .qui), (10, .qui), (11, .qui), (12, .qui), (13, .chn), (14, .qui)] 44 pb (j * 1) 0 (.int .u64 (e[j]!)) hcell13 ?_
   refine qP 2 [(10, .qui), (11, .qui), (12, .qui), (13, .chn), (14, .qui)] [(0, .slice (some ⟨pb, 0, none⟩) z q), (1, .I a), (2, .I b), (6, .I i), (7, .I j), (19, .bool true), (23, .int .u64 (e[j]!)), (24, .slice (some ⟨pb, 0, none⟩) z q), (25, .I j)] ?_
   refine qI .qui 26 [(11, .qui), (12, .qui), (13, .chn), (14, .qui)] ((j : Int) - 1) ?_
   have hn17 : z = e.toList.length := by rw [tl_len (d := e)]; omega
   have hx16 : (j - 1) < e.toList.length := by rw [tl_len (d := e)]; omega
   refine RW.indexW (κ := .qui) (d := some 27) (r := [(12, .qui), (13, .chn), (14, .qui)]) (T := 58) (e := 44) (m := 1) (ik := .i64) (ix := (j : Int) - 1) (sh := (Shape.int .u64)) (xs := e.toList) (a := (some ⟨pb, 0, none⟩)) (len := z) (cap := q) (by as_aux_lemma => kernel_rfl) (by as_aux_lemma => kernel_rfl) rfl H (j - 1) (by omega) hx16 hn17 ?_
   intro b18 es19 ha20 hcell21 hr22
   cases ha20
   rw [tl_at (d := e) (k := (j - 1)) _] at hr22
   have hb23 := Shape.u64_bd hr22
   obtain ⟨rfl, -⟩ := hr22
   refine qL .qui 28 [(13, .chn), (14, .qui)] 44 pb ((j - 1) * 1) 0 (.int .u64 (e[(j - 1)]!)) hcell21 ?_
   refine qK .chn (some 29) [(14, .qui)] 55 #[.int .u64 (e[j]!), .int .u64 (e[(j - 1)]!)] (uless_spec (S := fun _ => True) (e[j]!) (e[(j - 1)]!)) ?_
   rintro _ w24 hE25 rfl
   have H := H.ext hE25
   refine qF 1 [(0, .slice (some ⟨pb, 0, none⟩) z q), (1, .I a), (2, .I b), (6, .I i), (7, .I j), (30, .bool (decide (e[j]! < e[(j - 1)]!)))] ?_
   refine qD (e[j]! < e[(j - 1)]!) (fun h26 => ?_) (fun h26 => ?_)
   ·
    have hl9 : e[j]! < e[j - 1]! := by simpa using h26
    refine qR 3 [.c [1, 0, 0, 1, 0, 0, 1, 0, 0, 1, 0, 0], .b 3, .c [1, 0, 0, 1, 0, 0, 1, 0, 0, 2], .l [1, 0, 0, 1, 0, 0, 1, 0, 0], .b 2, .b 1, .c [1, 0, 0, 2], .l [1, 0, 0], .b 0] [(0, .slice (some ⟨pb, 0, none⟩) z q), (1, .I a), (2, .I b), (6, .I i), (7, .I j)] ?_
    refine WK.drawH1 [pb] (.node (qs [0, 1, 2, 3, 4, 5, 6, 7, 8, 10, 11, 12]) (.cons 9 (.leaf [(13, .seq), (14, .qui), (15, .seq), (16, .qui), (17, .seq)]) (.cons 13 (.leaf [(9, .seq), (14, .qui), (15, .seq), (16, .qui), (17, .seq)]) .nil))) Try_mixed (by as_aux_lemma => kernel_rfl) (by as_aux_lemma => kernel_rfl) ?_
    intro w27 hw28
    have H := H.draw
    rw [← hw28] at H
    clear hw28
    have hS := Chg.refl w27 [pb]
    refine RG.node' (qs [0, 1, 2, 3, 4, 5, 6, 7, 8, 10, 11, 12]) (by as_aux_lemma => kernel_rfl) ?_
    refine qHP hS 4 (qs [4, 5, 6, 7, 8, 10, 11, 12]) [(0, .slice (some ⟨pb, 0, none⟩) z q), (1, .I a), (2, .I b), (6, .I i), (7, .I j), (33, .slice (some ⟨pb, 0, none⟩) z q), (34, .I j), (35, .slice (some ⟨pb, 0, none⟩) z q), (36, .I j)] ?_
    refine RH.pv (d := some 37) (r := (qs [5, 6, 7, 8, 10, 11, 12])) (v := .I (IntKind.i64.wrap ((j : Int) - 1))) (v' := .I ((j : Int) - 1)) (by as_aux_lemma => kernel_rfl) hS (wr_i64 (by omega)) ?_
    refine qHP hS 2 (qs [7, 8, 10, 11, 12]) [(0, .slice (some ⟨pb, 0, none⟩) z q), (1, .I a), (2, .I b), (6, .I i), (7, .I j), (33, .slice (some ⟨pb, 0, none⟩) z q), (34, .I j), (35, .slice (some ⟨pb, 0, none⟩) z q), (37, .I ((j : Int) - 1)), (38, .slice (some ⟨pb, 0, none⟩) z q), (39, .I j)] ?_
    refine RH.pv (d := some 40) (r := (qs [8, 10, 11, 12])) (v := .I (IntKind.i64.wrap ((j : Int) - 1))) (v' := .I ((j : Int) - 1)) (by as_aux_lemma => kernel_rfl) hS (wr_i64 (by omega)) ?_
    have hn30 : z = e.toList.length := by rw [tl_len (d := e)]; omega
    have hx29 : (j - 1) < e.toList.length := by rw [tl_len (d := e)]; omega
    refine RH.indexW (d := some 41) (r := (qs [10, 11, 12])) (T := 58) (e := 44) (m := 1) (ik := .i64) (ix := (j : Int) - 1) (sh := (Shape.int .u64)) (xs := e.toList) (a := (some ⟨pb, 0, none⟩)) (len := z) (cap := q) (by as_aux_lemma => kernel_rfl) hS (by as_aux_lemma => kernel_rfl) rfl H (j - 1) (by omega) hx29 hn30 ?_
    intro b31 es32 ha33 hcell34 hr35
    cases ha33
    rw [tl_at (d := e) (k := (j - 1)) _] at hr35
    have hb36 := Shape.u64_bd hr35
    obtain ⟨rfl, -⟩ := hr35
    refine qHP hS 2 [(12, .qui)] [(0, .slice (some ⟨pb, 0, none⟩) z q), (1, .I a), (2, .I b), (6, .I i), (7, .I j), (33, .slice (some ⟨pb, 0, none⟩) z q), (34, .I j), (35, .slice (some ⟨pb, 0, none⟩) z q), (37, .I ((j : Int) - 1)), (41, .pointer (some ⟨pb, (j - 1) * 1, none⟩)), (43, .slice (some ⟨pb, 0, none⟩) z q), (44, .I j)] ?_
    have hn38 : z = e.toList.length := by rw [tl_len (d := e)]; omega
    have hx37 : j < e.toList.length := by rw [tl_len (d := e)]; omega
    refine RH.indexW (d := some 45) (r := []) (T := 58) (e := 44) (m := 1) (ik := .i64) (ix := (j : Int)) (sh := (Shape.int .u64)) (xs := e.toList) (a := (some ⟨pb, 0, none⟩)) (len := z) (cap := q) (by as_aux_lemma => kernel_rfl) hS (by as_aux_lemma => kernel_rfl) rfl H j (by omega) hx37 hn38 ?_
    intro b39 es40 ha41 hcell42 hr43
    cases ha41
    rw [tl_at (d := e) (k := j) _] at hr43
    have hb44 := Shape.u64_bd hr43
    obtain ⟨rfl, -⟩ := hr43
    refine RH.finB hS 0 [0, 1, 2, 6, 7, 33, 34, 35, 37, 41, 45] [(0, .slice (some ⟨pb, 0, none⟩) z q), (1, .I a), (2, .I b), (6, .I i), (7, .I j), (33, .slice (some ⟨pb, 0, none⟩) z q), (34, .I j), (35, .slice (some ⟨pb, 0, none⟩) z q), (37, .I ((j : Int) - 1)), (41, .pointer (some ⟨pb, (j - 1) * 1, none⟩)), (45, .pointer (some ⟨pb, j * 1, none⟩))] (by as_aux_lemma => kernel_rfl) ?_
    refine (RGB.cons' ?_ (RGB.cons' ?_ RGB.nil'))
    ·
     refine RG.leaf' [(9, .seq), (13, .seq), (14, .qui), (15, .seq), (16, .qui), (17, .seq)] (by as_aux_lemma => kernel_rfl) ?_
     have Hr := H
     refine RH.chn hS ?_
     refine qL .chn 42 [] 44 pb ((j - 1) * 1) 0 (.int .u64 (e[(j - 1)]!)) hcell34 ?_
     intro hS
     have Hr := H
     refine RH.chn hS ?_
     refine qL .chn 46 [] 44 pb (j * 1) 0 (.int .u64 (e[j]!)) hcell42 ?_
     intro hS
     have hn48 : z = e.toList.length := by rw [tl_len (d := e)]; omega
     have hx47 : j < e.toList.length := by rw [tl_len (d := e)]; omega
     refine RH.indexW (d := some 47) (r := [(15, .seq), (16, .qui), (17, .seq)]) (T := 58) (e := 44) (m := 1) (ik := .i64) (ix := (j : Int)) (sh := (Shape.int .u64)) (xs := e.toList) (a := (some ⟨pb, 0, none⟩)) (len := z) (cap := q) (by as_aux_lemma => kernel_rfl) hS (by as_aux_lemma => kernel_rfl) rfl H j (by omega) hx47 hn48 ?_
     intro b49 es50 ha51 hcell52 hr53
     cases ha51
     rw [tl_at (d := e) (k := j) _] at hr53
     have hb54 := Shape.u64_bd hr53
     obtain ⟨rfl, -⟩ := hr53
     have Hr := H
     refine RH.sto ?_
     refine RW.storeWC (d := none) (r := []) (e := 44) (m := 1) (b := pb) (k := j) (v := .int .u64 (e[(j - 1)]!)) (by as_aux_lemma => kernel_rfl) rfl (by as_aux_lemma => kernel_rfl) H rfl hx47 hn48 (e[(j - 1)]!) u64a ?_
     intro w56 hch55 H
     have hS57 := hS.sto hch55 (.inr (by simp))
     refine ⟨hS57, ?_⟩
     have hS := hS57
     have hn59 : z = (e.toList.set j (e[(j - 1)]!)).length := by rw [List.length_set, tl_len (d := e)]; omega
     have hx58 : (j - 1) < (e.toList.set j (e[(j - 1)]!)).length := by rw [List.length_set, tl_len (d := e)]; omega
     refine RH.indexW (d := some 48) (r := [(17, .seq)]) (T := 58) (e := 44) (m := 1) (ik := .i64) (ix := (j : Int) - 1) (sh := (Shape.int .u64)) (xs := e.toList.set j (e[(j - 1)]!)) (a := (some ⟨pb, 0, none⟩)) (len := z) (cap := q) (by as_aux_lemma => kernel_rfl) hS (by as_aux_lemma => kernel_rfl) rfl H (j - 1) (by omega) hx58 hn59 ?_
     intro b60 es61 ha62 hcell63 hr64
     cases ha62
     have hb65 := Shape.u64_bd hr64
     obtain ⟨rfl, -⟩ := hr64
     refine RH.sto ?_
     refine RW.storeWC (d := none) (r := []) (e := 44) (m := 1) (b := pb) (k := (j - 1)) (v := .int .u64 (e[j]!)) (by as_aux_lemma => kernel_rfl) rfl (by as_aux_lemma => kernel_rfl) H rfl hx58 hn59 (e[j]!) u64a ?_
     intro w67 hch66 H
     have H := H.reW (ys := (swp e j (j - 1)).toList) (swp_tl)
     have hS68 := hS.sto hch66 (.inr (by simp))
     refine ⟨hS68, ?_⟩
     have hS := hS68
     refine RH.fin hS 0 [0, 1, 2, 6, 7] [(0, .slice (some ⟨pb, 0, none⟩) z q), (1, .I a), (2, .I b), (6, .I i), (7, .I j)] (by as_aux_lemma => kernel_rfl) ?_
     refine qR 1 [.c [1, 0, 0, 1, 0, 0, 1, 0, 0, 2], .l [1, 0, 0, 1, 0, 0, 1, 0, 0], .b 2, .b 1, .c [1, 0, 0, 2], .l [1, 0, 0], .b 0] [(0, .slice (some ⟨pb, 0, none⟩) z q), (1, .I a), (2, .I b), (6, .I i), (7, .I j)] ?_
     refine qG (sq 0 3) ?_
     refine qP 1 (sq 1 3) [(0, .slice (some ⟨pb, 0, none⟩) z q), (1, .I a), (2, .I b), (6, .I i), (7, .I j), (31, .I j)] ?_
     refine qI .seq 32 (sq 2 3) ((j : Int) - 1) ?_
     refine qF 1 [(0, .slice (some ⟨pb, 0, none⟩) z q), (1, .I a), (2, .I b), (6, .I i), (7, .I ((j : Int) - 1))] ?_
     rw [show (j : Int) - 1 = ((j - 1 : Nat) : Int) by omega]
     exact WK.back (hback4 ((j - 1), (swp e j (j - 1))) _ ⟨H, by rw [← hinv1.1]; exact insIn_go (by omega) hl9, by rw [swp_size]; exact hinv1.2.1, by omega⟩ (by first | omega | (simp only []; omega))) (by as_aux_lemma => kernel_rfl)
    ·
     refine RG.leaf' [(13, .seq), (9, .seq), (14, .qui), (15, .seq), (16, .qui), (17, .seq)] (by as_aux_lemma => kernel_rfl) ?_
     have Hr := H
     refine RH.chn hS ?_
     refine qL .chn 46 [] 44 pb (j * 1) 0 (.int .u64 (e[j]!)) hcell42 ?_
     intro hS
     have Hr := H
     refine RH.chn hS ?_
     refine qL .chn 42 [] 44 pb ((j - 1) * 1) 0 (.int .u64 (e[(j - 1)]!)) hcell34 ?_
     intro hS
     have hn72 : z = e.toList.length := by rw [tl_len (d := e)]; omega
     have hx71 : j < e.toList.length := by rw [tl_len (d := e)]; omega
     refine RH.indexW (d := some 47) (r := [(15, .seq), (16, .qui), (17, .seq)]) (T := 58) (e := 44) (m := 1) (ik := .i64) (ix := (j : Int)) (sh := (Shape.int .u64)) (xs := e.toList) (a := (some ⟨pb, 0, none⟩)) (len := z) (cap := q) (by as_aux_lemma => kernel_rfl) hS (by as_aux_lemma => kernel_rfl) rfl H j (by omega) hx71 hn72 ?_
     intro b73 es74 ha75 hcell76 hr77
     cases ha75
     rw [tl_at (d := e) (k := j) _] at hr77
     have hb78 := Shape.u64_bd hr77
     obtain ⟨rfl, -⟩ := hr77
     have Hr := H
     refine RH.sto ?_
     refine RW.storeWC (d := none) (r := []) (e := 44) (m := 1) (b := pb) (k := j) (v := .int .u64 (e[(j - 1)]!)) (by as_aux_lemma => kernel_rfl) rfl (by as_aux_lemma => kernel_rfl) H rfl hx71 hn72 (e[(j - 1)]!) u64a ?_
     intro w80 hch79 H
     have hS81 := hS.sto hch79 (.inr (by simp))
     refine ⟨hS81, ?_⟩
     have hS := hS81
     have hn83 : z = (e.toList.set j (e[(j - 1)]!)).length := by rw [List.length_set, tl_len (d := e)]; omega
     have hx82 : (j - 1) < (e.toList.set j (e[(j - 1)]!)).length := by rw [List.length_set, tl_len (d := e)]; omega
     refine RH.indexW (d := some 48) (r := [(17, .seq)]) (T := 58) (e := 44) (m := 1) (ik := .i64) (ix := (j : Int) - 1) (sh := (Shape.int .u64)) (xs := e.toList.set j (e[(j - 1)]!)) (a := (some ⟨pb, 0, none⟩)) (len := z) (cap := q) (by as_aux_lemma => kernel_rfl) hS (by as_aux_lemma => kernel_rfl) rfl H (j - 1) (by omega) hx82 hn83 ?_
     intro b84 es85 ha86 hcell87 hr88
     cases ha86
     have hb89 := Shape.u64_bd hr88
     obtain ⟨rfl, -⟩ := hr88
     refine RH.sto ?_
     refine RW.storeWC (d := none) (r := []) (e := 44) (m := 1) (b := pb) (k := (j - 1)) (v := .int .u64 (e[j]!)) (by as_aux_lemma => kernel_rfl) rfl (by as_aux_lemma => kernel_rfl) H rfl hx82 hn83 (e[j]!) u64a ?_
     intro w91 hch90 H
     have H := H.reW (ys := (swp e j (j - 1)).toList) (swp_tl)
     have hS92 := hS.sto hch90 (.inr (by simp))
     refine ⟨hS92, ?_⟩
     have hS := hS92
     refine RH.fin hS 0 [0, 1, 2, 6, 7] [(0, .slice (some ⟨pb, 0, none⟩) z q), (1, .I a), (2, .I b), (6, .I i), (7, .I j)] (by as_aux_lemma => kernel_rfl) ?_
     refine qR 1 [.c [1, 0, 0, 1, 0, 0, 1, 0, 0, 2], .l [1, 0, 0, 1, 0, 0, 1, 0, 0], .b 2, .b 1, .c [1, 0, 0, 2], .l [1, 0, 0], .b 0] [(0, .slice (some ⟨pb, 0, none⟩) z q), (1, .I a), (2, .I b), (6, .I i), (7, .I j)] ?_
     refine qG (sq 0 3) ?_
     refine qP 1 (sq 1 3) [(0, .slice (some ⟨pb, 0, none⟩) z q), (1, .I a), (2, .I b), (6, .I i), (7, .I j), (31, .I j)] ?_
     refine qI .seq 32 (sq 2 3) ((j : Int) - 1) ?_
     refine qF 1 [(0, .slice (some ⟨pb, 0, none⟩) z q), (1, .I a), (2, .I b), (6, .I i), (7, .I ((j : Int) - 1))] ?_
     rw [show (j : Int) - 1 = ((j - 1 : Nat) : Int) by omega]
     exact WK.back (hback4 ((j - 1), (swp e j (j - 1))) _ ⟨H, by rw [← hinv1.1]; exact insIn_go (by omega) hl9, by rw [swp_size]; exact hinv1.2.1, by omega⟩ (by first | omega | (simp only []; omega))) (by as_aux_lemma => kernel_rfl)
   ·
    have hx9 : insInner ltInt a j e = e := insIn_stop (by omega) (by simpa using h26)
    refine qR 2 [.c [1, 0, 0, 2], .l [1, 0, 0], .b 0] [(0, .slice (some ⟨pb, 0, none⟩) z q), (1, .I a), (2, .I b), (6, .I i)] ?_
    refine qG (sq 0 3) ?_
    refine qP 1 (sq 1 3) [(0, .slice (some ⟨pb, 0, none⟩) z q), (1, .I a), (2, .I b), (6, .I i), (13, .I i)] ?_
    refine qI .seq 14 (sq 2 3) ((i : Int) + 1) ?_
    refine qF 1 [(0, .slice (some ⟨pb, 0, none⟩) z q), (1, .I a), (2, .I b), (6, .I ((i : Int) + 1))] ?_
    exact WK.back (hback1 (i + 1, e) _ ⟨H, by rw [← hinv0.1, insOuter_go (i := i) (d := f) (by omega), ← hinv1.1, hx9], hinv1.2.1⟩ (by first | omega | (simp only []; omega))) (by as_aux_lemma => kernel_rfl)
  ·
   have hx9 : insInner ltInt a j e = e := insInner_low (by omega)
   refine qF 11 [(0, .slice (some ⟨pb, 0, none⟩) z q), (1, .I a), (2, .I b), (6, .I i), (7, .I j), (30, .bool false)] ?_
   refine qR 3 [.c [1, 0, 0, 2], .l [1, 0, 0], .b 0] [(0, .slice (some ⟨pb, 0, none⟩) z q), (1, .I a), (2, .I b), (6, .I i)] ?_
   refine qG (sq 0 3) ?_
   refine qP 1 (sq 1 3) [(0, .slice (some ⟨pb, 0, none⟩) z q), (1, .I a), (2, .I b), (6, .I i), (13, .I i)] ?_
   refine qI .seq 14 (sq 2 3) ((i : Int) + 1) ?_
   refine qF 1 [(0, .slice (some ⟨pb, 0, none⟩) z q), (1, .I a), (2, .I b), (6, .I ((i : Int) + 1))] ?_
   exact WK.back (hback1 (i + 1, e) _ ⟨H, by rw [← hinv0.1, insOuter_go (i := i) (d := f) (by omega), ← hinv1.1, hx9], hinv1.2.1⟩ (by first | omega | (simp only []; omega))) (by as_aux_lemma => kernel_rfl)
 ·
  refine qR 1 [] [] ?_
  refine WK.fin (v := .tuple #[]) Try.func49 (by as_aux_lemma => kernel_rfl) ?_
  have e9 : f = (insertionSort ltInt d a b) := by rw [← hinv0.1, insOuter_stop (by omega)]
  rw [e9] at H
  exact ⟨_, rfl, rfl, H.pick [] rfl⟩
end Go.Proofs.Ythbegjaoifghlaa
