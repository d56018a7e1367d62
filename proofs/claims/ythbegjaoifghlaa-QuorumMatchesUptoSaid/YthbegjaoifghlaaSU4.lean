import Derived.Test.YthbegjaoifghlaaSU3
import Derived.Test.YthbegjaoifghlaaSBxA
namespace Go.Proofs.Ythbegjaoifghlaa
open Go.BX
open Go.Sort (swp insInner insOuter insertionSort ltInt siftDown heapBuild heapPop heapSort reverseLoop reverseRange scanUp scanDown partLoop partition partEqLoop partitionEqual scanSorted shiftDown shiftUp partialIns partialInsertionSort)
theorem scanUp_go {p : Int → Bool} {e : Array Int} {i j : Nat} (h : i ≤ j) (h2 : p e[i]! = true) : scanUp p e j (i + 1) = scanUp p e j i := by
 rw [scanUp.eq_1 p e j i, if_pos (by rw [Bool.and_eq_true]; exact ⟨decide_eq_true h, h2⟩)]
theorem scanUp_stop {p : Int → Bool} {e : Array Int} {i j : Nat} (h : ¬ (i ≤ j ∧ p e[i]! = true)) : scanUp p e j i = i := by
 rw [scanUp.eq_1 p e j i, if_neg (by rw [Bool.and_eq_true]; exact fun q => h ⟨of_decide_eq_true q.1, q.2⟩)]
theorem scanDown_go {p : Int → Bool} {e : Array Int} {i j : Nat} (hj : 1 ≤ j) (h : i ≤ j) (h2 : p e[j]! = true) : scanDown p e i (j - 1) = scanDown p e i j := by
 obtain ⟨m, rfl⟩ : ∃ m, j = m + 1 := ⟨j - 1, by omega⟩
 rw [scanDown, if_pos (by rw [Bool.and_eq_true]; exact ⟨decide_eq_true h, h2⟩)]
 rfl
theorem scanDown_stop {p : Int → Bool} {e : Array Int} {i j : Nat} (h : ¬ (i ≤ j ∧ p e[j]! = true)) : scanDown p e i j = j := by
 cases j with
 | zero => rfl
 | succ m => rw [scanDown, if_neg (by rw [Bool.and_eq_true]; exact fun q => h ⟨of_decide_eq_true q.1, q.2⟩)]
theorem nlt {x y : Int} : (!ltInt x y) = true ↔ ¬ x < y := by unfold ltInt; simp
abbrev upE (e : Array Int) (a : Nat) : Int → Bool := fun x => !ltInt e[a]! x
abbrev uqE (e : Array Int) (a : Nat) : Int → Bool := fun x => ltInt e[a]! x
abbrev upP (e : Array Int) (a : Nat) : Int → Bool := fun x => ltInt x e[a]!
abbrev uqP (e : Array Int) (a : Nat) : Int → Bool := fun x => !ltInt x e[a]!
theorem peq_stop {a i j i2 j2 : Nat} {e : Array Int} (h1 : scanUp (upE e a) e j i = i2) (h2 : scanDown (uqE e a) e i2 j = j2) (h : i2 > j2) : partEqLoop ltInt a i j e = (i2, e) := by
 subst h1 h2
 rw [Go.Sort.partEqLoop_eq, if_pos h]
theorem peq_go {a i j i2 j2 : Nat} {e : Array Int} (h1 : scanUp (upE e a) e j i = i2) (h2 : scanDown (uqE e a) e i2 j = j2) (h : ¬ i2 > j2) : partEqLoop ltInt a i j e = partEqLoop ltInt a (i2 + 1) (j2 - 1) (swp e i2 j2) := by
 subst h1 h2
 rw [Go.Sort.partEqLoop_eq, if_neg h]
theorem pp_stop {a i j i2 j2 : Nat} {e : Array Int} (h1 : scanUp (upP e a) e j i = i2) (h2 : scanDown (uqP e a) e i2 j = j2) (h : i2 > j2) : partLoop ltInt a i j e = (j2, e) := by
 subst h1 h2
 rw [Go.Sort.partLoop_eq, if_pos h]
theorem pp_go {a i j i2 j2 : Nat} {e : Array Int} (h1 : scanUp (upP e a) e j i = i2) (h2 : scanDown (uqP e a) e i2 j = j2) (h : ¬ i2 > j2) : partLoop ltInt a i j e = partLoop ltInt a (i2 + 1) (j2 - 1) (swp e i2 j2) := by
 subst h1 h2
 rw [Go.Sort.partLoop_eq, if_neg h]
theorem upeq_spec {S : Nat → Prop} {w : World} {O : List Nat} {d : Array Int} {pb z q : Nat} {a : Nat} {aI : Int} (haI : aI = (a : Int)) {b : Nat} {bI : Int} (hbI : bI = (b : Int)) {pv : Nat} {pvI : Int} (hpvI : pvI = (pv : Int)) (hab : a < b) (hb : b ≤ d.size) (hp1 : a ≤ pv) (hp2 : pv < b) (H0 : Hp w S O [] [⟨Shape.int .u64, 44, .slice (some ⟨pb, 0, none⟩) z q, d.toList⟩] [] w) (hz : d.size = z) (hle : z ≤ 1048576) :
 Calls Try.prog 56 #[.slice (some ⟨pb, 0, none⟩) z q, .I aI, .I bI, .I pvI] w (Ret fun v w' => v = .I (((partitionEqual ltInt d a b pv).1 : Nat) : Int) ∧ Hp w S O [] [⟨Shape.int .u64, 44, .slice (some ⟨pb, 0, none⟩) z q, (partitionEqual ltInt d a b pv).2.toList⟩] [] w') := by
 subst haI
 subst hbI
 subst hpvI
 refine qS (fn := Try.f56) (n := 84) (σ := [(0, .slice (some ⟨pb, 0, none⟩) z q), (1, .I a), (2, .I b), (3, .I pv)]) Try.func56 ?_
 have H := H0
 refine qR 3 [.c [1, 0], .c [2]] [(0, .slice (some ⟨pb, 0, none⟩) z q), (1, .I a), (2, .I b), (3, .I pv)] ?_
 refine WK.drawP1 13 [0, 1, 2, 3, 4, 5, 8, 9] [(20, .I a), (19, .slice (some ⟨pb, 0, none⟩) z q), (16, .I pv), (15, .slice (some ⟨pb, 0, none⟩) z q), (14, .I pv), (13, .slice (some ⟨pb, 0, none⟩) z q), (12, .I a), (11, .slice (some ⟨pb, 0, none⟩) z q), (0, .slice (some ⟨pb, 0, none⟩) z q), (1, .I a), (2, .I b), (3, .I pv)] (qs [6, 7, 10, 11, 12]) [(6, .qui), (7, .qui), (10, .qui), (11, .qui), (12, .qui), (13, .seq), (14, .seq), (15, .seq)] Try_mixed (by as_aux_lemma => kernel_rfl) (by as_aux_lemma => kernel_rfl) (by as_aux_lemma => kernel_rfl) (by as_aux_lemma => kernel_rfl) ?_
 have H := H.draw
 generalize ({ w with drawn := w.drawn + 1 } : World) = w1 at H ⊢
 have hn3 : z = d.toList.length := by rw [tl_len (d := d)]; omega
 have hx2 : pv < d.toList.length := by rw [tl_len (d := d)]; omega
 refine RW.indexW (κ := .qui) (d := some 17) (r := [(7, .qui), (10, .qui), (11, .qui), (12, .qui), (13, .seq), (14, .seq), (15, .seq)]) (T := 58) (e := 44) (m := 1) (ik := .i64) (ix := (pv : Int)) (sh := (Shape.int .u64)) (xs := d.toList) (a := (some ⟨pb, 0, none⟩)) (len := z) (cap := q) (by as_aux_lemma => kernel_rfl) (by as_aux_lemma => kernel_rfl) rfl H pv (by omega) hx2 hn3 ?_
 intro b4 es5 ha6 hcell7 hr8
 cases ha6
 rw [tl_at (d := d) (k := pv) _] at hr8
 have hb9 := Shape.u64_bd hr8
 obtain ⟨rfl, -⟩ := hr8
 refine qL .qui 18 [(10, .qui), (11, .qui), (12, .qui), (13, .seq), (14, .seq), (15, .seq)] 44 pb (pv * 1) 0 (.int .u64 (d[pv]!)) hcell7 ?_
 have hn11 : z = d.toList.length := by rw [tl_len (d := d)]; omega
 have hx10 : a < d.toList.length := by rw [tl_len (d := d)]; omega
 refine RW.indexW (κ := .qui) (d := some 21) (r := [(11, .qui), (12, .qui), (13, .seq), (14, .seq), (15, .seq)]) (T := 58) (e := 44) (m := 1) (ik := .i64) (ix := (a : Int)) (sh := (Shape.int .u64)) (xs := d.toList) (a := (some ⟨pb, 0, none⟩)) (len := z) (cap := q) (by as_aux_lemma => kernel_rfl) (by as_aux_lemma => kernel_rfl) rfl H a (by omega) hx10 hn11 ?_
 intro b12 es13 ha14 hcell15 hr16
 cases ha14
 rw [tl_at (d := d) (k := a) _] at hr16
 have hb17 := Shape.u64_bd hr16
 obtain ⟨rfl, -⟩ := hr16
 refine qL .qui 22 [(12, .qui), (13, .seq), (14, .seq), (15, .seq)] 44 pb (a * 1) 0 (.int .u64 (d[a]!)) hcell15 ?_
 have hn19 : z = d.toList.length := by rw [tl_len (d := d)]; omega
 have hx18 : a < d.toList.length := by rw [tl_len (d := d)]; omega
 refine RW.indexW (κ := .qui) (d := some 23) (r := [(13, .seq), (14, .seq), (15, .seq)]) (T := 58) (e := 44) (m := 1) (ik := .i64) (ix := (a : Int)) (sh := (Shape.int .u64)) (xs := d.toList) (a := (some ⟨pb, 0, none⟩)) (len := z) (cap := q) (by as_aux_lemma => kernel_rfl) (by as_aux_lemma => kernel_rfl) rfl H a (by omega) hx18 hn19 ?_
 intro b20 es21 ha22 hcell23 hr24
 cases ha22
 rw [tl_at (d := d) (k := a) _] at hr24
 have hb25 := Shape.u64_bd hr24
 obtain ⟨rfl, -⟩ := hr24
 refine RW.storeW (d := none) (r := [(14, .seq), (15, .seq)]) (e := 44) (m := 1) (b := pb) (k := a) (v := .int .u64 (d[pv]!)) (by as_aux_lemma => kernel_rfl) rfl (by as_aux_lemma => kernel_rfl) H rfl hx18 hn19 (d[pv]!) u64a ?_
 intro w26 H
 have hn28 : z = (d.toList.set a (d[pv]!)).length := by rw [List.length_set, tl_len (d := d)]; omega
 have hx27 : pv < (d.toList.set a (d[pv]!)).length := by rw [List.length_set, tl_len (d := d)]; omega
 refine RW.indexW (κ := .seq) (d := some 24) (r := [(15, .seq)]) (T := 58) (e := 44) (m := 1) (ik := .i64) (ix := (pv : Int)) (sh := (Shape.int .u64)) (xs := d.toList.set a (d[pv]!)) (a := (some ⟨pb, 0, none⟩)) (len := z) (cap := q) (by as_aux_lemma => kernel_rfl) (by as_aux_lemma => kernel_rfl) rfl H pv (by omega) hx27 hn28 ?_
 intro b29 es30 ha31 hcell32 hr33
 cases ha31
 have hb34 := Shape.u64_bd hr33
 obtain ⟨rfl, -⟩ := hr33
 refine RW.storeW (d := none) (r := []) (e := 44) (m := 1) (b := pb) (k := pv) (v := .int .u64 (d[a]!)) (by as_aux_lemma => kernel_rfl) rfl (by as_aux_lemma => kernel_rfl) H rfl hx27 hn28 (d[a]!) u64a ?_
 intro w35 H
 have H := H.reW (ys := (swp d a pv).toList) (swp_tl)
 refine qF 0 [(0, .slice (some ⟨pb, 0, none⟩) z q), (1, .I a), (2, .I b)] ?_
 refine qR 1 [.c [2, 0], .c [3]] [(0, .slice (some ⟨pb, 0, none⟩) z q), (1, .I a), (2, .I b)] ?_
 refine qG (sq 0 6) ?_
 refine qP 1 (sq 1 6) [(0, .slice (some ⟨pb, 0, none⟩) z q), (1, .I a), (2, .I b), (25, .I a)] ?_
 refine qI .seq 26 (sq 2 6) ((a : Int) + 1) ?_
 refine qP 1 (sq 3 6) [(0, .slice (some ⟨pb, 0, none⟩) z q), (1, .I a), (26, .I ((a : Int) + 1)), (27, .I b)] ?_
 refine qI .seq 28 (sq 4 6) ((b : Int) - 1) ?_
 refine qF 2 [(0, .slice (some ⟨pb, 0, none⟩) z q), (1, .I a), (9, .I ((a : Int) + 1)), (10, .I ((b : Int) - 1))] ?_
 refine qR 2 [.c [3, 0, 0], .b 0, .c [4]] [(0, .slice (some ⟨pb, 0, none⟩) z q), (1, .I a), (9, .I ((a : Int) + 1)), (10, .I ((b : Int) - 1))] ?_
 rw [show (b : Int) - 1 = ((b - 1 : Nat) : Int) by omega]
 refine WK.loop (α := Nat × Nat × Array Int) (b := cd Try.prog 56 [3, 0, 0, 0]) (by as_aux_lemma => kernel_rfl) (fun st_ => match st_ with | (i, j, e) => [(0, .slice (some ⟨pb, 0, none⟩) z q), (1, .I a), (9, .I i), (10, .I j)]) (fun st_ w' => match st_ with | (i, j, e) => Hp w S O [] [⟨Shape.int .u64, 44, .slice (some ⟨pb, 0, none⟩) z q, e.toList⟩] [] w' ∧ partEqLoop ltInt a i j e = (partitionEqual ltInt d a b pv) ∧ e.size = z ∧ a < i ∧ i ≤ j + 1 ∧ j < b) (fun st_ => match st_ with | (i, j, e) => j + 1 - i) ((a + 1), (b - 1), (swp d a pv)) ⟨H, rfl, by rw [swp_size]; exact hz, by omega, by omega, by omega⟩ (rfl) ?_
 rintro ⟨i, j, e⟩ w37 ⟨H, hinv0⟩ hback36
 refine qR 3 [.c [3, 0, 0, 0, 0, 0, 0], .b 2, .c [3, 0, 0, 0, 0, 1], .b 1, .l [3, 0, 0, 0], .b 0, .c [4]] [(0, .slice (some ⟨pb, 0, none⟩) z q), (1, .I a), (9, .I i), (10, .I j)] ?_
 refine WK.loop (α := Nat) (b := cd Try.prog 56 [3, 0, 0, 0, 0, 0, 0, 0]) (by as_aux_lemma => kernel_rfl) (fun i2 => [(0, .slice (some ⟨pb, 0, none⟩) z q), (1, .I a), (9, .I i2), (10, .I j)]) (fun i2 w' => Hp w S O [] [⟨Shape.int .u64, 44, .slice (some ⟨pb, 0, none⟩) z q, e.toList⟩] [] w' ∧ scanUp (upE e a) e j i2 = scanUp (upE e a) e j i ∧ i ≤ i2 ∧ i2 ≤ j + 1) (fun i2 => j + 1 - i2) i ⟨H, rfl, Nat.le_refl _, by omega⟩ (rfl) ?_
 rintro i2 w39 ⟨H, hinv1⟩ hback38
 refine qR 2 [.c [3, 0, 0, 0, 0, 0, 0, 0, 0, 0], .c [3, 0, 0, 0, 0, 0, 0, 0, 0, 1], .c [3, 0, 0, 0, 0, 0, 0, 0, 1], .l [3, 0, 0, 0, 0, 0, 0, 0], .b 2, .c [3, 0, 0, 0, 0, 1], .b 1, .l [3, 0, 0, 0], .b 0, .c [4]] [(0, .slice (some ⟨pb, 0, none⟩) z q), (1, .I a), (9, .I i2), (10, .I j)] ?_
 refine WK.joinV (α := Bool) (fun x_ w_ => match x_ with | gb => Hp w S O [] [⟨Shape.int .u64, 44, .slice (some ⟨pb, 0, none⟩) z q, e.toList⟩] [] w_ ∧ gb = decide (i2 ≤ j ∧ ¬ e[a]! < e[i2]!)) (fun x_ => match x_ with | gb => [(0, .slice (some ⟨pb, 0, none⟩) z q), (1, .I a), (9, .I i2), (10, .I j), (43, .bool gb)]) [Cq Try.prog 56 [3, 0, 0, 0, 0, 0, 0, 0, 0, 1], Cq Try.prog 56 [3, 0, 0, 0, 0, 0, 0, 0, 1], Lq Try.prog 56 [3, 0, 0, 0, 0, 0, 0, 0], .inBlock 2, Cq Try.prog 56 [3, 0, 0, 0, 0, 1], .inBlock 1, Lq Try.prog 56 [3, 0, 0, 0], .inBlock 0, Cq Try.prog 56 [4]] (fun hJ40 => ?_) ?_
 ·
  refine WK.draw1 15 [(0, .qui), (1, .qui), (2, .qui), (3, .qui), (4, .qui), (5, .qui), (6, .qui), (7, .qui), (8, .qui), (9, .qui), (10, .qui), (11, .qui), (12, .chn), (13, .qui), (14, .qui)] [(0, .qui), (1, .qui), (2, .qui), (3, .qui), (4, .qui), (5, .qui), (6, .qui), (7, .qui), (8, .qui), (9, .qui), (10, .qui), (11, .qui), (12, .chn), (13, .qui), (14, .qui)] Try_mixed (by as_aux_lemma => kernel_rfl) (by as_aux_lemma => kernel_rfl) (by as_aux_lemma => kernel_rfl) ?_
  have H := H.draw
  generalize ({ w39 with drawn := w39.drawn + 1 } : World) = w42 at H ⊢
  refine qP 4 [(4, .qui), (5, .qui), (6, .qui), (7, .qui), (8, .qui), (9, .qui), (10, .qui), (11, .qui), (12, .chn), (13, .qui), (14, .qui)] [(0, .slice (some ⟨pb, 0, none⟩) z q), (1, .I a), (9, .I i2), (10, .I j), (32, .bool (decide (((i2 : Int) : Int) ≤ (j : Int))))] ?_
  refine tD (fun b_ => [(0, .slice (some ⟨pb, 0, none⟩) z q), (1, .I a), (9, .I i2), (10, .I j), (32, .bool b_)]) (((i2 : Int) : Int) ≤ (j : Int)) (fun h43 => ?_) (fun h43 => ?_)
  ·
   refine qP 2 [(6, .qui), (7, .qui), (8, .qui), (9, .qui), (10, .qui), (11, .qui), (12, .chn), (13, .qui), (14, .qui)] [(0, .slice (some ⟨pb, 0, none⟩) z q), (1, .I a), (9, .I i2), (10, .I j), (32, .bool true), (33, .slice (some ⟨pb, 0, none⟩) z q), (34, .I a)] ?_
   have hn45 : z = e.toList.length := by rw [tl_len (d := e)]; omega
   have hx44 : a < e.toList.length := by rw [tl_len (d := e)]; omega
   refine RW.indexW (κ := .qui) (d := some 35) (r := [(7, .qui), (8, .qui), (9, .qui), (10, .qui), (11, .qui), (12, .chn), (13, .qui), (14, .qui)]) (T := 58) (e := 44) (m := 1) (ik := .i64) (ix := (a : Int)) (sh := (Shape.int .u64)) (xs := e.toList) (a := (some ⟨pb, 0, none⟩)) (len := z) (cap := q) (by as_aux_lemma => kernel_rfl) (by as_aux_lemma => kernel_rfl) rfl H a (by omega) hx44 hn45 ?_
   intro b46 es47 ha48 hcell49 hr50
   cases ha48
   rw [tl_at (d := e) (k := a) _] at hr50
   have hb51 := Shape.u64_bd hr50
   obtain ⟨rfl, -⟩ := hr50
   refine qL .qui 36 [(8, .qui), (9, .qui), (10, .qui), (11, .qui), (12, .chn), (13, .qui), (14, .qui)] 44 pb (a * 1) 0 (.int .u64 (e[a]!)) hcell49 ?_
   refine qP 2 [(10, .qui), (11, .qui), (12, .chn), (13, .qui), (14, .qui)] [(0, .slice (some ⟨pb, 0, none⟩) z q), (1, .I a), (9, .I i2), (10, .I j), (32, .bool true), (36, .int .u64 (e[a]!)), (37, .slice (some ⟨pb, 0, none⟩) z q), (38, .I i2)] ?_
   have hn53 : z = e.toList.length := by rw [tl_len (d := e)]; omega
   have hx52 : i2 < e.toList.length := by rw [tl_len (d := e)]; omega
   refine RW.indexW (κ := .qui) (d := some 39) (r := [(11, .qui), (12, .chn), (13, .qui), (14, .qui)]) (T := 58) (e := 44) (m := 1) (ik := .i64) (ix := (i2 : Int)) (sh := (Shape.int .u64)) (xs := e.toList) (a := (some ⟨pb, 0, none⟩)) (len := z) (cap := q) (by as_aux_lemma => kernel_rfl) (by as_aux_lemma => kernel_rfl) rfl H i2 (by omega) hx52 hn53 ?_
   intro b54 es55 ha56 hcell57 hr58
   cases ha56
   rw [tl_at (d := e) (k := i2) _] at hr58
   have hb59 := Shape.u64_bd hr58
   obtain ⟨rfl, -⟩ := hr58
   refine qL .qui 40 [(12, .chn), (13, .qui), (14, .qui)] 44 pb (i2 * 1) 0 (.int .u64 (e[i2]!)) hcell57 ?_
   refine qK .chn (some 41) (qs [13, 14]) 55 #[.int .u64 (e[a]!), .int .u64 (e[i2]!)] (uless_spec (S := fun _ => True) (e[a]!) (e[i2]!)) ?_
   rintro _ w60 hE61 rfl
   have H := H.ext hE61
   refine qF 2 [(0, .slice (some ⟨pb, 0, none⟩) z q), (1, .I a), (9, .I i2), (10, .I j), (43, .bool (!(decide (e[a]! < e[i2]!))))] ?_
   exact hJ40 (!(decide (e[a]! < e[i2]!))) _ ⟨H, by
    rw [Bool.eq_iff_iff]
    simp only [decide_eq_true_iff, Bool.not_eq_true', decide_eq_false_iff_not]
    exact ⟨fun hq => ⟨by omega, hq⟩, fun hq => hq.2⟩⟩
  ·
   refine qF 11 [(0, .slice (some ⟨pb, 0, none⟩) z q), (1, .I a), (9, .I i2), (10, .I j), (43, .bool false)] ?_
   exact hJ40 (false) _ ⟨H, (decide_eq_false (fun q => absurd q.1 (by omega))).symm⟩
 ·
  rintro gb w41 ⟨H, hgb⟩
  refine qC gb (fun h62 => ?_) (fun h62 => ?_)
  ·
   rw [hgb] at h62
   replace h62 := of_decide_eq_true h62
   have hc9 := h62
   refine qR 2 [.c [3, 0, 0, 0, 0, 0, 0, 0, 1, 0], .b 3, .l [3, 0, 0, 0, 0, 0, 0, 0], .b 2, .c [3, 0, 0, 0, 0, 1], .b 1, .l [3, 0, 0, 0], .b 0, .c [4]] [(0, .slice (some ⟨pb, 0, none⟩) z q), (1, .I a), (9, .I i2), (10, .I j)] ?_
   refine qG (sq 0 3) ?_
   refine qP 1 (sq 1 3) [(0, .slice (some ⟨pb, 0, none⟩) z q), (1, .I a), (9, .I i2), (10, .I j), (44, .I i2)] ?_
   refine qI .seq 45 (sq 2 3) ((i2 : Int) + 1) ?_
   refine qF 1 [(0, .slice (some ⟨pb, 0, none⟩) z q), (1, .I a), (9, .I ((i2 : Int) + 1)), (10, .I j)] ?_
   refine qR 1 [.l [3, 0, 0, 0, 0, 0, 0, 0], .b 2, .c [3, 0, 0, 0, 0, 1], .b 1, .l [3, 0, 0, 0], .b 0, .c [4]] [(0, .slice (some ⟨pb, 0, none⟩) z q), (1, .I a), (9, .I ((i2 : Int) + 1)), (10, .I j)] ?_
   exact WK.back (hback38 (i2 + 1) _ ⟨H, (scanUp_go hc9.1 (nlt.2 hc9.2)).trans hinv1.1, by omega, by omega⟩ (by first | omega | (simp only []; omega))) (by as_aux_lemma => kernel_rfl)
  ·
   rw [hgb] at h62
   replace h62 := of_decide_eq_false h62
   have hn43 := h62
   have hu9 : scanUp (upE e a) e j i = i2 := hinv1.1.symm.trans (scanUp_stop fun q => absurd ⟨q.1, nlt.1 q.2⟩ h62)
   refine qR 3 [.c [3, 0, 0, 0, 0, 1, 0, 0], .b 4, .c [3, 0, 0, 0, 0, 2], .b 1, .l [3, 0, 0, 0], .b 0, .c [4]] [(0, .slice (some ⟨pb, 0, none⟩) z q), (1, .I a), (9, .I i2), (10, .I j)] ?_
   refine WK.loop (α := Nat) (b := cd Try.prog 56 [3, 0, 0, 0, 0, 1, 0, 0, 0]) (by as_aux_lemma => kernel_rfl) (fun j2 => [(0, .slice (some ⟨pb, 0, none⟩) z q), (1, .I a), (9, .I i2), (10, .I j2)]) (fun j2 w' => Hp w S O [] [⟨Shape.int .u64, 44, .slice (some ⟨pb, 0, none⟩) z q, e.toList⟩] [] w' ∧ scanDown (uqE e a) e i2 j2 = scanDown (uqE e a) e i2 j ∧ j2 ≤ j ∧ i2 ≤ j2 + 1) (fun j2 => j2) j ⟨H, rfl, Nat.le_refl _, by omega⟩ (rfl) ?_
   rintro j2 w64 ⟨H, hinv2⟩ hback63
   refine qR 2 [.c [3, 0, 0, 0, 0, 1, 0, 0, 0, 0, 0], .c [3, 0, 0, 0, 0, 1, 0, 0, 0, 0, 1], .c [3, 0, 0, 0, 0, 1, 0, 0, 0, 1], .l [3, 0, 0, 0, 0, 1, 0, 0, 0], .b 4, .c [3, 0, 0, 0, 0, 2], .b 1, .l [3, 0, 0, 0], .b 0, .c [4]] [(0, .slice (some ⟨pb, 0, none⟩) z q), (1, .I a), (9, .I i2), (10, .I j2)] ?_
   refine WK.joinV (α := Bool) (fun x_ w_ => match x_ with | gb => Hp w S O [] [⟨Shape.int .u64, 44, .slice (some ⟨pb, 0, none⟩) z q, e.toList⟩] [] w_ ∧ gb = decide (i2 ≤ j2 ∧ e[a]! < e[j2]!)) (fun x_ => match x_ with | gb => [(0, .slice (some ⟨pb, 0, none⟩) z q), (1, .I a), (9, .I i2), (10, .I j2), (59, .bool gb)]) [Cq Try.prog 56 [3, 0, 0, 0, 0, 1, 0, 0, 0, 0, 1], Cq Try.prog 56 [3, 0, 0, 0, 0, 1, 0, 0, 0, 1], Lq Try.prog 56 [3, 0, 0, 0, 0, 1, 0, 0, 0], .inBlock 4, Cq Try.prog 56 [3, 0, 0, 0, 0, 2], .inBlock 1, Lq Try.prog 56 [3, 0, 0, 0], .inBlock 0, Cq Try.prog 56 [4]] (fun hJ65 => ?_) ?_
   ·
    refine WK.draw1 14 [(0, .qui), (1, .qui), (2, .qui), (3, .qui), (4, .qui), (5, .qui), (6, .qui), (7, .qui), (8, .qui), (9, .qui), (10, .qui), (11, .qui), (12, .chn), (13, .qui)] [(0, .qui), (1, .qui), (2, .qui), (3, .qui), (4, .qui), (5, .qui), (6, .qui), (7, .qui), (8, .qui), (9, .qui), (10, .qui), (11, .qui), (12, .chn), (13, .qui)] Try_mixed (by as_aux_lemma => kernel_rfl) (by as_aux_lemma => kernel_rfl) (by as_aux_lemma => kernel_rfl) ?_
    have H := H.draw
    generalize ({ w64 with drawn := w64.drawn + 1 } : World) = w67 at H ⊢
    refine qP 4 [(4, .qui), (5, .qui), (6, .qui), (7, .qui), (8, .qui), (9, .qui), (10, .qui), (11, .qui), (12, .chn), (13, .qui)] [(0, .slice (some ⟨pb, 0, none⟩) z q), (1, .I a), (9, .I i2), (10, .I j2), (49, .bool (decide (((i2 : Int) : Int) ≤ (j2 : Int))))] ?_
    refine tD (fun b_ => [(0, .slice (some ⟨pb, 0, none⟩) z q), (1, .I a), (9, .I i2), (10, .I j2), (49, .bool b_)]) (((i2 : Int) : Int) ≤ (j2 : Int)) (fun h68 => ?_) (fun h68 => ?_)
    ·
     refine qP 2 [(6, .qui), (7, .qui), (8, .qui), (9, .qui), (10, .qui), (11, .qui), (12, .chn), (13, .qui)] [(0, .slice (some ⟨pb, 0, none⟩) z q), (1, .I a), (9, .I i2), (10, .I j2), (49, .bool true), (50, .slice (some ⟨pb, 0, none⟩) z q), (51, .I a)] ?_
     have hn70 : z = e.toList.length := by rw [tl_len (d := e)]; omega
     have hx69 : a < e.toList.length := by rw [tl_len (d := e)]; omega
     refine RW.indexW (κ := .qui) (d := some 52) (r := [(7, .qui), (8, .qui), (9, .qui), (10, .qui), (11, .qui), (12, .chn), (13, .qui)]) (T := 58) (e := 44) (m := 1) (ik := .i64) (ix := (a : Int)) (sh := (Shape.int .u64)) (xs := e.toList) (a := (some ⟨pb, 0, none⟩)) (len := z) (cap := q) (by as_aux_lemma => kernel_rfl) (by as_aux_lemma => kernel_rfl) rfl H a (by omega) hx69 hn70 ?_
     intro b71 es72 ha73 hcell74 hr75
     cases ha73
     rw [tl_at (d := e) (k := a) _] at hr75
     have hb76 := Shape.u64_bd hr75
     obtain ⟨rfl, -⟩ := hr75
     refine qL .qui 53 [(8, .qui), (9, .qui), (10, .qui), (11, .qui), (12, .chn), (13, .qui)] 44 pb (a * 1) 0 (.int .u64 (e[a]!)) hcell74 ?_
     refine qP 2 [(10, .qui), (11, .qui), (12, .chn), (13, .qui)] [(0, .slice (some ⟨pb, 0, none⟩) z q), (1, .I a), (9, .I i2), (10, .I j2), (49, .bool true), (53, .int .u64 (e[a]!)), (54, .slice (some ⟨pb, 0, none⟩) z q), (55, .I j2)] ?_
     have hn78 : z = e.toList.length := by rw [tl_len (d := e)]; omega
     have hx77 : j2 < e.toList.length := by rw [tl_len (d := e)]; omega
     refine RW.indexW (κ := .qui) (d := some 56) (r := [(11, .qui), (12, .chn), (13, .qui)]) (T := 58) (e := 44) (m := 1) (ik := .i64) (ix := (j2 : Int)) (sh := (Shape.int .u64)) (xs := e.toList) (a := (some ⟨pb, 0, none⟩)) (len := z) (cap := q) (by as_aux_lemma => kernel_rfl) (by as_aux_lemma => kernel_rfl) rfl H j2 (by omega) hx77 hn78 ?_
     intro b79 es80 ha81 hcell82 hr83
     cases ha81
     rw [tl_at (d := e) (k := j2) _] at hr83
     have hb84 := Shape.u64_bd hr83
     obtain ⟨rfl, -⟩ := hr83
     refine qL .qui 57 [(12, .chn), (13, .qui)] 44 pb (j2 * 1) 0 (.int .u64 (e[j2]!)) hcell82 ?_
     refine qK .chn (some 58) [(13, .qui)] 55 #[.int .u64 (e[a]!), .int .u64 (e[j2]!)] (uless_spec (S := fun _ => True) (e[a]!) (e[j2]!)) ?_
     rintro _ w85 hE86 rfl
     have H := H.ext hE86
     refine qF 1 [(0, .slice (some ⟨pb, 0, none⟩) z q), (1, .I a), (9, .I i2), (10, .I j2), (59, .bool (decide (e[a]! < e[j2]!)))] ?_
     exact hJ65 (decide (e[a]! < e[j2]!)) _ ⟨H, by
      rw [Bool.eq_iff_iff]
      simp only [decide_eq_true_iff, Bool.not_eq_true', decide_eq_false_iff_not]
      exact ⟨fun hq => ⟨by omega, hq⟩, fun hq => hq.2⟩⟩
    ·
     refine qF 10 [(0, .slice (some ⟨pb, 0, none⟩) z q), (1, .I a), (9, .I i2), (10, .I j2), (59, .bool false)] ?_
     exact hJ65 (false) _ ⟨H, (decide_eq_false (fun q => absurd q.1 (by omega))).symm⟩
   ·
    rintro gb w66 ⟨H, hgb⟩
    refine qC gb (fun h87 => ?_) (fun h87 => ?_)
    ·
     rw [hgb] at h87
     replace h87 := of_decide_eq_true h87
     have hd9 := h87
     refine qR 2 [.c [3, 0, 0, 0, 0, 1, 0, 0, 0, 1, 0], .b 5, .l [3, 0, 0, 0, 0, 1, 0, 0, 0], .b 4, .c [3, 0, 0, 0, 0, 2], .b 1, .l [3, 0, 0, 0], .b 0, .c [4]] [(0, .slice (some ⟨pb, 0, none⟩) z q), (1, .I a), (9, .I i2), (10, .I j2)] ?_
     refine qG (sq 0 3) ?_
     refine qP 1 (sq 1 3) [(0, .slice (some ⟨pb, 0, none⟩) z q), (1, .I a), (9, .I i2), (10, .I j2), (60, .I j2)] ?_
     refine qI .seq 61 (sq 2 3) ((j2 : Int) - 1) ?_
     refine qF 1 [(0, .slice (some ⟨pb, 0, none⟩) z q), (1, .I a), (9, .I i2), (10, .I ((j2 : Int) - 1))] ?_
     refine qR 1 [.l [3, 0, 0, 0, 0, 1, 0, 0, 0], .b 4, .c [3, 0, 0, 0, 0, 2], .b 1, .l [3, 0, 0, 0], .b 0, .c [4]] [(0, .slice (some ⟨pb, 0, none⟩) z q), (1, .I a), (9, .I i2), (10, .I ((j2 : Int) - 1))] ?_
     rw [show (j2 : Int) - 1 = ((j2 - 1 : Nat) : Int) by omega]
     exact WK.back (hback63 (j2 - 1) _ ⟨H, (scanDown_go (by omega) hd9.1 (ltI.2 hd9.2)).trans hinv2.1, by omega, by omega⟩ (by first | omega | (simp only []; omega))) (by as_aux_lemma => kernel_rfl)
    ·
     rw [hgb] at h87
     replace h87 := of_decide_eq_false h87
     have hn59 := h87
     have hv9 : scanDown (uqE e a) e i2 j = j2 := hinv2.1.symm.trans (scanDown_stop fun q => absurd ⟨q.1, ltI.1 q.2⟩ h87)
     refine qR 4 [.c [3, 0, 0, 0, 0, 2, 0, 1], .c [3, 0, 0, 0, 0, 3], .b 1, .l [3, 0, 0, 0], .b 0, .c [4]] [(0, .slice (some ⟨pb, 0, none⟩) z q), (1, .I a), (9, .I i2), (10, .I j2), (64, .bool (decide (((i2 : Int) : Int) > (j2 : Int))))] ?_
     refine qD (((i2 : Int) : Int) > (j2 : Int)) (fun h88 => ?_) (fun h88 => ?_)
     ·
      refine qR 3 [.c [5]] [(8, .I i2)] ?_
      refine qT (.I i2) Try.func56 ?_
      have e9 : (partitionEqual ltInt d a b pv) = (i2, e) := by rw [← hinv0.1]; exact peq_stop hu9 hv9 (by omega)
      rw [e9]
      exact ⟨_, rfl, rfl, H.pick [] rfl⟩
     ·
      have hne9 : i2 ≠ j2 := fun q => by
       subst q
       exact hn59 ⟨by omega, Classical.byContradiction fun q2 => hn43 ⟨by omega, q2⟩⟩
      refine qR 2 [.c [3, 0, 0, 0, 0, 3, 0], .c [3, 0, 0, 0, 0, 4], .b 1, .l [3, 0, 0, 0], .b 0, .c [4]] [(0, .slice (some ⟨pb, 0, none⟩) z q), (1, .I a), (9, .I i2), (10, .I j2)] ?_
      refine WK.drawP1 13 [0, 1, 2, 3, 4, 5, 8, 9] [(74, .I i2), (73, .slice (some ⟨pb, 0, none⟩) z q), (70, .I j2), (69, .slice (some ⟨pb, 0, none⟩) z q), (68, .I j2), (67, .slice (some ⟨pb, 0, none⟩) z q), (66, .I i2), (65, .slice (some ⟨pb, 0, none⟩) z q), (0, .slice (some ⟨pb, 0, none⟩) z q), (1, .I a), (9, .I i2), (10, .I j2)] (qs [6, 7, 10, 11, 12]) [(6, .qui), (7, .qui), (10, .qui), (11, .qui), (12, .qui), (13, .seq), (14, .seq), (15, .seq)] Try_mixed (by as_aux_lemma => kernel_rfl) (by as_aux_lemma => kernel_rfl) (by as_aux_lemma => kernel_rfl) (by as_aux_lemma => kernel_rfl) ?_
      have H := H.draw
      generalize ({ w66 with drawn := w66.drawn + 1 } : World) = w89 at H ⊢
      have hn91 : z = e.toList.length := by rw [tl_len (d := e)]; omega
      have hx90 : j2 < e.toList.length := by rw [tl_len (d := e)]; omega
      refine RW.indexW (κ := .qui) (d := some 71) (r := [(7, .qui), (10, .qui), (11, .qui), (12, .qui), (13, .seq), (14, .seq), (15, .seq)]) (T := 58) (e := 44) (m := 1) (ik := .i64) (ix := (j2 : Int)) (sh := (Shape.int .u64)) (xs := e.toList) (a := (some ⟨pb, 0, none⟩)) (len := z) (cap := q) (by as_aux_lemma => kernel_rfl) (by as_aux_lemma => kernel_rfl) rfl H j2 (by omega) hx90 hn91 ?_
      intro b92 es93 ha94 hcell95 hr96
      cases ha94
      rw [tl_at (d := e) (k := j2) _] at hr96
      have hb97 := Shape.u64_bd hr96
      obtain ⟨rfl, -⟩ := hr96
      refine qL .qui 72 [(10, .qui), (11, .qui), (12, .qui), (13, .seq), (14, .seq), (15, .seq)] 44 pb (j2 * 1) 0 (.int .u64 (e[j2]!)) hcell95 ?_
      have hn99 : z = e.toList.length := by rw [tl_len (d := e)]; omega
      have hx98 : i2 < e.toList.length := by rw [tl_len (d := e)]; omega
      refine RW.indexW (κ := .qui) (d := some 75) (r := [(11, .qui), (12, .qui), (13, .seq), (14, .seq), (15, .seq)]) (T := 58) (e := 44) (m := 1) (ik := .i64) (ix := (i2 : Int)) (sh := (Shape.int .u64)) (xs := e.toList) (a := (some ⟨pb, 0, none⟩)) (len := z) (cap := q) (by as_aux_lemma => kernel_rfl) (by as_aux_lemma => kernel_rfl) rfl H i2 (by omega) hx98 hn99 ?_
      intro b100 es101 ha102 hcell103 hr104
      cases ha102
      rw [tl_at (d := e) (k := i2) _] at hr104
      have hb105 := Shape.u64_bd hr104
      obtain ⟨rfl, -⟩ := hr104
      refine qL .qui 76 [(12, .qui), (13, .seq), (14, .seq), (15, .seq)] 44 pb (i2 * 1) 0 (.int .u64 (e[i2]!)) hcell103 ?_
      have hn107 : z = e.toList.length := by rw [tl_len (d := e)]; omega
      have hx106 : i2 < e.toList.length := by rw [tl_len (d := e)]; omega
      refine RW.indexW (κ := .qui) (d := some 77) (r := [(13, .seq), (14, .seq), (15, .seq)]) (T := 58) (e := 44) (m := 1) (ik := .i64) (ix := (i2 : Int)) (sh := (Shape.int .u64)) (xs := e.toList) (a := (some ⟨pb, 0, none⟩)) (len := z) (cap := q) (by as_aux_lemma => kernel_rfl) (by as_aux_lemma => kernel_rfl) rfl H i2 (by omega) hx106 hn107 ?_
      intro b108 es109 ha110 hcell111 hr112
      cases ha110
      rw [tl_at (d := e) (k := i2) _] at hr112
      have hb113 := Shape.u64_bd hr112
      obtain ⟨rfl, -⟩ := hr112
      refine RW.storeW (d := none) (r := [(14, .seq), (15, .seq)]) (e := 44) (m := 1) (b := pb) (k := i2) (v := .int .u64 (e[j2]!)) (by as_aux_lemma => kernel_rfl) rfl (by as_aux_lemma => kernel_rfl) H rfl hx106 hn107 (e[j2]!) u64a ?_
      intro w114 H
      have hn116 : z = (e.toList.set i2 (e[j2]!)).length := by rw [List.length_set, tl_len (d := e)]; omega
      have hx115 : j2 < (e.toList.set i2 (e[j2]!)).length := by rw [List.length_set, tl_len (d := e)]; omega
      refine RW.indexW (κ := .seq) (d := some 78) (r := [(15, .seq)]) (T := 58) (e := 44) (m := 1) (ik := .i64) (ix := (j2 : Int)) (sh := (Shape.int .u64)) (xs := e.toList.set i2 (e[j2]!)) (a := (some ⟨pb, 0, none⟩)) (len := z) (cap := q) (by as_aux_lemma => kernel_rfl) (by as_aux_lemma => kernel_rfl) rfl H j2 (by omega) hx115 hn116 ?_
      intro b117 es118 ha119 hcell120 hr121
      cases ha119
      have hb122 := Shape.u64_bd hr121
      obtain ⟨rfl, -⟩ := hr121
      refine RW.storeW (d := none) (r := []) (e := 44) (m := 1) (b := pb) (k := j2) (v := .int .u64 (e[i2]!)) (by as_aux_lemma => kernel_rfl) rfl (by as_aux_lemma => kernel_rfl) H rfl hx115 hn116 (e[i2]!) u64a ?_
      intro w123 H
      have H := H.reW (ys := (swp e i2 j2).toList) (swp_tl)
      refine qF 0 [(0, .slice (some ⟨pb, 0, none⟩) z q), (1, .I a), (9, .I i2), (10, .I j2)] ?_
      refine qR 1 [.c [3, 0, 0, 0, 0, 4, 0], .c [3, 0, 0, 0, 0, 5], .b 1, .l [3, 0, 0, 0], .b 0, .c [4]] [(0, .slice (some ⟨pb, 0, none⟩) z q), (1, .I a), (9, .I i2), (10, .I j2)] ?_
      refine qG (sq 0 3) ?_
      refine qP 1 (sq 1 3) [(0, .slice (some ⟨pb, 0, none⟩) z q), (1, .I a), (9, .I i2), (10, .I j2), (79, .I i2)] ?_
      refine qI .seq 80 (sq 2 3) ((i2 : Int) + 1) ?_
      refine qF 1 [(0, .slice (some ⟨pb, 0, none⟩) z q), (1, .I a), (9, .I ((i2 : Int) + 1)), (10, .I j2)] ?_
      refine qG (sq 0 3) ?_
      refine qP 1 (sq 1 3) [(0, .slice (some ⟨pb, 0, none⟩) z q), (1, .I a), (9, .I ((i2 : Int) + 1)), (10, .I j2), (81, .I j2)] ?_
      refine qI .seq 82 (sq 2 3) ((j2 : Int) - 1) ?_
      refine qF 1 [(0, .slice (some ⟨pb, 0, none⟩) z q), (1, .I a), (9, .I ((i2 : Int) + 1)), (10, .I ((j2 : Int) - 1))] ?_
      refine qR 1 [.l [3, 0, 0, 0], .b 0, .c [4]] [(0, .slice (some ⟨pb, 0, none⟩) z q), (1, .I a), (9, .I ((i2 : Int) + 1)), (10, .I ((j2 : Int) - 1))] ?_
      rw [show (j2 : Int) - 1 = ((j2 - 1 : Nat) : Int) by omega]
      exact WK.back (hback36 ((i2 + 1), (j2 - 1), (swp e i2 j2)) _ ⟨H, by rw [← hinv0.1]; exact (peq_go hu9 hv9 (by omega)).symm, by rw [swp_size]; exact hinv0.2.1, by omega, by omega, by omega⟩ (by first | omega | (simp only []; omega))) (by as_aux_lemma => kernel_rfl)
end Go.Proofs.Ythbegjaoifghlaa
