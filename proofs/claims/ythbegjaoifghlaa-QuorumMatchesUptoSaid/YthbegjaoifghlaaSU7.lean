import Derived.Test.YthbegjaoifghlaaSU1
namespace Go.Proofs.Ythbegjaoifghlaa
open Go.BX
open Go.Sort (swp insInner insOuter insertionSort ltInt siftDown heapBuild heapPop heapSort reverseLoop reverseRange scanUp scanDown partLoop partition partEqLoop partitionEqual scanSorted shiftDown shiftUp partialIns partialInsertionSort)
theorem uord_spec {S : Nat → Prop} {w : World} {O : List Nat} {d : Array Int} {pb z q sb : Nat} {s : Int} {a : Nat} {aI : Int} (haI : aI = (a : Int)) {b : Nat} {bI : Int} (hbI : bI = (b : Int)) (ha : a < z) (hb : b < z) (hs : 0 ≤ s ∧ s ≤ 1000000) (H0 : Hp w S O [(sb, .cells #[.I s] 3 (0, 0))] [⟨Shape.int .u64, 44, .slice (some ⟨pb, 0, none⟩) z q, d.toList⟩] [] w) (hz : d.size = z) (hle : z ≤ 1048576) :
 Calls Try.prog 74 #[.slice (some ⟨pb, 0, none⟩) z q, .I aI, .I bI, .P sb 0] w (Ret fun v w' => ∃ (x y : Nat) (s' : Int), v = .tuple #[.I ((x : Nat) : Int), .I ((y : Nat) : Int)] ∧ ((x = a ∧ y = b) ∨ (x = b ∧ y = a)) ∧ (s ≤ s' ∧ s' ≤ s + 1) ∧ Hp w S O [(sb, .cells #[.I s'] 3 (0, 0))] [⟨Shape.int .u64, 44, .slice (some ⟨pb, 0, none⟩) z q, d.toList⟩] [] w') := by
 subst haI
 subst hbI
 refine qS (fn := Try.f74) (n := 28) (σ := [(0, .slice (some ⟨pb, 0, none⟩) z q), (1, .I a), (2, .I b), (3, .P sb 0)]) Try.func74 ?_
 have H := H0
 refine qR 4 [.c [1, 0, 0], .c [1, 0, 1], .c [2]] [(0, .slice (some ⟨pb, 0, none⟩) z q), (1, .I a), (2, .I b), (3, .P sb 0)] ?_
 refine WK.draw1 9 [(0, .qui), (1, .qui), (2, .qui), (3, .qui), (4, .qui), (5, .qui), (6, .qui), (7, .qui), (8, .chn)] [(0, .qui), (1, .qui), (2, .qui), (3, .qui), (4, .qui), (5, .qui), (6, .qui), (7, .qui), (8, .chn)] Try_mixed (by as_aux_lemma => kernel_rfl) (by as_aux_lemma => kernel_rfl) (by as_aux_lemma => kernel_rfl) ?_
 have H := H.draw
 generalize ({ w with drawn := w.drawn + 1 } : World) = w1 at H ⊢
 refine qP 2 [(2, .qui), (3, .qui), (4, .qui), (5, .qui), (6, .qui), (7, .qui), (8, .chn)] [(0, .slice (some ⟨pb, 0, none⟩) z q), (1, .I a), (2, .I b), (3, .P sb 0), (10, .slice (some ⟨pb, 0, none⟩) z q), (11, .I b)] ?_
 have hn3 : z = d.toList.length := by rw [tl_len (d := d)]; omega
 have hx2 : b < d.toList.length := by rw [tl_len (d := d)]; omega
 refine RW.indexW (κ := .qui) (d := some 12) (r := [(3, .qui), (4, .qui), (5, .qui), (6, .qui), (7, .qui), (8, .chn)]) (T := 58) (e := 44) (m := 1) (ik := .i64) (ix := (b : Int)) (sh := (Shape.int .u64)) (xs := d.toList) (a := (some ⟨pb, 0, none⟩)) (len := z) (cap := q) (by as_aux_lemma => kernel_rfl) (by as_aux_lemma => kernel_rfl) rfl H b (by omega) hx2 hn3 ?_
 intro b4 es5 ha6 hcell7 hr8
 cases ha6
 rw [tl_at (d := d) (k := b) _] at hr8
 have hb9 := Shape.u64_bd hr8
 obtain ⟨rfl, -⟩ := hr8
 refine qL .qui 13 [(4, .qui), (5, .qui), (6, .qui), (7, .qui), (8, .chn)] 44 pb (b * 1) 0 (.int .u64 (d[b]!)) hcell7 ?_
 refine qP 2 [(6, .qui), (7, .qui), (8, .chn)] [(1, .I a), (2, .I b), (3, .P sb 0), (13, .int .u64 (d[b]!)), (14, .slice (some ⟨pb, 0, none⟩) z q), (15, .I a)] ?_
 have hn11 : z = d.toList.length := by rw [tl_len (d := d)]; omega
 have hx10 : a < d.toList.length := by rw [tl_len (d := d)]; omega
 refine RW.indexW (κ := .qui) (d := some 16) (r := [(7, .qui), (8, .chn)]) (T := 58) (e := 44) (m := 1) (ik := .i64) (ix := (a : Int)) (sh := (Shape.int .u64)) (xs := d.toList) (a := (some ⟨pb, 0, none⟩)) (len := z) (cap := q) (by as_aux_lemma => kernel_rfl) (by as_aux_lemma => kernel_rfl) rfl H a (by omega) hx10 hn11 ?_
 intro b12 es13 ha14 hcell15 hr16
 cases ha14
 rw [tl_at (d := d) (k := a) _] at hr16
 have hb17 := Shape.u64_bd hr16
 obtain ⟨rfl, -⟩ := hr16
 refine qL .qui 17 [(8, .chn)] 44 pb (a * 1) 0 (.int .u64 (d[a]!)) hcell15 ?_
 refine qK .chn (some 18) [] 55 #[.int .u64 (d[b]!), .int .u64 (d[a]!)] (uless_spec (S := fun _ => True) (d[b]!) (d[a]!)) ?_
 rintro _ w18 hE19 rfl
 have H := H.ext hE19
 refine qF 0 [(1, .I a), (2, .I b), (3, .P sb 0), (18, .bool (decide (d[b]! < d[a]!)))] ?_
 refine qD (d[b]! < d[a]!) (fun h20 => ?_) (fun h20 => ?_)
 ·
  refine qR 1 [.c [1, 0, 1, 0, 0], .c [1, 0, 1, 0, 1], .c [2]] [(1, .I a), (2, .I b), (3, .P sb 0)] ?_
  refine qG (sq 0 6) ?_
  refine qP 2 (sq 2 6) [(1, .I a), (2, .I b), (19, .P sb 0), (20, .P sb 0)] ?_
  refine qL .seq 21 (sq 3 6) 3 sb 0 0 (.I s) (H.cells 0 rfl) ?_
  refine qI .seq 22 (sq 4 6) (s + 1) ?_
  refine qP 1 (sq 5 6) [(1, .I a), (2, .I b), (22, .I (s + 1)), (23, .P sb 0)] ?_
  refine qW 3 sb 0 (sq 6 6) (.I (s + 1)) [(sb, .cells #[.I (s + 1)] 3 (0, 0))] H 0 rfl rfl ?_
  intro w21 H
  refine qF 0 [(1, .I a), (2, .I b)] ?_
  refine qR 2 [.c [1, 0, 1, 0, 2], .c [2]] [(8, .I b), (9, .I a)] ?_
  refine qT (.tuple #[.I b, .I a]) Try.func74 ?_
  exact ⟨_, rfl, b, a, _, rfl, by omega, by omega, H.pick [] rfl⟩
 ·
  refine qR 3 [.c [3]] [(8, .I a), (9, .I b)] ?_
  refine qT (.tuple #[.I a, .I b]) Try.func74 ?_
  exact ⟨_, rfl, a, b, _, rfl, by omega, by omega, H.pick [] rfl⟩
theorem umed_spec {S : Nat → Prop} {w : World} {O : List Nat} {d : Array Int} {pb z q sb : Nat} {s : Int} {a : Nat} {aI : Int} (haI : aI = (a : Int)) {b : Nat} {bI : Int} (hbI : bI = (b : Int)) {c : Nat} {cI : Int} (hcI : cI = (c : Int)) (ha : a < z) (hb : b < z) (hc : c < z) (hs : 0 ≤ s ∧ s ≤ 10000) (H0 : Hp w S O [(sb, .cells #[.I s] 3 (0, 0))] [⟨Shape.int .u64, 44, .slice (some ⟨pb, 0, none⟩) z q, d.toList⟩] [] w) (hz : d.size = z) (hle : z ≤ 1048576) :
 Calls Try.prog 68 #[.slice (some ⟨pb, 0, none⟩) z q, .I aI, .I bI, .I cI, .P sb 0] w (Ret fun v w' => ∃ (x : Nat) (s' : Int), v = .I ((x : Nat) : Int) ∧ (x = a ∨ x = b ∨ x = c) ∧ (s ≤ s' ∧ s' ≤ s + 3) ∧ Hp w S O [(sb, .cells #[.I s'] 3 (0, 0))] [⟨Shape.int .u64, 44, .slice (some ⟨pb, 0, none⟩) z q, d.toList⟩] [] w') := by
 subst haI
 subst hbI
 subst hcI
 refine qS (fn := Try.f68) (n := 36) (σ := [(0, .slice (some ⟨pb, 0, none⟩) z q), (1, .I a), (2, .I b), (3, .I c), (4, .P sb 0)]) Try.func68 ?_
 have H := H0
 refine qR 3 [.c [1, 0], .c [2]] [(0, .slice (some ⟨pb, 0, none⟩) z q), (1, .I a), (2, .I b), (3, .I c), (4, .P sb 0)] ?_
 refine qG (sq 0 10) ?_
 refine qP 4 (sq 4 10) [(0, .slice (some ⟨pb, 0, none⟩) z q), (1, .I a), (2, .I b), (3, .I c), (4, .P sb 0), (12, .slice (some ⟨pb, 0, none⟩) z q), (13, .I a), (14, .I b), (15, .P sb 0)] ?_
 refine RW.callS (d := some 16) (r := (sq 5 10)) (g := 74) (args := #[.slice (some ⟨pb, 0, none⟩) z q, .I a, .I b, .P sb 0]) (by as_aux_lemma => kernel_rfl) (uord_spec (d := d) (pb := pb) (sb := sb) (s := s) (a := a) (aI := (a : Int)) (b := b) (bI := (b : Int)) (by omega) (by omega) (by omega) (by omega) (by omega) ((H.lend (M1 := [(sb, .cells #[.I s] 3 (0, 0))]) (W1 := [⟨Shape.int .u64, 44, .slice (some ⟨pb, 0, none⟩) z q, d.toList⟩])).pick [] rfl) (by omega) (by omega)) ?_
 rintro _ w1 ⟨x2, y3, s4, rfl, hx5, hs6, H'⟩
 have H := H.back (M1 := [(sb, .cells #[.I s] 3 (0, 0))]) (W1 := [⟨Shape.int .u64, 44, .slice (some ⟨pb, 0, none⟩) z q, d.toList⟩]) H'
 have H : Hp w S O [(sb, .cells #[.I s4] 3 (0, 0))] [⟨Shape.int .u64, 44, .slice (some ⟨pb, 0, none⟩) z q, d.toList⟩] [] _ := H
 refine qF 5 [(0, .slice (some ⟨pb, 0, none⟩) z q), (1, .I x2), (2, .I y3), (3, .I c), (4, .P sb 0)] ?_
 refine qR 1 [.c [2, 0], .c [3]] [(0, .slice (some ⟨pb, 0, none⟩) z q), (1, .I x2), (2, .I y3), (3, .I c), (4, .P sb 0)] ?_
 refine qG (sq 0 10) ?_
 refine qP 4 (sq 4 10) [(0, .slice (some ⟨pb, 0, none⟩) z q), (1, .I x2), (2, .I y3), (4, .P sb 0), (20, .slice (some ⟨pb, 0, none⟩) z q), (21, .I y3), (22, .I c), (23, .P sb 0)] ?_
 refine RW.callS (d := some 24) (r := (sq 5 10)) (g := 74) (args := #[.slice (some ⟨pb, 0, none⟩) z q, .I y3, .I c, .P sb 0]) (by as_aux_lemma => kernel_rfl) (uord_spec (d := d) (pb := pb) (sb := sb) (s := s4) (a := y3) (aI := (y3 : Int)) (b := c) (bI := (c : Int)) (by omega) (by omega) (by omega) (by omega) (by omega) ((H.lend (M1 := [(sb, .cells #[.I s4] 3 (0, 0))]) (W1 := [⟨Shape.int .u64, 44, .slice (some ⟨pb, 0, none⟩) z q, d.toList⟩])).pick [] rfl) (by omega) (by omega)) ?_
 rintro _ w7 ⟨x8, y9, s10, rfl, hx11, hs12, H'⟩
 have H := H.back (M1 := [(sb, .cells #[.I s4] 3 (0, 0))]) (W1 := [⟨Shape.int .u64, 44, .slice (some ⟨pb, 0, none⟩) z q, d.toList⟩]) H'
 have H : Hp w S O [(sb, .cells #[.I s10] 3 (0, 0))] [⟨Shape.int .u64, 44, .slice (some ⟨pb, 0, none⟩) z q, d.toList⟩] [] _ := H
 refine qF 5 [(0, .slice (some ⟨pb, 0, none⟩) z q), (1, .I x2), (2, .I x8), (4, .P sb 0)] ?_
 refine qR 1 [.c [3, 0], .c [4]] [(0, .slice (some ⟨pb, 0, none⟩) z q), (1, .I x2), (2, .I x8), (4, .P sb 0)] ?_
 refine qG (sq 0 10) ?_
 refine qP 4 (sq 4 10) [(2, .I x8), (28, .slice (some ⟨pb, 0, none⟩) z q), (29, .I x2), (30, .I x8), (31, .P sb 0)] ?_
 refine RW.callS (d := some 32) (r := (sq 5 10)) (g := 74) (args := #[.slice (some ⟨pb, 0, none⟩) z q, .I x2, .I x8, .P sb 0]) (by as_aux_lemma => kernel_rfl) (uord_spec (d := d) (pb := pb) (sb := sb) (s := s10) (a := x2) (aI := (x2 : Int)) (b := x8) (bI := (x8 : Int)) (by omega) (by omega) (by omega) (by omega) (by omega) ((H.lend (M1 := [(sb, .cells #[.I s10] 3 (0, 0))]) (W1 := [⟨Shape.int .u64, 44, .slice (some ⟨pb, 0, none⟩) z q, d.toList⟩])).pick [] rfl) (by omega) (by omega)) ?_
 rintro _ w13 ⟨x14, y15, s16, rfl, hx17, hs18, H'⟩
 have H := H.back (M1 := [(sb, .cells #[.I s10] 3 (0, 0))]) (W1 := [⟨Shape.int .u64, 44, .slice (some ⟨pb, 0, none⟩) z q, d.toList⟩]) H'
 have H : Hp w S O [(sb, .cells #[.I s16] 3 (0, 0))] [⟨Shape.int .u64, 44, .slice (some ⟨pb, 0, none⟩) z q, d.toList⟩] [] _ := H
 refine qF 5 [(2, .I y15)] ?_
 refine qR 2 [.c [5]] [(10, .I y15)] ?_
 refine qT (.I y15) Try.func68 ?_
 exact ⟨_, rfl, y15, _, rfl, by omega, by omega, H.pick [] rfl⟩
theorem umedadj_spec {S : Nat → Prop} {w : World} {O : List Nat} {d : Array Int} {pb z q sb : Nat} {s : Int} {a : Nat} {aI : Int} (haI : aI = (a : Int)) (ha1 : 1 ≤ a) (ha : a + 1 < z) (hs : 0 ≤ s ∧ s ≤ 1000) (H0 : Hp w S O [(sb, .cells #[.I s] 3 (0, 0))] [⟨Shape.int .u64, 44, .slice (some ⟨pb, 0, none⟩) z q, d.toList⟩] [] w) (hz : d.size = z) (hle : z ≤ 1048576) :
 Calls Try.prog 67 #[.slice (some ⟨pb, 0, none⟩) z q, .I aI, .P sb 0] w (Ret fun v w' => ∃ (x : Nat) (s' : Int), v = .I ((x : Nat) : Int) ∧ (a - 1 ≤ x ∧ x ≤ a + 1) ∧ (s ≤ s' ∧ s' ≤ s + 3) ∧ Hp w S O [(sb, .cells #[.I s'] 3 (0, 0))] [⟨Shape.int .u64, 44, .slice (some ⟨pb, 0, none⟩) z q, d.toList⟩] [] w') := by
 subst haI
 refine qS (fn := Try.f67) (n := 15) (σ := [(0, .slice (some ⟨pb, 0, none⟩) z q), (1, .I a), (2, .P sb 0)]) Try.func67 ?_
 have H := H0
 refine qR 3 [.c [1, 0], .c [2]] [(0, .slice (some ⟨pb, 0, none⟩) z q), (1, .I a), (2, .P sb 0)] ?_
 refine qG (sq 0 9) ?_
 refine qP 2 (sq 2 9) [(1, .I a), (2, .P sb 0), (7, .slice (some ⟨pb, 0, none⟩) z q), (8, .I a)] ?_
 refine qI .seq 9 (sq 3 9) ((a : Int) - 1) ?_
 refine qP 2 (sq 5 9) [(2, .P sb 0), (7, .slice (some ⟨pb, 0, none⟩) z q), (9, .I ((a : Int) - 1)), (10, .I a), (11, .I a)] ?_
 refine qI .seq 12 (sq 6 9) ((a : Int) + 1) ?_
 refine qP 1 (sq 7 9) [(7, .slice (some ⟨pb, 0, none⟩) z q), (9, .I ((a : Int) - 1)), (10, .I a), (12, .I ((a : Int) + 1)), (13, .P sb 0)] ?_
 refine RW.callS (d := some 14) (r := (sq 8 9)) (g := 68) (args := #[.slice (some ⟨pb, 0, none⟩) z q, .I ((a : Int) - 1), .I a, .I ((a : Int) + 1), .P sb 0]) (by as_aux_lemma => kernel_rfl) (umed_spec (d := d) (pb := pb) (sb := sb) (s := s) (a := (a - 1)) (aI := (a : Int) - 1) (b := a) (bI := (a : Int)) (c := a + 1) (cI := (a : Int) + 1) (by omega) (by omega) (by omega) (by omega) (by omega) (by omega) (by omega) ((H.lend (M1 := [(sb, .cells #[.I s] 3 (0, 0))]) (W1 := [⟨Shape.int .u64, 44, .slice (some ⟨pb, 0, none⟩) z q, d.toList⟩])).pick [] rfl) (by omega) (by omega)) ?_
 rintro _ w1 ⟨x2, s4, rfl, hx5, hs6, H'⟩
 have H := H.back (M1 := [(sb, .cells #[.I s] 3 (0, 0))]) (W1 := [⟨Shape.int .u64, 44, .slice (some ⟨pb, 0, none⟩) z q, d.toList⟩]) H'
 have H : Hp w S O [(sb, .cells #[.I s4] 3 (0, 0))] [⟨Shape.int .u64, 44, .slice (some ⟨pb, 0, none⟩) z q, d.toList⟩] [] _ := H
 refine qF 1 [(6, .I x2)] ?_
 refine qT (.I x2) Try.func67 ?_
 exact ⟨_, rfl, x2, _, rfl, by omega, by omega, H.pick [] rfl⟩
theorem upiv_spec {S : Nat → Prop} {w : World} {O : List Nat} {d : Array Int} {pb z q : Nat} {a b : Nat} {aI bI : Int} (haI : aI = (a : Int)) (hbI : bI = (b : Int)) (hab : a + 12 < b) (hb : b ≤ d.size) (H0 : Hp w S O [] [⟨Shape.int .u64, 44, .slice (some ⟨pb, 0, none⟩) z q, d.toList⟩] [] w) (hz : d.size = z) (hle : z ≤ 1048576) :
 Calls Try.prog 52 #[.slice (some ⟨pb, 0, none⟩) z q, .I aI, .I bI] w (Ret fun v w' => ∃ (x : Nat) (h : Int), v = .tuple #[.I ((x : Nat) : Int), .I h] ∧ (a ≤ x ∧ x < b) ∧ (h = 0 ∨ h = 1 ∨ h = 2) ∧ Hp w S O [] [⟨Shape.int .u64, 44, .slice (some ⟨pb, 0, none⟩) z q, d.toList⟩] [] w') := by
 subst haI
 subst hbI
 refine qS (fn := Try.f52) (n := 57) (σ := [(0, .slice (some ⟨pb, 0, none⟩) z q), (1, .I a), (2, .I b)]) Try.func52 ?_
 have H := H0
 refine qR 3 [.c [1, 0], .c [2]] [(0, .slice (some ⟨pb, 0, none⟩) z q), (1, .I a), (2, .I b)] ?_
 refine qG (sq 0 4) ?_
 refine qP 2 (sq 2 4) [(0, .slice (some ⟨pb, 0, none⟩) z q), (1, .I a), (13, .I b), (14, .I a)] ?_
 refine qI .seq 15 (sq 3 4) ((b : Int) - (a : Int)) ?_
 refine qF 1 [(0, .slice (some ⟨pb, 0, none⟩) z q), (1, .I a), (8, .I ((b : Int) - (a : Int)))] ?_
 refine qR 1 [.c [2, 0], .c [3]] [(0, .slice (some ⟨pb, 0, none⟩) z q), (1, .I a), (8, .I ((b : Int) - (a : Int)))] ?_
 refine qG (sq 0 1) ?_
 refine qB .seq 9 (sq 1 1) #[.I 0] 3 H ?_
 intro b1 w2 H
 refine qF 0 [(0, .slice (some ⟨pb, 0, none⟩) z q), (1, .I a), (8, .I ((b : Int) - (a : Int))), (9, .P b1 0)] ?_
 refine qR 1 [.c [3, 0], .c [4]] [(0, .slice (some ⟨pb, 0, none⟩) z q), (1, .I a), (8, .I ((b : Int) - (a : Int))), (9, .P b1 0)] ?_
 refine qG (sq 0 6) ?_
 refine qP 2 (sq 2 6) [(0, .slice (some ⟨pb, 0, none⟩) z q), (1, .I a), (8, .I ((b : Int) - (a : Int))), (9, .P b1 0), (16, .I a), (17, .I ((b : Int) - (a : Int)))] ?_
 refine RW.pv (κ := .seq) (d := some 18) (r := (sq 3 6)) (v := .I (IntKind.i64.wrap (((b : Int) - (a : Int)).tdiv 4))) (v' := .I (((b : Int) - (a : Int)) / 4)) (by as_aux_lemma => kernel_rfl) (quo_i64 (by decide) (by omega)) ?_
 refine qI .seq 19 (sq 4 6) ((((b : Int) - (a : Int)) / 4) * 1) ?_
 refine qI .seq 20 (sq 5 6) ((a : Int) + ((((b : Int) - (a : Int)) / 4) * 1)) ?_
 refine qF 1 [(0, .slice (some ⟨pb, 0, none⟩) z q), (1, .I a), (8, .I ((b : Int) - (a : Int))), (9, .P b1 0), (10, .I ((a : Int) + ((((b : Int) - (a : Int)) / 4) * 1)))] ?_
 refine qR 1 [.c [4, 0], .c [5]] [(0, .slice (some ⟨pb, 0, none⟩) z q), (1, .I a), (8, .I ((b : Int) - (a : Int))), (9, .P b1 0), (10, .I ((a : Int) + ((((b : Int) - (a : Int)) / 4) * 1)))] ?_
 refine qG (sq 0 6) ?_
 refine qP 2 (sq 2 6) [(0, .slice (some ⟨pb, 0, none⟩) z q), (1, .I a), (8, .I ((b : Int) - (a : Int))), (9, .P b1 0), (10, .I ((a : Int) + ((((b : Int) - (a : Int)) / 4) * 1))), (21, .I a), (22, .I ((b : Int) - (a : Int)))] ?_
 refine RW.pv (κ := .seq) (d := some 23) (r := (sq 3 6)) (v := .I (IntKind.i64.wrap (((b : Int) - (a : Int)).tdiv 4))) (v' := .I (((b : Int) - (a : Int)) / 4)) (by as_aux_lemma => kernel_rfl) (quo_i64 (by decide) (by omega)) ?_
 refine qI .seq 24 (sq 4 6) ((((b : Int) - (a : Int)) / 4) * 2) ?_
 refine qI .seq 25 (sq 5 6) ((a : Int) + ((((b : Int) - (a : Int)) / 4) * 2)) ?_
 refine qF 1 [(0, .slice (some ⟨pb, 0, none⟩) z q), (1, .I a), (8, .I ((b : Int) - (a : Int))), (9, .P b1 0), (10, .I ((a : Int) + ((((b : Int) - (a : Int)) / 4) * 1))), (11, .I ((a : Int) + ((((b : Int) - (a : Int)) / 4) * 2)))] ?_
 refine qR 1 [.c [5, 0], .c [6]] [(0, .slice (some ⟨pb, 0, none⟩) z q), (1, .I a), (8, .I ((b : Int) - (a : Int))), (9, .P b1 0), (10, .I ((a : Int) + ((((b : Int) - (a : Int)) / 4) * 1))), (11, .I ((a : Int) + ((((b : Int) - (a : Int)) / 4) * 2)))] ?_
 refine qG (sq 0 6) ?_
 refine qP 2 (sq 2 6) [(0, .slice (some ⟨pb, 0, none⟩) z q), (8, .I ((b : Int) - (a : Int))), (9, .P b1 0), (10, .I ((a : Int) + ((((b : Int) - (a : Int)) / 4) * 1))), (11, .I ((a : Int) + ((((b : Int) - (a : Int)) / 4) * 2))), (26, .I a), (27, .I ((b : Int) - (a : Int)))] ?_
 refine RW.pv (κ := .seq) (d := some 28) (r := (sq 3 6)) (v := .I (IntKind.i64.wrap (((b : Int) - (a : Int)).tdiv 4))) (v' := .I (((b : Int) - (a : Int)) / 4)) (by as_aux_lemma => kernel_rfl) (quo_i64 (by decide) (by omega)) ?_
 refine qI .seq 29 (sq 4 6) ((((b : Int) - (a : Int)) / 4) * 3) ?_
 refine qI .seq 30 (sq 5 6) ((a : Int) + ((((b : Int) - (a : Int)) / 4) * 3)) ?_
 refine qF 1 [(0, .slice (some ⟨pb, 0, none⟩) z q), (8, .I ((b : Int) - (a : Int))), (9, .P b1 0), (10, .I ((a : Int) + ((((b : Int) - (a : Int)) / 4) * 1))), (11, .I ((a : Int) + ((((b : Int) - (a : Int)) / 4) * 2))), (12, .I ((a : Int) + ((((b : Int) - (a : Int)) / 4) * 3)))] ?_
 refine qR 3 [.c [6, 0, 1], .c [7]] [(0, .slice (some ⟨pb, 0, none⟩) z q), (8, .I ((b : Int) - (a : Int))), (9, .P b1 0), (10, .I ((a : Int) + ((((b : Int) - (a : Int)) / 4) * 1))), (11, .I ((a : Int) + ((((b : Int) - (a : Int)) / 4) * 2))), (12, .I ((a : Int) + ((((b : Int) - (a : Int)) / 4) * 3))), (32, .bool (decide (((b : Int) - (a : Int) : Int) ≥ 8)))] ?_
 refine qD (((b : Int) - (a : Int) : Int) ≥ 8) (fun h3 => ?_) (fun h3 => ?_)
 ·
  refine qR 3 [.c [6, 0, 1, 0, 0, 1], .c [6, 0, 1, 0, 1], .c [7]] [(0, .slice (some ⟨pb, 0, none⟩) z q), (9, .P b1 0), (10, .I ((a : Int) + ((((b : Int) - (a : Int)) / 4) * 1))), (11, .I ((a : Int) + ((((b : Int) - (a : Int)) / 4) * 2))), (12, .I ((a : Int) + ((((b : Int) - (a : Int)) / 4) * 3))), (34, .bool (decide (((b : Int) - (a : Int) : Int) ≥ 50)))] ?_
  refine qD (((b : Int) - (a : Int) : Int) ≥ 50) (fun h4 => ?_) (fun h4 => ?_)
  ·
   refine qR 1 [.c [6, 0, 1, 0, 0, 1, 0, 0], .c [6, 0, 1, 0, 0, 1, 0, 1], .c [6, 0, 1, 0, 1], .c [7]] [(0, .slice (some ⟨pb, 0, none⟩) z q), (9, .P b1 0), (10, .I ((a : Int) + ((((b : Int) - (a : Int)) / 4) * 1))), (11, .I ((a : Int) + ((((b : Int) - (a : Int)) / 4) * 2))), (12, .I ((a : Int) + ((((b : Int) - (a : Int)) / 4) * 3)))] ?_
   refine qG (sq 0 4) ?_
   refine qP 2 (sq 2 4) [(0, .slice (some ⟨pb, 0, none⟩) z q), (9, .P b1 0), (10, .I ((a : Int) + ((((b : Int) - (a : Int)) / 4) * 1))), (11, .I ((a : Int) + ((((b : Int) - (a : Int)) / 4) * 2))), (12, .I ((a : Int) + ((((b : Int) - (a : Int)) / 4) * 3))), (35, .slice (some ⟨pb, 0, none⟩) z q), (36, .I ((a : Int) + ((((b : Int) - (a : Int)) / 4) * 1)))] ?_
   refine RW.callS (d := some 37) (r := (sq 3 4)) (g := 67) (args := #[.slice (some ⟨pb, 0, none⟩) z q, .I ((a : Int) + ((((b : Int) - (a : Int)) / 4) * 1)), .P b1 0]) (by as_aux_lemma => kernel_rfl) (umedadj_spec (d := d) (pb := pb) (sb := b1) (s := 0) (a := (((a : Int) + ((((b : Int) - (a : Int)) / 4) * 1)).toNat)) (aI := (a : Int) + ((((b : Int) - (a : Int)) / 4) * 1)) (by omega) (by omega) (by omega) (by omega) ((H.lend (M1 := [(b1, .cells #[.I 0] 3 (0, 0))]) (W1 := [⟨Shape.int .u64, 44, .slice (some ⟨pb, 0, none⟩) z q, d.toList⟩])).pick [] rfl) (by omega) (by omega)) ?_
   rintro _ w5 ⟨x6, s8, rfl, hx9, hs10, H'⟩
   have H := H.back (M1 := [(b1, .cells #[.I 0] 3 (0, 0))]) (W1 := [⟨Shape.int .u64, 44, .slice (some ⟨pb, 0, none⟩) z q, d.toList⟩]) H'
   have H : Hp w S O [(b1, .cells #[.I s8] 3 (0, 0))] [⟨Shape.int .u64, 44, .slice (some ⟨pb, 0, none⟩) z q, d.toList⟩] [] _ := H
   refine qF 1 [(0, .slice (some ⟨pb, 0, none⟩) z q), (9, .P b1 0), (10, .I x6), (11, .I ((a : Int) + ((((b : Int) - (a : Int)) / 4) * 2))), (12, .I ((a : Int) + ((((b : Int) - (a : Int)) / 4) * 3)))] ?_
   refine qR 1 [.c [6, 0, 1, 0, 0, 1, 0, 1, 0], .c [6, 0, 1, 0, 0, 1, 0, 2], .c [6, 0, 1, 0, 1], .c [7]] [(0, .slice (some ⟨pb, 0, none⟩) z q), (9, .P b1 0), (10, .I x6), (11, .I ((a : Int) + ((((b : Int) - (a : Int)) / 4) * 2))), (12, .I ((a : Int) + ((((b : Int) - (a : Int)) / 4) * 3)))] ?_
   refine qG (sq 0 4) ?_
   refine qP 2 (sq 2 4) [(0, .slice (some ⟨pb, 0, none⟩) z q), (9, .P b1 0), (10, .I x6), (11, .I ((a : Int) + ((((b : Int) - (a : Int)) / 4) * 2))), (12, .I ((a : Int) + ((((b : Int) - (a : Int)) / 4) * 3))), (38, .slice (some ⟨pb, 0, none⟩) z q), (39, .I ((a : Int) + ((((b : Int) - (a : Int)) / 4) * 2)))] ?_
   refine RW.callS (d := some 40) (r := (sq 3 4)) (g := 67) (args := #[.slice (some ⟨pb, 0, none⟩) z q, .I ((a : Int) + ((((b : Int) - (a : Int)) / 4) * 2)), .P b1 0]) (by as_aux_lemma => kernel_rfl) (umedadj_spec (d := d) (pb := pb) (sb := b1) (s := s8) (a := (((a : Int) + ((((b : Int) - (a : Int)) / 4) * 2)).toNat)) (aI := (a : Int) + ((((b : Int) - (a : Int)) / 4) * 2)) (by omega) (by omega) (by omega) (by omega) ((H.lend (M1 := [(b1, .cells #[.I s8] 3 (0, 0))]) (W1 := [⟨Shape.int .u64, 44, .slice (some ⟨pb, 0, none⟩) z q, d.toList⟩])).pick [] rfl) (by omega) (by omega)) ?_
   rintro _ w11 ⟨x12, s14, rfl, hx15, hs16, H'⟩
   have H := H.back (M1 := [(b1, .cells #[.I s8] 3 (0, 0))]) (W1 := [⟨Shape.int .u64, 44, .slice (some ⟨pb, 0, none⟩) z q, d.toList⟩]) H'
   have H : Hp w S O [(b1, .cells #[.I s14] 3 (0, 0))] [⟨Shape.int .u64, 44, .slice (some ⟨pb, 0, none⟩) z q, d.toList⟩] [] _ := H
   refine qF 1 [(0, .slice (some ⟨pb, 0, none⟩) z q), (9, .P b1 0), (10, .I x6), (11, .I x12), (12, .I ((a : Int) + ((((b : Int) - (a : Int)) / 4) * 3)))] ?_
   refine qG (sq 0 4) ?_
   refine qP 2 (sq 2 4) [(0, .slice (some ⟨pb, 0, none⟩) z q), (9, .P b1 0), (10, .I x6), (11, .I x12), (12, .I ((a : Int) + ((((b : Int) - (a : Int)) / 4) * 3))), (41, .slice (some ⟨pb, 0, none⟩) z q), (42, .I ((a : Int) + ((((b : Int) - (a : Int)) / 4) * 3)))] ?_
   refine RW.callS (d := some 43) (r := (sq 3 4)) (g := 67) (args := #[.slice (some ⟨pb, 0, none⟩) z q, .I ((a : Int) + ((((b : Int) - (a : Int)) / 4) * 3)), .P b1 0]) (by as_aux_lemma => kernel_rfl) (umedadj_spec (d := d) (pb := pb) (sb := b1) (s := s14) (a := (((a : Int) + ((((b : Int) - (a : Int)) / 4) * 3)).toNat)) (aI := (a : Int) + ((((b : Int) - (a : Int)) / 4) * 3)) (by omega) (by omega) (by omega) (by omega) ((H.lend (M1 := [(b1, .cells #[.I s14] 3 (0, 0))]) (W1 := [⟨Shape.int .u64, 44, .slice (some ⟨pb, 0, none⟩) z q, d.toList⟩])).pick [] rfl) (by omega) (by omega)) ?_
   rintro _ w17 ⟨x18, s20, rfl, hx21, hs22, H'⟩
   have H := H.back (M1 := [(b1, .cells #[.I s14] 3 (0, 0))]) (W1 := [⟨Shape.int .u64, 44, .slice (some ⟨pb, 0, none⟩) z q, d.toList⟩]) H'
   have H : Hp w S O [(b1, .cells #[.I s20] 3 (0, 0))] [⟨Shape.int .u64, 44, .slice (some ⟨pb, 0, none⟩) z q, d.toList⟩] [] _ := H
   refine qF 1 [(0, .slice (some ⟨pb, 0, none⟩) z q), (9, .P b1 0), (10, .I x6), (11, .I x12), (12, .I x18)] ?_
   refine qG (sq 0 6) ?_
   refine qP 4 (sq 4 6) [(9, .P b1 0), (11, .I x12), (44, .slice (some ⟨pb, 0, none⟩) z q), (45, .I x6), (46, .I x12), (47, .I x18)] ?_
   refine RW.callS (d := some 48) (r := (sq 5 6)) (g := 68) (args := #[.slice (some ⟨pb, 0, none⟩) z q, .I x6, .I x12, .I x18, .P b1 0]) (by as_aux_lemma => kernel_rfl) (umed_spec (d := d) (pb := pb) (sb := b1) (s := s20) (a := x6) (aI := (x6 : Int)) (b := x12) (bI := (x12 : Int)) (c := x18) (cI := (x18 : Int)) (by omega) (by omega) (by omega) (by omega) (by omega) (by omega) (by omega) ((H.lend (M1 := [(b1, .cells #[.I s20] 3 (0, 0))]) (W1 := [⟨Shape.int .u64, 44, .slice (some ⟨pb, 0, none⟩) z q, d.toList⟩])).pick [] rfl) (by omega) (by omega)) ?_
   rintro _ w23 ⟨x24, s26, rfl, hx27, hs28, H'⟩
   have H := H.back (M1 := [(b1, .cells #[.I s20] 3 (0, 0))]) (W1 := [⟨Shape.int .u64, 44, .slice (some ⟨pb, 0, none⟩) z q, d.toList⟩]) H'
   have H : Hp w S O [(b1, .cells #[.I s26] 3 (0, 0))] [⟨Shape.int .u64, 44, .slice (some ⟨pb, 0, none⟩) z q, d.toList⟩] [] _ := H
   refine qF 1 [(9, .P b1 0), (11, .I x24)] ?_
   refine qR 1 [.c [7, 0], .c [8]] [(9, .P b1 0), (11, .I x24)] ?_
   refine qG (sq 0 1) ?_
   refine qL .seq 49 (sq 1 1) 3 b1 0 0 (.I s26) (H.cells 0 rfl) ?_
   refine qF 0 [(11, .I x24), (49, .I s26)] ?_
   refine qR 3 [.c [8, 0, 1], .b 0] [(11, .I x24), (49, .I s26), (51, .bool (s26 == 0))] ?_
   refine qE s26 0 (fun h29 => ?_) (fun h29 => ?_)
   ·
    refine qR 2 [.c [8, 0, 1, 0, 1], .b 0] [(6, .I x24), (7, .I 1)] ?_
    refine qT (.tuple #[.I x24, .I 1]) Try.func52 ?_
    have H := H.drop (M' := []) (W' := [_]) (List.nil_sublist _) (List.Sublist.refl _)
    exact ⟨_, rfl, x24, _, rfl, by omega, by omega, H.pick [] rfl⟩
   ·
    refine qR 2 [.c [8, 0, 1, 1, 1], .b 0] [(11, .I x24), (54, .bool (s26 == 12))] ?_
    refine qE s26 12 (fun h30 => ?_) (fun h30 => ?_)
    ·
     refine qR 2 [.c [8, 0, 1, 1, 1, 0, 1], .b 0] [(6, .I x24), (7, .I 2)] ?_
     refine qT (.tuple #[.I x24, .I 2]) Try.func52 ?_
     have H := H.drop (M' := []) (W' := [_]) (List.nil_sublist _) (List.Sublist.refl _)
     exact ⟨_, rfl, x24, _, rfl, by omega, by omega, H.pick [] rfl⟩
    ·
     refine qR 2 [.c [8, 0, 1, 1, 1, 1, 1], .b 0] [(6, .I x24), (7, .I 0)] ?_
     refine qT (.tuple #[.I x24, .I 0]) Try.func52 ?_
     have H := H.drop (M' := []) (W' := [_]) (List.nil_sublist _) (List.Sublist.refl _)
     exact ⟨_, rfl, x24, _, rfl, by omega, by omega, H.pick [] rfl⟩
  ·
   refine qR 1 [.c [6, 0, 1, 0, 1], .c [7]] [(0, .slice (some ⟨pb, 0, none⟩) z q), (9, .P b1 0), (10, .I ((a : Int) + ((((b : Int) - (a : Int)) / 4) * 1))), (11, .I ((a : Int) + ((((b : Int) - (a : Int)) / 4) * 2))), (12, .I ((a : Int) + ((((b : Int) - (a : Int)) / 4) * 3)))] ?_
   refine qG (sq 0 6) ?_
   refine qP 4 (sq 4 6) [(9, .P b1 0), (11, .I ((a : Int) + ((((b : Int) - (a : Int)) / 4) * 2))), (44, .slice (some ⟨pb, 0, none⟩) z q), (45, .I ((a : Int) + ((((b : Int) - (a : Int)) / 4) * 1))), (46, .I ((a : Int) + ((((b : Int) - (a : Int)) / 4) * 2))), (47, .I ((a : Int) + ((((b : Int) - (a : Int)) / 4) * 3)))] ?_
   refine RW.callS (d := some 48) (r := (sq 5 6)) (g := 68) (args := #[.slice (some ⟨pb, 0, none⟩) z q, .I ((a : Int) + ((((b : Int) - (a : Int)) / 4) * 1)), .I ((a : Int) + ((((b : Int) - (a : Int)) / 4) * 2)), .I ((a : Int) + ((((b : Int) - (a : Int)) / 4) * 3)), .P b1 0]) (by as_aux_lemma => kernel_rfl) (umed_spec (d := d) (pb := pb) (sb := b1) (s := 0) (a := (((a : Int) + ((((b : Int) - (a : Int)) / 4) * 1)).toNat)) (aI := (a : Int) + ((((b : Int) - (a : Int)) / 4) * 1)) (b := (((a : Int) + ((((b : Int) - (a : Int)) / 4) * 2)).toNat)) (bI := (a : Int) + ((((b : Int) - (a : Int)) / 4) * 2)) (c := (((a : Int) + ((((b : Int) - (a : Int)) / 4) * 3)).toNat)) (cI := (a : Int) + ((((b : Int) - (a : Int)) / 4) * 3)) (by omega) (by omega) (by omega) (by omega) (by omega) (by omega) (by omega) ((H.lend (M1 := [(b1, .cells #[.I 0] 3 (0, 0))]) (W1 := [⟨Shape.int .u64, 44, .slice (some ⟨pb, 0, none⟩) z q, d.toList⟩])).pick [] rfl) (by omega) (by omega)) ?_
   rintro _ w31 ⟨x32, s34, rfl, hx35, hs36, H'⟩
   have H := H.back (M1 := [(b1, .cells #[.I 0] 3 (0, 0))]) (W1 := [⟨Shape.int .u64, 44, .slice (some ⟨pb, 0, none⟩) z q, d.toList⟩]) H'
   have H : Hp w S O [(b1, .cells #[.I s34] 3 (0, 0))] [⟨Shape.int .u64, 44, .slice (some ⟨pb, 0, none⟩) z q, d.toList⟩] [] _ := H
   refine qF 1 [(9, .P b1 0), (11, .I x32)] ?_
   refine qR 1 [.c [7, 0], .c [8]] [(9, .P b1 0), (11, .I x32)] ?_
   refine qG (sq 0 1) ?_
   refine qL .seq 49 (sq 1 1) 3 b1 0 0 (.I s34) (H.cells 0 rfl) ?_
   refine qF 0 [(11, .I x32), (49, .I s34)] ?_
   refine qR 3 [.c [8, 0, 1], .b 0] [(11, .I x32), (49, .I s34), (51, .bool (s34 == 0))] ?_
   refine qE s34 0 (fun h37 => ?_) (fun h37 => ?_)
   ·
    refine qR 2 [.c [8, 0, 1, 0, 1], .b 0] [(6, .I x32), (7, .I 1)] ?_
    refine qT (.tuple #[.I x32, .I 1]) Try.func52 ?_
    have H := H.drop (M' := []) (W' := [_]) (List.nil_sublist _) (List.Sublist.refl _)
    exact ⟨_, rfl, x32, _, rfl, by omega, by omega, H.pick [] rfl⟩
   ·
    refine qR 2 [.c [8, 0, 1, 1, 1], .b 0] [(11, .I x32), (54, .bool (s34 == 12))] ?_
    refine qE s34 12 (fun h38 => ?_) (fun h38 => ?_)
    ·
     refine qR 2 [.c [8, 0, 1, 1, 1, 0, 1], .b 0] [(6, .I x32), (7, .I 2)] ?_
     refine qT (.tuple #[.I x32, .I 2]) Try.func52 ?_
     have H := H.drop (M' := []) (W' := [_]) (List.nil_sublist _) (List.Sublist.refl _)
     exact ⟨_, rfl, x32, _, rfl, by omega, by omega, H.pick [] rfl⟩
    ·
     refine qR 2 [.c [8, 0, 1, 1, 1, 1, 1], .b 0] [(6, .I x32), (7, .I 0)] ?_
     refine qT (.tuple #[.I x32, .I 0]) Try.func52 ?_
     have H := H.drop (M' := []) (W' := [_]) (List.nil_sublist _) (List.Sublist.refl _)
     exact ⟨_, rfl, x32, _, rfl, by omega, by omega, H.pick [] rfl⟩
 ·
  omega
end Go.Proofs.Ythbegjaoifghlaa
