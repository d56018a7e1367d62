import Derived.Test.YthbegjaoifghlaaSU9
namespace Go.Proofs.Ythbegjaoifghlaa
open Go.BX
open Go.Sort (swp insInner insOuter insertionSort ltInt siftDown heapBuild heapPop heapSort reverseLoop reverseRange scanUp scanDown partLoop partition partEqLoop partitionEqual scanSorted shiftDown shiftUp partialIns partialInsertionSort)
open Go.Sort (bitsLen PermIn SortedIn Below)
set_option maxHeartbeats 4000000 in
theorem ubrk_spec {S : Nat → Prop} {w : World} {O : List Nat} {d : Array Int} {pb z q : Nat} {a b : Nat} {aI bI : Int} (haI : aI = (a : Int)) (hbI : bI = (b : Int)) (hab : a + 12 < b) (hb : b ≤ d.size) (H0 : Hp w S O [] [⟨Shape.int .u64, 44, .slice (some ⟨pb, 0, none⟩) z q, d.toList⟩] [] w) (hz : d.size = z) (hle : z ≤ 1048576) :
 Calls Try.prog 51 #[.slice (some ⟨pb, 0, none⟩) z q, .I aI, .I bI] w (Ret fun v w' => ∃ e : Array Int, v = .tuple #[] ∧ PermIn a b d e ∧ Hp w S O [] [⟨Shape.int .u64, 44, .slice (some ⟨pb, 0, none⟩) z q, e.toList⟩] [] w') := by
 subst haI
 subst hbI
 refine qS (fn := Try.f51) (n := 65) (σ := [(0, .slice (some ⟨pb, 0, none⟩) z q), (1, .I a), (2, .I b)]) Try.func51 ?_
 have H := H0
 refine qR 1 [.c [0], .c [1]] [(0, .slice (some ⟨pb, 0, none⟩) z q), (1, .I a), (2, .I b)] ?_
 refine qG (sq 0 4) ?_
 refine qP 2 (sq 2 4) [(0, .slice (some ⟨pb, 0, none⟩) z q), (1, .I a), (11, .I b), (12, .I a)] ?_
 refine qI .seq 13 (sq 3 4) ((b : Int) - (a : Int)) ?_
 refine qF 1 [(0, .slice (some ⟨pb, 0, none⟩) z q), (1, .I a), (6, .I ((b : Int) - (a : Int)))] ?_
 refine qR 2 [.c [2]] [(0, .slice (some ⟨pb, 0, none⟩) z q), (1, .I a), (6, .I ((b : Int) - (a : Int))), (15, .bool (decide (((b : Int) - (a : Int) : Int) ≥ 8)))] ?_
 refine qD (((b : Int) - (a : Int) : Int) ≥ 8) (fun h1 => ?_) (fun h1 => ?_)
 ·
  refine qR 1 [.c [2, 0, 0], .c [2, 0, 1]] [(0, .slice (some ⟨pb, 0, none⟩) z q), (1, .I a), (6, .I ((b : Int) - (a : Int)))] ?_
  refine qG (sq 0 4) ?_
  refine qP 1 (sq 1 4) [(0, .slice (some ⟨pb, 0, none⟩) z q), (1, .I a), (6, .I ((b : Int) - (a : Int))), (16, .I ((b : Int) - (a : Int)))] ?_
  refine RW.pv (κ := .seq) (d := some 17) (r := (sq 2 4)) (v' := .int .u64 (((BitVec.ofNat 64 (b - a)).toNat : Nat) : Int)) (v := .int .u64 (IntKind.u64.wrap ((b : Int) - (a : Int)))) (by as_aux_lemma => kernel_rfl) (wr_bvn (by omega) (by omega)) ?_
  refine qB .seq 7 (sq 3 4) #[.int .u64 0] 91 H ?_
  intro b2 w3 H
  refine qW 91 b2 0 (sq 4 4) (.int .u64 (((BitVec.ofNat 64 (b - a)).toNat : Nat) : Int)) [(b2, .cells #[.int .u64 (((BitVec.ofNat 64 (b - a)).toNat : Nat) : Int)] 91 (0, 0))] H 0 rfl rfl ?_
  intro w4 H
  refine qF 0 [(0, .slice (some ⟨pb, 0, none⟩) z q), (1, .I a), (6, .I ((b : Int) - (a : Int))), (7, .P b2 0)] ?_
  refine qR 1 [.c [2, 0, 1, 0], .c [2, 0, 2]] [(0, .slice (some ⟨pb, 0, none⟩) z q), (1, .I a), (6, .I ((b : Int) - (a : Int))), (7, .P b2 0)] ?_
  refine qG (sq 0 3) ?_
  refine qP 1 (sq 1 3) [(0, .slice (some ⟨pb, 0, none⟩) z q), (1, .I a), (6, .I ((b : Int) - (a : Int))), (7, .P b2 0), (18, .I ((b : Int) - (a : Int)))] ?_
  refine RW.callS (d := some 19) (r := (sq 2 3)) (g := 65) (args := #[.I ((b : Int) - (a : Int))]) (by as_aux_lemma => kernel_rfl) (unext_spec (S := fun _ => True) (n := (b - a)) (by omega) (by omega) (by omega)) ?_
  rintro _ w5 ⟨hE8, m6, rfl, hm7⟩
  have H := H.ext hE8
  refine qF 1 [(0, .slice (some ⟨pb, 0, none⟩) z q), (1, .I a), (6, .I ((b : Int) - (a : Int))), (7, .P b2 0), (8, .int .u64 (m6 : Int))] ?_
  refine qR 1 [.c [2, 0, 2, 0], .c [2, 0, 3]] [(0, .slice (some ⟨pb, 0, none⟩) z q), (1, .I a), (6, .I ((b : Int) - (a : Int))), (7, .P b2 0), (8, .int .u64 (m6 : Int))] ?_
  refine qG (sq 0 7) ?_
  refine qP 2 (sq 2 7) [(0, .slice (some ⟨pb, 0, none⟩) z q), (1, .I a), (6, .I ((b : Int) - (a : Int))), (7, .P b2 0), (8, .int .u64 (m6 : Int)), (20, .I a), (21, .I ((b : Int) - (a : Int)))] ?_
  refine RW.pv (κ := .seq) (d := some 22) (r := (sq 3 7)) (v := .I (IntKind.i64.wrap (((b : Int) - (a : Int)).tdiv 4))) (v' := .I (((b : Int) - (a : Int)) / 4)) (by as_aux_lemma => kernel_rfl) (quo_i64 (by decide) (by omega)) ?_
  refine qI .seq 23 (sq 4 7) ((((b : Int) - (a : Int)) / 4) * 2) ?_
  refine qI .seq 24 (sq 5 7) ((a : Int) + ((((b : Int) - (a : Int)) / 4) * 2)) ?_
  refine qI .seq 25 (sq 6 7) (((a : Int) + ((((b : Int) - (a : Int)) / 4) * 2)) - 1) ?_
  refine qF 1 [(0, .slice (some ⟨pb, 0, none⟩) z q), (1, .I a), (6, .I ((b : Int) - (a : Int))), (7, .P b2 0), (8, .int .u64 (m6 : Int)), (9, .I (((a : Int) + ((((b : Int) - (a : Int)) / 4) * 2)) - 1))] ?_
  refine qR 1 [.c [2, 0, 3, 0], .b 0] [(0, .slice (some ⟨pb, 0, none⟩) z q), (1, .I a), (6, .I ((b : Int) - (a : Int))), (7, .P b2 0), (8, .int .u64 (m6 : Int)), (9, .I (((a : Int) + ((((b : Int) - (a : Int)) / 4) * 2)) - 1))] ?_
  rw [show ((a : Int) + ((((b : Int) - (a : Int)) / 4) * 2)) - 1 = (((a + (b - a) / 4 * 2 - 1) : Nat) : Int) by omega]
  refine WK.loop (α := Nat × Array Int × BitVec 64) (b := cd Try.prog 51 [2, 0, 3, 0, 0]) (by as_aux_lemma => kernel_rfl) (fun st_ => match st_ with | (i, e, x) => [(0, .slice (some ⟨pb, 0, none⟩) z q), (1, .I a), (6, .I ((b : Int) - (a : Int))), (7, .P b2 0), (8, .int .u64 (m6 : Int)), (9, .I i)]) (fun st_ w' => match st_ with | (i, e, x) => Hp w S O [(b2, .cells #[.int .u64 ((x.toNat : Nat) : Int)] 91 (0, 0))] [⟨Shape.int .u64, 44, .slice (some ⟨pb, 0, none⟩) z q, e.toList⟩] [] w' ∧ PermIn a b d e ∧ e.size = z ∧ (a + (b - a) / 4 * 2 - 1) ≤ i ∧ i ≤ (a + (b - a) / 4 * 2 - 1) + 3) (fun st_ => match st_ with | (i, e, x) => (a + (b - a) / 4 * 2 - 1) + 3 - i) ((a + (b - a) / 4 * 2 - 1), d, (BitVec.ofNat 64 (b - a))) ⟨H, Go.Sort.permIn_refl _ _ _, hz, by omega, by omega⟩ (rfl) ?_
  rintro ⟨i, e, x⟩ w10 ⟨H, hinv0⟩ hback9
  refine qR 2 [.c [2, 0, 3, 0, 0, 0, 0], .c [2, 0, 3, 0, 0, 0, 1], .c [2, 0, 3, 0, 0, 1], .l [2, 0, 3, 0, 0], .b 0] [(0, .slice (some ⟨pb, 0, none⟩) z q), (1, .I a), (6, .I ((b : Int) - (a : Int))), (7, .P b2 0), (8, .int .u64 (m6 : Int)), (9, .I i)] ?_
  refine qG (sq 0 8) ?_
  refine qP 3 (sq 3 8) [(0, .slice (some ⟨pb, 0, none⟩) z q), (1, .I a), (6, .I ((b : Int) - (a : Int))), (7, .P b2 0), (8, .int .u64 (m6 : Int)), (9, .I i), (26, .I i), (27, .I a), (28, .I ((b : Int) - (a : Int)))] ?_
  refine RW.pv (κ := .seq) (d := some 29) (r := (sq 4 8)) (v := .I (IntKind.i64.wrap (((b : Int) - (a : Int)).tdiv 4))) (v' := .I (((b : Int) - (a : Int)) / 4)) (by as_aux_lemma => kernel_rfl) (quo_i64 (by decide) (by omega)) ?_
  refine qI .seq 30 (sq 5 8) ((((b : Int) - (a : Int)) / 4) * 2) ?_
  refine qI .seq 31 (sq 6 8) ((a : Int) + ((((b : Int) - (a : Int)) / 4) * 2)) ?_
  refine qI .seq 32 (sq 7 8) (((a : Int) + ((((b : Int) - (a : Int)) / 4) * 2)) + 1) ?_
  refine qF 1 [(0, .slice (some ⟨pb, 0, none⟩) z q), (1, .I a), (6, .I ((b : Int) - (a : Int))), (7, .P b2 0), (8, .int .u64 (m6 : Int)), (9, .I i), (33, .bool (decide (((i : Int) : Int) ≤ ((a : Int) + ((((b : Int) - (a : Int)) / 4) * 2)) + 1)))] ?_
  refine qD (((i : Int) : Int) ≤ ((a : Int) + ((((b : Int) - (a : Int)) / 4) * 2)) + 1) (fun h11 => ?_) (fun h11 => ?_)
  ·
   refine qR 4 [.c [2, 0, 3, 0, 0, 1, 0, 0, 0], .c [2, 0, 3, 0, 0, 1, 0, 0, 1], .b 1, .c [2, 0, 3, 0, 0, 2], .l [2, 0, 3, 0, 0], .b 0] [(0, .slice (some ⟨pb, 0, none⟩) z q), (1, .I a), (6, .I ((b : Int) - (a : Int))), (7, .P b2 0), (8, .int .u64 (m6 : Int)), (9, .I i)] ?_
   refine qG (sq 0 6) ?_
   refine RW.callS (d := some 36) (r := (sq 1 6)) (g := 66) (args := #[.P b2 0]) (by as_aux_lemma => kernel_rfl) (uxor_spec (rb := b2) x ((H.lend (M1 := [(b2, .cells #[.int .u64 ((x.toNat : Nat) : Int)] 91 (0, 0))]) (W1 := [])).pick [] rfl)) ?_
   rintro _ w12 ⟨y13, rfl, H'⟩
   have H := H.back (M1 := [(b2, .cells #[.int .u64 ((x.toNat : Nat) : Int)] 91 (0, 0))]) (W1 := []) H'
   have H : Hp w S O [(b2, .cells #[.int .u64 ((y13.toNat : Nat) : Int)] 91 (0, 0))] [⟨Shape.int .u64, 44, .slice (some ⟨pb, 0, none⟩) z q, e.toList⟩] [] _ := H
   refine qP 1 (sq 2 6) [(0, .slice (some ⟨pb, 0, none⟩) z q), (1, .I a), (6, .I ((b : Int) - (a : Int))), (7, .P b2 0), (8, .int .u64 (m6 : Int)), (9, .I i), (36, .int .u64 ((y13.toNat : Nat) : Int)), (37, .int .u64 (m6 : Int))] ?_
   refine RW.pv (κ := .seq) (d := some 38) (r := (sq 3 6)) (v := .int .u64 (IntKind.u64.wrap ((m6 : Int) - 1))) (v' := .int .u64 ((m6 : Int) - 1)) (by as_aux_lemma => kernel_rfl) (wr_u64 (by omega)) ?_
   obtain ⟨r, hr, hrm⟩ := andm y13 (m := m6) (by omega) (by omega) (k := (m6 : Int) - 1) (by omega)
   refine RW.pv (κ := .seq) (d := some 39) (r := (sq 4 6)) (v := .int .u64 (IntKind.u64.wrap (((BitVec.ofInt 64 ((y13.toNat : Nat) : Int) &&& BitVec.ofInt 64 ((m6 : Int) - 1)).toNat : Nat) : Int))) (v' := .int .u64 (r : Int)) (by as_aux_lemma => kernel_rfl) hr ?_
   refine RW.pv (κ := .seq) (d := some 40) (r := (sq 5 6)) (v' := .I r) (v := .I (IntKind.i64.wrap ((r : Int)))) (by as_aux_lemma => kernel_rfl) (wr_i64 (by omega)) ?_
   refine qF 1 [(0, .slice (some ⟨pb, 0, none⟩) z q), (1, .I a), (6, .I ((b : Int) - (a : Int))), (7, .P b2 0), (8, .int .u64 (m6 : Int)), (9, .I i), (10, .I r)] ?_
   refine qR 3 [.c [2, 0, 3, 0, 0, 1, 0, 0, 1, 0, 1], .c [2, 0, 3, 0, 0, 1, 0, 0, 2], .b 1, .c [2, 0, 3, 0, 0, 2], .l [2, 0, 3, 0, 0], .b 0] [(0, .slice (some ⟨pb, 0, none⟩) z q), (1, .I a), (6, .I ((b : Int) - (a : Int))), (7, .P b2 0), (8, .int .u64 (m6 : Int)), (9, .I i), (10, .I r), (43, .bool (decide (((r : Int) : Int) ≥ (b : Int) - (a : Int))))] ?_
   refine qD (((r : Int) : Int) ≥ (b : Int) - (a : Int)) (fun h14 => ?_) (fun h14 => ?_)
   ·
    refine qG (sq 0 4) ?_
    refine qP 2 (sq 2 4) [(0, .slice (some ⟨pb, 0, none⟩) z q), (1, .I a), (6, .I ((b : Int) - (a : Int))), (7, .P b2 0), (8, .int .u64 (m6 : Int)), (9, .I i), (10, .I r), (44, .I r), (45, .I ((b : Int) - (a : Int)))] ?_
    refine qI .seq 46 (sq 3 4) ((r : Int) - ((b : Int) - (a : Int))) ?_
    refine qF 1 [(0, .slice (some ⟨pb, 0, none⟩) z q), (1, .I a), (6, .I ((b : Int) - (a : Int))), (7, .P b2 0), (8, .int .u64 (m6 : Int)), (9, .I i), (10, .I ((r : Int) - ((b : Int) - (a : Int))))] ?_
    refine WK.drawH1 [pb] (.node (qs [0, 1, 2, 3, 4, 5, 6, 7, 8, 9, 10, 12, 13, 14]) (.cons 11 (.leaf [(15, .seq), (16, .qui), (17, .seq), (18, .qui), (19, .seq)]) (.cons 15 (.leaf [(11, .seq), (16, .qui), (17, .seq), (18, .qui), (19, .seq)]) .nil))) Try_mixed (by as_aux_lemma => kernel_rfl) (by as_aux_lemma => kernel_rfl) ?_
    intro w15 hw16
    have H := H.draw
    rw [← hw16] at H
    clear hw16
    have hS := Chg.refl w15 [pb]
    refine RG.node' (qs [0, 1, 2, 3, 4, 5, 6, 7, 8, 9, 10, 12, 13, 14]) (by as_aux_lemma => kernel_rfl) ?_
    refine qHP hS 5 (qs [5, 6, 7, 8, 9, 10, 12, 13, 14]) [(0, .slice (some ⟨pb, 0, none⟩) z q), (1, .I a), (6, .I ((b : Int) - (a : Int))), (7, .P b2 0), (8, .int .u64 (m6 : Int)), (9, .I i), (10, .I ((r : Int) - ((b : Int) - (a : Int)))), (47, .slice (some ⟨pb, 0, none⟩) z q), (48, .I i), (49, .slice (some ⟨pb, 0, none⟩) z q), (50, .I a), (51, .I ((r : Int) - ((b : Int) - (a : Int))))] ?_
    refine RH.pv (d := some 52) (r := (qs [6, 7, 8, 9, 10, 12, 13, 14])) (v := .I (IntKind.i64.wrap ((a : Int) + ((r : Int) - ((b : Int) - (a : Int)))))) (v' := .I ((a : Int) + ((r : Int) - ((b : Int) - (a : Int))))) (by as_aux_lemma => kernel_rfl) hS (wr_i64 (by omega)) ?_
    refine qHP hS 3 (qs [9, 10, 12, 13, 14]) [(0, .slice (some ⟨pb, 0, none⟩) z q), (1, .I a), (6, .I ((b : Int) - (a : Int))), (7, .P b2 0), (8, .int .u64 (m6 : Int)), (9, .I i), (47, .slice (some ⟨pb, 0, none⟩) z q), (48, .I i), (49, .slice (some ⟨pb, 0, none⟩) z q), (52, .I ((a : Int) + ((r : Int) - ((b : Int) - (a : Int))))), (53, .slice (some ⟨pb, 0, none⟩) z q), (54, .I a), (55, .I ((r : Int) - ((b : Int) - (a : Int))))] ?_
    refine RH.pv (d := some 56) (r := (qs [10, 12, 13, 14])) (v := .I (IntKind.i64.wrap ((a : Int) + ((r : Int) - ((b : Int) - (a : Int)))))) (v' := .I ((a : Int) + ((r : Int) - ((b : Int) - (a : Int))))) (by as_aux_lemma => kernel_rfl) hS (wr_i64 (by omega)) ?_
    have hn18 : z = e.toList.length := by rw [tl_len (d := e)]; omega
    have hx17 : (a + (r - (b - a))) < e.toList.length := by rw [tl_len (d := e)]; omega
    refine RH.indexW (d := some 57) (r := (qs [12, 13, 14])) (T := 58) (e := 44) (m := 1) (ik := .i64) (ix := (a : Int) + ((r : Int) - ((b : Int) - (a : Int)))) (sh := (Shape.int .u64)) (xs := e.toList) (a := (some ⟨pb, 0, none⟩)) (len := z) (cap := q) (by as_aux_lemma => kernel_rfl) hS (by as_aux_lemma => kernel_rfl) rfl H (a + (r - (b - a))) (by omega) hx17 hn18 ?_
    intro b19 es20 ha21 hcell22 hr23
    cases ha21
    rw [tl_at (d := e) (k := (a + (r - (b - a)))) _] at hr23
    have hb24 := Shape.u64_bd hr23
    obtain ⟨rfl, -⟩ := hr23
    refine qHP hS 2 [(14, .qui)] [(0, .slice (some ⟨pb, 0, none⟩) z q), (1, .I a), (6, .I ((b : Int) - (a : Int))), (7, .P b2 0), (8, .int .u64 (m6 : Int)), (9, .I i), (47, .slice (some ⟨pb, 0, none⟩) z q), (48, .I i), (49, .slice (some ⟨pb, 0, none⟩) z q), (52, .I ((a : Int) + ((r : Int) - ((b : Int) - (a : Int))))), (57, .pointer (some ⟨pb, (a + (r - (b - a))) * 1, none⟩)), (59, .slice (some ⟨pb, 0, none⟩) z q), (60, .I i)] ?_
    have hn26 : z = e.toList.length := by rw [tl_len (d := e)]; omega
    have hx25 : i < e.toList.length := by rw [tl_len (d := e)]; omega
    refine RH.indexW (d := some 61) (r := []) (T := 58) (e := 44) (m := 1) (ik := .i64) (ix := (i : Int)) (sh := (Shape.int .u64)) (xs := e.toList) (a := (some ⟨pb, 0, none⟩)) (len := z) (cap := q) (by as_aux_lemma => kernel_rfl) hS (by as_aux_lemma => kernel_rfl) rfl H i (by omega) hx25 hn26 ?_
    intro b27 es28 ha29 hcell30 hr31
    cases ha29
    rw [tl_at (d := e) (k := i) _] at hr31
    have hb32 := Shape.u64_bd hr31
    obtain ⟨rfl, -⟩ := hr31
    refine RH.finB hS 0 [0, 1, 6, 7, 8, 9, 47, 48, 49, 52, 57, 61] [(0, .slice (some ⟨pb, 0, none⟩) z q), (1, .I a), (6, .I ((b : Int) - (a : Int))), (7, .P b2 0), (8, .int .u64 (m6 : Int)), (9, .I i), (47, .slice (some ⟨pb, 0, none⟩) z q), (48, .I i), (49, .slice (some ⟨pb, 0, none⟩) z q), (52, .I ((a : Int) + ((r : Int) - ((b : Int) - (a : Int))))), (57, .pointer (some ⟨pb, (a + (r - (b - a))) * 1, none⟩)), (61, .pointer (some ⟨pb, i * 1, none⟩))] (by as_aux_lemma => kernel_rfl) ?_
    refine (RGB.cons' ?_ (RGB.cons' ?_ RGB.nil'))
    ·
     refine RG.leaf' [(11, .seq), (15, .seq), (16, .qui), (17, .seq), (18, .qui), (19, .seq)] (by as_aux_lemma => kernel_rfl) ?_
     have Hr := H
     refine RH.chn hS ?_
     refine qL .chn 58 [] 44 pb ((a + (r - (b - a))) * 1) 0 (.int .u64 (e[(a + (r - (b - a)))]!)) hcell22 ?_
     intro hS
     have Hr := H
     refine RH.chn hS ?_
     refine qL .chn 62 [] 44 pb (i * 1) 0 (.int .u64 (e[i]!)) hcell30 ?_
     intro hS
     have hn36 : z = e.toList.length := by rw [tl_len (d := e)]; omega
     have hx35 : i < e.toList.length := by rw [tl_len (d := e)]; omega
     refine RH.indexW (d := some 63) (r := [(17, .seq), (18, .qui), (19, .seq)]) (T := 58) (e := 44) (m := 1) (ik := .i64) (ix := (i : Int)) (sh := (Shape.int .u64)) (xs := e.toList) (a := (some ⟨pb, 0, none⟩)) (len := z) (cap := q) (by as_aux_lemma => kernel_rfl) hS (by as_aux_lemma => kernel_rfl) rfl H i (by omega) hx35 hn36 ?_
     intro b37 es38 ha39 hcell40 hr41
     cases ha39
     rw [tl_at (d := e) (k := i) _] at hr41
     have hb42 := Shape.u64_bd hr41
     obtain ⟨rfl, -⟩ := hr41
     have Hr := H
     refine RH.sto ?_
     refine RW.storeWC (d := none) (r := []) (e := 44) (m := 1) (b := pb) (k := i) (v := .int .u64 (e[(a + (r - (b - a)))]!)) (by as_aux_lemma => kernel_rfl) rfl (by as_aux_lemma => kernel_rfl) H rfl hx35 hn36 (e[(a + (r - (b - a)))]!) u64a ?_
     intro w44 hch43 H
     have hS45 := hS.sto hch43 (.inr (by simp))
     refine ⟨hS45, ?_⟩
     have hS := hS45
     have hn47 : z = (e.toList.set i (e[(a + (r - (b - a)))]!)).length := by rw [List.length_set, tl_len (d := e)]; omega
     have hx46 : (a + (r - (b - a))) < (e.toList.set i (e[(a + (r - (b - a)))]!)).length := by rw [List.length_set, tl_len (d := e)]; omega
     refine RH.indexW (d := some 64) (r := [(19, .seq)]) (T := 58) (e := 44) (m := 1) (ik := .i64) (ix := (a : Int) + ((r : Int) - ((b : Int) - (a : Int)))) (sh := (Shape.int .u64)) (xs := e.toList.set i (e[(a + (r - (b - a)))]!)) (a := (some ⟨pb, 0, none⟩)) (len := z) (cap := q) (by as_aux_lemma => kernel_rfl) hS (by as_aux_lemma => kernel_rfl) rfl H (a + (r - (b - a))) (by omega) hx46 hn47 ?_
     intro b48 es49 ha50 hcell51 hr52
     cases ha50
     have hb53 := Shape.u64_bd hr52
     obtain ⟨rfl, -⟩ := hr52
     refine RH.sto ?_
     refine RW.storeWC (d := none) (r := []) (e := 44) (m := 1) (b := pb) (k := (a + (r - (b - a)))) (v := .int .u64 (e[i]!)) (by as_aux_lemma => kernel_rfl) rfl (by as_aux_lemma => kernel_rfl) H rfl hx46 hn47 (e[i]!) u64a ?_
     intro w55 hch54 H
     have H := H.reW (ys := (swp e i (a + (r - (b - a)))).toList) (swp_tl)
     have hS56 := hS.sto hch54 (.inr (by simp))
     refine ⟨hS56, ?_⟩
     have hS := hS56
     refine RH.fin hS 0 [0, 1, 6, 7, 8, 9] [(0, .slice (some ⟨pb, 0, none⟩) z q), (1, .I a), (6, .I ((b : Int) - (a : Int))), (7, .P b2 0), (8, .int .u64 (m6 : Int)), (9, .I i)] (by as_aux_lemma => kernel_rfl) ?_
     refine qR 1 [.c [2, 0, 3, 0, 0, 2], .l [2, 0, 3, 0, 0], .b 0] [(0, .slice (some ⟨pb, 0, none⟩) z q), (1, .I a), (6, .I ((b : Int) - (a : Int))), (7, .P b2 0), (8, .int .u64 (m6 : Int)), (9, .I i)] ?_
     refine qG (sq 0 3) ?_
     refine qP 1 (sq 1 3) [(0, .slice (some ⟨pb, 0, none⟩) z q), (1, .I a), (6, .I ((b : Int) - (a : Int))), (7, .P b2 0), (8, .int .u64 (m6 : Int)), (9, .I i), (34, .I i)] ?_
     refine qI .seq 35 (sq 2 3) ((i : Int) + 1) ?_
     refine qF 1 [(0, .slice (some ⟨pb, 0, none⟩) z q), (1, .I a), (6, .I ((b : Int) - (a : Int))), (7, .P b2 0), (8, .int .u64 (m6 : Int)), (9, .I ((i : Int) + 1))] ?_
     exact WK.back (hback9 (i + 1, (swp e i (a + (r - (b - a)))), y13) _ ⟨H, Go.Sort.permIn_trans _ _ _ _ _ hinv0.1 (Go.Sort.swp_permIn e a b i (a + (r - (b - a))) (by omega) (by omega) (by omega) (by omega) (by omega)), by rw [swp_size]; exact hinv0.2.1, by omega, by omega⟩ (by first | omega | (simp only []; omega))) (by as_aux_lemma => kernel_rfl)
    ·
     refine RG.leaf' [(15, .seq), (11, .seq), (16, .qui), (17, .seq), (18, .qui), (19, .seq)] (by as_aux_lemma => kernel_rfl) ?_
     have Hr := H
     refine RH.chn hS ?_
     refine qL .chn 62 [] 44 pb (i * 1) 0 (.int .u64 (e[i]!)) hcell30 ?_
     intro hS
     have Hr := H
     refine RH.chn hS ?_
     refine qL .chn 58 [] 44 pb ((a + (r - (b - a))) * 1) 0 (.int .u64 (e[(a + (r - (b - a)))]!)) hcell22 ?_
     intro hS
     have hn60 : z = e.toList.length := by rw [tl_len (d := e)]; omega
     have hx59 : i < e.toList.length := by rw [tl_len (d := e)]; omega
     refine RH.indexW (d := some 63) (r := [(17, .seq), (18, .qui), (19, .seq)]) (T := 58) (e := 44) (m := 1) (ik := .i64) (ix := (i : Int)) (sh := (Shape.int .u64)) (xs := e.toList) (a := (some ⟨pb, 0, none⟩)) (len := z) (cap := q) (by as_aux_lemma => kernel_rfl) hS (by as_aux_lemma => kernel_rfl) rfl H i (by omega) hx59 hn60 ?_
     intro b61 es62 ha63 hcell64 hr65
     cases ha63
     rw [tl_at (d := e) (k := i) _] at hr65
     have hb66 := Shape.u64_bd hr65
     obtain ⟨rfl, -⟩ := hr65
     have Hr := H
     refine RH.sto ?_
     refine RW.storeWC (d := none) (r := []) (e := 44) (m := 1) (b := pb) (k := i) (v := .int .u64 (e[(a + (r - (b - a)))]!)) (by as_aux_lemma => kernel_rfl) rfl (by as_aux_lemma => kernel_rfl) H rfl hx59 hn60 (e[(a + (r - (b - a)))]!) u64a ?_
     intro w68 hch67 H
     have hS69 := hS.sto hch67 (.inr (by simp))
     refine ⟨hS69, ?_⟩
     have hS := hS69
     have hn71 : z = (e.toList.set i (e[(a + (r - (b - a)))]!)).length := by rw [List.length_set, tl_len (d := e)]; omega
     have hx70 : (a + (r - (b - a))) < (e.toList.set i (e[(a + (r - (b - a)))]!)).length := by rw [List.length_set, tl_len (d := e)]; omega
     refine RH.indexW (d := some 64) (r := [(19, .seq)]) (T := 58) (e := 44) (m := 1) (ik := .i64) (ix := (a : Int) + ((r : Int) - ((b : Int) - (a : Int)))) (sh := (Shape.int .u64)) (xs := e.toList.set i (e[(a + (r - (b - a)))]!)) (a := (some ⟨pb, 0, none⟩)) (len := z) (cap := q) (by as_aux_lemma => kernel_rfl) hS (by as_aux_lemma => kernel_rfl) rfl H (a + (r - (b - a))) (by omega) hx70 hn71 ?_
     intro b72 es73 ha74 hcell75 hr76
     cases ha74
     have hb77 := Shape.u64_bd hr76
     obtain ⟨rfl, -⟩ := hr76
     refine RH.sto ?_
     refine RW.storeWC (d := none) (r := []) (e := 44) (m := 1) (b := pb) (k := (a + (r - (b - a)))) (v := .int .u64 (e[i]!)) (by as_aux_lemma => kernel_rfl) rfl (by as_aux_lemma => kernel_rfl) H rfl hx70 hn71 (e[i]!) u64a ?_
     intro w79 hch78 H
     have H := H.reW (ys := (swp e i (a + (r - (b - a)))).toList) (swp_tl)
     have hS80 := hS.sto hch78 (.inr (by simp))
     refine ⟨hS80, ?_⟩
     have hS := hS80
     refine RH.fin hS 0 [0, 1, 6, 7, 8, 9] [(0, .slice (some ⟨pb, 0, none⟩) z q), (1, .I a), (6, .I ((b : Int) - (a : Int))), (7, .P b2 0), (8, .int .u64 (m6 : Int)), (9, .I i)] (by as_aux_lemma => kernel_rfl) ?_
     refine qR 1 [.c [2, 0, 3, 0, 0, 2], .l [2, 0, 3, 0, 0], .b 0] [(0, .slice (some ⟨pb, 0, none⟩) z q), (1, .I a), (6, .I ((b : Int) - (a : Int))), (7, .P b2 0), (8, .int .u64 (m6 : Int)), (9, .I i)] ?_
     refine qG (sq 0 3) ?_
     refine qP 1 (sq 1 3) [(0, .slice (some ⟨pb, 0, none⟩) z q), (1, .I a), (6, .I ((b : Int) - (a : Int))), (7, .P b2 0), (8, .int .u64 (m6 : Int)), (9, .I i), (34, .I i)] ?_
     refine qI .seq 35 (sq 2 3) ((i : Int) + 1) ?_
     refine qF 1 [(0, .slice (some ⟨pb, 0, none⟩) z q), (1, .I a), (6, .I ((b : Int) - (a : Int))), (7, .P b2 0), (8, .int .u64 (m6 : Int)), (9, .I ((i : Int) + 1))] ?_
     exact WK.back (hback9 (i + 1, (swp e i (a + (r - (b - a)))), y13) _ ⟨H, Go.Sort.permIn_trans _ _ _ _ _ hinv0.1 (Go.Sort.swp_permIn e a b i (a + (r - (b - a))) (by omega) (by omega) (by omega) (by omega) (by omega)), by rw [swp_size]; exact hinv0.2.1, by omega, by omega⟩ (by first | omega | (simp only []; omega))) (by as_aux_lemma => kernel_rfl)
   ·
    refine qR 1 [.c [2, 0, 3, 0, 0, 1, 0, 0, 2], .b 1, .c [2, 0, 3, 0, 0, 2], .l [2, 0, 3, 0, 0], .b 0] [(0, .slice (some ⟨pb, 0, none⟩) z q), (1, .I a), (6, .I ((b : Int) - (a : Int))), (7, .P b2 0), (8, .int .u64 (m6 : Int)), (9, .I i), (10, .I r)] ?_
    refine WK.drawH1 [pb] (.node (qs [0, 1, 2, 3, 4, 5, 6, 7, 8, 9, 10, 12, 13, 14]) (.cons 11 (.leaf [(15, .seq), (16, .qui), (17, .seq), (18, .qui), (19, .seq)]) (.cons 15 (.leaf [(11, .seq), (16, .qui), (17, .seq), (18, .qui), (19, .seq)]) .nil))) Try_mixed (by as_aux_lemma => kernel_rfl) (by as_aux_lemma => kernel_rfl) ?_
    intro w81 hw82
    have H := H.draw
    rw [← hw82] at H
    clear hw82
    have hS := Chg.refl w81 [pb]
    refine RG.node' (qs [0, 1, 2, 3, 4, 5, 6, 7, 8, 9, 10, 12, 13, 14]) (by as_aux_lemma => kernel_rfl) ?_
    refine qHP hS 5 (qs [5, 6, 7, 8, 9, 10, 12, 13, 14]) [(0, .slice (some ⟨pb, 0, none⟩) z q), (1, .I a), (6, .I ((b : Int) - (a : Int))), (7, .P b2 0), (8, .int .u64 (m6 : Int)), (9, .I i), (10, .I r), (47, .slice (some ⟨pb, 0, none⟩) z q), (48, .I i), (49, .slice (some ⟨pb, 0, none⟩) z q), (50, .I a), (51, .I r)] ?_
    refine RH.pv (d := some 52) (r := (qs [6, 7, 8, 9, 10, 12, 13, 14])) (v := .I (IntKind.i64.wrap ((a : Int) + (r : Int)))) (v' := .I ((a : Int) + (r : Int))) (by as_aux_lemma => kernel_rfl) hS (wr_i64 (by omega)) ?_
    refine qHP hS 3 (qs [9, 10, 12, 13, 14]) [(0, .slice (some ⟨pb, 0, none⟩) z q), (1, .I a), (6, .I ((b : Int) - (a : Int))), (7, .P b2 0), (8, .int .u64 (m6 : Int)), (9, .I i), (47, .slice (some ⟨pb, 0, none⟩) z q), (48, .I i), (49, .slice (some ⟨pb, 0, none⟩) z q), (52, .I ((a : Int) + (r : Int))), (53, .slice (some ⟨pb, 0, none⟩) z q), (54, .I a), (55, .I r)] ?_
    refine RH.pv (d := some 56) (r := (qs [10, 12, 13, 14])) (v := .I (IntKind.i64.wrap ((a : Int) + (r : Int)))) (v' := .I ((a : Int) + (r : Int))) (by as_aux_lemma => kernel_rfl) hS (wr_i64 (by omega)) ?_
    have hn84 : z = e.toList.length := by rw [tl_len (d := e)]; omega
    have hx83 : (a + r) < e.toList.length := by rw [tl_len (d := e)]; omega
    refine RH.indexW (d := some 57) (r := (qs [12, 13, 14])) (T := 58) (e := 44) (m := 1) (ik := .i64) (ix := (a : Int) + (r : Int)) (sh := (Shape.int .u64)) (xs := e.toList) (a := (some ⟨pb, 0, none⟩)) (len := z) (cap := q) (by as_aux_lemma => kernel_rfl) hS (by as_aux_lemma => kernel_rfl) rfl H (a + r) (by omega) hx83 hn84 ?_
    intro b85 es86 ha87 hcell88 hr89
    cases ha87
    rw [tl_at (d := e) (k := (a + r)) _] at hr89
    have hb90 := Shape.u64_bd hr89
    obtain ⟨rfl, -⟩ := hr89
    refine qHP hS 2 [(14, .qui)] [(0, .slice (some ⟨pb, 0, none⟩) z q), (1, .I a), (6, .I ((b : Int) - (a : Int))), (7, .P b2 0), (8, .int .u64 (m6 : Int)), (9, .I i), (47, .slice (some ⟨pb, 0, none⟩) z q), (48, .I i), (49, .slice (some ⟨pb, 0, none⟩) z q), (52, .I ((a : Int) + (r : Int))), (57, .pointer (some ⟨pb, (a + r) * 1, none⟩)), (59, .slice (some ⟨pb, 0, none⟩) z q), (60, .I i)] ?_
    have hn92 : z = e.toList.length := by rw [tl_len (d := e)]; omega
    have hx91 : i < e.toList.length := by rw [tl_len (d := e)]; omega
    refine RH.indexW (d := some 61) (r := []) (T := 58) (e := 44) (m := 1) (ik := .i64) (ix := (i : Int)) (sh := (Shape.int .u64)) (xs := e.toList) (a := (some ⟨pb, 0, none⟩)) (len := z) (cap := q) (by as_aux_lemma => kernel_rfl) hS (by as_aux_lemma => kernel_rfl) rfl H i (by omega) hx91 hn92 ?_
    intro b93 es94 ha95 hcell96 hr97
    cases ha95
    rw [tl_at (d := e) (k := i) _] at hr97
    have hb98 := Shape.u64_bd hr97
    obtain ⟨rfl, -⟩ := hr97
    refine RH.finB hS 0 [0, 1, 6, 7, 8, 9, 47, 48, 49, 52, 57, 61] [(0, .slice (some ⟨pb, 0, none⟩) z q), (1, .I a), (6, .I ((b : Int) - (a : Int))), (7, .P b2 0), (8, .int .u64 (m6 : Int)), (9, .I i), (47, .slice (some ⟨pb, 0, none⟩) z q), (48, .I i), (49, .slice (some ⟨pb, 0, none⟩) z q), (52, .I ((a : Int) + (r : Int))), (57, .pointer (some ⟨pb, (a + r) * 1, none⟩)), (61, .pointer (some ⟨pb, i * 1, none⟩))] (by as_aux_lemma => kernel_rfl) ?_
    refine (RGB.cons' ?_ (RGB.cons' ?_ RGB.nil'))
    ·
     refine RG.leaf' [(11, .seq), (15, .seq), (16, .qui), (17, .seq), (18, .qui), (19, .seq)] (by as_aux_lemma => kernel_rfl) ?_
     have Hr := H
     refine RH.chn hS ?_
     refine qL .chn 58 [] 44 pb ((a + r) * 1) 0 (.int .u64 (e[(a + r)]!)) hcell88 ?_
     intro hS
     have Hr := H
     refine RH.chn hS ?_
     refine qL .chn 62 [] 44 pb (i * 1) 0 (.int .u64 (e[i]!)) hcell96 ?_
     intro hS
     have hn102 : z = e.toList.length := by rw [tl_len (d := e)]; omega
     have hx101 : i < e.toList.length := by rw [tl_len (d := e)]; omega
     refine RH.indexW (d := some 63) (r := [(17, .seq), (18, .qui), (19, .seq)]) (T := 58) (e := 44) (m := 1) (ik := .i64) (ix := (i : Int)) (sh := (Shape.int .u64)) (xs := e.toList) (a := (some ⟨pb, 0, none⟩)) (len := z) (cap := q) (by as_aux_lemma => kernel_rfl) hS (by as_aux_lemma => kernel_rfl) rfl H i (by omega) hx101 hn102 ?_
     intro b103 es104 ha105 hcell106 hr107
     cases ha105
     rw [tl_at (d := e) (k := i) _] at hr107
     have hb108 := Shape.u64_bd hr107
     obtain ⟨rfl, -⟩ := hr107
     have Hr := H
     refine RH.sto ?_
     refine RW.storeWC (d := none) (r := []) (e := 44) (m := 1) (b := pb) (k := i) (v := .int .u64 (e[(a + r)]!)) (by as_aux_lemma => kernel_rfl) rfl (by as_aux_lemma => kernel_rfl) H rfl hx101 hn102 (e[(a + r)]!) u64a ?_
     intro w110 hch109 H
     have hS111 := hS.sto hch109 (.inr (by simp))
     refine ⟨hS111, ?_⟩
     have hS := hS111
     have hn113 : z = (e.toList.set i (e[(a + r)]!)).length := by rw [List.length_set, tl_len (d := e)]; omega
     have hx112 : (a + r) < (e.toList.set i (e[(a + r)]!)).length := by rw [List.length_set, tl_len (d := e)]; omega
     refine RH.indexW (d := some 64) (r := [(19, .seq)]) (T := 58) (e := 44) (m := 1) (ik := .i64) (ix := (a : Int) + (r : Int)) (sh := (Shape.int .u64)) (xs := e.toList.set i (e[(a + r)]!)) (a := (some ⟨pb, 0, none⟩)) (len := z) (cap := q) (by as_aux_lemma => kernel_rfl) hS (by as_aux_lemma => kernel_rfl) rfl H (a + r) (by omega) hx112 hn113 ?_
     intro b114 es115 ha116 hcell117 hr118
     cases ha116
     have hb119 := Shape.u64_bd hr118
     obtain ⟨rfl, -⟩ := hr118
     refine RH.sto ?_
     refine RW.storeWC (d := none) (r := []) (e := 44) (m := 1) (b := pb) (k := (a + r)) (v := .int .u64 (e[i]!)) (by as_aux_lemma => kernel_rfl) rfl (by as_aux_lemma => kernel_rfl) H rfl hx112 hn113 (e[i]!) u64a ?_
     intro w121 hch120 H
     have H := H.reW (ys := (swp e i (a + r)).toList) (swp_tl)
     have hS122 := hS.sto hch120 (.inr (by simp))
     refine ⟨hS122, ?_⟩
     have hS := hS122
     refine RH.fin hS 0 [0, 1, 6, 7, 8, 9] [(0, .slice (some ⟨pb, 0, none⟩) z q), (1, .I a), (6, .I ((b : Int) - (a : Int))), (7, .P b2 0), (8, .int .u64 (m6 : Int)), (9, .I i)] (by as_aux_lemma => kernel_rfl) ?_
     refine qR 1 [.c [2, 0, 3, 0, 0, 2], .l [2, 0, 3, 0, 0], .b 0] [(0, .slice (some ⟨pb, 0, none⟩) z q), (1, .I a), (6, .I ((b : Int) - (a : Int))), (7, .P b2 0), (8, .int .u64 (m6 : Int)), (9, .I i)] ?_
     refine qG (sq 0 3) ?_
     refine qP 1 (sq 1 3) [(0, .slice (some ⟨pb, 0, none⟩) z q), (1, .I a), (6, .I ((b : Int) - (a : Int))), (7, .P b2 0), (8, .int .u64 (m6 : Int)), (9, .I i), (34, .I i)] ?_
     refine qI .seq 35 (sq 2 3) ((i : Int) + 1) ?_
     refine qF 1 [(0, .slice (some ⟨pb, 0, none⟩) z q), (1, .I a), (6, .I ((b : Int) - (a : Int))), (7, .P b2 0), (8, .int .u64 (m6 : Int)), (9, .I ((i : Int) + 1))] ?_
     exact WK.back (hback9 (i + 1, (swp e i (a + r)), y13) _ ⟨H, Go.Sort.permIn_trans _ _ _ _ _ hinv0.1 (Go.Sort.swp_permIn e a b i (a + r) (by omega) (by omega) (by omega) (by omega) (by omega)), by rw [swp_size]; exact hinv0.2.1, by omega, by omega⟩ (by first | omega | (simp only []; omega))) (by as_aux_lemma => kernel_rfl)
    ·
     refine RG.leaf' [(15, .seq), (11, .seq), (16, .qui), (17, .seq), (18, .qui), (19, .seq)] (by as_aux_lemma => kernel_rfl) ?_
     have Hr := H
     refine RH.chn hS ?_
     refine qL .chn 62 [] 44 pb (i * 1) 0 (.int .u64 (e[i]!)) hcell96 ?_
     intro hS
     have Hr := H
     refine RH.chn hS ?_
     refine qL .chn 58 [] 44 pb ((a + r) * 1) 0 (.int .u64 (e[(a + r)]!)) hcell88 ?_
     intro hS
     have hn126 : z = e.toList.length := by rw [tl_len (d := e)]; omega
     have hx125 : i < e.toList.length := by rw [tl_len (d := e)]; omega
     refine RH.indexW (d := some 63) (r := [(17, .seq), (18, .qui), (19, .seq)]) (T := 58) (e := 44) (m := 1) (ik := .i64) (ix := (i : Int)) (sh := (Shape.int .u64)) (xs := e.toList) (a := (some ⟨pb, 0, none⟩)) (len := z) (cap := q) (by as_aux_lemma => kernel_rfl) hS (by as_aux_lemma => kernel_rfl) rfl H i (by omega) hx125 hn126 ?_
     intro b127 es128 ha129 hcell130 hr131
     cases ha129
     rw [tl_at (d := e) (k := i) _] at hr131
     have hb132 := Shape.u64_bd hr131
     obtain ⟨rfl, -⟩ := hr131
     have Hr := H
     refine RH.sto ?_
     refine RW.storeWC (d := none) (r := []) (e := 44) (m := 1) (b := pb) (k := i) (v := .int .u64 (e[(a + r)]!)) (by as_aux_lemma => kernel_rfl) rfl (by as_aux_lemma => kernel_rfl) H rfl hx125 hn126 (e[(a + r)]!) u64a ?_
     intro w134 hch133 H
     have hS135 := hS.sto hch133 (.inr (by simp))
     refine ⟨hS135, ?_⟩
     have hS := hS135
     have hn137 : z = (e.toList.set i (e[(a + r)]!)).length := by rw [List.length_set, tl_len (d := e)]; omega
     have hx136 : (a + r) < (e.toList.set i (e[(a + r)]!)).length := by rw [List.length_set, tl_len (d := e)]; omega
     refine RH.indexW (d := some 64) (r := [(19, .seq)]) (T := 58) (e := 44) (m := 1) (ik := .i64) (ix := (a : Int) + (r : Int)) (sh := (Shape.int .u64)) (xs := e.toList.set i (e[(a + r)]!)) (a := (some ⟨pb, 0, none⟩)) (len := z) (cap := q) (by as_aux_lemma => kernel_rfl) hS (by as_aux_lemma => kernel_rfl) rfl H (a + r) (by omega) hx136 hn137 ?_
     intro b138 es139 ha140 hcell141 hr142
     cases ha140
     have hb143 := Shape.u64_bd hr142
     obtain ⟨rfl, -⟩ := hr142
     refine RH.sto ?_
     refine RW.storeWC (d := none) (r := []) (e := 44) (m := 1) (b := pb) (k := (a + r)) (v := .int .u64 (e[i]!)) (by as_aux_lemma => kernel_rfl) rfl (by as_aux_lemma => kernel_rfl) H rfl hx136 hn137 (e[i]!) u64a ?_
     intro w145 hch144 H
     have H := H.reW (ys := (swp e i (a + r)).toList) (swp_tl)
     have hS146 := hS.sto hch144 (.inr (by simp))
     refine ⟨hS146, ?_⟩
     have hS := hS146
     refine RH.fin hS 0 [0, 1, 6, 7, 8, 9] [(0, .slice (some ⟨pb, 0, none⟩) z q), (1, .I a), (6, .I ((b : Int) - (a : Int))), (7, .P b2 0), (8, .int .u64 (m6 : Int)), (9, .I i)] (by as_aux_lemma => kernel_rfl) ?_
     refine qR 1 [.c [2, 0, 3, 0, 0, 2], .l [2, 0, 3, 0, 0], .b 0] [(0, .slice (some ⟨pb, 0, none⟩) z q), (1, .I a), (6, .I ((b : Int) - (a : Int))), (7, .P b2 0), (8, .int .u64 (m6 : Int)), (9, .I i)] ?_
     refine qG (sq 0 3) ?_
     refine qP 1 (sq 1 3) [(0, .slice (some ⟨pb, 0, none⟩) z q), (1, .I a), (6, .I ((b : Int) - (a : Int))), (7, .P b2 0), (8, .int .u64 (m6 : Int)), (9, .I i), (34, .I i)] ?_
     refine qI .seq 35 (sq 2 3) ((i : Int) + 1) ?_
     refine qF 1 [(0, .slice (some ⟨pb, 0, none⟩) z q), (1, .I a), (6, .I ((b : Int) - (a : Int))), (7, .P b2 0), (8, .int .u64 (m6 : Int)), (9, .I ((i : Int) + 1))] ?_
     exact WK.back (hback9 (i + 1, (swp e i (a + r)), y13) _ ⟨H, Go.Sort.permIn_trans _ _ _ _ _ hinv0.1 (Go.Sort.swp_permIn e a b i (a + r) (by omega) (by omega) (by omega) (by omega) (by omega)), by rw [swp_size]; exact hinv0.2.1, by omega, by omega⟩ (by first | omega | (simp only []; omega))) (by as_aux_lemma => kernel_rfl)
  ·
   refine qR 1 [] [] ?_
   refine WK.fin (v := .tuple #[]) Try.func51 (by as_aux_lemma => kernel_rfl) ?_
   have H := H.drop (M' := []) (W' := [_]) (List.nil_sublist _) (List.Sublist.refl _)
   exact ⟨_, rfl, e, rfl, hinv0.1, H.pick [] rfl⟩
 ·
  omega
end Go.Proofs.Ythbegjaoifghlaa
