import Derived.Test.YthbegjaoifghlaaSU2
namespace Go.Proofs.Ythbegjaoifghlaa
open Go.BX
open Go.Sort (swp insInner insOuter insertionSort ltInt siftDown heapBuild heapPop heapSort reverseLoop reverseRange scanUp scanDown partLoop partition partEqLoop partitionEqual scanSorted shiftDown shiftUp partialIns partialInsertionSort)
theorem hb_go {hi fs k : Nat} {e : Array Int} (h : 0 < k) : heapBuild ltInt hi fs (k - 1) (siftDown ltInt hi fs (k - 1) e) = heapBuild ltInt hi fs k e := by
 obtain ⟨m, rfl⟩ : ∃ m, k = m + 1 := ⟨k - 1, by omega⟩
 rfl
theorem hp_go {fs k : Nat} {e : Array Int} (h : 0 < k) : heapPop ltInt fs (k - 1) (siftDown ltInt (k - 1) fs 0 (swp e fs (fs + (k - 1)))) = heapPop ltInt fs k e := by
 obtain ⟨m, rfl⟩ : ∃ m, k = m + 1 := ⟨k - 1, by omega⟩
 rfl
theorem uheap_spec {S : Nat → Prop} {w : World} {O : List Nat} {d : Array Int} {pb z q : Nat} {a : Nat} {aI : Int} (haI : aI = (a : Int)) {b : Nat} {bI : Int} (hbI : bI = (b : Int)) (hab : a < b) (hb : b ≤ d.size) (H0 : Hp w S O [] [⟨Shape.int .u64, 44, .slice (some ⟨pb, 0, none⟩) z q, d.toList⟩] [] w) (hz : d.size = z) (hle : z ≤ 1048576) :
 Calls Try.prog 50 #[.slice (some ⟨pb, 0, none⟩) z q, .I aI, .I bI] w (Ret fun v w' => v = .tuple #[] ∧ Hp w S O [] [⟨Shape.int .u64, 44, .slice (some ⟨pb, 0, none⟩) z q, (heapSort ltInt d a b).toList⟩] [] w') := by
 subst haI
 subst hbI
 refine qS (fn := Try.f50) (n := 56) (σ := [(0, .slice (some ⟨pb, 0, none⟩) z q), (1, .I a), (2, .I b)]) Try.func50 ?_
 have H := H0
 refine qR 5 [.c [2, 0], .c [3]] [(0, .slice (some ⟨pb, 0, none⟩) z q), (1, .I a), (2, .I b), (6, .I a), (7, .I 0)] ?_
 refine qG (sq 0 4) ?_
 refine qP 2 (sq 2 4) [(0, .slice (some ⟨pb, 0, none⟩) z q), (6, .I a), (7, .I 0), (12, .I b), (13, .I a)] ?_
 refine qI .seq 14 (sq 3 4) ((b : Int) - (a : Int)) ?_
 refine qF 1 [(0, .slice (some ⟨pb, 0, none⟩) z q), (6, .I a), (7, .I 0), (8, .I ((b : Int) - (a : Int)))] ?_
 refine qR 2 [.c [3, 0, 0], .c [3, 0, 1], .c [4]] [(0, .slice (some ⟨pb, 0, none⟩) z q), (6, .I a), (7, .I 0), (8, .I ((b : Int) - (a : Int)))] ?_
 refine qG (sq 0 4) ?_
 refine qP 1 (sq 1 4) [(0, .slice (some ⟨pb, 0, none⟩) z q), (6, .I a), (7, .I 0), (8, .I ((b : Int) - (a : Int))), (15, .I ((b : Int) - (a : Int)))] ?_
 refine qI .seq 16 (sq 2 4) (((b : Int) - (a : Int)) - 1) ?_
 refine RW.pv (κ := .seq) (d := some 17) (r := (sq 3 4)) (v := .I (IntKind.i64.wrap ((((b : Int) - (a : Int)) - 1).tdiv 2))) (v' := .I ((((b : Int) - (a : Int)) - 1) / 2)) (by as_aux_lemma => kernel_rfl) (quo_i64 (by decide) (by omega)) ?_
 refine qF 1 [(0, .slice (some ⟨pb, 0, none⟩) z q), (6, .I a), (7, .I 0), (8, .I ((b : Int) - (a : Int))), (9, .I ((((b : Int) - (a : Int)) - 1) / 2))] ?_
 refine qR 1 [.c [3, 0, 1, 0], .b 0, .c [4]] [(0, .slice (some ⟨pb, 0, none⟩) z q), (6, .I a), (7, .I 0), (8, .I ((b : Int) - (a : Int))), (9, .I ((((b : Int) - (a : Int)) - 1) / 2))] ?_
 rw [show (((b : Int) - (a : Int)) - 1) / 2 = (((b - a - 1) / 2 + 1 : Nat) : Int) - 1 by omega]
 refine WK.loop (α := Nat × Array Int) (b := cd Try.prog 50 [3, 0, 1, 0, 0]) (by as_aux_lemma => kernel_rfl) (fun st_ => match st_ with | (k, e) => [(0, .slice (some ⟨pb, 0, none⟩) z q), (6, .I a), (7, .I 0), (8, .I ((b : Int) - (a : Int))), (9, .I ((k : Int) - 1))]) (fun st_ w' => match st_ with | (k, e) => Hp w S O [] [⟨Shape.int .u64, 44, .slice (some ⟨pb, 0, none⟩) z q, e.toList⟩] [] w' ∧ heapBuild ltInt (b - a) a k e = (heapBuild ltInt (b - a) a ((b - a - 1) / 2 + 1) d) ∧ e.size = z ∧ k ≤ b) (fun st_ => match st_ with | (k, e) => k) (((b - a - 1) / 2 + 1), d) ⟨H, rfl, hz, by omega⟩ (rfl) ?_
 rintro ⟨k, e⟩ w2 ⟨H, hinv0⟩ hback1
 refine qR 3 [.c [3, 0, 1, 0, 0, 0, 1], .c [3, 0, 1, 0, 0, 1], .l [3, 0, 1, 0, 0], .b 0, .c [4]] [(0, .slice (some ⟨pb, 0, none⟩) z q), (6, .I a), (7, .I 0), (8, .I ((b : Int) - (a : Int))), (9, .I ((k : Int) - 1)), (19, .bool (decide ((((k : Int) - 1) : Int) ≥ 0)))] ?_
 refine qD ((((k : Int) - 1) : Int) ≥ 0) (fun h3 => ?_) (fun h3 => ?_)
 ·
  refine qR 3 [.c [3, 0, 1, 0, 0, 1, 0, 0], .b 1, .c [3, 0, 1, 0, 0, 2], .l [3, 0, 1, 0, 0], .b 0, .c [4]] [(0, .slice (some ⟨pb, 0, none⟩) z q), (6, .I a), (7, .I 0), (8, .I ((b : Int) - (a : Int))), (9, .I ((k : Int) - 1))] ?_
  refine qG (sq 0 5) ?_
  refine qP 4 (sq 4 5) [(0, .slice (some ⟨pb, 0, none⟩) z q), (6, .I a), (7, .I 0), (8, .I ((b : Int) - (a : Int))), (9, .I ((k : Int) - 1)), (22, .slice (some ⟨pb, 0, none⟩) z q), (23, .I ((k : Int) - 1)), (24, .I ((b : Int) - (a : Int))), (25, .I a)] ?_
  refine RW.callS (d := some 26) (r := (sq 5 5)) (g := 64) (args := #[.slice (some ⟨pb, 0, none⟩) z q, .I ((k : Int) - 1), .I ((b : Int) - (a : Int)), .I a]) (by as_aux_lemma => kernel_rfl) (usift_spec (d := e) (pb := pb) (z := z) (O := _) (S := _) (lo := (k - 1)) (loI := ((k : Int) - 1)) (hi := (b - a)) (hiI := (b : Int) - (a : Int)) (fs := a) (fsI := (a : Int)) (by omega) (by omega) (by omega) (by omega) (by first | omega | (rw [swp_size]; omega)) ((H.lend (M1 := []) (W1 := [⟨Shape.int .u64, 44, .slice (some ⟨pb, 0, none⟩) z q, e.toList⟩])).pick [] rfl) (by first | omega | (rw [swp_size]; omega)) (by omega)) ?_
  rintro _ w4 ⟨rfl, H'⟩
  have H := H.back (M1 := []) (W1 := [⟨Shape.int .u64, 44, .slice (some ⟨pb, 0, none⟩) z q, e.toList⟩]) H'
  have H : Hp w S O [] [⟨Shape.int .u64, 44, .slice (some ⟨pb, 0, none⟩) z q, (siftDown ltInt (b - a) a (k - 1) e).toList⟩] [] _ := H
  refine qF 0 [(0, .slice (some ⟨pb, 0, none⟩) z q), (6, .I a), (7, .I 0), (8, .I ((b : Int) - (a : Int))), (9, .I ((k : Int) - 1))] ?_
  refine qR 1 [.c [3, 0, 1, 0, 0, 2], .l [3, 0, 1, 0, 0], .b 0, .c [4]] [(0, .slice (some ⟨pb, 0, none⟩) z q), (6, .I a), (7, .I 0), (8, .I ((b : Int) - (a : Int))), (9, .I ((k : Int) - 1))] ?_
  refine qG (sq 0 3) ?_
  refine qP 1 (sq 1 3) [(0, .slice (some ⟨pb, 0, none⟩) z q), (6, .I a), (7, .I 0), (8, .I ((b : Int) - (a : Int))), (9, .I ((k : Int) - 1)), (20, .I ((k : Int) - 1))] ?_
  refine qI .seq 21 (sq 2 3) (((k : Int) - 1) - 1) ?_
  refine qF 1 [(0, .slice (some ⟨pb, 0, none⟩) z q), (6, .I a), (7, .I 0), (8, .I ((b : Int) - (a : Int))), (9, .I (((k : Int) - 1) - 1))] ?_
  rw [show (k : Int) - 1 - 1 = ((k - 1 : Nat) : Int) - 1 by omega]
  exact WK.back (hback1 ((k - 1), (siftDown ltInt (b - a) a (k - 1) e)) _ ⟨H, by rw [← hinv0.1]; exact hb_go (by omega), by rw [siftDown_size]; exact hinv0.2.1, by omega⟩ (by first | omega | (simp only []; omega))) (by as_aux_lemma => kernel_rfl)
 ·
  refine qR 2 [.c [4, 0], .c [5]] [(0, .slice (some ⟨pb, 0, none⟩) z q), (6, .I a), (7, .I 0), (8, .I ((b : Int) - (a : Int)))] ?_
  refine qG (sq 0 3) ?_
  refine qP 1 (sq 1 3) [(0, .slice (some ⟨pb, 0, none⟩) z q), (6, .I a), (7, .I 0), (27, .I ((b : Int) - (a : Int)))] ?_
  refine qI .seq 28 (sq 2 3) (((b : Int) - (a : Int)) - 1) ?_
  refine qF 1 [(0, .slice (some ⟨pb, 0, none⟩) z q), (6, .I a), (7, .I 0), (10, .I (((b : Int) - (a : Int)) - 1))] ?_
  refine qR 1 [.c [5, 0], .b 2] [(0, .slice (some ⟨pb, 0, none⟩) z q), (6, .I a), (7, .I 0), (10, .I (((b : Int) - (a : Int)) - 1))] ?_
  rw [show ((b : Int) - (a : Int)) - 1 = ((b - a : Nat) : Int) - 1 by omega]
  refine WK.loop (α := Nat × Array Int) (b := cd Try.prog 50 [5, 0, 0]) (by as_aux_lemma => kernel_rfl) (fun st_ => match st_ with | (k, e) => [(0, .slice (some ⟨pb, 0, none⟩) z q), (6, .I a), (7, .I 0), (10, .I ((k : Int) - 1))]) (fun st_ w' => match st_ with | (k, e) => Hp w S O [] [⟨Shape.int .u64, 44, .slice (some ⟨pb, 0, none⟩) z q, e.toList⟩] [] w' ∧ heapPop ltInt a k e = (heapSort ltInt d a b) ∧ e.size = z ∧ k ≤ b - a) (fun st_ => match st_ with | (k, e) => k) ((b - a), e) ⟨H, by unfold heapSort; rw [← hinv0.1, show k = 0 by omega]; rfl, hinv0.2.1, by omega⟩ (rfl) ?_
  rintro ⟨k, e⟩ w6 ⟨H, hinv1⟩ hback5
  refine qR 3 [.c [5, 0, 0, 0, 1], .c [5, 0, 0, 1], .l [5, 0, 0], .b 2] [(0, .slice (some ⟨pb, 0, none⟩) z q), (6, .I a), (7, .I 0), (10, .I ((k : Int) - 1)), (30, .bool (decide ((((k : Int) - 1) : Int) ≥ 0)))] ?_
  refine qD ((((k : Int) - 1) : Int) ≥ 0) (fun h7 => ?_) (fun h7 => ?_)
  ·
   refine qR 4 [.c [5, 0, 0, 1, 0, 0, 0], .c [5, 0, 0, 1, 0, 0, 1], .b 3, .c [5, 0, 0, 2], .l [5, 0, 0], .b 2] [(0, .slice (some ⟨pb, 0, none⟩) z q), (6, .I a), (7, .I 0), (10, .I ((k : Int) - 1))] ?_
   refine WK.drawH1 [pb] (.node (qs [0, 1, 2, 3, 4, 5, 6, 7, 8, 9, 10, 12, 13, 14]) (.cons 11 (.leaf [(15, .seq), (16, .qui), (17, .seq), (18, .qui), (19, .seq)]) (.cons 15 (.leaf [(11, .seq), (16, .qui), (17, .seq), (18, .qui), (19, .seq)]) .nil))) Try_mixed (by as_aux_lemma => kernel_rfl) (by as_aux_lemma => kernel_rfl) ?_
   intro w8 hw9
   have H := H.draw
   rw [← hw9] at H
   clear hw9
   have hS := Chg.refl w8 [pb]
   refine RG.node' (qs [0, 1, 2, 3, 4, 5, 6, 7, 8, 9, 10, 12, 13, 14]) (by as_aux_lemma => kernel_rfl) ?_
   refine qHP hS 5 (qs [5, 6, 7, 8, 9, 10, 12, 13, 14]) [(0, .slice (some ⟨pb, 0, none⟩) z q), (6, .I a), (7, .I 0), (10, .I ((k : Int) - 1)), (33, .slice (some ⟨pb, 0, none⟩) z q), (34, .I a), (35, .slice (some ⟨pb, 0, none⟩) z q), (36, .I a), (37, .I ((k : Int) - 1))] ?_
   refine RH.pv (d := some 38) (r := (qs [6, 7, 8, 9, 10, 12, 13, 14])) (v := .I (IntKind.i64.wrap ((a : Int) + ((k : Int) - 1)))) (v' := .I ((a : Int) + ((k : Int) - 1))) (by as_aux_lemma => kernel_rfl) hS (wr_i64 (by omega)) ?_
   refine qHP hS 3 (qs [9, 10, 12, 13, 14]) [(0, .slice (some ⟨pb, 0, none⟩) z q), (6, .I a), (7, .I 0), (10, .I ((k : Int) - 1)), (33, .slice (some ⟨pb, 0, none⟩) z q), (34, .I a), (35, .slice (some ⟨pb, 0, none⟩) z q), (38, .I ((a : Int) + ((k : Int) - 1))), (39, .slice (some ⟨pb, 0, none⟩) z q), (40, .I a), (41, .I ((k : Int) - 1))] ?_
   refine RH.pv (d := some 42) (r := (qs [10, 12, 13, 14])) (v := .I (IntKind.i64.wrap ((a : Int) + ((k : Int) - 1)))) (v' := .I ((a : Int) + ((k : Int) - 1))) (by as_aux_lemma => kernel_rfl) hS (wr_i64 (by omega)) ?_
   have hn11 : z = e.toList.length := by rw [tl_len (d := e)]; omega
   have hx10 : (a + (k - 1)) < e.toList.length := by rw [tl_len (d := e)]; omega
   refine RH.indexW (d := some 43) (r := (qs [12, 13, 14])) (T := 58) (e := 44) (m := 1) (ik := .i64) (ix := (a : Int) + ((k : Int) - 1)) (sh := (Shape.int .u64)) (xs := e.toList) (a := (some ⟨pb, 0, none⟩)) (len := z) (cap := q) (by as_aux_lemma => kernel_rfl) hS (by as_aux_lemma => kernel_rfl) rfl H (a + (k - 1)) (by omega) hx10 hn11 ?_
   intro b12 es13 ha14 hcell15 hr16
   cases ha14
   rw [tl_at (d := e) (k := (a + (k - 1))) _] at hr16
   have hb17 := Shape.u64_bd hr16
   obtain ⟨rfl, -⟩ := hr16
   refine qHP hS 2 [(14, .qui)] [(0, .slice (some ⟨pb, 0, none⟩) z q), (6, .I a), (7, .I 0), (10, .I ((k : Int) - 1)), (33, .slice (some ⟨pb, 0, none⟩) z q), (34, .I a), (35, .slice (some ⟨pb, 0, none⟩) z q), (38, .I ((a : Int) + ((k : Int) - 1))), (43, .pointer (some ⟨pb, (a + (k - 1)) * 1, none⟩)), (45, .slice (some ⟨pb, 0, none⟩) z q), (46, .I a)] ?_
   have hn19 : z = e.toList.length := by rw [tl_len (d := e)]; omega
   have hx18 : a < e.toList.length := by rw [tl_len (d := e)]; omega
   refine RH.indexW (d := some 47) (r := []) (T := 58) (e := 44) (m := 1) (ik := .i64) (ix := (a : Int)) (sh := (Shape.int .u64)) (xs := e.toList) (a := (some ⟨pb, 0, none⟩)) (len := z) (cap := q) (by as_aux_lemma => kernel_rfl) hS (by as_aux_lemma => kernel_rfl) rfl H a (by omega) hx18 hn19 ?_
   intro b20 es21 ha22 hcell23 hr24
   cases ha22
   rw [tl_at (d := e) (k := a) _] at hr24
   have hb25 := Shape.u64_bd hr24
   obtain ⟨rfl, -⟩ := hr24
   refine RH.finB hS 0 [0, 6, 7, 10, 33, 34, 35, 38, 43, 47] [(0, .slice (some ⟨pb, 0, none⟩) z q), (6, .I a), (7, .I 0), (10, .I ((k : Int) - 1)), (33, .slice (some ⟨pb, 0, none⟩) z q), (34, .I a), (35, .slice (some ⟨pb, 0, none⟩) z q), (38, .I ((a : Int) + ((k : Int) - 1))), (43, .pointer (some ⟨pb, (a + (k - 1)) * 1, none⟩)), (47, .pointer (some ⟨pb, a * 1, none⟩))] (by as_aux_lemma => kernel_rfl) ?_
   refine (RGB.cons' ?_ (RGB.cons' ?_ RGB.nil'))
   ·
    refine RG.leaf' [(11, .seq), (15, .seq), (16, .qui), (17, .seq), (18, .qui), (19, .seq)] (by as_aux_lemma => kernel_rfl) ?_
    have Hr := H
    refine RH.chn hS ?_
    refine qL .chn 44 [] 44 pb ((a + (k - 1)) * 1) 0 (.int .u64 (e[(a + (k - 1))]!)) hcell15 ?_
    intro hS
    have Hr := H
    refine RH.chn hS ?_
    refine qL .chn 48 [] 44 pb (a * 1) 0 (.int .u64 (e[a]!)) hcell23 ?_
    intro hS
    have hn29 : z = e.toList.length := by rw [tl_len (d := e)]; omega
    have hx28 : a < e.toList.length := by rw [tl_len (d := e)]; omega
    refine RH.indexW (d := some 49) (r := [(17, .seq), (18, .qui), (19, .seq)]) (T := 58) (e := 44) (m := 1) (ik := .i64) (ix := (a : Int)) (sh := (Shape.int .u64)) (xs := e.toList) (a := (some ⟨pb, 0, none⟩)) (len := z) (cap := q) (by as_aux_lemma => kernel_rfl) hS (by as_aux_lemma => kernel_rfl) rfl H a (by omega) hx28 hn29 ?_
    intro b30 es31 ha32 hcell33 hr34
    cases ha32
    rw [tl_at (d := e) (k := a) _] at hr34
    have hb35 := Shape.u64_bd hr34
    obtain ⟨rfl, -⟩ := hr34
    have Hr := H
    refine RH.sto ?_
    refine RW.storeWC (d := none) (r := []) (e := 44) (m := 1) (b := pb) (k := a) (v := .int .u64 (e[(a + (k - 1))]!)) (by as_aux_lemma => kernel_rfl) rfl (by as_aux_lemma => kernel_rfl) H rfl hx28 hn29 (e[(a + (k - 1))]!) u64a ?_
    intro w37 hch36 H
    have hS38 := hS.sto hch36 (.inr (by simp))
    refine ⟨hS38, ?_⟩
    have hS := hS38
    have hn40 : z = (e.toList.set a (e[(a + (k - 1))]!)).length := by rw [List.length_set, tl_len (d := e)]; omega
    have hx39 : (a + (k - 1)) < (e.toList.set a (e[(a + (k - 1))]!)).length := by rw [List.length_set, tl_len (d := e)]; omega
    refine RH.indexW (d := some 50) (r := [(19, .seq)]) (T := 58) (e := 44) (m := 1) (ik := .i64) (ix := (a : Int) + ((k : Int) - 1)) (sh := (Shape.int .u64)) (xs := e.toList.set a (e[(a + (k - 1))]!)) (a := (some ⟨pb, 0, none⟩)) (len := z) (cap := q) (by as_aux_lemma => kernel_rfl) hS (by as_aux_lemma => kernel_rfl) rfl H (a + (k - 1)) (by omega) hx39 hn40 ?_
    intro b41 es42 ha43 hcell44 hr45
    cases ha43
    have hb46 := Shape.u64_bd hr45
    obtain ⟨rfl, -⟩ := hr45
    refine RH.sto ?_
    refine RW.storeWC (d := none) (r := []) (e := 44) (m := 1) (b := pb) (k := (a + (k - 1))) (v := .int .u64 (e[a]!)) (by as_aux_lemma => kernel_rfl) rfl (by as_aux_lemma => kernel_rfl) H rfl hx39 hn40 (e[a]!) u64a ?_
    intro w48 hch47 H
    have H := H.reW (ys := (swp e a (a + (k - 1))).toList) (swp_tl)
    have hS49 := hS.sto hch47 (.inr (by simp))
    refine ⟨hS49, ?_⟩
    have hS := hS49
    refine RH.fin hS 0 [0, 6, 7, 10] [(0, .slice (some ⟨pb, 0, none⟩) z q), (6, .I a), (7, .I 0), (10, .I ((k : Int) - 1))] (by as_aux_lemma => kernel_rfl) ?_
    refine qG (sq 0 5) ?_
    refine qP 4 (sq 4 5) [(0, .slice (some ⟨pb, 0, none⟩) z q), (6, .I a), (7, .I 0), (10, .I ((k : Int) - 1)), (51, .slice (some ⟨pb, 0, none⟩) z q), (52, .I 0), (53, .I ((k : Int) - 1)), (54, .I a)] ?_
    refine RW.callS (d := some 55) (r := (sq 5 5)) (g := 64) (args := #[.slice (some ⟨pb, 0, none⟩) z q, .I 0, .I ((k : Int) - 1), .I a]) (by as_aux_lemma => kernel_rfl) (usift_spec (d := (swp e a (a + (k - 1)))) (pb := pb) (z := z) (O := _) (S := _) (lo := 0) (loI := 0) (hi := (k - 1)) (hiI := ((k : Int) - 1)) (fs := a) (fsI := (a : Int)) (by omega) (by omega) (by omega) (by omega) (by first | omega | (rw [swp_size]; omega)) ((H.lend (M1 := []) (W1 := [⟨Shape.int .u64, 44, .slice (some ⟨pb, 0, none⟩) z q, (swp e a (a + (k - 1))).toList⟩])).pick [] rfl) (by first | omega | (rw [swp_size]; omega)) (by omega)) ?_
    rintro _ w50 ⟨rfl, H'⟩
    have H := H.back (M1 := []) (W1 := [⟨Shape.int .u64, 44, .slice (some ⟨pb, 0, none⟩) z q, (swp e a (a + (k - 1))).toList⟩]) H'
    have H : Hp w S O [] [⟨Shape.int .u64, 44, .slice (some ⟨pb, 0, none⟩) z q, (siftDown ltInt (k - 1) a 0 (swp e a (a + (k - 1)))).toList⟩] [] _ := H
    refine qF 0 [(0, .slice (some ⟨pb, 0, none⟩) z q), (6, .I a), (7, .I 0), (10, .I ((k : Int) - 1))] ?_
    refine qR 1 [.c [5, 0, 0, 2], .l [5, 0, 0], .b 2] [(0, .slice (some ⟨pb, 0, none⟩) z q), (6, .I a), (7, .I 0), (10, .I ((k : Int) - 1))] ?_
    refine qG (sq 0 3) ?_
    refine qP 1 (sq 1 3) [(0, .slice (some ⟨pb, 0, none⟩) z q), (6, .I a), (7, .I 0), (10, .I ((k : Int) - 1)), (31, .I ((k : Int) - 1))] ?_
    refine qI .seq 32 (sq 2 3) (((k : Int) - 1) - 1) ?_
    refine qF 1 [(0, .slice (some ⟨pb, 0, none⟩) z q), (6, .I a), (7, .I 0), (10, .I (((k : Int) - 1) - 1))] ?_
    rw [show (k : Int) - 1 - 1 = ((k - 1 : Nat) : Int) - 1 by omega]
    exact WK.back (hback5 ((k - 1), (siftDown ltInt (k - 1) a 0 (swp e a (a + (k - 1))))) _ ⟨H, by rw [← hinv1.1]; exact hp_go (by omega), by rw [siftDown_size, swp_size]; exact hinv1.2.1, by omega⟩ (by first | omega | (simp only []; omega))) (by as_aux_lemma => kernel_rfl)
   ·
    refine RG.leaf' [(15, .seq), (11, .seq), (16, .qui), (17, .seq), (18, .qui), (19, .seq)] (by as_aux_lemma => kernel_rfl) ?_
    have Hr := H
    refine RH.chn hS ?_
    refine qL .chn 48 [] 44 pb (a * 1) 0 (.int .u64 (e[a]!)) hcell23 ?_
    intro hS
    have Hr := H
    refine RH.chn hS ?_
    refine qL .chn 44 [] 44 pb ((a + (k - 1)) * 1) 0 (.int .u64 (e[(a + (k - 1))]!)) hcell15 ?_
    intro hS
    have hn54 : z = e.toList.length := by rw [tl_len (d := e)]; omega
    have hx53 : a < e.toList.length := by rw [tl_len (d := e)]; omega
    refine RH.indexW (d := some 49) (r := [(17, .seq), (18, .qui), (19, .seq)]) (T := 58) (e := 44) (m := 1) (ik := .i64) (ix := (a : Int)) (sh := (Shape.int .u64)) (xs := e.toList) (a := (some ⟨pb, 0, none⟩)) (len := z) (cap := q) (by as_aux_lemma => kernel_rfl) hS (by as_aux_lemma => kernel_rfl) rfl H a (by omega) hx53 hn54 ?_
    intro b55 es56 ha57 hcell58 hr59
    cases ha57
    rw [tl_at (d := e) (k := a) _] at hr59
    have hb60 := Shape.u64_bd hr59
    obtain ⟨rfl, -⟩ := hr59
    have Hr := H
    refine RH.sto ?_
    refine RW.storeWC (d := none) (r := []) (e := 44) (m := 1) (b := pb) (k := a) (v := .int .u64 (e[(a + (k - 1))]!)) (by as_aux_lemma => kernel_rfl) rfl (by as_aux_lemma => kernel_rfl) H rfl hx53 hn54 (e[(a + (k - 1))]!) u64a ?_
    intro w62 hch61 H
    have hS63 := hS.sto hch61 (.inr (by simp))
    refine ⟨hS63, ?_⟩
    have hS := hS63
    have hn65 : z = (e.toList.set a (e[(a + (k - 1))]!)).length := by rw [List.length_set, tl_len (d := e)]; omega
    have hx64 : (a + (k - 1)) < (e.toList.set a (e[(a + (k - 1))]!)).length := by rw [List.length_set, tl_len (d := e)]; omega
    refine RH.indexW (d := some 50) (r := [(19, .seq)]) (T := 58) (e := 44) (m := 1) (ik := .i64) (ix := (a : Int) + ((k : Int) - 1)) (sh := (Shape.int .u64)) (xs := e.toList.set a (e[(a + (k - 1))]!)) (a := (some ⟨pb, 0, none⟩)) (len := z) (cap := q) (by as_aux_lemma => kernel_rfl) hS (by as_aux_lemma => kernel_rfl) rfl H (a + (k - 1)) (by omega) hx64 hn65 ?_
    intro b66 es67 ha68 hcell69 hr70
    cases ha68
    have hb71 := Shape.u64_bd hr70
    obtain ⟨rfl, -⟩ := hr70
    refine RH.sto ?_
    refine RW.storeWC (d := none) (r := []) (e := 44) (m := 1) (b := pb) (k := (a + (k - 1))) (v := .int .u64 (e[a]!)) (by as_aux_lemma => kernel_rfl) rfl (by as_aux_lemma => kernel_rfl) H rfl hx64 hn65 (e[a]!) u64a ?_
    intro w73 hch72 H
    have H := H.reW (ys := (swp e a (a + (k - 1))).toList) (swp_tl)
    have hS74 := hS.sto hch72 (.inr (by simp))
    refine ⟨hS74, ?_⟩
    have hS := hS74
    refine RH.fin hS 0 [0, 6, 7, 10] [(0, .slice (some ⟨pb, 0, none⟩) z q), (6, .I a), (7, .I 0), (10, .I ((k : Int) - 1))] (by as_aux_lemma => kernel_rfl) ?_
    refine qG (sq 0 5) ?_
    refine qP 4 (sq 4 5) [(0, .slice (some ⟨pb, 0, none⟩) z q), (6, .I a), (7, .I 0), (10, .I ((k : Int) - 1)), (51, .slice (some ⟨pb, 0, none⟩) z q), (52, .I 0), (53, .I ((k : Int) - 1)), (54, .I a)] ?_
    refine RW.callS (d := some 55) (r := (sq 5 5)) (g := 64) (args := #[.slice (some ⟨pb, 0, none⟩) z q, .I 0, .I ((k : Int) - 1), .I a]) (by as_aux_lemma => kernel_rfl) (usift_spec (d := (swp e a (a + (k - 1)))) (pb := pb) (z := z) (O := _) (S := _) (lo := 0) (loI := 0) (hi := (k - 1)) (hiI := ((k : Int) - 1)) (fs := a) (fsI := (a : Int)) (by omega) (by omega) (by omega) (by omega) (by first | omega | (rw [swp_size]; omega)) ((H.lend (M1 := []) (W1 := [⟨Shape.int .u64, 44, .slice (some ⟨pb, 0, none⟩) z q, (swp e a (a + (k - 1))).toList⟩])).pick [] rfl) (by first | omega | (rw [swp_size]; omega)) (by omega)) ?_
    rintro _ w75 ⟨rfl, H'⟩
    have H := H.back (M1 := []) (W1 := [⟨Shape.int .u64, 44, .slice (some ⟨pb, 0, none⟩) z q, (swp e a (a + (k - 1))).toList⟩]) H'
    have H : Hp w S O [] [⟨Shape.int .u64, 44, .slice (some ⟨pb, 0, none⟩) z q, (siftDown ltInt (k - 1) a 0 (swp e a (a + (k - 1)))).toList⟩] [] _ := H
    refine qF 0 [(0, .slice (some ⟨pb, 0, none⟩) z q), (6, .I a), (7, .I 0), (10, .I ((k : Int) - 1))] ?_
    refine qR 1 [.c [5, 0, 0, 2], .l [5, 0, 0], .b 2] [(0, .slice (some ⟨pb, 0, none⟩) z q), (6, .I a), (7, .I 0), (10, .I ((k : Int) - 1))] ?_
    refine qG (sq 0 3) ?_
    refine qP 1 (sq 1 3) [(0, .slice (some ⟨pb, 0, none⟩) z q), (6, .I a), (7, .I 0), (10, .I ((k : Int) - 1)), (31, .I ((k : Int) - 1))] ?_
    refine qI .seq 32 (sq 2 3) (((k : Int) - 1) - 1) ?_
    refine qF 1 [(0, .slice (some ⟨pb, 0, none⟩) z q), (6, .I a), (7, .I 0), (10, .I (((k : Int) - 1) - 1))] ?_
    rw [show (k : Int) - 1 - 1 = ((k - 1 : Nat) : Int) - 1 by omega]
    exact WK.back (hback5 ((k - 1), (siftDown ltInt (k - 1) a 0 (swp e a (a + (k - 1))))) _ ⟨H, by rw [← hinv1.1]; exact hp_go (by omega), by rw [siftDown_size, swp_size]; exact hinv1.2.1, by omega⟩ (by first | omega | (simp only []; omega))) (by as_aux_lemma => kernel_rfl)
  ·
   refine qR 1 [] [] ?_
   refine WK.fin (v := .tuple #[]) Try.func50 (by as_aux_lemma => kernel_rfl) ?_
   have e9 : e = (heapSort ltInt d a b) := by rw [← hinv1.1, show k = 0 by omega]; rfl
   rw [e9] at H
   exact ⟨_, rfl, rfl, H.pick [] rfl⟩
end Go.Proofs.Ythbegjaoifghlaa
