import Derived.Test.YthbegjaoifghlaaSU1
namespace Go.Proofs.Ythbegjaoifghlaa
open Go.BX
open Go.Sort (swp insInner insOuter insertionSort ltInt siftDown heapBuild heapPop heapSort reverseLoop reverseRange)
theorem urev_spec {S : Nat → Prop} {w : World} {O : List Nat} {d : Array Int} {pb z q : Nat} {a : Nat} {aI : Int} (haI : aI = (a : Int)) {b : Nat} {bI : Int} (hbI : bI = (b : Int)) (hab : a < b) (hb : b ≤ d.size) (H0 : Hp w S O [] [⟨Shape.int .u64, 44, .slice (some ⟨pb, 0, none⟩) z q, d.toList⟩] [] w) (hz : d.size = z) (hle : z ≤ 1048576) :
 Calls Try.prog 53 #[.slice (some ⟨pb, 0, none⟩) z q, .I aI, .I bI] w (Ret fun v w' => v = .tuple #[] ∧ Hp w S O [] [⟨Shape.int .u64, 44, .slice (some ⟨pb, 0, none⟩) z q, (reverseRange d a b).toList⟩] [] w') := by
 subst haI
 subst hbI
 refine qS (fn := Try.f53) (n := 32) (σ := [(0, .slice (some ⟨pb, 0, none⟩) z q), (1, .I a), (2, .I b)]) Try.func53 ?_
 have H := H0
 refine qR 3 [.c [1, 0], .c [2]] [(0, .slice (some ⟨pb, 0, none⟩) z q), (2, .I b), (6, .I a)] ?_
 refine qG (sq 0 3) ?_
 refine qP 1 (sq 1 3) [(0, .slice (some ⟨pb, 0, none⟩) z q), (6, .I a), (9, .I b)] ?_
 refine qI .seq 10 (sq 2 3) ((b : Int) - 1) ?_
 refine qF 1 [(0, .slice (some ⟨pb, 0, none⟩) z q), (6, .I a), (7, .I ((b : Int) - 1))] ?_
 refine qR 1 [.c [2, 0], .b 0] [(0, .slice (some ⟨pb, 0, none⟩) z q), (6, .I a), (7, .I ((b : Int) - 1))] ?_
 rw [show (b : Int) - 1 = ((b - 1 : Nat) : Int) by omega]
 refine WK.loop (α := Nat × Nat × Array Int) (b := cd Try.prog 53 [2, 0, 0]) (by as_aux_lemma => kernel_rfl) (fun st_ => match st_ with | (i, j, e) => [(0, .slice (some ⟨pb, 0, none⟩) z q), (6, .I i), (7, .I j)]) (fun st_ w' => match st_ with | (i, j, e) => Hp w S O [] [⟨Shape.int .u64, 44, .slice (some ⟨pb, 0, none⟩) z q, e.toList⟩] [] w' ∧ reverseLoop i j e = (reverseRange d a b) ∧ e.size = z ∧ j < b) (fun st_ => match st_ with | (i, j, e) => j - i) (a, (b - 1), d) ⟨H, rfl, hz, by omega⟩ (rfl) ?_
 rintro ⟨i, j, e⟩ w2 ⟨H, hinv0⟩ hback1
 refine qR 3 [.c [2, 0, 0, 0, 1], .c [2, 0, 0, 1], .l [2, 0, 0], .b 0] [(0, .slice (some ⟨pb, 0, none⟩) z q), (6, .I i), (7, .I j), (13, .bool (decide (((i : Int) : Int) < (j : Int))))] ?_
 refine qD (((i : Int) : Int) < (j : Int)) (fun h3 => ?_) (fun h3 => ?_)
 ·
  refine qR 3 [.c [2, 0, 0, 1, 0, 0], .c [2, 0, 0, 1, 0, 1], .b 1, .l [2, 0, 0], .b 0] [(0, .slice (some ⟨pb, 0, none⟩) z q), (6, .I i), (7, .I j)] ?_
  refine WK.drawP1 13 [0, 1, 2, 3, 4, 5, 8, 9] [(23, .I i), (22, .slice (some ⟨pb, 0, none⟩) z q), (19, .I j), (18, .slice (some ⟨pb, 0, none⟩) z q), (17, .I j), (16, .slice (some ⟨pb, 0, none⟩) z q), (15, .I i), (14, .slice (some ⟨pb, 0, none⟩) z q), (0, .slice (some ⟨pb, 0, none⟩) z q), (6, .I i), (7, .I j)] (qs [6, 7, 10, 11, 12]) [(6, .qui), (7, .qui), (10, .qui), (11, .qui), (12, .qui), (13, .seq), (14, .seq), (15, .seq)] Try_mixed (by as_aux_lemma => kernel_rfl) (by as_aux_lemma => kernel_rfl) (by as_aux_lemma => kernel_rfl) (by as_aux_lemma => kernel_rfl) ?_
  have H := H.draw
  generalize ({ w2 with drawn := w2.drawn + 1 } : World) = w4 at H ⊢
  have hn6 : z = e.toList.length := by rw [tl_len (d := e)]; omega
  have hx5 : j < e.toList.length := by rw [tl_len (d := e)]; omega
  refine RW.indexW (κ := .qui) (d := some 20) (r := [(7, .qui), (10, .qui), (11, .qui), (12, .qui), (13, .seq), (14, .seq), (15, .seq)]) (T := 58) (e := 44) (m := 1) (ik := .i64) (ix := (j : Int)) (sh := (Shape.int .u64)) (xs := e.toList) (a := (some ⟨pb, 0, none⟩)) (len := z) (cap := q) (by as_aux_lemma => kernel_rfl) (by as_aux_lemma => kernel_rfl) rfl H j (by omega) hx5 hn6 ?_
  intro b7 es8 ha9 hcell10 hr11
  cases ha9
  rw [tl_at (d := e) (k := j) _] at hr11
  have hb12 := Shape.u64_bd hr11
  obtain ⟨rfl, -⟩ := hr11
  refine qL .qui 21 [(10, .qui), (11, .qui), (12, .qui), (13, .seq), (14, .seq), (15, .seq)] 44 pb (j * 1) 0 (.int .u64 (e[j]!)) hcell10 ?_
  have hn14 : z = e.toList.length := by rw [tl_len (d := e)]; omega
  have hx13 : i < e.toList.length := by rw [tl_len (d := e)]; omega
  refine RW.indexW (κ := .qui) (d := some 24) (r := [(11, .qui), (12, .qui), (13, .seq), (14, .seq), (15, .seq)]) (T := 58) (e := 44) (m := 1) (ik := .i64) (ix := (i : Int)) (sh := (Shape.int .u64)) (xs := e.toList) (a := (some ⟨pb, 0, none⟩)) (len := z) (cap := q) (by as_aux_lemma => kernel_rfl) (by as_aux_lemma => kernel_rfl) rfl H i (by omega) hx13 hn14 ?_
  intro b15 es16 ha17 hcell18 hr19
  cases ha17
  rw [tl_at (d := e) (k := i) _] at hr19
  have hb20 := Shape.u64_bd hr19
  obtain ⟨rfl, -⟩ := hr19
  refine qL .qui 25 [(12, .qui), (13, .seq), (14, .seq), (15, .seq)] 44 pb (i * 1) 0 (.int .u64 (e[i]!)) hcell18 ?_
  have hn22 : z = e.toList.length := by rw [tl_len (d := e)]; omega
  have hx21 : i < e.toList.length := by rw [tl_len (d := e)]; omega
  refine RW.indexW (κ := .qui) (d := some 26) (r := [(13, .seq), (14, .seq), (15, .seq)]) (T := 58) (e := 44) (m := 1) (ik := .i64) (ix := (i : Int)) (sh := (Shape.int .u64)) (xs := e.toList) (a := (some ⟨pb, 0, none⟩)) (len := z) (cap := q) (by as_aux_lemma => kernel_rfl) (by as_aux_lemma => kernel_rfl) rfl H i (by omega) hx21 hn22 ?_
  intro b23 es24 ha25 hcell26 hr27
  cases ha25
  rw [tl_at (d := e) (k := i) _] at hr27
  have hb28 := Shape.u64_bd hr27
  obtain ⟨rfl, -⟩ := hr27
  refine RW.storeW (d := none) (r := [(14, .seq), (15, .seq)]) (e := 44) (m := 1) (b := pb) (k := i) (v := .int .u64 (e[j]!)) (by as_aux_lemma => kernel_rfl) rfl (by as_aux_lemma => kernel_rfl) H rfl hx21 hn22 (e[j]!) u64a ?_
  intro w29 H
  have hn31 : z = (e.toList.set i (e[j]!)).length := by rw [List.length_set, tl_len (d := e)]; omega
  have hx30 : j < (e.toList.set i (e[j]!)).length := by rw [List.length_set, tl_len (d := e)]; omega
  refine RW.indexW (κ := .seq) (d := some 27) (r := [(15, .seq)]) (T := 58) (e := 44) (m := 1) (ik := .i64) (ix := (j : Int)) (sh := (Shape.int .u64)) (xs := e.toList.set i (e[j]!)) (a := (some ⟨pb, 0, none⟩)) (len := z) (cap := q) (by as_aux_lemma => kernel_rfl) (by as_aux_lemma => kernel_rfl) rfl H j (by omega) hx30 hn31 ?_
  intro b32 es33 ha34 hcell35 hr36
  cases ha34
  have hb37 := Shape.u64_bd hr36
  obtain ⟨rfl, -⟩ := hr36
  refine RW.storeW (d := none) (r := []) (e := 44) (m := 1) (b := pb) (k := j) (v := .int .u64 (e[i]!)) (by as_aux_lemma => kernel_rfl) rfl (by as_aux_lemma => kernel_rfl) H rfl hx30 hn31 (e[i]!) u64a ?_
  intro w38 H
  have H := H.reW (ys := (swp e i j).toList) (swp_tl)
  refine qF 0 [(0, .slice (some ⟨pb, 0, none⟩) z q), (6, .I i), (7, .I j)] ?_
  refine qR 1 [.c [2, 0, 0, 1, 0, 1, 0], .c [2, 0, 0, 1, 0, 2], .b 1, .l [2, 0, 0], .b 0] [(0, .slice (some ⟨pb, 0, none⟩) z q), (6, .I i), (7, .I j)] ?_
  refine qG (sq 0 3) ?_
  refine qP 1 (sq 1 3) [(0, .slice (some ⟨pb, 0, none⟩) z q), (6, .I i), (7, .I j), (28, .I i)] ?_
  refine qI .seq 29 (sq 2 3) ((i : Int) + 1) ?_
  refine qF 1 [(0, .slice (some ⟨pb, 0, none⟩) z q), (6, .I ((i : Int) + 1)), (7, .I j)] ?_
  refine qG (sq 0 3) ?_
  refine qP 1 (sq 1 3) [(0, .slice (some ⟨pb, 0, none⟩) z q), (6, .I ((i : Int) + 1)), (7, .I j), (30, .I j)] ?_
  refine qI .seq 31 (sq 2 3) ((j : Int) - 1) ?_
  refine qF 1 [(0, .slice (some ⟨pb, 0, none⟩) z q), (6, .I ((i : Int) + 1)), (7, .I ((j : Int) - 1))] ?_
  refine qR 1 [.l [2, 0, 0], .b 0] [(0, .slice (some ⟨pb, 0, none⟩) z q), (6, .I ((i : Int) + 1)), (7, .I ((j : Int) - 1))] ?_
  rw [show (j : Int) - 1 = ((j - 1 : Nat) : Int) by omega]
  exact WK.back (hback1 (i + 1, (j - 1), (swp e i j)) _ ⟨H, by rw [← hinv0.1, revLoop_go (i := i) (j := j) (d := e) (by omega)], by rw [swp_size]; exact hinv0.2.1, by omega⟩ (by first | omega | (simp only []; omega))) (by as_aux_lemma => kernel_rfl)
 ·
  refine qR 1 [] [] ?_
  refine WK.fin (v := .tuple #[]) Try.func53 (by as_aux_lemma => kernel_rfl) ?_
  have e9 : e = (reverseRange d a b) := by rw [← hinv0.1, revLoop_stop (by omega)]
  rw [e9] at H
  exact ⟨_, rfl, rfl, H.pick [] rfl⟩
theorem usift_spec {S : Nat → Prop} {w : World} {O : List Nat} {d : Array Int} {pb z q : Nat} {lo : Nat} {loI : Int} (hloI : loI = (lo : Int)) {hi : Nat} {hiI : Int} (hhiI : hiI = (hi : Int)) {fs : Nat} {fsI : Int} (hfsI : fsI = (fs : Int)) (hlo : lo ≤ 1048576) (hb : fs + hi ≤ d.size) (H0 : Hp w S O [] [⟨Shape.int .u64, 44, .slice (some ⟨pb, 0, none⟩) z q, d.toList⟩] [] w) (hz : d.size = z) (hle : z ≤ 1048576) :
 Calls Try.prog 64 #[.slice (some ⟨pb, 0, none⟩) z q, .I loI, .I hiI, .I fsI] w (Ret fun v w' => v = .tuple #[] ∧ Hp w S O [] [⟨Shape.int .u64, 44, .slice (some ⟨pb, 0, none⟩) z q, (siftDown ltInt hi fs lo d).toList⟩] [] w') := by
 subst hloI
 subst hhiI
 subst hfsI
 refine qS (fn := Try.f64) (n := 76) (σ := [(0, .slice (some ⟨pb, 0, none⟩) z q), (1, .I lo), (2, .I hi), (3, .I fs)]) Try.func64 ?_
 have H := H0
 refine qR 3 [.c [1, 0], .b 0] [(0, .slice (some ⟨pb, 0, none⟩) z q), (2, .I hi), (3, .I fs), (8, .I lo)] ?_
 refine WK.loop (α := Nat × Array Int) (b := cd Try.prog 64 [1, 0, 0]) (by as_aux_lemma => kernel_rfl) (fun st_ => match st_ with | (root, e) => [(0, .slice (some ⟨pb, 0, none⟩) z q), (2, .I hi), (3, .I fs), (8, .I root)]) (fun st_ w' => match st_ with | (root, e) => Hp w S O [] [⟨Shape.int .u64, 44, .slice (some ⟨pb, 0, none⟩) z q, e.toList⟩] [] w' ∧ siftDown ltInt hi fs root e = (siftDown ltInt hi fs lo d) ∧ e.size = z ∧ root ≤ 1048576) (fun st_ => match st_ with | (root, e) => hi - root) (lo, d) ⟨H, rfl, hz, hlo⟩ (rfl) ?_
 rintro ⟨root, e⟩ w2 ⟨H, hinv0⟩ hback1
 refine qR 2 [.c [1, 0, 0, 0, 0], .c [1, 0, 0, 0, 1], .b 1, .l [1, 0, 0], .b 0] [(0, .slice (some ⟨pb, 0, none⟩) z q), (2, .I hi), (3, .I fs), (8, .I root)] ?_
 refine qG (sq 0 4) ?_
 refine qP 1 (sq 1 4) [(0, .slice (some ⟨pb, 0, none⟩) z q), (2, .I hi), (3, .I fs), (8, .I root), (11, .I root)] ?_
 refine qI .seq 12 (sq 2 4) (2 * (root : Int)) ?_
 refine qI .seq 13 (sq 3 4) ((2 * (root : Int)) + 1) ?_
 refine qF 1 [(0, .slice (some ⟨pb, 0, none⟩) z q), (2, .I hi), (3, .I fs), (8, .I root), (9, .I ((2 * (root : Int)) + 1))] ?_
 refine qR 3 [.c [1, 0, 0, 0, 1, 0, 1], .c [1, 0, 0, 0, 2], .b 1, .l [1, 0, 0], .b 0] [(0, .slice (some ⟨pb, 0, none⟩) z q), (2, .I hi), (3, .I fs), (8, .I root), (9, .I ((2 * (root : Int)) + 1)), (16, .bool (decide (((2 * (root : Int)) + 1 : Int) ≥ (hi : Int))))] ?_
 refine qD (((2 * (root : Int)) + 1 : Int) ≥ (hi : Int)) (fun h3 => ?_) (fun h3 => ?_)
 ·
  refine qR 1 [] [] ?_
  refine WK.fin (v := .tuple #[]) Try.func64 (by as_aux_lemma => kernel_rfl) ?_
  have e9 : e = (siftDown ltInt hi fs lo d) := by rw [← hinv0.1]; first | rw [sd_stop (by omega)] | rw [sd_rstop (by omega) hc9 (by simpa using hd9)] | rw [sd_lstop (by omega) hc9 (by simpa using hd9)]
  rw [e9] at H
  exact ⟨_, rfl, rfl, H.pick [] rfl⟩
 ·
  refine qR 3 [.c [1, 0, 0, 0, 2, 0, 0], .c [1, 0, 0, 0, 2, 0, 1], .c [1, 0, 0, 0, 3], .b 1, .l [1, 0, 0], .b 0] [(0, .slice (some ⟨pb, 0, none⟩) z q), (2, .I hi), (3, .I fs), (8, .I root), (9, .I ((2 * (root : Int)) + 1))] ?_
  refine WK.draw1 20 [(0, .qui), (1, .qui), (2, .qui), (3, .qui), (4, .qui), (5, .qui), (6, .qui), (7, .qui), (8, .qui), (9, .qui), (10, .qui), (11, .qui), (12, .qui), (13, .qui), (14, .qui), (15, .qui), (16, .qui), (17, .qui), (18, .chn), (19, .qui)] [(0, .qui), (1, .qui), (2, .qui), (3, .qui), (4, .qui), (5, .qui), (6, .qui), (7, .qui), (8, .qui), (9, .qui), (10, .qui), (11, .qui), (12, .qui), (13, .qui), (14, .qui), (15, .qui), (16, .qui), (17, .qui), (18, .chn), (19, .qui)] Try_mixed (by as_aux_lemma => kernel_rfl) (by as_aux_lemma => kernel_rfl) (by as_aux_lemma => kernel_rfl) ?_
  have H := H.draw
  generalize ({ w2 with drawn := w2.drawn + 1 } : World) = w4 at H ⊢
  refine qP 1 [(1, .qui), (2, .qui), (3, .qui), (4, .qui), (5, .qui), (6, .qui), (7, .qui), (8, .qui), (9, .qui), (10, .qui), (11, .qui), (12, .qui), (13, .qui), (14, .qui), (15, .qui), (16, .qui), (17, .qui), (18, .chn), (19, .qui)] [(0, .slice (some ⟨pb, 0, none⟩) z q), (2, .I hi), (3, .I fs), (8, .I root), (9, .I ((2 * (root : Int)) + 1)), (17, .I ((2 * (root : Int)) + 1))] ?_
  refine qI .qui 18 [(2, .qui), (3, .qui), (4, .qui), (5, .qui), (6, .qui), (7, .qui), (8, .qui), (9, .qui), (10, .qui), (11, .qui), (12, .qui), (13, .qui), (14, .qui), (15, .qui), (16, .qui), (17, .qui), (18, .chn), (19, .qui)] (((2 * (root : Int)) + 1) + 1) ?_
  refine qP 3 [(5, .qui), (6, .qui), (7, .qui), (8, .qui), (9, .qui), (10, .qui), (11, .qui), (12, .qui), (13, .qui), (14, .qui), (15, .qui), (16, .qui), (17, .qui), (18, .chn), (19, .qui)] [(0, .slice (some ⟨pb, 0, none⟩) z q), (2, .I hi), (3, .I fs), (8, .I root), (9, .I ((2 * (root : Int)) + 1)), (21, .bool (decide ((((2 * (root : Int)) + 1) + 1 : Int) < (hi : Int))))] ?_
  refine tD (fun b_ => [(0, .slice (some ⟨pb, 0, none⟩) z q), (2, .I hi), (3, .I fs), (8, .I root), (9, .I ((2 * (root : Int)) + 1)), (21, .bool b_)]) ((((2 * (root : Int)) + 1) + 1 : Int) < (hi : Int)) (fun h5 => ?_) (fun h5 => ?_)
  ·
   refine qP 3 [(8, .qui), (9, .qui), (10, .qui), (11, .qui), (12, .qui), (13, .qui), (14, .qui), (15, .qui), (16, .qui), (17, .qui), (18, .chn), (19, .qui)] [(0, .slice (some ⟨pb, 0, none⟩) z q), (2, .I hi), (3, .I fs), (8, .I root), (9, .I ((2 * (root : Int)) + 1)), (21, .bool true), (22, .slice (some ⟨pb, 0, none⟩) z q), (23, .I fs), (24, .I ((2 * (root : Int)) + 1))] ?_
   refine qI .qui 25 [(9, .qui), (10, .qui), (11, .qui), (12, .qui), (13, .qui), (14, .qui), (15, .qui), (16, .qui), (17, .qui), (18, .chn), (19, .qui)] ((fs : Int) + ((2 * (root : Int)) + 1)) ?_
   have hn7 : z = e.toList.length := by rw [tl_len (d := e)]; omega
   have hx6 : (fs + (2 * root + 1)) < e.toList.length := by rw [tl_len (d := e)]; omega
   refine RW.indexW (κ := .qui) (d := some 26) (r := [(10, .qui), (11, .qui), (12, .qui), (13, .qui), (14, .qui), (15, .qui), (16, .qui), (17, .qui), (18, .chn), (19, .qui)]) (T := 58) (e := 44) (m := 1) (ik := .i64) (ix := (fs : Int) + ((2 * (root : Int)) + 1)) (sh := (Shape.int .u64)) (xs := e.toList) (a := (some ⟨pb, 0, none⟩)) (len := z) (cap := q) (by as_aux_lemma => kernel_rfl) (by as_aux_lemma => kernel_rfl) rfl H (fs + (2 * root + 1)) (by omega) hx6 hn7 ?_
   intro b8 es9 ha10 hcell11 hr12
   cases ha10
   rw [tl_at (d := e) (k := (fs + (2 * root + 1))) _] at hr12
   have hb13 := Shape.u64_bd hr12
   obtain ⟨rfl, -⟩ := hr12
   refine qL .qui 27 [(11, .qui), (12, .qui), (13, .qui), (14, .qui), (15, .qui), (16, .qui), (17, .qui), (18, .chn), (19, .qui)] 44 pb ((fs + (2 * root + 1)) * 1) 0 (.int .u64 (e[(fs + (2 * root + 1))]!)) hcell11 ?_
   refine qP 3 [(14, .qui), (15, .qui), (16, .qui), (17, .qui), (18, .chn), (19, .qui)] [(0, .slice (some ⟨pb, 0, none⟩) z q), (2, .I hi), (3, .I fs), (8, .I root), (9, .I ((2 * (root : Int)) + 1)), (21, .bool true), (27, .int .u64 (e[(fs + (2 * root + 1))]!)), (28, .slice (some ⟨pb, 0, none⟩) z q), (29, .I fs), (30, .I ((2 * (root : Int)) + 1))] ?_
   refine qI .qui 31 [(15, .qui), (16, .qui), (17, .qui), (18, .chn), (19, .qui)] ((fs : Int) + ((2 * (root : Int)) + 1)) ?_
   refine qI .qui 32 [(16, .qui), (17, .qui), (18, .chn), (19, .qui)] (((fs : Int) + ((2 * (root : Int)) + 1)) + 1) ?_
   have hn15 : z = e.toList.length := by rw [tl_len (d := e)]; omega
   have hx14 : ((fs + (2 * root + 1)) + 1) < e.toList.length := by rw [tl_len (d := e)]; omega
   refine RW.indexW (κ := .qui) (d := some 33) (r := [(17, .qui), (18, .chn), (19, .qui)]) (T := 58) (e := 44) (m := 1) (ik := .i64) (ix := ((fs : Int) + ((2 * (root : Int)) + 1)) + 1) (sh := (Shape.int .u64)) (xs := e.toList) (a := (some ⟨pb, 0, none⟩)) (len := z) (cap := q) (by as_aux_lemma => kernel_rfl) (by as_aux_lemma => kernel_rfl) rfl H ((fs + (2 * root + 1)) + 1) (by omega) hx14 hn15 ?_
   intro b16 es17 ha18 hcell19 hr20
   cases ha18
   rw [tl_at (d := e) (k := ((fs + (2 * root + 1)) + 1)) _] at hr20
   have hb21 := Shape.u64_bd hr20
   obtain ⟨rfl, -⟩ := hr20
   refine qL .qui 34 [(18, .chn), (19, .qui)] 44 pb (((fs + (2 * root + 1)) + 1) * 1) 0 (.int .u64 (e[((fs + (2 * root + 1)) + 1)]!)) hcell19 ?_
   refine qK .chn (some 35) [(19, .qui)] 55 #[.int .u64 (e[(fs + (2 * root + 1))]!), .int .u64 (e[((fs + (2 * root + 1)) + 1)]!)] (uless_spec (S := fun _ => True) (e[(fs + (2 * root + 1))]!) (e[((fs + (2 * root + 1)) + 1)]!)) ?_
   rintro _ w22 hE23 rfl
   have H := H.ext hE23
   refine qF 1 [(0, .slice (some ⟨pb, 0, none⟩) z q), (2, .I hi), (3, .I fs), (8, .I root), (9, .I ((2 * (root : Int)) + 1)), (36, .bool (decide (e[(fs + (2 * root + 1))]! < e[((fs + (2 * root + 1)) + 1)]!)))] ?_
   refine qD (e[(fs + (2 * root + 1))]! < e[((fs + (2 * root + 1)) + 1)]!) (fun h24 => ?_) (fun h24 => ?_)
   ·
    have hc9 : e[(fs + (2 * root + 1))]! < e[(fs + (2 * root + 1) + 1)]! := by simpa using h24
    refine qG (sq 0 3) ?_
    refine qP 1 (sq 1 3) [(0, .slice (some ⟨pb, 0, none⟩) z q), (2, .I hi), (3, .I fs), (8, .I root), (9, .I ((2 * (root : Int)) + 1)), (37, .I ((2 * (root : Int)) + 1))] ?_
    refine qI .seq 38 (sq 2 3) (((2 * (root : Int)) + 1) + 1) ?_
    refine qF 1 [(0, .slice (some ⟨pb, 0, none⟩) z q), (2, .I hi), (3, .I fs), (8, .I root), (9, .I (((2 * (root : Int)) + 1) + 1))] ?_
    refine qR 2 [.c [1, 0, 0, 0, 3, 0, 0], .c [1, 0, 0, 0, 3, 0, 1], .c [1, 0, 0, 0, 4], .b 1, .l [1, 0, 0], .b 0] [(0, .slice (some ⟨pb, 0, none⟩) z q), (2, .I hi), (3, .I fs), (8, .I root), (9, .I (((2 * (root : Int)) + 1) + 1))] ?_
    refine WK.draw1 14 [(0, .qui), (1, .qui), (2, .qui), (3, .qui), (4, .qui), (5, .qui), (6, .qui), (7, .qui), (8, .qui), (9, .qui), (10, .qui), (11, .qui), (12, .chn), (13, .qui)] [(0, .qui), (1, .qui), (2, .qui), (3, .qui), (4, .qui), (5, .qui), (6, .qui), (7, .qui), (8, .qui), (9, .qui), (10, .qui), (11, .qui), (12, .chn), (13, .qui)] Try_mixed (by as_aux_lemma => kernel_rfl) (by as_aux_lemma => kernel_rfl) (by as_aux_lemma => kernel_rfl) ?_
    have H := H.draw
    generalize ({ w22 with drawn := w22.drawn + 1 } : World) = w25 at H ⊢
    refine qP 3 [(3, .qui), (4, .qui), (5, .qui), (6, .qui), (7, .qui), (8, .qui), (9, .qui), (10, .qui), (11, .qui), (12, .chn), (13, .qui)] [(0, .slice (some ⟨pb, 0, none⟩) z q), (2, .I hi), (3, .I fs), (8, .I root), (9, .I (((2 * (root : Int)) + 1) + 1)), (39, .slice (some ⟨pb, 0, none⟩) z q), (40, .I fs), (41, .I root)] ?_
    refine qI .qui 42 [(4, .qui), (5, .qui), (6, .qui), (7, .qui), (8, .qui), (9, .qui), (10, .qui), (11, .qui), (12, .chn), (13, .qui)] ((fs : Int) + (root : Int)) ?_
    have hn27 : z = e.toList.length := by rw [tl_len (d := e)]; omega
    have hx26 : (fs + root) < e.toList.length := by rw [tl_len (d := e)]; omega
    refine RW.indexW (κ := .qui) (d := some 43) (r := [(5, .qui), (6, .qui), (7, .qui), (8, .qui), (9, .qui), (10, .qui), (11, .qui), (12, .chn), (13, .qui)]) (T := 58) (e := 44) (m := 1) (ik := .i64) (ix := (fs : Int) + (root : Int)) (sh := (Shape.int .u64)) (xs := e.toList) (a := (some ⟨pb, 0, none⟩)) (len := z) (cap := q) (by as_aux_lemma => kernel_rfl) (by as_aux_lemma => kernel_rfl) rfl H (fs + root) (by omega) hx26 hn27 ?_
    intro b28 es29 ha30 hcell31 hr32
    cases ha30
    rw [tl_at (d := e) (k := (fs + root)) _] at hr32
    have hb33 := Shape.u64_bd hr32
    obtain ⟨rfl, -⟩ := hr32
    refine qL .qui 44 [(6, .qui), (7, .qui), (8, .qui), (9, .qui), (10, .qui), (11, .qui), (12, .chn), (13, .qui)] 44 pb ((fs + root) * 1) 0 (.int .u64 (e[(fs + root)]!)) hcell31 ?_
    refine qP 3 [(9, .qui), (10, .qui), (11, .qui), (12, .chn), (13, .qui)] [(0, .slice (some ⟨pb, 0, none⟩) z q), (2, .I hi), (3, .I fs), (8, .I root), (9, .I (((2 * (root : Int)) + 1) + 1)), (44, .int .u64 (e[(fs + root)]!)), (45, .slice (some ⟨pb, 0, none⟩) z q), (46, .I fs), (47, .I (((2 * (root : Int)) + 1) + 1))] ?_
    refine qI .qui 48 [(10, .qui), (11, .qui), (12, .chn), (13, .qui)] ((fs : Int) + (((2 * (root : Int)) + 1) + 1)) ?_
    have hn35 : z = e.toList.length := by rw [tl_len (d := e)]; omega
    have hx34 : (fs + (2 * root + 2)) < e.toList.length := by rw [tl_len (d := e)]; omega
    refine RW.indexW (κ := .qui) (d := some 49) (r := [(11, .qui), (12, .chn), (13, .qui)]) (T := 58) (e := 44) (m := 1) (ik := .i64) (ix := (fs : Int) + (((2 * (root : Int)) + 1) + 1)) (sh := (Shape.int .u64)) (xs := e.toList) (a := (some ⟨pb, 0, none⟩)) (len := z) (cap := q) (by as_aux_lemma => kernel_rfl) (by as_aux_lemma => kernel_rfl) rfl H (fs + (2 * root + 2)) (by omega) hx34 hn35 ?_
    intro b36 es37 ha38 hcell39 hr40
    cases ha38
    rw [tl_at (d := e) (k := (fs + (2 * root + 2))) _] at hr40
    have hb41 := Shape.u64_bd hr40
    obtain ⟨rfl, -⟩ := hr40
    refine qL .qui 50 [(12, .chn), (13, .qui)] 44 pb ((fs + (2 * root + 2)) * 1) 0 (.int .u64 (e[(fs + (2 * root + 2))]!)) hcell39 ?_
    refine qK .chn (some 51) [(13, .qui)] 55 #[.int .u64 (e[(fs + root)]!), .int .u64 (e[(fs + (2 * root + 2))]!)] (uless_spec (S := fun _ => True) (e[(fs + root)]!) (e[(fs + (2 * root + 2))]!)) ?_
    rintro _ w42 hE43 rfl
    have H := H.ext hE43
    refine qF 1 [(0, .slice (some ⟨pb, 0, none⟩) z q), (2, .I hi), (3, .I fs), (8, .I root), (9, .I (((2 * (root : Int)) + 1) + 1)), (52, .bool (!(decide (e[(fs + root)]! < e[(fs + (2 * root + 2))]!))))] ?_
    refine qC (!(decide (e[(fs + root)]! < e[(fs + (2 * root + 2))]!))) (fun h44 => ?_) (fun h44 => ?_)
    ·
     replace h44 : (decide (e[(fs + root)]! < e[(fs + (2 * root + 2))]!)) = false := by revert h44; cases (decide (e[(fs + root)]! < e[(fs + (2 * root + 2))]!)) <;> simp
     replace h44 := of_decide_eq_false h44
     have hd9 := h44
     refine qT (.tuple #[]) Try.func64 ?_
     have e9 : e = (siftDown ltInt hi fs lo d) := by rw [← hinv0.1]; first | rw [sd_stop (by omega)] | rw [sd_rstop (by omega) hc9 (by simpa using hd9)] | rw [sd_lstop (by omega) hc9 (by simpa using hd9)]
     rw [e9] at H
     exact ⟨_, rfl, rfl, H.pick [] rfl⟩
    ·
     replace h44 : (decide (e[(fs + root)]! < e[(fs + (2 * root + 2))]!)) = true := by revert h44; cases (decide (e[(fs + root)]! < e[(fs + (2 * root + 2))]!)) <;> simp
     replace h44 := of_decide_eq_true h44
     have hd9 := h44
     refine qR 2 [.c [1, 0, 0, 0, 4, 0], .c [1, 0, 0, 0, 5], .b 1, .l [1, 0, 0], .b 0] [(0, .slice (some ⟨pb, 0, none⟩) z q), (2, .I hi), (3, .I fs), (8, .I root), (9, .I (((2 * (root : Int)) + 1) + 1))] ?_
     refine WK.drawH1 [pb] (.node (qs [0, 1, 2, 3, 4, 5, 6, 7, 8, 9, 10, 11, 12, 14, 15, 16, 17, 18]) (.cons 13 (.leaf [(19, .seq), (20, .qui), (21, .seq), (22, .qui), (23, .seq)]) (.cons 19 (.leaf [(13, .seq), (20, .qui), (21, .seq), (22, .qui), (23, .seq)]) .nil))) Try_mixed (by as_aux_lemma => kernel_rfl) (by as_aux_lemma => kernel_rfl) ?_
     intro w45 hw46
     have H := H.draw
     rw [← hw46] at H
     clear hw46
     have hS := Chg.refl w45 [pb]
     refine RG.node' (qs [0, 1, 2, 3, 4, 5, 6, 7, 8, 9, 10, 11, 12, 14, 15, 16, 17, 18]) (by as_aux_lemma => kernel_rfl) ?_
     refine qHP hS 3 (qs [3, 4, 5, 6, 7, 8, 9, 10, 11, 12, 14, 15, 16, 17, 18]) [(0, .slice (some ⟨pb, 0, none⟩) z q), (2, .I hi), (3, .I fs), (8, .I root), (9, .I (((2 * (root : Int)) + 1) + 1)), (53, .slice (some ⟨pb, 0, none⟩) z q), (54, .I fs), (55, .I root)] ?_
     refine RH.pv (d := some 56) (r := (qs [4, 5, 6, 7, 8, 9, 10, 11, 12, 14, 15, 16, 17, 18])) (v := .I (IntKind.i64.wrap ((fs : Int) + (root : Int)))) (v' := .I ((fs : Int) + (root : Int))) (by as_aux_lemma => kernel_rfl) hS (wr_i64 (by omega)) ?_
     refine qHP hS 3 (qs [7, 8, 9, 10, 11, 12, 14, 15, 16, 17, 18]) [(0, .slice (some ⟨pb, 0, none⟩) z q), (2, .I hi), (3, .I fs), (8, .I root), (9, .I (((2 * (root : Int)) + 1) + 1)), (53, .slice (some ⟨pb, 0, none⟩) z q), (56, .I ((fs : Int) + (root : Int))), (57, .slice (some ⟨pb, 0, none⟩) z q), (58, .I fs), (59, .I (((2 * (root : Int)) + 1) + 1))] ?_
     refine RH.pv (d := some 60) (r := (qs [8, 9, 10, 11, 12, 14, 15, 16, 17, 18])) (v := .I (IntKind.i64.wrap ((fs : Int) + (((2 * (root : Int)) + 1) + 1)))) (v' := .I ((fs : Int) + (((2 * (root : Int)) + 1) + 1))) (by as_aux_lemma => kernel_rfl) hS (wr_i64 (by omega)) ?_
     refine qHP hS 3 (qs [11, 12, 14, 15, 16, 17, 18]) [(0, .slice (some ⟨pb, 0, none⟩) z q), (2, .I hi), (3, .I fs), (8, .I root), (9, .I (((2 * (root : Int)) + 1) + 1)), (53, .slice (some ⟨pb, 0, none⟩) z q), (56, .I ((fs : Int) + (root : Int))), (57, .slice (some ⟨pb, 0, none⟩) z q), (60, .I ((fs : Int) + (((2 * (root : Int)) + 1) + 1))), (61, .slice (some ⟨pb, 0, none⟩) z q), (62, .I fs), (63, .I (((2 * (root : Int)) + 1) + 1))] ?_
     refine RH.pv (d := some 64) (r := (qs [12, 14, 15, 16, 17, 18])) (v := .I (IntKind.i64.wrap ((fs : Int) + (((2 * (root : Int)) + 1) + 1)))) (v' := .I ((fs : Int) + (((2 * (root : Int)) + 1) + 1))) (by as_aux_lemma => kernel_rfl) hS (wr_i64 (by omega)) ?_
     have hn48 : z = e.toList.length := by rw [tl_len (d := e)]; omega
     have hx47 : (fs + (2 * root + 2)) < e.toList.length := by rw [tl_len (d := e)]; omega
     refine RH.indexW (d := some 65) (r := (qs [14, 15, 16, 17, 18])) (T := 58) (e := 44) (m := 1) (ik := .i64) (ix := (fs : Int) + (((2 * (root : Int)) + 1) + 1)) (sh := (Shape.int .u64)) (xs := e.toList) (a := (some ⟨pb, 0, none⟩)) (len := z) (cap := q) (by as_aux_lemma => kernel_rfl) hS (by as_aux_lemma => kernel_rfl) rfl H (fs + (2 * root + 2)) (by omega) hx47 hn48 ?_
     intro b49 es50 ha51 hcell52 hr53
     cases ha51
     rw [tl_at (d := e) (k := (fs + (2 * root + 2))) _] at hr53
     have hb54 := Shape.u64_bd hr53
     obtain ⟨rfl, -⟩ := hr53
     refine qHP hS 3 (qs [17, 18]) [(0, .slice (some ⟨pb, 0, none⟩) z q), (2, .I hi), (3, .I fs), (9, .I (((2 * (root : Int)) + 1) + 1)), (53, .slice (some ⟨pb, 0, none⟩) z q), (56, .I ((fs : Int) + (root : Int))), (57, .slice (some ⟨pb, 0, none⟩) z q), (60, .I ((fs : Int) + (((2 * (root : Int)) + 1) + 1))), (65, .pointer (some ⟨pb, (fs + (2 * root + 2)) * 1, none⟩)), (67, .slice (some ⟨pb, 0, none⟩) z q), (68, .I fs), (69, .I root)] ?_
     refine RH.pv (d := some 70) (r := [(18, .qui)]) (v := .I (IntKind.i64.wrap ((fs : Int) + (root : Int)))) (v' := .I ((fs : Int) + (root : Int))) (by as_aux_lemma => kernel_rfl) hS (wr_i64 (by omega)) ?_
     have hn56 : z = e.toList.length := by rw [tl_len (d := e)]; omega
     have hx55 : (fs + root) < e.toList.length := by rw [tl_len (d := e)]; omega
     refine RH.indexW (d := some 71) (r := []) (T := 58) (e := 44) (m := 1) (ik := .i64) (ix := (fs : Int) + (root : Int)) (sh := (Shape.int .u64)) (xs := e.toList) (a := (some ⟨pb, 0, none⟩)) (len := z) (cap := q) (by as_aux_lemma => kernel_rfl) hS (by as_aux_lemma => kernel_rfl) rfl H (fs + root) (by omega) hx55 hn56 ?_
     intro b57 es58 ha59 hcell60 hr61
     cases ha59
     rw [tl_at (d := e) (k := (fs + root)) _] at hr61
     have hb62 := Shape.u64_bd hr61
     obtain ⟨rfl, -⟩ := hr61
     refine RH.finB hS 0 [0, 2, 3, 9, 53, 56, 57, 60, 65, 71] [(0, .slice (some ⟨pb, 0, none⟩) z q), (2, .I hi), (3, .I fs), (9, .I (((2 * (root : Int)) + 1) + 1)), (53, .slice (some ⟨pb, 0, none⟩) z q), (56, .I ((fs : Int) + (root : Int))), (57, .slice (some ⟨pb, 0, none⟩) z q), (60, .I ((fs : Int) + (((2 * (root : Int)) + 1) + 1))), (65, .pointer (some ⟨pb, (fs + (2 * root + 2)) * 1, none⟩)), (71, .pointer (some ⟨pb, (fs + root) * 1, none⟩))] (by as_aux_lemma => kernel_rfl) ?_
     refine (RGB.cons' ?_ (RGB.cons' ?_ RGB.nil'))
     ·
      refine RG.leaf' [(13, .seq), (19, .seq), (20, .qui), (21, .seq), (22, .qui), (23, .seq)] (by as_aux_lemma => kernel_rfl) ?_
      have Hr := H
      refine RH.chn hS ?_
      refine qL .chn 66 [] 44 pb ((fs + (2 * root + 2)) * 1) 0 (.int .u64 (e[(fs + (2 * root + 2))]!)) hcell52 ?_
      intro hS
      have Hr := H
      refine RH.chn hS ?_
      refine qL .chn 72 [] 44 pb ((fs + root) * 1) 0 (.int .u64 (e[(fs + root)]!)) hcell60 ?_
      intro hS
      have hn66 : z = e.toList.length := by rw [tl_len (d := e)]; omega
      have hx65 : (fs + root) < e.toList.length := by rw [tl_len (d := e)]; omega
      refine RH.indexW (d := some 73) (r := [(21, .seq), (22, .qui), (23, .seq)]) (T := 58) (e := 44) (m := 1) (ik := .i64) (ix := (fs : Int) + (root : Int)) (sh := (Shape.int .u64)) (xs := e.toList) (a := (some ⟨pb, 0, none⟩)) (len := z) (cap := q) (by as_aux_lemma => kernel_rfl) hS (by as_aux_lemma => kernel_rfl) rfl H (fs + root) (by omega) hx65 hn66 ?_
      intro b67 es68 ha69 hcell70 hr71
      cases ha69
      rw [tl_at (d := e) (k := (fs + root)) _] at hr71
      have hb72 := Shape.u64_bd hr71
      obtain ⟨rfl, -⟩ := hr71
      have Hr := H
      refine RH.sto ?_
      refine RW.storeWC (d := none) (r := []) (e := 44) (m := 1) (b := pb) (k := (fs + root)) (v := .int .u64 (e[(fs + (2 * root + 2))]!)) (by as_aux_lemma => kernel_rfl) rfl (by as_aux_lemma => kernel_rfl) H rfl hx65 hn66 (e[(fs + (2 * root + 2))]!) u64a ?_
      intro w74 hch73 H
      have hS75 := hS.sto hch73 (.inr (by simp))
      refine ⟨hS75, ?_⟩
      have hS := hS75
      have hn77 : z = (e.toList.set (fs + root) (e[(fs + (2 * root + 2))]!)).length := by rw [List.length_set, tl_len (d := e)]; omega
      have hx76 : (fs + (2 * root + 2)) < (e.toList.set (fs + root) (e[(fs + (2 * root + 2))]!)).length := by rw [List.length_set, tl_len (d := e)]; omega
      refine RH.indexW (d := some 74) (r := [(23, .seq)]) (T := 58) (e := 44) (m := 1) (ik := .i64) (ix := (fs : Int) + (((2 * (root : Int)) + 1) + 1)) (sh := (Shape.int .u64)) (xs := e.toList.set (fs + root) (e[(fs + (2 * root + 2))]!)) (a := (some ⟨pb, 0, none⟩)) (len := z) (cap := q) (by as_aux_lemma => kernel_rfl) hS (by as_aux_lemma => kernel_rfl) rfl H (fs + (2 * root + 2)) (by omega) hx76 hn77 ?_
      intro b78 es79 ha80 hcell81 hr82
      cases ha80
      have hb83 := Shape.u64_bd hr82
      obtain ⟨rfl, -⟩ := hr82
      refine RH.sto ?_
      refine RW.storeWC (d := none) (r := []) (e := 44) (m := 1) (b := pb) (k := (fs + (2 * root + 2))) (v := .int .u64 (e[(fs + root)]!)) (by as_aux_lemma => kernel_rfl) rfl (by as_aux_lemma => kernel_rfl) H rfl hx76 hn77 (e[(fs + root)]!) u64a ?_
      intro w85 hch84 H
      have H := H.reW (ys := (swp e (fs + root) (fs + (2 * root + 2))).toList) (swp_tl)
      have hS86 := hS.sto hch84 (.inr (by simp))
      refine ⟨hS86, ?_⟩
      have hS := hS86
      refine RH.fin hS 0 [0, 2, 3, 9] [(0, .slice (some ⟨pb, 0, none⟩) z q), (2, .I hi), (3, .I fs), (9, .I (((2 * (root : Int)) + 1) + 1))] (by as_aux_lemma => kernel_rfl) ?_
      refine qR 2 [.l [1, 0, 0], .b 0] [(0, .slice (some ⟨pb, 0, none⟩) z q), (2, .I hi), (3, .I fs), (8, .I (((2 * (root : Int)) + 1) + 1))] ?_
      rw [show ((2 * (root : Int)) + 1) + 1 = (((2 * root + 2) : Nat) : Int) by omega]
      have hs9 := sd_rgo (hi := hi) (first := fs) (root := root) (e := e) (by omega) hc9 (by simpa using hd9)
      exact WK.back (hback1 ((2 * root + 2), (swp e (fs + root) (fs + (2 * root + 2)))) _ ⟨H, by rw [← hs9]; exact hinv0.1, by rw [swp_size]; exact hinv0.2.1, by omega⟩ (by first | omega | (simp only []; omega))) (by as_aux_lemma => kernel_rfl)
     ·
      refine RG.leaf' [(19, .seq), (13, .seq), (20, .qui), (21, .seq), (22, .qui), (23, .seq)] (by as_aux_lemma => kernel_rfl) ?_
      have Hr := H
      refine RH.chn hS ?_
      refine qL .chn 72 [] 44 pb ((fs + root) * 1) 0 (.int .u64 (e[(fs + root)]!)) hcell60 ?_
      intro hS
      have Hr := H
      refine RH.chn hS ?_
      refine qL .chn 66 [] 44 pb ((fs + (2 * root + 2)) * 1) 0 (.int .u64 (e[(fs + (2 * root + 2))]!)) hcell52 ?_
      intro hS
      have hn90 : z = e.toList.length := by rw [tl_len (d := e)]; omega
      have hx89 : (fs + root) < e.toList.length := by rw [tl_len (d := e)]; omega
      refine RH.indexW (d := some 73) (r := [(21, .seq), (22, .qui), (23, .seq)]) (T := 58) (e := 44) (m := 1) (ik := .i64) (ix := (fs : Int) + (root : Int)) (sh := (Shape.int .u64)) (xs := e.toList) (a := (some ⟨pb, 0, none⟩)) (len := z) (cap := q) (by as_aux_lemma => kernel_rfl) hS (by as_aux_lemma => kernel_rfl) rfl H (fs + root) (by omega) hx89 hn90 ?_
      intro b91 es92 ha93 hcell94 hr95
      cases ha93
      rw [tl_at (d := e) (k := (fs + root)) _] at hr95
      have hb96 := Shape.u64_bd hr95
      obtain ⟨rfl, -⟩ := hr95
      have Hr := H
      refine RH.sto ?_
      refine RW.storeWC (d := none) (r := []) (e := 44) (m := 1) (b := pb) (k := (fs + root)) (v := .int .u64 (e[(fs + (2 * root + 2))]!)) (by as_aux_lemma => kernel_rfl) rfl (by as_aux_lemma => kernel_rfl) H rfl hx89 hn90 (e[(fs + (2 * root + 2))]!) u64a ?_
      intro w98 hch97 H
      have hS99 := hS.sto hch97 (.inr (by simp))
      refine ⟨hS99, ?_⟩
      have hS := hS99
      have hn101 : z = (e.toList.set (fs + root) (e[(fs + (2 * root + 2))]!)).length := by rw [List.length_set, tl_len (d := e)]; omega
      have hx100 : (fs + (2 * root + 2)) < (e.toList.set (fs + root) (e[(fs + (2 * root + 2))]!)).length := by rw [List.length_set, tl_len (d := e)]; omega
      refine RH.indexW (d := some 74) (r := [(23, .seq)]) (T := 58) (e := 44) (m := 1) (ik := .i64) (ix := (fs : Int) + (((2 * (root : Int)) + 1) + 1)) (sh := (Shape.int .u64)) (xs := e.toList.set (fs + root) (e[(fs + (2 * root + 2))]!)) (a := (some ⟨pb, 0, none⟩)) (len := z) (cap := q) (by as_aux_lemma => kernel_rfl) hS (by as_aux_lemma => kernel_rfl) rfl H (fs + (2 * root + 2)) (by omega) hx100 hn101 ?_
      intro b102 es103 ha104 hcell105 hr106
      cases ha104
      have hb107 := Shape.u64_bd hr106
      obtain ⟨rfl, -⟩ := hr106
      refine RH.sto ?_
      refine RW.storeWC (d := none) (r := []) (e := 44) (m := 1) (b := pb) (k := (fs + (2 * root + 2))) (v := .int .u64 (e[(fs + root)]!)) (by as_aux_lemma => kernel_rfl) rfl (by as_aux_lemma => kernel_rfl) H rfl hx100 hn101 (e[(fs + root)]!) u64a ?_
      intro w109 hch108 H
      have H := H.reW (ys := (swp e (fs + root) (fs + (2 * root + 2))).toList) (swp_tl)
      have hS110 := hS.sto hch108 (.inr (by simp))
      refine ⟨hS110, ?_⟩
      have hS := hS110
      refine RH.fin hS 0 [0, 2, 3, 9] [(0, .slice (some ⟨pb, 0, none⟩) z q), (2, .I hi), (3, .I fs), (9, .I (((2 * (root : Int)) + 1) + 1))] (by as_aux_lemma => kernel_rfl) ?_
      refine qR 2 [.l [1, 0, 0], .b 0] [(0, .slice (some ⟨pb, 0, none⟩) z q), (2, .I hi), (3, .I fs), (8, .I (((2 * (root : Int)) + 1) + 1))] ?_
      rw [show ((2 * (root : Int)) + 1) + 1 = (((2 * root + 2) : Nat) : Int) by omega]
      have hs9 := sd_rgo (hi := hi) (first := fs) (root := root) (e := e) (by omega) hc9 (by simpa using hd9)
      exact WK.back (hback1 ((2 * root + 2), (swp e (fs + root) (fs + (2 * root + 2)))) _ ⟨H, by rw [← hs9]; exact hinv0.1, by rw [swp_size]; exact hinv0.2.1, by omega⟩ (by first | omega | (simp only []; omega))) (by as_aux_lemma => kernel_rfl)
   ·
    have hc9 : ¬ (2 * root + 2 < hi ∧ e[(fs + (2 * root + 1))]! < e[(fs + (2 * root + 1) + 1)]!) := fun q => absurd q.2 (by simpa using h24)
    refine qR 3 [.c [1, 0, 0, 0, 3, 0, 0], .c [1, 0, 0, 0, 3, 0, 1], .c [1, 0, 0, 0, 4], .b 1, .l [1, 0, 0], .b 0] [(0, .slice (some ⟨pb, 0, none⟩) z q), (2, .I hi), (3, .I fs), (8, .I root), (9, .I ((2 * (root : Int)) + 1))] ?_
    refine WK.draw1 14 [(0, .qui), (1, .qui), (2, .qui), (3, .qui), (4, .qui), (5, .qui), (6, .qui), (7, .qui), (8, .qui), (9, .qui), (10, .qui), (11, .qui), (12, .chn), (13, .qui)] [(0, .qui), (1, .qui), (2, .qui), (3, .qui), (4, .qui), (5, .qui), (6, .qui), (7, .qui), (8, .qui), (9, .qui), (10, .qui), (11, .qui), (12, .chn), (13, .qui)] Try_mixed (by as_aux_lemma => kernel_rfl) (by as_aux_lemma => kernel_rfl) (by as_aux_lemma => kernel_rfl) ?_
    have H := H.draw
    generalize ({ w22 with drawn := w22.drawn + 1 } : World) = w111 at H ⊢
    refine qP 3 [(3, .qui), (4, .qui), (5, .qui), (6, .qui), (7, .qui), (8, .qui), (9, .qui), (10, .qui), (11, .qui), (12, .chn), (13, .qui)] [(0, .slice (some ⟨pb, 0, none⟩) z q), (2, .I hi), (3, .I fs), (8, .I root), (9, .I ((2 * (root : Int)) + 1)), (39, .slice (some ⟨pb, 0, none⟩) z q), (40, .I fs), (41, .I root)] ?_
    refine qI .qui 42 [(4, .qui), (5, .qui), (6, .qui), (7, .qui), (8, .qui), (9, .qui), (10, .qui), (11, .qui), (12, .chn), (13, .qui)] ((fs : Int) + (root : Int)) ?_
    have hn113 : z = e.toList.length := by rw [tl_len (d := e)]; omega
    have hx112 : (fs + root) < e.toList.length := by rw [tl_len (d := e)]; omega
    refine RW.indexW (κ := .qui) (d := some 43) (r := [(5, .qui), (6, .qui), (7, .qui), (8, .qui), (9, .qui), (10, .qui), (11, .qui), (12, .chn), (13, .qui)]) (T := 58) (e := 44) (m := 1) (ik := .i64) (ix := (fs : Int) + (root : Int)) (sh := (Shape.int .u64)) (xs := e.toList) (a := (some ⟨pb, 0, none⟩)) (len := z) (cap := q) (by as_aux_lemma => kernel_rfl) (by as_aux_lemma => kernel_rfl) rfl H (fs + root) (by omega) hx112 hn113 ?_
    intro b114 es115 ha116 hcell117 hr118
    cases ha116
    rw [tl_at (d := e) (k := (fs + root)) _] at hr118
    have hb119 := Shape.u64_bd hr118
    obtain ⟨rfl, -⟩ := hr118
    refine qL .qui 44 [(6, .qui), (7, .qui), (8, .qui), (9, .qui), (10, .qui), (11, .qui), (12, .chn), (13, .qui)] 44 pb ((fs + root) * 1) 0 (.int .u64 (e[(fs + root)]!)) hcell117 ?_
    refine qP 3 [(9, .qui), (10, .qui), (11, .qui), (12, .chn), (13, .qui)] [(0, .slice (some ⟨pb, 0, none⟩) z q), (2, .I hi), (3, .I fs), (8, .I root), (9, .I ((2 * (root : Int)) + 1)), (44, .int .u64 (e[(fs + root)]!)), (45, .slice (some ⟨pb, 0, none⟩) z q), (46, .I fs), (47, .I ((2 * (root : Int)) + 1))] ?_
    refine qI .qui 48 [(10, .qui), (11, .qui), (12, .chn), (13, .qui)] ((fs : Int) + ((2 * (root : Int)) + 1)) ?_
    have hn121 : z = e.toList.length := by rw [tl_len (d := e)]; omega
    have hx120 : (fs + (2 * root + 1)) < e.toList.length := by rw [tl_len (d := e)]; omega
    refine RW.indexW (κ := .qui) (d := some 49) (r := [(11, .qui), (12, .chn), (13, .qui)]) (T := 58) (e := 44) (m := 1) (ik := .i64) (ix := (fs : Int) + ((2 * (root : Int)) + 1)) (sh := (Shape.int .u64)) (xs := e.toList) (a := (some ⟨pb, 0, none⟩)) (len := z) (cap := q) (by as_aux_lemma => kernel_rfl) (by as_aux_lemma => kernel_rfl) rfl H (fs + (2 * root + 1)) (by omega) hx120 hn121 ?_
    intro b122 es123 ha124 hcell125 hr126
    cases ha124
    rw [tl_at (d := e) (k := (fs + (2 * root + 1))) _] at hr126
    have hb127 := Shape.u64_bd hr126
    obtain ⟨rfl, -⟩ := hr126
    refine qL .qui 50 [(12, .chn), (13, .qui)] 44 pb ((fs + (2 * root + 1)) * 1) 0 (.int .u64 (e[(fs + (2 * root + 1))]!)) hcell125 ?_
    refine qK .chn (some 51) [(13, .qui)] 55 #[.int .u64 (e[(fs + root)]!), .int .u64 (e[(fs + (2 * root + 1))]!)] (uless_spec (S := fun _ => True) (e[(fs + root)]!) (e[(fs + (2 * root + 1))]!)) ?_
    rintro _ w128 hE129 rfl
    have H := H.ext hE129
    refine qF 1 [(0, .slice (some ⟨pb, 0, none⟩) z q), (2, .I hi), (3, .I fs), (8, .I root), (9, .I ((2 * (root : Int)) + 1)), (52, .bool (!(decide (e[(fs + root)]! < e[(fs + (2 * root + 1))]!))))] ?_
    refine qC (!(decide (e[(fs + root)]! < e[(fs + (2 * root + 1))]!))) (fun h130 => ?_) (fun h130 => ?_)
    ·
     replace h130 : (decide (e[(fs + root)]! < e[(fs + (2 * root + 1))]!)) = false := by revert h130; cases (decide (e[(fs + root)]! < e[(fs + (2 * root + 1))]!)) <;> simp
     replace h130 := of_decide_eq_false h130
     have hd9 := h130
     refine qT (.tuple #[]) Try.func64 ?_
     have e9 : e = (siftDown ltInt hi fs lo d) := by rw [← hinv0.1]; first | rw [sd_stop (by omega)] | rw [sd_rstop (by omega) hc9 (by simpa using hd9)] | rw [sd_lstop (by omega) hc9 (by simpa using hd9)]
     rw [e9] at H
     exact ⟨_, rfl, rfl, H.pick [] rfl⟩
    ·
     replace h130 : (decide (e[(fs + root)]! < e[(fs + (2 * root + 1))]!)) = true := by revert h130; cases (decide (e[(fs + root)]! < e[(fs + (2 * root + 1))]!)) <;> simp
     replace h130 := of_decide_eq_true h130
     have hd9 := h130
     refine qR 2 [.c [1, 0, 0, 0, 4, 0], .c [1, 0, 0, 0, 5], .b 1, .l [1, 0, 0], .b 0] [(0, .slice (some ⟨pb, 0, none⟩) z q), (2, .I hi), (3, .I fs), (8, .I root), (9, .I ((2 * (root : Int)) + 1))] ?_
     refine WK.drawH1 [pb] (.node (qs [0, 1, 2, 3, 4, 5, 6, 7, 8, 9, 10, 11, 12, 14, 15, 16, 17, 18]) (.cons 13 (.leaf [(19, .seq), (20, .qui), (21, .seq), (22, .qui), (23, .seq)]) (.cons 19 (.leaf [(13, .seq), (20, .qui), (21, .seq), (22, .qui), (23, .seq)]) .nil))) Try_mixed (by as_aux_lemma => kernel_rfl) (by as_aux_lemma => kernel_rfl) ?_
     intro w131 hw132
     have H := H.draw
     rw [← hw132] at H
     clear hw132
     have hS := Chg.refl w131 [pb]
     refine RG.node' (qs [0, 1, 2, 3, 4, 5, 6, 7, 8, 9, 10, 11, 12, 14, 15, 16, 17, 18]) (by as_aux_lemma => kernel_rfl) ?_
     refine qHP hS 3 (qs [3, 4, 5, 6, 7, 8, 9, 10, 11, 12, 14, 15, 16, 17, 18]) [(0, .slice (some ⟨pb, 0, none⟩) z q), (2, .I hi), (3, .I fs), (8, .I root), (9, .I ((2 * (root : Int)) + 1)), (53, .slice (some ⟨pb, 0, none⟩) z q), (54, .I fs), (55, .I root)] ?_
     refine RH.pv (d := some 56) (r := (qs [4, 5, 6, 7, 8, 9, 10, 11, 12, 14, 15, 16, 17, 18])) (v := .I (IntKind.i64.wrap ((fs : Int) + (root : Int)))) (v' := .I ((fs : Int) + (root : Int))) (by as_aux_lemma => kernel_rfl) hS (wr_i64 (by omega)) ?_
     refine qHP hS 3 (qs [7, 8, 9, 10, 11, 12, 14, 15, 16, 17, 18]) [(0, .slice (some ⟨pb, 0, none⟩) z q), (2, .I hi), (3, .I fs), (8, .I root), (9, .I ((2 * (root : Int)) + 1)), (53, .slice (some ⟨pb, 0, none⟩) z q), (56, .I ((fs : Int) + (root : Int))), (57, .slice (some ⟨pb, 0, none⟩) z q), (58, .I fs), (59, .I ((2 * (root : Int)) + 1))] ?_
     refine RH.pv (d := some 60) (r := (qs [8, 9, 10, 11, 12, 14, 15, 16, 17, 18])) (v := .I (IntKind.i64.wrap ((fs : Int) + ((2 * (root : Int)) + 1)))) (v' := .I ((fs : Int) + ((2 * (root : Int)) + 1))) (by as_aux_lemma => kernel_rfl) hS (wr_i64 (by omega)) ?_
     refine qHP hS 3 (qs [11, 12, 14, 15, 16, 17, 18]) [(0, .slice (some ⟨pb, 0, none⟩) z q), (2, .I hi), (3, .I fs), (8, .I root), (9, .I ((2 * (root : Int)) + 1)), (53, .slice (some ⟨pb, 0, none⟩) z q), (56, .I ((fs : Int) + (root : Int))), (57, .slice (some ⟨pb, 0, none⟩) z q), (60, .I ((fs : Int) + ((2 * (root : Int)) + 1))), (61, .slice (some ⟨pb, 0, none⟩) z q), (62, .I fs), (63, .I ((2 * (root : Int)) + 1))] ?_
     refine RH.pv (d := some 64) (r := (qs [12, 14, 15, 16, 17, 18])) (v := .I (IntKind.i64.wrap ((fs : Int) + ((2 * (root : Int)) + 1)))) (v' := .I ((fs : Int) + ((2 * (root : Int)) + 1))) (by as_aux_lemma => kernel_rfl) hS (wr_i64 (by omega)) ?_
     have hn134 : z = e.toList.length := by rw [tl_len (d := e)]; omega
     have hx133 : (fs + (2 * root + 1)) < e.toList.length := by rw [tl_len (d := e)]; omega
     refine RH.indexW (d := some 65) (r := (qs [14, 15, 16, 17, 18])) (T := 58) (e := 44) (m := 1) (ik := .i64) (ix := (fs : Int) + ((2 * (root : Int)) + 1)) (sh := (Shape.int .u64)) (xs := e.toList) (a := (some ⟨pb, 0, none⟩)) (len := z) (cap := q) (by as_aux_lemma => kernel_rfl) hS (by as_aux_lemma => kernel_rfl) rfl H (fs + (2 * root + 1)) (by omega) hx133 hn134 ?_
     intro b135 es136 ha137 hcell138 hr139
     cases ha137
     rw [tl_at (d := e) (k := (fs + (2 * root + 1))) _] at hr139
     have hb140 := Shape.u64_bd hr139
     obtain ⟨rfl, -⟩ := hr139
     refine qHP hS 3 (qs [17, 18]) [(0, .slice (some ⟨pb, 0, none⟩) z q), (2, .I hi), (3, .I fs), (9, .I ((2 * (root : Int)) + 1)), (53, .slice (some ⟨pb, 0, none⟩) z q), (56, .I ((fs : Int) + (root : Int))), (57, .slice (some ⟨pb, 0, none⟩) z q), (60, .I ((fs : Int) + ((2 * (root : Int)) + 1))), (65, .pointer (some ⟨pb, (fs + (2 * root + 1)) * 1, none⟩)), (67, .slice (some ⟨pb, 0, none⟩) z q), (68, .I fs), (69, .I root)] ?_
     refine RH.pv (d := some 70) (r := [(18, .qui)]) (v := .I (IntKind.i64.wrap ((fs : Int) + (root : Int)))) (v' := .I ((fs : Int) + (root : Int))) (by as_aux_lemma => kernel_rfl) hS (wr_i64 (by omega)) ?_
     have hn142 : z = e.toList.length := by rw [tl_len (d := e)]; omega
     have hx141 : (fs + root) < e.toList.length := by rw [tl_len (d := e)]; omega
     refine RH.indexW (d := some 71) (r := []) (T := 58) (e := 44) (m := 1) (ik := .i64) (ix := (fs : Int) + (root : Int)) (sh := (Shape.int .u64)) (xs := e.toList) (a := (some ⟨pb, 0, none⟩)) (len := z) (cap := q) (by as_aux_lemma => kernel_rfl) hS (by as_aux_lemma => kernel_rfl) rfl H (fs + root) (by omega) hx141 hn142 ?_
     intro b143 es144 ha145 hcell146 hr147
     cases ha145
     rw [tl_at (d := e) (k := (fs + root)) _] at hr147
     have hb148 := Shape.u64_bd hr147
     obtain ⟨rfl, -⟩ := hr147
     refine RH.finB hS 0 [0, 2, 3, 9, 53, 56, 57, 60, 65, 71] [(0, .slice (some ⟨pb, 0, none⟩) z q), (2, .I hi), (3, .I fs), (9, .I ((2 * (root : Int)) + 1)), (53, .slice (some ⟨pb, 0, none⟩) z q), (56, .I ((fs : Int) + (root : Int))), (57, .slice (some ⟨pb, 0, none⟩) z q), (60, .I ((fs : Int) + ((2 * (root : Int)) + 1))), (65, .pointer (some ⟨pb, (fs + (2 * root + 1)) * 1, none⟩)), (71, .pointer (some ⟨pb, (fs + root) * 1, none⟩))] (by as_aux_lemma => kernel_rfl) ?_
     refine (RGB.cons' ?_ (RGB.cons' ?_ RGB.nil'))
     ·
      refine RG.leaf' [(13, .seq), (19, .seq), (20, .qui), (21, .seq), (22, .qui), (23, .seq)] (by as_aux_lemma => kernel_rfl) ?_
      have Hr := H
      refine RH.chn hS ?_
      refine qL .chn 66 [] 44 pb ((fs + (2 * root + 1)) * 1) 0 (.int .u64 (e[(fs + (2 * root + 1))]!)) hcell138 ?_
      intro hS
      have Hr := H
      refine RH.chn hS ?_
      refine qL .chn 72 [] 44 pb ((fs + root) * 1) 0 (.int .u64 (e[(fs + root)]!)) hcell146 ?_
      intro hS
      have hn152 : z = e.toList.length := by rw [tl_len (d := e)]; omega
      have hx151 : (fs + root) < e.toList.length := by rw [tl_len (d := e)]; omega
      refine RH.indexW (d := some 73) (r := [(21, .seq), (22, .qui), (23, .seq)]) (T := 58) (e := 44) (m := 1) (ik := .i64) (ix := (fs : Int) + (root : Int)) (sh := (Shape.int .u64)) (xs := e.toList) (a := (some ⟨pb, 0, none⟩)) (len := z) (cap := q) (by as_aux_lemma => kernel_rfl) hS (by as_aux_lemma => kernel_rfl) rfl H (fs + root) (by omega) hx151 hn152 ?_
      intro b153 es154 ha155 hcell156 hr157
      cases ha155
      rw [tl_at (d := e) (k := (fs + root)) _] at hr157
      have hb158 := Shape.u64_bd hr157
      obtain ⟨rfl, -⟩ := hr157
      have Hr := H
      refine RH.sto ?_
      refine RW.storeWC (d := none) (r := []) (e := 44) (m := 1) (b := pb) (k := (fs + root)) (v := .int .u64 (e[(fs + (2 * root + 1))]!)) (by as_aux_lemma => kernel_rfl) rfl (by as_aux_lemma => kernel_rfl) H rfl hx151 hn152 (e[(fs + (2 * root + 1))]!) u64a ?_
      intro w160 hch159 H
      have hS161 := hS.sto hch159 (.inr (by simp))
      refine ⟨hS161, ?_⟩
      have hS := hS161
      have hn163 : z = (e.toList.set (fs + root) (e[(fs + (2 * root + 1))]!)).length := by rw [List.length_set, tl_len (d := e)]; omega
      have hx162 : (fs + (2 * root + 1)) < (e.toList.set (fs + root) (e[(fs + (2 * root + 1))]!)).length := by rw [List.length_set, tl_len (d := e)]; omega
      refine RH.indexW (d := some 74) (r := [(23, .seq)]) (T := 58) (e := 44) (m := 1) (ik := .i64) (ix := (fs : Int) + ((2 * (root : Int)) + 1)) (sh := (Shape.int .u64)) (xs := e.toList.set (fs + root) (e[(fs + (2 * root + 1))]!)) (a := (some ⟨pb, 0, none⟩)) (len := z) (cap := q) (by as_aux_lemma => kernel_rfl) hS (by as_aux_lemma => kernel_rfl) rfl H (fs + (2 * root + 1)) (by omega) hx162 hn163 ?_
      intro b164 es165 ha166 hcell167 hr168
      cases ha166
      have hb169 := Shape.u64_bd hr168
      obtain ⟨rfl, -⟩ := hr168
      refine RH.sto ?_
      refine RW.storeWC (d := none) (r := []) (e := 44) (m := 1) (b := pb) (k := (fs + (2 * root + 1))) (v := .int .u64 (e[(fs + root)]!)) (by as_aux_lemma => kernel_rfl) rfl (by as_aux_lemma => kernel_rfl) H rfl hx162 hn163 (e[(fs + root)]!) u64a ?_
      intro w171 hch170 H
      have H := H.reW (ys := (swp e (fs + root) (fs + (2 * root + 1))).toList) (swp_tl)
      have hS172 := hS.sto hch170 (.inr (by simp))
      refine ⟨hS172, ?_⟩
      have hS := hS172
      refine RH.fin hS 0 [0, 2, 3, 9] [(0, .slice (some ⟨pb, 0, none⟩) z q), (2, .I hi), (3, .I fs), (9, .I ((2 * (root : Int)) + 1))] (by as_aux_lemma => kernel_rfl) ?_
      refine qR 2 [.l [1, 0, 0], .b 0] [(0, .slice (some ⟨pb, 0, none⟩) z q), (2, .I hi), (3, .I fs), (8, .I ((2 * (root : Int)) + 1))] ?_
      rw [show (2 * (root : Int)) + 1 = (((2 * root + 1) : Nat) : Int) by omega]
      have hs9 := sd_lgo (hi := hi) (first := fs) (root := root) (e := e) (by omega) hc9 (by simpa using hd9)
      exact WK.back (hback1 ((2 * root + 1), (swp e (fs + root) (fs + (2 * root + 1)))) _ ⟨H, by rw [← hs9]; exact hinv0.1, by rw [swp_size]; exact hinv0.2.1, by omega⟩ (by first | omega | (simp only []; omega))) (by as_aux_lemma => kernel_rfl)
     ·
      refine RG.leaf' [(19, .seq), (13, .seq), (20, .qui), (21, .seq), (22, .qui), (23, .seq)] (by as_aux_lemma => kernel_rfl) ?_
      have Hr := H
      refine RH.chn hS ?_
      refine qL .chn 72 [] 44 pb ((fs + root) * 1) 0 (.int .u64 (e[(fs + root)]!)) hcell146 ?_
      intro hS
      have Hr := H
      refine RH.chn hS ?_
      refine qL .chn 66 [] 44 pb ((fs + (2 * root + 1)) * 1) 0 (.int .u64 (e[(fs + (2 * root + 1))]!)) hcell138 ?_
      intro hS
      have hn176 : z = e.toList.length := by rw [tl_len (d := e)]; omega
      have hx175 : (fs + root) < e.toList.length := by rw [tl_len (d := e)]; omega
      refine RH.indexW (d := some 73) (r := [(21, .seq), (22, .qui), (23, .seq)]) (T := 58) (e := 44) (m := 1) (ik := .i64) (ix := (fs : Int) + (root : Int)) (sh := (Shape.int .u64)) (xs := e.toList) (a := (some ⟨pb, 0, none⟩)) (len := z) (cap := q) (by as_aux_lemma => kernel_rfl) hS (by as_aux_lemma => kernel_rfl) rfl H (fs + root) (by omega) hx175 hn176 ?_
      intro b177 es178 ha179 hcell180 hr181
      cases ha179
      rw [tl_at (d := e) (k := (fs + root)) _] at hr181
      have hb182 := Shape.u64_bd hr181
      obtain ⟨rfl, -⟩ := hr181
      have Hr := H
      refine RH.sto ?_
      refine RW.storeWC (d := none) (r := []) (e := 44) (m := 1) (b := pb) (k := (fs + root)) (v := .int .u64 (e[(fs + (2 * root + 1))]!)) (by as_aux_lemma => kernel_rfl) rfl (by as_aux_lemma => kernel_rfl) H rfl hx175 hn176 (e[(fs + (2 * root + 1))]!) u64a ?_
      intro w184 hch183 H
      have hS185 := hS.sto hch183 (.inr (by simp))
      refine ⟨hS185, ?_⟩
      have hS := hS185
      have hn187 : z = (e.toList.set (fs + root) (e[(fs + (2 * root + 1))]!)).length := by rw [List.length_set, tl_len (d := e)]; omega
      have hx186 : (fs + (2 * root + 1)) < (e.toList.set (fs + root) (e[(fs + (2 * root + 1))]!)).length := by rw [List.length_set, tl_len (d := e)]; omega
      refine RH.indexW (d := some 74) (r := [(23, .seq)]) (T := 58) (e := 44) (m := 1) (ik := .i64) (ix := (fs : Int) + ((2 * (root : Int)) + 1)) (sh := (Shape.int .u64)) (xs := e.toList.set (fs + root) (e[(fs + (2 * root + 1))]!)) (a := (some ⟨pb, 0, none⟩)) (len := z) (cap := q) (by as_aux_lemma => kernel_rfl) hS (by as_aux_lemma => kernel_rfl) rfl H (fs + (2 * root + 1)) (by omega) hx186 hn187 ?_
      intro b188 es189 ha190 hcell191 hr192
      cases ha190
      have hb193 := Shape.u64_bd hr192
      obtain ⟨rfl, -⟩ := hr192
      refine RH.sto ?_
      refine RW.storeWC (d := none) (r := []) (e := 44) (m := 1) (b := pb) (k := (fs + (2 * root + 1))) (v := .int .u64 (e[(fs + root)]!)) (by as_aux_lemma => kernel_rfl) rfl (by as_aux_lemma => kernel_rfl) H rfl hx186 hn187 (e[(fs + root)]!) u64a ?_
      intro w195 hch194 H
      have H := H.reW (ys := (swp e (fs + root) (fs + (2 * root + 1))).toList) (swp_tl)
      have hS196 := hS.sto hch194 (.inr (by simp))
      refine ⟨hS196, ?_⟩
      have hS := hS196
      refine RH.fin hS 0 [0, 2, 3, 9] [(0, .slice (some ⟨pb, 0, none⟩) z q), (2, .I hi), (3, .I fs), (9, .I ((2 * (root : Int)) + 1))] (by as_aux_lemma => kernel_rfl) ?_
      refine qR 2 [.l [1, 0, 0], .b 0] [(0, .slice (some ⟨pb, 0, none⟩) z q), (2, .I hi), (3, .I fs), (8, .I ((2 * (root : Int)) + 1))] ?_
      rw [show (2 * (root : Int)) + 1 = (((2 * root + 1) : Nat) : Int) by omega]
      have hs9 := sd_lgo (hi := hi) (first := fs) (root := root) (e := e) (by omega) hc9 (by simpa using hd9)
      exact WK.back (hback1 ((2 * root + 1), (swp e (fs + root) (fs + (2 * root + 1)))) _ ⟨H, by rw [← hs9]; exact hinv0.1, by rw [swp_size]; exact hinv0.2.1, by omega⟩ (by first | omega | (simp only []; omega))) (by as_aux_lemma => kernel_rfl)
  ·
   have hc9 : ¬ (2 * root + 2 < hi ∧ e[(fs + (2 * root + 1))]! < e[(fs + (2 * root + 1) + 1)]!) := fun q => absurd q.1 (by omega)
   refine qF 15 [(0, .slice (some ⟨pb, 0, none⟩) z q), (2, .I hi), (3, .I fs), (8, .I root), (9, .I ((2 * (root : Int)) + 1)), (36, .bool false)] ?_
   refine qR 4 [.c [1, 0, 0, 0, 3, 0, 0], .c [1, 0, 0, 0, 3, 0, 1], .c [1, 0, 0, 0, 4], .b 1, .l [1, 0, 0], .b 0] [(0, .slice (some ⟨pb, 0, none⟩) z q), (2, .I hi), (3, .I fs), (8, .I root), (9, .I ((2 * (root : Int)) + 1))] ?_
   refine WK.draw1 14 [(0, .qui), (1, .qui), (2, .qui), (3, .qui), (4, .qui), (5, .qui), (6, .qui), (7, .qui), (8, .qui), (9, .qui), (10, .qui), (11, .qui), (12, .chn), (13, .qui)] [(0, .qui), (1, .qui), (2, .qui), (3, .qui), (4, .qui), (5, .qui), (6, .qui), (7, .qui), (8, .qui), (9, .qui), (10, .qui), (11, .qui), (12, .chn), (13, .qui)] Try_mixed (by as_aux_lemma => kernel_rfl) (by as_aux_lemma => kernel_rfl) (by as_aux_lemma => kernel_rfl) ?_
   have H := H.draw
   generalize ({ w4 with drawn := w4.drawn + 1 } : World) = w197 at H ⊢
   refine qP 3 [(3, .qui), (4, .qui), (5, .qui), (6, .qui), (7, .qui), (8, .qui), (9, .qui), (10, .qui), (11, .qui), (12, .chn), (13, .qui)] [(0, .slice (some ⟨pb, 0, none⟩) z q), (2, .I hi), (3, .I fs), (8, .I root), (9, .I ((2 * (root : Int)) + 1)), (39, .slice (some ⟨pb, 0, none⟩) z q), (40, .I fs), (41, .I root)] ?_
   refine qI .qui 42 [(4, .qui), (5, .qui), (6, .qui), (7, .qui), (8, .qui), (9, .qui), (10, .qui), (11, .qui), (12, .chn), (13, .qui)] ((fs : Int) + (root : Int)) ?_
   have hn199 : z = e.toList.length := by rw [tl_len (d := e)]; omega
   have hx198 : (fs + root) < e.toList.length := by rw [tl_len (d := e)]; omega
   refine RW.indexW (κ := .qui) (d := some 43) (r := [(5, .qui), (6, .qui), (7, .qui), (8, .qui), (9, .qui), (10, .qui), (11, .qui), (12, .chn), (13, .qui)]) (T := 58) (e := 44) (m := 1) (ik := .i64) (ix := (fs : Int) + (root : Int)) (sh := (Shape.int .u64)) (xs := e.toList) (a := (some ⟨pb, 0, none⟩)) (len := z) (cap := q) (by as_aux_lemma => kernel_rfl) (by as_aux_lemma => kernel_rfl) rfl H (fs + root) (by omega) hx198 hn199 ?_
   intro b200 es201 ha202 hcell203 hr204
   cases ha202
   rw [tl_at (d := e) (k := (fs + root)) _] at hr204
   have hb205 := Shape.u64_bd hr204
   obtain ⟨rfl, -⟩ := hr204
   refine qL .qui 44 [(6, .qui), (7, .qui), (8, .qui), (9, .qui), (10, .qui), (11, .qui), (12, .chn), (13, .qui)] 44 pb ((fs + root) * 1) 0 (.int .u64 (e[(fs + root)]!)) hcell203 ?_
   refine qP 3 [(9, .qui), (10, .qui), (11, .qui), (12, .chn), (13, .qui)] [(0, .slice (some ⟨pb, 0, none⟩) z q), (2, .I hi), (3, .I fs), (8, .I root), (9, .I ((2 * (root : Int)) + 1)), (44, .int .u64 (e[(fs + root)]!)), (45, .slice (some ⟨pb, 0, none⟩) z q), (46, .I fs), (47, .I ((2 * (root : Int)) + 1))] ?_
   refine qI .qui 48 [(10, .qui), (11, .qui), (12, .chn), (13, .qui)] ((fs : Int) + ((2 * (root : Int)) + 1)) ?_
   have hn207 : z = e.toList.length := by rw [tl_len (d := e)]; omega
   have hx206 : (fs + (2 * root + 1)) < e.toList.length := by rw [tl_len (d := e)]; omega
   refine RW.indexW (κ := .qui) (d := some 49) (r := [(11, .qui), (12, .chn), (13, .qui)]) (T := 58) (e := 44) (m := 1) (ik := .i64) (ix := (fs : Int) + ((2 * (root : Int)) + 1)) (sh := (Shape.int .u64)) (xs := e.toList) (a := (some ⟨pb, 0, none⟩)) (len := z) (cap := q) (by as_aux_lemma => kernel_rfl) (by as_aux_lemma => kernel_rfl) rfl H (fs + (2 * root + 1)) (by omega) hx206 hn207 ?_
   intro b208 es209 ha210 hcell211 hr212
   cases ha210
   rw [tl_at (d := e) (k := (fs + (2 * root + 1))) _] at hr212
   have hb213 := Shape.u64_bd hr212
   obtain ⟨rfl, -⟩ := hr212
   refine qL .qui 50 [(12, .chn), (13, .qui)] 44 pb ((fs + (2 * root + 1)) * 1) 0 (.int .u64 (e[(fs + (2 * root + 1))]!)) hcell211 ?_
   refine qK .chn (some 51) [(13, .qui)] 55 #[.int .u64 (e[(fs + root)]!), .int .u64 (e[(fs + (2 * root + 1))]!)] (uless_spec (S := fun _ => True) (e[(fs + root)]!) (e[(fs + (2 * root + 1))]!)) ?_
   rintro _ w214 hE215 rfl
   have H := H.ext hE215
   refine qF 1 [(0, .slice (some ⟨pb, 0, none⟩) z q), (2, .I hi), (3, .I fs), (8, .I root), (9, .I ((2 * (root : Int)) + 1)), (52, .bool (!(decide (e[(fs + root)]! < e[(fs + (2 * root + 1))]!))))] ?_
   refine qC (!(decide (e[(fs + root)]! < e[(fs + (2 * root + 1))]!))) (fun h216 => ?_) (fun h216 => ?_)
   ·
    replace h216 : (decide (e[(fs + root)]! < e[(fs + (2 * root + 1))]!)) = false := by revert h216; cases (decide (e[(fs + root)]! < e[(fs + (2 * root + 1))]!)) <;> simp
    replace h216 := of_decide_eq_false h216
    have hd9 := h216
    refine qT (.tuple #[]) Try.func64 ?_
    have e9 : e = (siftDown ltInt hi fs lo d) := by rw [← hinv0.1]; first | rw [sd_stop (by omega)] | rw [sd_rstop (by omega) hc9 (by simpa using hd9)] | rw [sd_lstop (by omega) hc9 (by simpa using hd9)]
    rw [e9] at H
    exact ⟨_, rfl, rfl, H.pick [] rfl⟩
   ·
    replace h216 : (decide (e[(fs + root)]! < e[(fs + (2 * root + 1))]!)) = true := by revert h216; cases (decide (e[(fs + root)]! < e[(fs + (2 * root + 1))]!)) <;> simp
    replace h216 := of_decide_eq_true h216
    have hd9 := h216
    refine qR 2 [.c [1, 0, 0, 0, 4, 0], .c [1, 0, 0, 0, 5], .b 1, .l [1, 0, 0], .b 0] [(0, .slice (some ⟨pb, 0, none⟩) z q), (2, .I hi), (3, .I fs), (8, .I root), (9, .I ((2 * (root : Int)) + 1))] ?_
    refine WK.drawH1 [pb] (.node (qs [0, 1, 2, 3, 4, 5, 6, 7, 8, 9, 10, 11, 12, 14, 15, 16, 17, 18]) (.cons 13 (.leaf [(19, .seq), (20, .qui), (21, .seq), (22, .qui), (23, .seq)]) (.cons 19 (.leaf [(13, .seq), (20, .qui), (21, .seq), (22, .qui), (23, .seq)]) .nil))) Try_mixed (by as_aux_lemma => kernel_rfl) (by as_aux_lemma => kernel_rfl) ?_
    intro w217 hw218
    have H := H.draw
    rw [← hw218] at H
    clear hw218
    have hS := Chg.refl w217 [pb]
    refine RG.node' (qs [0, 1, 2, 3, 4, 5, 6, 7, 8, 9, 10, 11, 12, 14, 15, 16, 17, 18]) (by as_aux_lemma => kernel_rfl) ?_
    refine qHP hS 3 (qs [3, 4, 5, 6, 7, 8, 9, 10, 11, 12, 14, 15, 16, 17, 18]) [(0, .slice (some ⟨pb, 0, none⟩) z q), (2, .I hi), (3, .I fs), (8, .I root), (9, .I ((2 * (root : Int)) + 1)), (53, .slice (some ⟨pb, 0, none⟩) z q), (54, .I fs), (55, .I root)] ?_
    refine RH.pv (d := some 56) (r := (qs [4, 5, 6, 7, 8, 9, 10, 11, 12, 14, 15, 16, 17, 18])) (v := .I (IntKind.i64.wrap ((fs : Int) + (root : Int)))) (v' := .I ((fs : Int) + (root : Int))) (by as_aux_lemma => kernel_rfl) hS (wr_i64 (by omega)) ?_
    refine qHP hS 3 (qs [7, 8, 9, 10, 11, 12, 14, 15, 16, 17, 18]) [(0, .slice (some ⟨pb, 0, none⟩) z q), (2, .I hi), (3, .I fs), (8, .I root), (9, .I ((2 * (root : Int)) + 1)), (53, .slice (some ⟨pb, 0, none⟩) z q), (56, .I ((fs : Int) + (root : Int))), (57, .slice (some ⟨pb, 0, none⟩) z q), (58, .I fs), (59, .I ((2 * (root : Int)) + 1))] ?_
    refine RH.pv (d := some 60) (r := (qs [8, 9, 10, 11, 12, 14, 15, 16, 17, 18])) (v := .I (IntKind.i64.wrap ((fs : Int) + ((2 * (root : Int)) + 1)))) (v' := .I ((fs : Int) + ((2 * (root : Int)) + 1))) (by as_aux_lemma => kernel_rfl) hS (wr_i64 (by omega)) ?_
    refine qHP hS 3 (qs [11, 12, 14, 15, 16, 17, 18]) [(0, .slice (some ⟨pb, 0, none⟩) z q), (2, .I hi), (3, .I fs), (8, .I root), (9, .I ((2 * (root : Int)) + 1)), (53, .slice (some ⟨pb, 0, none⟩) z q), (56, .I ((fs : Int) + (root : Int))), (57, .slice (some ⟨pb, 0, none⟩) z q), (60, .I ((fs : Int) + ((2 * (root : Int)) + 1))), (61, .slice (some ⟨pb, 0, none⟩) z q), (62, .I fs), (63, .I ((2 * (root : Int)) + 1))] ?_
    refine RH.pv (d := some 64) (r := (qs [12, 14, 15, 16, 17, 18])) (v := .I (IntKind.i64.wrap ((fs : Int) + ((2 * (root : Int)) + 1)))) (v' := .I ((fs : Int) + ((2 * (root : Int)) + 1))) (by as_aux_lemma => kernel_rfl) hS (wr_i64 (by omega)) ?_
    have hn220 : z = e.toList.length := by rw [tl_len (d := e)]; omega
    have hx219 : (fs + (2 * root + 1)) < e.toList.length := by rw [tl_len (d := e)]; omega
    refine RH.indexW (d := some 65) (r := (qs [14, 15, 16, 17, 18])) (T := 58) (e := 44) (m := 1) (ik := .i64) (ix := (fs : Int) + ((2 * (root : Int)) + 1)) (sh := (Shape.int .u64)) (xs := e.toList) (a := (some ⟨pb, 0, none⟩)) (len := z) (cap := q) (by as_aux_lemma => kernel_rfl) hS (by as_aux_lemma => kernel_rfl) rfl H (fs + (2 * root + 1)) (by omega) hx219 hn220 ?_
    intro b221 es222 ha223 hcell224 hr225
    cases ha223
    rw [tl_at (d := e) (k := (fs + (2 * root + 1))) _] at hr225
    have hb226 := Shape.u64_bd hr225
    obtain ⟨rfl, -⟩ := hr225
    refine qHP hS 3 (qs [17, 18]) [(0, .slice (some ⟨pb, 0, none⟩) z q), (2, .I hi), (3, .I fs), (9, .I ((2 * (root : Int)) + 1)), (53, .slice (some ⟨pb, 0, none⟩) z q), (56, .I ((fs : Int) + (root : Int))), (57, .slice (some ⟨pb, 0, none⟩) z q), (60, .I ((fs : Int) + ((2 * (root : Int)) + 1))), (65, .pointer (some ⟨pb, (fs + (2 * root + 1)) * 1, none⟩)), (67, .slice (some ⟨pb, 0, none⟩) z q), (68, .I fs), (69, .I root)] ?_
    refine RH.pv (d := some 70) (r := [(18, .qui)]) (v := .I (IntKind.i64.wrap ((fs : Int) + (root : Int)))) (v' := .I ((fs : Int) + (root : Int))) (by as_aux_lemma => kernel_rfl) hS (wr_i64 (by omega)) ?_
    have hn228 : z = e.toList.length := by rw [tl_len (d := e)]; omega
    have hx227 : (fs + root) < e.toList.length := by rw [tl_len (d := e)]; omega
    refine RH.indexW (d := some 71) (r := []) (T := 58) (e := 44) (m := 1) (ik := .i64) (ix := (fs : Int) + (root : Int)) (sh := (Shape.int .u64)) (xs := e.toList) (a := (some ⟨pb, 0, none⟩)) (len := z) (cap := q) (by as_aux_lemma => kernel_rfl) hS (by as_aux_lemma => kernel_rfl) rfl H (fs + root) (by omega) hx227 hn228 ?_
    intro b229 es230 ha231 hcell232 hr233
    cases ha231
    rw [tl_at (d := e) (k := (fs + root)) _] at hr233
    have hb234 := Shape.u64_bd hr233
    obtain ⟨rfl, -⟩ := hr233
    refine RH.finB hS 0 [0, 2, 3, 9, 53, 56, 57, 60, 65, 71] [(0, .slice (some ⟨pb, 0, none⟩) z q), (2, .I hi), (3, .I fs), (9, .I ((2 * (root : Int)) + 1)), (53, .slice (some ⟨pb, 0, none⟩) z q), (56, .I ((fs : Int) + (root : Int))), (57, .slice (some ⟨pb, 0, none⟩) z q), (60, .I ((fs : Int) + ((2 * (root : Int)) + 1))), (65, .pointer (some ⟨pb, (fs + (2 * root + 1)) * 1, none⟩)), (71, .pointer (some ⟨pb, (fs + root) * 1, none⟩))] (by as_aux_lemma => kernel_rfl) ?_
    refine (RGB.cons' ?_ (RGB.cons' ?_ RGB.nil'))
    ·
     refine RG.leaf' [(13, .seq), (19, .seq), (20, .qui), (21, .seq), (22, .qui), (23, .seq)] (by as_aux_lemma => kernel_rfl) ?_
     have Hr := H
     refine RH.chn hS ?_
     refine qL .chn 66 [] 44 pb ((fs + (2 * root + 1)) * 1) 0 (.int .u64 (e[(fs + (2 * root + 1))]!)) hcell224 ?_
     intro hS
     have Hr := H
     refine RH.chn hS ?_
     refine qL .chn 72 [] 44 pb ((fs + root) * 1) 0 (.int .u64 (e[(fs + root)]!)) hcell232 ?_
     intro hS
     have hn238 : z = e.toList.length := by rw [tl_len (d := e)]; omega
     have hx237 : (fs + root) < e.toList.length := by rw [tl_len (d := e)]; omega
     refine RH.indexW (d := some 73) (r := [(21, .seq), (22, .qui), (23, .seq)]) (T := 58) (e := 44) (m := 1) (ik := .i64) (ix := (fs : Int) + (root : Int)) (sh := (Shape.int .u64)) (xs := e.toList) (a := (some ⟨pb, 0, none⟩)) (len := z) (cap := q) (by as_aux_lemma => kernel_rfl) hS (by as_aux_lemma => kernel_rfl) rfl H (fs + root) (by omega) hx237 hn238 ?_
     intro b239 es240 ha241 hcell242 hr243
     cases ha241
     rw [tl_at (d := e) (k := (fs + root)) _] at hr243
     have hb244 := Shape.u64_bd hr243
     obtain ⟨rfl, -⟩ := hr243
     have Hr := H
     refine RH.sto ?_
     refine RW.storeWC (d := none) (r := []) (e := 44) (m := 1) (b := pb) (k := (fs + root)) (v := .int .u64 (e[(fs + (2 * root + 1))]!)) (by as_aux_lemma => kernel_rfl) rfl (by as_aux_lemma => kernel_rfl) H rfl hx237 hn238 (e[(fs + (2 * root + 1))]!) u64a ?_
     intro w246 hch245 H
     have hS247 := hS.sto hch245 (.inr (by simp))
     refine ⟨hS247, ?_⟩
     have hS := hS247
     have hn249 : z = (e.toList.set (fs + root) (e[(fs + (2 * root + 1))]!)).length := by rw [List.length_set, tl_len (d := e)]; omega
     have hx248 : (fs + (2 * root + 1)) < (e.toList.set (fs + root) (e[(fs + (2 * root + 1))]!)).length := by rw [List.length_set, tl_len (d := e)]; omega
     refine RH.indexW (d := some 74) (r := [(23, .seq)]) (T := 58) (e := 44) (m := 1) (ik := .i64) (ix := (fs : Int) + ((2 * (root : Int)) + 1)) (sh := (Shape.int .u64)) (xs := e.toList.set (fs + root) (e[(fs + (2 * root + 1))]!)) (a := (some ⟨pb, 0, none⟩)) (len := z) (cap := q) (by as_aux_lemma => kernel_rfl) hS (by as_aux_lemma => kernel_rfl) rfl H (fs + (2 * root + 1)) (by omega) hx248 hn249 ?_
     intro b250 es251 ha252 hcell253 hr254
     cases ha252
     have hb255 := Shape.u64_bd hr254
     obtain ⟨rfl, -⟩ := hr254
     refine RH.sto ?_
     refine RW.storeWC (d := none) (r := []) (e := 44) (m := 1) (b := pb) (k := (fs + (2 * root + 1))) (v := .int .u64 (e[(fs + root)]!)) (by as_aux_lemma => kernel_rfl) rfl (by as_aux_lemma => kernel_rfl) H rfl hx248 hn249 (e[(fs + root)]!) u64a ?_
     intro w257 hch256 H
     have H := H.reW (ys := (swp e (fs + root) (fs + (2 * root + 1))).toList) (swp_tl)
     have hS258 := hS.sto hch256 (.inr (by simp))
     refine ⟨hS258, ?_⟩
     have hS := hS258
     refine RH.fin hS 0 [0, 2, 3, 9] [(0, .slice (some ⟨pb, 0, none⟩) z q), (2, .I hi), (3, .I fs), (9, .I ((2 * (root : Int)) + 1))] (by as_aux_lemma => kernel_rfl) ?_
     refine qR 2 [.l [1, 0, 0], .b 0] [(0, .slice (some ⟨pb, 0, none⟩) z q), (2, .I hi), (3, .I fs), (8, .I ((2 * (root : Int)) + 1))] ?_
     rw [show (2 * (root : Int)) + 1 = (((2 * root + 1) : Nat) : Int) by omega]
     have hs9 := sd_lgo (hi := hi) (first := fs) (root := root) (e := e) (by omega) hc9 (by simpa using hd9)
     exact WK.back (hback1 ((2 * root + 1), (swp e (fs + root) (fs + (2 * root + 1)))) _ ⟨H, by rw [← hs9]; exact hinv0.1, by rw [swp_size]; exact hinv0.2.1, by omega⟩ (by first | omega | (simp only []; omega))) (by as_aux_lemma => kernel_rfl)
    ·
     refine RG.leaf' [(19, .seq), (13, .seq), (20, .qui), (21, .seq), (22, .qui), (23, .seq)] (by as_aux_lemma => kernel_rfl) ?_
     have Hr := H
     refine RH.chn hS ?_
     refine qL .chn 72 [] 44 pb ((fs + root) * 1) 0 (.int .u64 (e[(fs + root)]!)) hcell232 ?_
     intro hS
     have Hr := H
     refine RH.chn hS ?_
     refine qL .chn 66 [] 44 pb ((fs + (2 * root + 1)) * 1) 0 (.int .u64 (e[(fs + (2 * root + 1))]!)) hcell224 ?_
     intro hS
     have hn262 : z = e.toList.length := by rw [tl_len (d := e)]; omega
     have hx261 : (fs + root) < e.toList.length := by rw [tl_len (d := e)]; omega
     refine RH.indexW (d := some 73) (r := [(21, .seq), (22, .qui), (23, .seq)]) (T := 58) (e := 44) (m := 1) (ik := .i64) (ix := (fs : Int) + (root : Int)) (sh := (Shape.int .u64)) (xs := e.toList) (a := (some ⟨pb, 0, none⟩)) (len := z) (cap := q) (by as_aux_lemma => kernel_rfl) hS (by as_aux_lemma => kernel_rfl) rfl H (fs + root) (by omega) hx261 hn262 ?_
     intro b263 es264 ha265 hcell266 hr267
     cases ha265
     rw [tl_at (d := e) (k := (fs + root)) _] at hr267
     have hb268 := Shape.u64_bd hr267
     obtain ⟨rfl, -⟩ := hr267
     have Hr := H
     refine RH.sto ?_
     refine RW.storeWC (d := none) (r := []) (e := 44) (m := 1) (b := pb) (k := (fs + root)) (v := .int .u64 (e[(fs + (2 * root + 1))]!)) (by as_aux_lemma => kernel_rfl) rfl (by as_aux_lemma => kernel_rfl) H rfl hx261 hn262 (e[(fs + (2 * root + 1))]!) u64a ?_
     intro w270 hch269 H
     have hS271 := hS.sto hch269 (.inr (by simp))
     refine ⟨hS271, ?_⟩
     have hS := hS271
     have hn273 : z = (e.toList.set (fs + root) (e[(fs + (2 * root + 1))]!)).length := by rw [List.length_set, tl_len (d := e)]; omega
     have hx272 : (fs + (2 * root + 1)) < (e.toList.set (fs + root) (e[(fs + (2 * root + 1))]!)).length := by rw [List.length_set, tl_len (d := e)]; omega
     refine RH.indexW (d := some 74) (r := [(23, .seq)]) (T := 58) (e := 44) (m := 1) (ik := .i64) (ix := (fs : Int) + ((2 * (root : Int)) + 1)) (sh := (Shape.int .u64)) (xs := e.toList.set (fs + root) (e[(fs + (2 * root + 1))]!)) (a := (some ⟨pb, 0, none⟩)) (len := z) (cap := q) (by as_aux_lemma => kernel_rfl) hS (by as_aux_lemma => kernel_rfl) rfl H (fs + (2 * root + 1)) (by omega) hx272 hn273 ?_
     intro b274 es275 ha276 hcell277 hr278
     cases ha276
     have hb279 := Shape.u64_bd hr278
     obtain ⟨rfl, -⟩ := hr278
     refine RH.sto ?_
     refine RW.storeWC (d := none) (r := []) (e := 44) (m := 1) (b := pb) (k := (fs + (2 * root + 1))) (v := .int .u64 (e[(fs + root)]!)) (by as_aux_lemma => kernel_rfl) rfl (by as_aux_lemma => kernel_rfl) H rfl hx272 hn273 (e[(fs + root)]!) u64a ?_
     intro w281 hch280 H
     have H := H.reW (ys := (swp e (fs + root) (fs + (2 * root + 1))).toList) (swp_tl)
     have hS282 := hS.sto hch280 (.inr (by simp))
     refine ⟨hS282, ?_⟩
     have hS := hS282
     refine RH.fin hS 0 [0, 2, 3, 9] [(0, .slice (some ⟨pb, 0, none⟩) z q), (2, .I hi), (3, .I fs), (9, .I ((2 * (root : Int)) + 1))] (by as_aux_lemma => kernel_rfl) ?_
     refine qR 2 [.l [1, 0, 0], .b 0] [(0, .slice (some ⟨pb, 0, none⟩) z q), (2, .I hi), (3, .I fs), (8, .I ((2 * (root : Int)) + 1))] ?_
     rw [show (2 * (root : Int)) + 1 = (((2 * root + 1) : Nat) : Int) by omega]
     have hs9 := sd_lgo (hi := hi) (first := fs) (root := root) (e := e) (by omega) hc9 (by simpa using hd9)
     exact WK.back (hback1 ((2 * root + 1), (swp e (fs + root) (fs + (2 * root + 1)))) _ ⟨H, by rw [← hs9]; exact hinv0.1, by rw [swp_size]; exact hinv0.2.1, by omega⟩ (by first | omega | (simp only []; omega))) (by as_aux_lemma => kernel_rfl)
end Go.Proofs.Ythbegjaoifghlaa
