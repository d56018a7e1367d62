import Derived.Test.YthbegjaoifghlaaSU4
namespace Go.Proofs.Ythbegjaoifghlaa
open Go.BX
open Go.Sort (swp insInner insOuter insertionSort ltInt siftDown heapBuild heapPop heapSort reverseLoop reverseRange scanUp scanDown partLoop partition partEqLoop partitionEqual scanSorted shiftDown shiftUp partialIns partialInsertionSort)
theorem part_stop {a b pv i2 j2 : Nat} {d : Array Int} (h1 : scanUp (upP (swp d a pv) a) (swp d a pv) (b - 1) (a + 1) = i2) (h2 : scanDown (uqP (swp d a pv) a) (swp d a pv) i2 (b - 1) = j2) (h : i2 > j2) : partition ltInt d a b pv = (j2, true, swp (swp d a pv) j2 a) := by
 subst h1 h2
 unfold partition
 exact if_pos h
theorem part_go {a b pv i2 j2 : Nat} {d : Array Int} (h1 : scanUp (upP (swp d a pv) a) (swp d a pv) (b - 1) (a + 1) = i2) (h2 : scanDown (uqP (swp d a pv) a) (swp d a pv) i2 (b - 1) = j2) (h : ¬ i2 > j2) : partition ltInt d a b pv = ((partLoop ltInt a (i2 + 1) (j2 - 1) (swp (swp d a pv) i2 j2)).1, false, swp (partLoop ltInt a (i2 + 1) (j2 - 1) (swp (swp d a pv) i2 j2)).2 (partLoop ltInt a (i2 + 1) (j2 - 1) (swp (swp d a pv) i2 j2)).1 a) := by
 subst h1 h2
 unfold partition
 exact if_neg h
set_option maxHeartbeats 4000000 in
theorem upart_spec {S : Nat → Prop} {w : World} {O : List Nat} {d : Array Int} {pb z q : Nat} {a : Nat} {aI : Int} (haI : aI = (a : Int)) {b : Nat} {bI : Int} (hbI : bI = (b : Int)) {pv : Nat} {pvI : Int} (hpvI : pvI = (pv : Int)) (hab : a < b) (hb : b ≤ d.size) (hp1 : a ≤ pv) (hp2 : pv < b) (H0 : Hp w S O [] [⟨Shape.int .u64, 44, .slice (some ⟨pb, 0, none⟩) z q, d.toList⟩] [] w) (hz : d.size = z) (hle : z ≤ 1048576) :
 Calls Try.prog 57 #[.slice (some ⟨pb, 0, none⟩) z q, .I aI, .I bI, .I pvI] w (Ret fun v w' => v = .tuple #[.I (((partition ltInt d a b pv).1 : Nat) : Int), .bool (partition ltInt d a b pv).2.1] ∧ Hp w S O [] [⟨Shape.int .u64, 44, .slice (some ⟨pb, 0, none⟩) z q, (partition ltInt d a b pv).2.2.toList⟩] [] w') := by
 subst haI
 subst hbI
 subst hpvI
 have hds := swp_size d a pv
 refine qS (fn := Try.f57) (n := 168) (σ := [(0, .slice (some ⟨pb, 0, none⟩) z q), (1, .I a), (2, .I b), (3, .I pv)]) Try.func57 ?_
 have H := H0
 refine qR 3 [.c [1, 0], .c [2]] [(0, .slice (some ⟨pb, 0, none⟩) z q), (1, .I a), (2, .I b), (3, .I pv)] ?_
 refine WK.drawP1 13 [0, 1, 2, 3, 4, 5, 8, 9] [(21, .I a), (20, .slice (some ⟨pb, 0, none⟩) z q), (17, .I pv), (16, .slice (some ⟨pb, 0, none⟩) z q), (15, .I pv), (14, .slice (some ⟨pb, 0, none⟩) z q), (13, .I a), (12, .slice (some ⟨pb, 0, none⟩) z q), (0, .slice (some ⟨pb, 0, none⟩) z q), (1, .I a), (2, .I b), (3, .I pv)] (qs [6, 7, 10, 11, 12]) [(6, .qui), (7, .qui), (10, .qui), (11, .qui), (12, .qui), (13, .seq), (14, .seq), (15, .seq)] Try_mixed (by as_aux_lemma => kernel_rfl) (by as_aux_lemma => kernel_rfl) (by as_aux_lemma => kernel_rfl) (by as_aux_lemma => kernel_rfl) ?_
 have H := H.draw
 generalize ({ w with drawn := w.drawn + 1 } : World) = w1 at H ⊢
 have hn3 : z = d.toList.length := by rw [tl_len (d := d)]; omega
 have hx2 : pv < d.toList.length := by rw [tl_len (d := d)]; omega
 refine RW.indexW (κ := .qui) (d := some 18) (r := [(7, .qui), (10, .qui), (11, .qui), (12, .qui), (13, .seq), (14, .seq), (15, .seq)]) (T := 58) (e := 44) (m := 1) (ik := .i64) (ix := (pv : Int)) (sh := (Shape.int .u64)) (xs := d.toList) (a := (some ⟨pb, 0, none⟩)) (len := z) (cap := q) (by as_aux_lemma => kernel_rfl) (by as_aux_lemma => kernel_rfl) rfl H pv (by omega) hx2 hn3 ?_
 intro b4 es5 ha6 hcell7 hr8
 cases ha6
 rw [tl_at (d := d) (k := pv) _] at hr8
 have hb9 := Shape.u64_bd hr8
 obtain ⟨rfl, -⟩ := hr8
 refine qL .qui 19 [(10, .qui), (11, .qui), (12, .qui), (13, .seq), (14, .seq), (15, .seq)] 44 pb (pv * 1) 0 (.int .u64 (d[pv]!)) hcell7 ?_
 have hn11 : z = d.toList.length := by rw [tl_len (d := d)]; omega
 have hx10 : a < d.toList.length := by rw [tl_len (d := d)]; omega
 refine RW.indexW (κ := .qui) (d := some 22) (r := [(11, .qui), (12, .qui), (13, .seq), (14, .seq), (15, .seq)]) (T := 58) (e := 44) (m := 1) (ik := .i64) (ix := (a : Int)) (sh := (Shape.int .u64)) (xs := d.toList) (a := (some ⟨pb, 0, none⟩)) (len := z) (cap := q) (by as_aux_lemma => kernel_rfl) (by as_aux_lemma => kernel_rfl) rfl H a (by omega) hx10 hn11 ?_
 intro b12 es13 ha14 hcell15 hr16
 cases ha14
 rw [tl_at (d := d) (k := a) _] at hr16
 have hb17 := Shape.u64_bd hr16
 obtain ⟨rfl, -⟩ := hr16
 refine qL .qui 23 [(12, .qui), (13, .seq), (14, .seq), (15, .seq)] 44 pb (a * 1) 0 (.int .u64 (d[a]!)) hcell15 ?_
 have hn19 : z = d.toList.length := by rw [tl_len (d := d)]; omega
 have hx18 : a < d.toList.length := by rw [tl_len (d := d)]; omega
 refine RW.indexW (κ := .qui) (d := some 24) (r := [(13, .seq), (14, .seq), (15, .seq)]) (T := 58) (e := 44) (m := 1) (ik := .i64) (ix := (a : Int)) (sh := (Shape.int .u64)) (xs := d.toList) (a := (some ⟨pb, 0, none⟩)) (len := z) (cap := q) (by as_aux_lemma => kernel_rfl) (by as_aux_lemma => kernel_rfl) rfl H a (by omega) hx18 hn19 ?_
 intro b20 es21 ha22 hcell23 hr24
 cases ha22
 rw [tl_at (d := d) (k := a) _] at hr24
 have hb25 := Shape.u64_bd hr24
 obtain ⟨rfl, -⟩ := hr24
 refine RW.storeW (d := none) (r := [(14, .seq), (15, .seq)]) (e := 44) (m := 1) (b := pb) (k := a) (v := .int .u64 (d[pv]!)) (by as_aux_lemma => kernel_rfl) rfl (by as_aux_lemma => kernel_rfl) H rfl hx18 hn19 (d[pv]!) u64a ?_
 intro w26 H
 have hn28 : z = (d.toList.set a (d[pv]!)).length := by rw [List.length_set, tl_len (d := d)]; omega
 have hx27 : pv < (d.toList.set a (d[pv]!)).length := by rw [List.length_set, tl_len (d := d)]; omega
 refine RW.indexW (κ := .seq) (d := some 25) (r := [(15, .seq)]) (T := 58) (e := 44) (m := 1) (ik := .i64) (ix := (pv : Int)) (sh := (Shape.int .u64)) (xs := d.toList.set a (d[pv]!)) (a := (some ⟨pb, 0, none⟩)) (len := z) (cap := q) (by as_aux_lemma => kernel_rfl) (by as_aux_lemma => kernel_rfl) rfl H pv (by omega) hx27 hn28 ?_
 intro b29 es30 ha31 hcell32 hr33
 cases ha31
 have hb34 := Shape.u64_bd hr33
 obtain ⟨rfl, -⟩ := hr33
 refine RW.storeW (d := none) (r := []) (e := 44) (m := 1) (b := pb) (k := pv) (v := .int .u64 (d[a]!)) (by as_aux_lemma => kernel_rfl) rfl (by as_aux_lemma => kernel_rfl) H rfl hx27 hn28 (d[a]!) u64a ?_
 intro w35 H
 have H := H.reW (ys := (swp d a pv).toList) (swp_tl)
 refine qF 0 [(0, .slice (some ⟨pb, 0, none⟩) z q), (1, .I a), (2, .I b)] ?_
 refine qR 1 [.c [2, 0], .c [3]] [(0, .slice (some ⟨pb, 0, none⟩) z q), (1, .I a), (2, .I b)] ?_
 refine qG (sq 0 6) ?_
 refine qP 1 (sq 1 6) [(0, .slice (some ⟨pb, 0, none⟩) z q), (1, .I a), (2, .I b), (26, .I a)] ?_
 refine qI .seq 27 (sq 2 6) ((a : Int) + 1) ?_
 refine qP 1 (sq 3 6) [(0, .slice (some ⟨pb, 0, none⟩) z q), (1, .I a), (27, .I ((a : Int) + 1)), (28, .I b)] ?_
 refine qI .seq 29 (sq 4 6) ((b : Int) - 1) ?_
 refine qF 2 [(0, .slice (some ⟨pb, 0, none⟩) z q), (1, .I a), (10, .I ((a : Int) + 1)), (11, .I ((b : Int) - 1))] ?_
 refine qR 2 [.c [3, 0, 0], .b 0, .c [4]] [(0, .slice (some ⟨pb, 0, none⟩) z q), (1, .I a), (10, .I ((a : Int) + 1)), (11, .I ((b : Int) - 1))] ?_
 refine WK.loop (α := Nat) (b := cd Try.prog 57 [3, 0, 0, 0]) (by as_aux_lemma => kernel_rfl) (fun i2 => [(0, .slice (some ⟨pb, 0, none⟩) z q), (1, .I a), (10, .I i2), (11, .I ((b : Int) - 1))]) (fun i2 w' => Hp w S O [] [⟨Shape.int .u64, 44, .slice (some ⟨pb, 0, none⟩) z q, (swp d a pv).toList⟩] [] w' ∧ scanUp (upP (swp d a pv) a) (swp d a pv) (b - 1) i2 = scanUp (upP (swp d a pv) a) (swp d a pv) (b - 1) (a + 1) ∧ a < i2 ∧ i2 ≤ b) (fun i2 => b - i2) (a + 1) ⟨H, rfl, by omega, by omega⟩ (rfl) ?_
 rintro i2 w37 ⟨H, hinv0⟩ hback36
 refine qR 2 [.c [3, 0, 0, 0, 0, 0], .c [3, 0, 0, 0, 0, 1], .c [3, 0, 0, 0, 1], .l [3, 0, 0, 0], .b 0, .c [4]] [(0, .slice (some ⟨pb, 0, none⟩) z q), (1, .I a), (10, .I i2), (11, .I ((b : Int) - 1))] ?_
 refine WK.joinV (α := Bool) (fun x_ w_ => match x_ with | gb => Hp w S O [] [⟨Shape.int .u64, 44, .slice (some ⟨pb, 0, none⟩) z q, (swp d a pv).toList⟩] [] w_ ∧ gb = decide (i2 ≤ (b - 1) ∧ (swp d a pv)[i2]! < (swp d a pv)[a]!)) (fun x_ => match x_ with | gb => [(0, .slice (some ⟨pb, 0, none⟩) z q), (1, .I a), (10, .I i2), (11, .I ((b : Int) - 1)), (43, .bool gb)]) [Cq Try.prog 57 [3, 0, 0, 0, 0, 1], Cq Try.prog 57 [3, 0, 0, 0, 1], Lq Try.prog 57 [3, 0, 0, 0], .inBlock 0, Cq Try.prog 57 [4]] (fun hJ38 => ?_) ?_
 ·
  refine WK.draw1 14 [(0, .qui), (1, .qui), (2, .qui), (3, .qui), (4, .qui), (5, .qui), (6, .qui), (7, .qui), (8, .qui), (9, .qui), (10, .qui), (11, .qui), (12, .chn), (13, .qui)] [(0, .qui), (1, .qui), (2, .qui), (3, .qui), (4, .qui), (5, .qui), (6, .qui), (7, .qui), (8, .qui), (9, .qui), (10, .qui), (11, .qui), (12, .chn), (13, .qui)] Try_mixed (by as_aux_lemma => kernel_rfl) (by as_aux_lemma => kernel_rfl) (by as_aux_lemma => kernel_rfl) ?_
  have H := H.draw
  generalize ({ w37 with drawn := w37.drawn + 1 } : World) = w40 at H ⊢
  refine qP 4 [(4, .qui), (5, .qui), (6, .qui), (7, .qui), (8, .qui), (9, .qui), (10, .qui), (11, .qui), (12, .chn), (13, .qui)] [(0, .slice (some ⟨pb, 0, none⟩) z q), (1, .I a), (10, .I i2), (11, .I ((b : Int) - 1)), (33, .bool (decide (((i2 : Int) : Int) ≤ (b : Int) - 1)))] ?_
  refine tD (fun b_ => [(0, .slice (some ⟨pb, 0, none⟩) z q), (1, .I a), (10, .I i2), (11, .I ((b : Int) - 1)), (33, .bool b_)]) (((i2 : Int) : Int) ≤ (b : Int) - 1) (fun h41 => ?_) (fun h41 => ?_)
  ·
   refine qP 2 [(6, .qui), (7, .qui), (8, .qui), (9, .qui), (10, .qui), (11, .qui), (12, .chn), (13, .qui)] [(0, .slice (some ⟨pb, 0, none⟩) z q), (1, .I a), (10, .I i2), (11, .I ((b : Int) - 1)), (33, .bool true), (34, .slice (some ⟨pb, 0, none⟩) z q), (35, .I i2)] ?_
   have hn43 : z = ((swp d a pv).toList).length := by rw [tl_len (d := (swp d a pv))]; omega
   have hx42 : i2 < ((swp d a pv).toList).length := by rw [tl_len (d := (swp d a pv))]; omega
   refine RW.indexW (κ := .qui) (d := some 36) (r := [(7, .qui), (8, .qui), (9, .qui), (10, .qui), (11, .qui), (12, .chn), (13, .qui)]) (T := 58) (e := 44) (m := 1) (ik := .i64) (ix := (i2 : Int)) (sh := (Shape.int .u64)) (xs := (swp d a pv).toList) (a := (some ⟨pb, 0, none⟩)) (len := z) (cap := q) (by as_aux_lemma => kernel_rfl) (by as_aux_lemma => kernel_rfl) rfl H i2 (by omega) hx42 hn43 ?_
   intro b44 es45 ha46 hcell47 hr48
   cases ha46
   rw [tl_at (d := (swp d a pv)) (k := i2) _] at hr48
   have hb49 := Shape.u64_bd hr48
   obtain ⟨rfl, -⟩ := hr48
   refine qL .qui 37 [(8, .qui), (9, .qui), (10, .qui), (11, .qui), (12, .chn), (13, .qui)] 44 pb (i2 * 1) 0 (.int .u64 ((swp d a pv)[i2]!)) hcell47 ?_
   refine qP 2 [(10, .qui), (11, .qui), (12, .chn), (13, .qui)] [(0, .slice (some ⟨pb, 0, none⟩) z q), (1, .I a), (10, .I i2), (11, .I ((b : Int) - 1)), (33, .bool true), (37, .int .u64 ((swp d a pv)[i2]!)), (38, .slice (some ⟨pb, 0, none⟩) z q), (39, .I a)] ?_
   have hn51 : z = ((swp d a pv).toList).length := by rw [tl_len (d := (swp d a pv))]; omega
   have hx50 : a < ((swp d a pv).toList).length := by rw [tl_len (d := (swp d a pv))]; omega
   refine RW.indexW (κ := .qui) (d := some 40) (r := [(11, .qui), (12, .chn), (13, .qui)]) (T := 58) (e := 44) (m := 1) (ik := .i64) (ix := (a : Int)) (sh := (Shape.int .u64)) (xs := (swp d a pv).toList) (a := (some ⟨pb, 0, none⟩)) (len := z) (cap := q) (by as_aux_lemma => kernel_rfl) (by as_aux_lemma => kernel_rfl) rfl H a (by omega) hx50 hn51 ?_
   intro b52 es53 ha54 hcell55 hr56
   cases ha54
   rw [tl_at (d := (swp d a pv)) (k := a) _] at hr56
   have hb57 := Shape.u64_bd hr56
   obtain ⟨rfl, -⟩ := hr56
   refine qL .qui 41 [(12, .chn), (13, .qui)] 44 pb (a * 1) 0 (.int .u64 ((swp d a pv)[a]!)) hcell55 ?_
   refine qK .chn (some 42) [(13, .qui)] 55 #[.int .u64 ((swp d a pv)[i2]!), .int .u64 ((swp d a pv)[a]!)] (uless_spec (S := fun _ => True) ((swp d a pv)[i2]!) ((swp d a pv)[a]!)) ?_
   rintro _ w58 hE59 rfl
   have H := H.ext hE59
   refine qF 1 [(0, .slice (some ⟨pb, 0, none⟩) z q), (1, .I a), (10, .I i2), (11, .I ((b : Int) - 1)), (43, .bool (decide ((swp d a pv)[i2]! < (swp d a pv)[a]!)))] ?_
   exact hJ38 (decide ((swp d a pv)[i2]! < (swp d a pv)[a]!)) _ ⟨H, by
    rw [Bool.eq_iff_iff]
    simp only [decide_eq_true_iff, Bool.not_eq_true', decide_eq_false_iff_not]
    exact ⟨fun hq => ⟨by omega, hq⟩, fun hq => hq.2⟩⟩
  ·
   refine qF 10 [(0, .slice (some ⟨pb, 0, none⟩) z q), (1, .I a), (10, .I i2), (11, .I ((b : Int) - 1)), (43, .bool false)] ?_
   exact hJ38 (false) _ ⟨H, (decide_eq_false (fun q => absurd q.1 (by omega))).symm⟩
 ·
  rintro gb w39 ⟨H, hgb⟩
  refine qC gb (fun h60 => ?_) (fun h60 => ?_)
  ·
   rw [hgb] at h60
   replace h60 := of_decide_eq_true h60
   have hc9 := h60
   refine qR 2 [.c [3, 0, 0, 0, 1, 0], .b 1, .l [3, 0, 0, 0], .b 0, .c [4]] [(0, .slice (some ⟨pb, 0, none⟩) z q), (1, .I a), (10, .I i2), (11, .I ((b : Int) - 1))] ?_
   refine qG (sq 0 3) ?_
   refine qP 1 (sq 1 3) [(0, .slice (some ⟨pb, 0, none⟩) z q), (1, .I a), (10, .I i2), (11, .I ((b : Int) - 1)), (44, .I i2)] ?_
   refine qI .seq 45 (sq 2 3) ((i2 : Int) + 1) ?_
   refine qF 1 [(0, .slice (some ⟨pb, 0, none⟩) z q), (1, .I a), (10, .I ((i2 : Int) + 1)), (11, .I ((b : Int) - 1))] ?_
   refine qR 1 [.l [3, 0, 0, 0], .b 0, .c [4]] [(0, .slice (some ⟨pb, 0, none⟩) z q), (1, .I a), (10, .I ((i2 : Int) + 1)), (11, .I ((b : Int) - 1))] ?_
   exact WK.back (hback36 (i2 + 1) _ ⟨H, (scanUp_go (p := upP (swp d a pv) a) (e := (swp d a pv)) hc9.1 (ltI.2 hc9.2)).trans hinv0.1, by omega, by omega⟩ (by first | omega | (simp only []; omega))) (by as_aux_lemma => kernel_rfl)
  ·
   rw [hgb] at h60
   replace h60 := of_decide_eq_false h60
   have hn43 := h60
   have hu9 : scanUp (upP (swp d a pv) a) (swp d a pv) (b - 1) (a + 1) = i2 := hinv0.1.symm.trans (scanUp_stop fun q => absurd ⟨q.1, ltI.1 q.2⟩ h60)
   refine qR 3 [.c [4, 0, 0], .b 2, .c [5]] [(0, .slice (some ⟨pb, 0, none⟩) z q), (1, .I a), (10, .I i2), (11, .I ((b : Int) - 1))] ?_
   rw [show (b : Int) - 1 = ((b - 1 : Nat) : Int) by omega]
   refine WK.loop (α := Nat) (b := cd Try.prog 57 [4, 0, 0, 0]) (by as_aux_lemma => kernel_rfl) (fun j2 => [(0, .slice (some ⟨pb, 0, none⟩) z q), (1, .I a), (10, .I i2), (11, .I j2)]) (fun j2 w' => Hp w S O [] [⟨Shape.int .u64, 44, .slice (some ⟨pb, 0, none⟩) z q, (swp d a pv).toList⟩] [] w' ∧ scanDown (uqP (swp d a pv) a) (swp d a pv) i2 j2 = scanDown (uqP (swp d a pv) a) (swp d a pv) i2 (b - 1) ∧ j2 < b ∧ i2 ≤ j2 + 1) (fun j2 => j2) (b - 1) ⟨H, rfl, by omega, by omega⟩ (rfl) ?_
   rintro j2 w62 ⟨H, hinv1⟩ hback61
   refine qR 2 [.c [4, 0, 0, 0, 0, 0], .c [4, 0, 0, 0, 0, 1], .c [4, 0, 0, 0, 1], .l [4, 0, 0, 0], .b 2, .c [5]] [(0, .slice (some ⟨pb, 0, none⟩) z q), (1, .I a), (10, .I i2), (11, .I j2)] ?_
   refine WK.joinV (α := Bool) (fun x_ w_ => match x_ with | gb => Hp w S O [] [⟨Shape.int .u64, 44, .slice (some ⟨pb, 0, none⟩) z q, (swp d a pv).toList⟩] [] w_ ∧ gb = decide (i2 ≤ j2 ∧ ¬ (swp d a pv)[j2]! < (swp d a pv)[a]!)) (fun x_ => match x_ with | gb => [(0, .slice (some ⟨pb, 0, none⟩) z q), (1, .I a), (10, .I i2), (11, .I j2), (60, .bool gb)]) [Cq Try.prog 57 [4, 0, 0, 0, 0, 1], Cq Try.prog 57 [4, 0, 0, 0, 1], Lq Try.prog 57 [4, 0, 0, 0], .inBlock 2, Cq Try.prog 57 [5]] (fun hJ63 => ?_) ?_
   ·
    refine WK.draw1 15 [(0, .qui), (1, .qui), (2, .qui), (3, .qui), (4, .qui), (5, .qui), (6, .qui), (7, .qui), (8, .qui), (9, .qui), (10, .qui), (11, .qui), (12, .chn), (13, .qui), (14, .qui)] [(0, .qui), (1, .qui), (2, .qui), (3, .qui), (4, .qui), (5, .qui), (6, .qui), (7, .qui), (8, .qui), (9, .qui), (10, .qui), (11, .qui), (12, .chn), (13, .qui), (14, .qui)] Try_mixed (by as_aux_lemma => kernel_rfl) (by as_aux_lemma => kernel_rfl) (by as_aux_lemma => kernel_rfl) ?_
    have H := H.draw
    generalize ({ w62 with drawn := w62.drawn + 1 } : World) = w65 at H ⊢
    refine qP 4 [(4, .qui), (5, .qui), (6, .qui), (7, .qui), (8, .qui), (9, .qui), (10, .qui), (11, .qui), (12, .chn), (13, .qui), (14, .qui)] [(0, .slice (some ⟨pb, 0, none⟩) z q), (1, .I a), (10, .I i2), (11, .I j2), (49, .bool (decide (((i2 : Int) : Int) ≤ (j2 : Int))))] ?_
    refine tD (fun b_ => [(0, .slice (some ⟨pb, 0, none⟩) z q), (1, .I a), (10, .I i2), (11, .I j2), (49, .bool b_)]) (((i2 : Int) : Int) ≤ (j2 : Int)) (fun h66 => ?_) (fun h66 => ?_)
    ·
     refine qP 2 [(6, .qui), (7, .qui), (8, .qui), (9, .qui), (10, .qui), (11, .qui), (12, .chn), (13, .qui), (14, .qui)] [(0, .slice (some ⟨pb, 0, none⟩) z q), (1, .I a), (10, .I i2), (11, .I j2), (49, .bool true), (50, .slice (some ⟨pb, 0, none⟩) z q), (51, .I j2)] ?_
     have hn68 : z = ((swp d a pv).toList).length := by rw [tl_len (d := (swp d a pv))]; omega
     have hx67 : j2 < ((swp d a pv).toList).length := by rw [tl_len (d := (swp d a pv))]; omega
     refine RW.indexW (κ := .qui) (d := some 52) (r := [(7, .qui), (8, .qui), (9, .qui), (10, .qui), (11, .qui), (12, .chn), (13, .qui), (14, .qui)]) (T := 58) (e := 44) (m := 1) (ik := .i64) (ix := (j2 : Int)) (sh := (Shape.int .u64)) (xs := (swp d a pv).toList) (a := (some ⟨pb, 0, none⟩)) (len := z) (cap := q) (by as_aux_lemma => kernel_rfl) (by as_aux_lemma => kernel_rfl) rfl H j2 (by omega) hx67 hn68 ?_
     intro b69 es70 ha71 hcell72 hr73
     cases ha71
     rw [tl_at (d := (swp d a pv)) (k := j2) _] at hr73
     have hb74 := Shape.u64_bd hr73
     obtain ⟨rfl, -⟩ := hr73
     refine qL .qui 53 [(8, .qui), (9, .qui), (10, .qui), (11, .qui), (12, .chn), (13, .qui), (14, .qui)] 44 pb (j2 * 1) 0 (.int .u64 ((swp d a pv)[j2]!)) hcell72 ?_
     refine qP 2 [(10, .qui), (11, .qui), (12, .chn), (13, .qui), (14, .qui)] [(0, .slice (some ⟨pb, 0, none⟩) z q), (1, .I a), (10, .I i2), (11, .I j2), (49, .bool true), (53, .int .u64 ((swp d a pv)[j2]!)), (54, .slice (some ⟨pb, 0, none⟩) z q), (55, .I a)] ?_
     have hn76 : z = ((swp d a pv).toList).length := by rw [tl_len (d := (swp d a pv))]; omega
     have hx75 : a < ((swp d a pv).toList).length := by rw [tl_len (d := (swp d a pv))]; omega
     refine RW.indexW (κ := .qui) (d := some 56) (r := [(11, .qui), (12, .chn), (13, .qui), (14, .qui)]) (T := 58) (e := 44) (m := 1) (ik := .i64) (ix := (a : Int)) (sh := (Shape.int .u64)) (xs := (swp d a pv).toList) (a := (some ⟨pb, 0, none⟩)) (len := z) (cap := q) (by as_aux_lemma => kernel_rfl) (by as_aux_lemma => kernel_rfl) rfl H a (by omega) hx75 hn76 ?_
     intro b77 es78 ha79 hcell80 hr81
     cases ha79
     rw [tl_at (d := (swp d a pv)) (k := a) _] at hr81
     have hb82 := Shape.u64_bd hr81
     obtain ⟨rfl, -⟩ := hr81
     refine qL .qui 57 [(12, .chn), (13, .qui), (14, .qui)] 44 pb (a * 1) 0 (.int .u64 ((swp d a pv)[a]!)) hcell80 ?_
     refine qK .chn (some 58) (qs [13, 14]) 55 #[.int .u64 ((swp d a pv)[j2]!), .int .u64 ((swp d a pv)[a]!)] (uless_spec (S := fun _ => True) ((swp d a pv)[j2]!) ((swp d a pv)[a]!)) ?_
     rintro _ w83 hE84 rfl
     have H := H.ext hE84
     refine qF 2 [(0, .slice (some ⟨pb, 0, none⟩) z q), (1, .I a), (10, .I i2), (11, .I j2), (60, .bool (!(decide ((swp d a pv)[j2]! < (swp d a pv)[a]!))))] ?_
     exact hJ63 (!(decide ((swp d a pv)[j2]! < (swp d a pv)[a]!))) _ ⟨H, by
      rw [Bool.eq_iff_iff]
      simp only [decide_eq_true_iff, Bool.not_eq_true', decide_eq_false_iff_not]
      exact ⟨fun hq => ⟨by omega, hq⟩, fun hq => hq.2⟩⟩
    ·
     refine qF 11 [(0, .slice (some ⟨pb, 0, none⟩) z q), (1, .I a), (10, .I i2), (11, .I j2), (60, .bool false)] ?_
     exact hJ63 (false) _ ⟨H, (decide_eq_false (fun q => absurd q.1 (by omega))).symm⟩
   ·
    rintro gb w64 ⟨H, hgb⟩
    refine qC gb (fun h85 => ?_) (fun h85 => ?_)
    ·
     rw [hgb] at h85
     replace h85 := of_decide_eq_true h85
     have hd9 := h85
     refine qR 2 [.c [4, 0, 0, 0, 1, 0], .b 3, .l [4, 0, 0, 0], .b 2, .c [5]] [(0, .slice (some ⟨pb, 0, none⟩) z q), (1, .I a), (10, .I i2), (11, .I j2)] ?_
     refine qG (sq 0 3) ?_
     refine qP 1 (sq 1 3) [(0, .slice (some ⟨pb, 0, none⟩) z q), (1, .I a), (10, .I i2), (11, .I j2), (61, .I j2)] ?_
     refine qI .seq 62 (sq 2 3) ((j2 : Int) - 1) ?_
     refine qF 1 [(0, .slice (some ⟨pb, 0, none⟩) z q), (1, .I a), (10, .I i2), (11, .I ((j2 : Int) - 1))] ?_
     refine qR 1 [.l [4, 0, 0, 0], .b 2, .c [5]] [(0, .slice (some ⟨pb, 0, none⟩) z q), (1, .I a), (10, .I i2), (11, .I ((j2 : Int) - 1))] ?_
     rw [show (j2 : Int) - 1 = ((j2 - 1 : Nat) : Int) by omega]
     exact WK.back (hback61 (j2 - 1) _ ⟨H, (scanDown_go (by omega) hd9.1 (nlt.2 hd9.2)).trans hinv1.1, by omega, by omega⟩ (by first | omega | (simp only []; omega))) (by as_aux_lemma => kernel_rfl)
    ·
     rw [hgb] at h85
     replace h85 := of_decide_eq_false h85
     have hn60 := h85
     have hv9 : scanDown (uqP (swp d a pv) a) (swp d a pv) i2 (b - 1) = j2 := hinv1.1.symm.trans (scanDown_stop fun q => absurd ⟨q.1, nlt.1 q.2⟩ h85)
     refine qR 4 [.c [5, 0, 1], .c [6]] [(0, .slice (some ⟨pb, 0, none⟩) z q), (1, .I a), (10, .I i2), (11, .I j2), (65, .bool (decide (((i2 : Int) : Int) > (j2 : Int))))] ?_
     refine qD (((i2 : Int) : Int) > (j2 : Int)) (fun h86 => ?_) (fun h86 => ?_)
     ·
      refine qR 1 [.c [5, 0, 1, 0, 0], .c [5, 0, 1, 0, 1], .c [6]] [(0, .slice (some ⟨pb, 0, none⟩) z q), (1, .I a), (11, .I j2)] ?_
      refine WK.drawP1 13 [0, 1, 2, 3, 4, 5, 8, 9] [(75, .I j2), (74, .slice (some ⟨pb, 0, none⟩) z q), (71, .I a), (70, .slice (some ⟨pb, 0, none⟩) z q), (69, .I a), (68, .slice (some ⟨pb, 0, none⟩) z q), (67, .I j2), (66, .slice (some ⟨pb, 0, none⟩) z q), (0, .slice (some ⟨pb, 0, none⟩) z q), (1, .I a), (11, .I j2)] (qs [6, 7, 10, 11, 12]) [(6, .qui), (7, .qui), (10, .qui), (11, .qui), (12, .qui), (13, .seq), (14, .seq), (15, .seq)] Try_mixed (by as_aux_lemma => kernel_rfl) (by as_aux_lemma => kernel_rfl) (by as_aux_lemma => kernel_rfl) (by as_aux_lemma => kernel_rfl) ?_
      have H := H.draw
      generalize ({ w64 with drawn := w64.drawn + 1 } : World) = w87 at H ⊢
      have hn89 : z = ((swp d a pv).toList).length := by rw [tl_len (d := (swp d a pv))]; omega
      have hx88 : a < ((swp d a pv).toList).length := by rw [tl_len (d := (swp d a pv))]; omega
      refine RW.indexW (κ := .qui) (d := some 72) (r := [(7, .qui), (10, .qui), (11, .qui), (12, .qui), (13, .seq), (14, .seq), (15, .seq)]) (T := 58) (e := 44) (m := 1) (ik := .i64) (ix := (a : Int)) (sh := (Shape.int .u64)) (xs := (swp d a pv).toList) (a := (some ⟨pb, 0, none⟩)) (len := z) (cap := q) (by as_aux_lemma => kernel_rfl) (by as_aux_lemma => kernel_rfl) rfl H a (by omega) hx88 hn89 ?_
      intro b90 es91 ha92 hcell93 hr94
      cases ha92
      rw [tl_at (d := (swp d a pv)) (k := a) _] at hr94
      have hb95 := Shape.u64_bd hr94
      obtain ⟨rfl, -⟩ := hr94
      refine qL .qui 73 [(10, .qui), (11, .qui), (12, .qui), (13, .seq), (14, .seq), (15, .seq)] 44 pb (a * 1) 0 (.int .u64 ((swp d a pv)[a]!)) hcell93 ?_
      have hn97 : z = ((swp d a pv).toList).length := by rw [tl_len (d := (swp d a pv))]; omega
      have hx96 : j2 < ((swp d a pv).toList).length := by rw [tl_len (d := (swp d a pv))]; omega
      refine RW.indexW (κ := .qui) (d := some 76) (r := [(11, .qui), (12, .qui), (13, .seq), (14, .seq), (15, .seq)]) (T := 58) (e := 44) (m := 1) (ik := .i64) (ix := (j2 : Int)) (sh := (Shape.int .u64)) (xs := (swp d a pv).toList) (a := (some ⟨pb, 0, none⟩)) (len := z) (cap := q) (by as_aux_lemma => kernel_rfl) (by as_aux_lemma => kernel_rfl) rfl H j2 (by omega) hx96 hn97 ?_
      intro b98 es99 ha100 hcell101 hr102
      cases ha100
      rw [tl_at (d := (swp d a pv)) (k := j2) _] at hr102
      have hb103 := Shape.u64_bd hr102
      obtain ⟨rfl, -⟩ := hr102
      refine qL .qui 77 [(12, .qui), (13, .seq), (14, .seq), (15, .seq)] 44 pb (j2 * 1) 0 (.int .u64 ((swp d a pv)[j2]!)) hcell101 ?_
      have hn105 : z = ((swp d a pv).toList).length := by rw [tl_len (d := (swp d a pv))]; omega
      have hx104 : j2 < ((swp d a pv).toList).length := by rw [tl_len (d := (swp d a pv))]; omega
      refine RW.indexW (κ := .qui) (d := some 78) (r := [(13, .seq), (14, .seq), (15, .seq)]) (T := 58) (e := 44) (m := 1) (ik := .i64) (ix := (j2 : Int)) (sh := (Shape.int .u64)) (xs := (swp d a pv).toList) (a := (some ⟨pb, 0, none⟩)) (len := z) (cap := q) (by as_aux_lemma => kernel_rfl) (by as_aux_lemma => kernel_rfl) rfl H j2 (by omega) hx104 hn105 ?_
      intro b106 es107 ha108 hcell109 hr110
      cases ha108
      rw [tl_at (d := (swp d a pv)) (k := j2) _] at hr110
      have hb111 := Shape.u64_bd hr110
      obtain ⟨rfl, -⟩ := hr110
      refine RW.storeW (d := none) (r := [(14, .seq), (15, .seq)]) (e := 44) (m := 1) (b := pb) (k := j2) (v := .int .u64 ((swp d a pv)[a]!)) (by as_aux_lemma => kernel_rfl) rfl (by as_aux_lemma => kernel_rfl) H rfl hx104 hn105 ((swp d a pv)[a]!) u64a ?_
      intro w112 H
      have hn114 : z = (((swp d a pv).toList).set j2 ((swp d a pv)[a]!)).length := by rw [List.length_set, tl_len (d := (swp d a pv))]; omega
      have hx113 : a < (((swp d a pv).toList).set j2 ((swp d a pv)[a]!)).length := by rw [List.length_set, tl_len (d := (swp d a pv))]; omega
      refine RW.indexW (κ := .seq) (d := some 79) (r := [(15, .seq)]) (T := 58) (e := 44) (m := 1) (ik := .i64) (ix := (a : Int)) (sh := (Shape.int .u64)) (xs := ((swp d a pv).toList).set j2 ((swp d a pv)[a]!)) (a := (some ⟨pb, 0, none⟩)) (len := z) (cap := q) (by as_aux_lemma => kernel_rfl) (by as_aux_lemma => kernel_rfl) rfl H a (by omega) hx113 hn114 ?_
      intro b115 es116 ha117 hcell118 hr119
      cases ha117
      have hb120 := Shape.u64_bd hr119
      obtain ⟨rfl, -⟩ := hr119
      refine RW.storeW (d := none) (r := []) (e := 44) (m := 1) (b := pb) (k := a) (v := .int .u64 ((swp d a pv)[j2]!)) (by as_aux_lemma => kernel_rfl) rfl (by as_aux_lemma => kernel_rfl) H rfl hx113 hn114 ((swp d a pv)[j2]!) u64a ?_
      intro w121 H
      have H := H.reW (ys := (swp (swp d a pv) j2 a).toList) (swp_tl)
      refine qF 0 [(11, .I j2)] ?_
      refine qR 2 [.c [5, 0, 1, 0, 2], .c [6]] [(8, .I j2), (9, .bool true)] ?_
      refine qT (.tuple #[.I j2, .bool true]) Try.func57 ?_
      have e9 := part_stop hu9 hv9 (by omega)
      rw [e9]
      exact ⟨_, rfl, rfl, H.pick [] rfl⟩
     ·
      have hne43 : i2 ≠ j2 := fun q => by
       subst q
       exact hn60 ⟨by omega, fun q2 => hn43 ⟨by omega, q2⟩⟩
      have hpt := part_go hu9 hv9 (by omega)
      refine qR 2 [.c [6, 0], .c [7]] [(0, .slice (some ⟨pb, 0, none⟩) z q), (1, .I a), (10, .I i2), (11, .I j2)] ?_
      refine WK.drawP1 13 [0, 1, 2, 3, 4, 5, 8, 9] [(90, .I i2), (89, .slice (some ⟨pb, 0, none⟩) z q), (86, .I j2), (85, .slice (some ⟨pb, 0, none⟩) z q), (84, .I j2), (83, .slice (some ⟨pb, 0, none⟩) z q), (82, .I i2), (81, .slice (some ⟨pb, 0, none⟩) z q), (0, .slice (some ⟨pb, 0, none⟩) z q), (1, .I a), (10, .I i2), (11, .I j2)] (qs [6, 7, 10, 11, 12]) [(6, .qui), (7, .qui), (10, .qui), (11, .qui), (12, .qui), (13, .seq), (14, .seq), (15, .seq)] Try_mixed (by as_aux_lemma => kernel_rfl) (by as_aux_lemma => kernel_rfl) (by as_aux_lemma => kernel_rfl) (by as_aux_lemma => kernel_rfl) ?_
      have H := H.draw
      generalize ({ w64 with drawn := w64.drawn + 1 } : World) = w122 at H ⊢
      have hn124 : z = ((swp d a pv).toList).length := by rw [tl_len (d := (swp d a pv))]; omega
      have hx123 : j2 < ((swp d a pv).toList).length := by rw [tl_len (d := (swp d a pv))]; omega
      refine RW.indexW (κ := .qui) (d := some 87) (r := [(7, .qui), (10, .qui), (11, .qui), (12, .qui), (13, .seq), (14, .seq), (15, .seq)]) (T := 58) (e := 44) (m := 1) (ik := .i64) (ix := (j2 : Int)) (sh := (Shape.int .u64)) (xs := (swp d a pv).toList) (a := (some ⟨pb, 0, none⟩)) (len := z) (cap := q) (by as_aux_lemma => kernel_rfl) (by as_aux_lemma => kernel_rfl) rfl H j2 (by omega) hx123 hn124 ?_
      intro b125 es126 ha127 hcell128 hr129
      cases ha127
      rw [tl_at (d := (swp d a pv)) (k := j2) _] at hr129
      have hb130 := Shape.u64_bd hr129
      obtain ⟨rfl, -⟩ := hr129
      refine qL .qui 88 [(10, .qui), (11, .qui), (12, .qui), (13, .seq), (14, .seq), (15, .seq)] 44 pb (j2 * 1) 0 (.int .u64 ((swp d a pv)[j2]!)) hcell128 ?_
      have hn132 : z = ((swp d a pv).toList).length := by rw [tl_len (d := (swp d a pv))]; omega
      have hx131 : i2 < ((swp d a pv).toList).length := by rw [tl_len (d := (swp d a pv))]; omega
      refine RW.indexW (κ := .qui) (d := some 91) (r := [(11, .qui), (12, .qui), (13, .seq), (14, .seq), (15, .seq)]) (T := 58) (e := 44) (m := 1) (ik := .i64) (ix := (i2 : Int)) (sh := (Shape.int .u64)) (xs := (swp d a pv).toList) (a := (some ⟨pb, 0, none⟩)) (len := z) (cap := q) (by as_aux_lemma => kernel_rfl) (by as_aux_lemma => kernel_rfl) rfl H i2 (by omega) hx131 hn132 ?_
      intro b133 es134 ha135 hcell136 hr137
      cases ha135
      rw [tl_at (d := (swp d a pv)) (k := i2) _] at hr137
      have hb138 := Shape.u64_bd hr137
      obtain ⟨rfl, -⟩ := hr137
      refine qL .qui 92 [(12, .qui), (13, .seq), (14, .seq), (15, .seq)] 44 pb (i2 * 1) 0 (.int .u64 ((swp d a pv)[i2]!)) hcell136 ?_
      have hn140 : z = ((swp d a pv).toList).length := by rw [tl_len (d := (swp d a pv))]; omega
      have hx139 : i2 < ((swp d a pv).toList).length := by rw [tl_len (d := (swp d a pv))]; omega
      refine RW.indexW (κ := .qui) (d := some 93) (r := [(13, .seq), (14, .seq), (15, .seq)]) (T := 58) (e := 44) (m := 1) (ik := .i64) (ix := (i2 : Int)) (sh := (Shape.int .u64)) (xs := (swp d a pv).toList) (a := (some ⟨pb, 0, none⟩)) (len := z) (cap := q) (by as_aux_lemma => kernel_rfl) (by as_aux_lemma => kernel_rfl) rfl H i2 (by omega) hx139 hn140 ?_
      intro b141 es142 ha143 hcell144 hr145
      cases ha143
      rw [tl_at (d := (swp d a pv)) (k := i2) _] at hr145
      have hb146 := Shape.u64_bd hr145
      obtain ⟨rfl, -⟩ := hr145
      refine RW.storeW (d := none) (r := [(14, .seq), (15, .seq)]) (e := 44) (m := 1) (b := pb) (k := i2) (v := .int .u64 ((swp d a pv)[j2]!)) (by as_aux_lemma => kernel_rfl) rfl (by as_aux_lemma => kernel_rfl) H rfl hx139 hn140 ((swp d a pv)[j2]!) u64a ?_
      intro w147 H
      have hn149 : z = (((swp d a pv).toList).set i2 ((swp d a pv)[j2]!)).length := by rw [List.length_set, tl_len (d := (swp d a pv))]; omega
      have hx148 : j2 < (((swp d a pv).toList).set i2 ((swp d a pv)[j2]!)).length := by rw [List.length_set, tl_len (d := (swp d a pv))]; omega
      refine RW.indexW (κ := .seq) (d := some 94) (r := [(15, .seq)]) (T := 58) (e := 44) (m := 1) (ik := .i64) (ix := (j2 : Int)) (sh := (Shape.int .u64)) (xs := ((swp d a pv).toList).set i2 ((swp d a pv)[j2]!)) (a := (some ⟨pb, 0, none⟩)) (len := z) (cap := q) (by as_aux_lemma => kernel_rfl) (by as_aux_lemma => kernel_rfl) rfl H j2 (by omega) hx148 hn149 ?_
      intro b150 es151 ha152 hcell153 hr154
      cases ha152
      have hb155 := Shape.u64_bd hr154
      obtain ⟨rfl, -⟩ := hr154
      refine RW.storeW (d := none) (r := []) (e := 44) (m := 1) (b := pb) (k := j2) (v := .int .u64 ((swp d a pv)[i2]!)) (by as_aux_lemma => kernel_rfl) rfl (by as_aux_lemma => kernel_rfl) H rfl hx148 hn149 ((swp d a pv)[i2]!) u64a ?_
      intro w156 H
      have H := H.reW (ys := (swp (swp d a pv) i2 j2).toList) (swp_tl)
      refine qF 0 [(0, .slice (some ⟨pb, 0, none⟩) z q), (1, .I a), (10, .I i2), (11, .I j2)] ?_
      refine qR 1 [.c [7, 0], .c [8]] [(0, .slice (some ⟨pb, 0, none⟩) z q), (1, .I a), (10, .I i2), (11, .I j2)] ?_
      refine qG (sq 0 3) ?_
      refine qP 1 (sq 1 3) [(0, .slice (some ⟨pb, 0, none⟩) z q), (1, .I a), (10, .I i2), (11, .I j2), (95, .I i2)] ?_
      refine qI .seq 96 (sq 2 3) ((i2 : Int) + 1) ?_
      refine qF 1 [(0, .slice (some ⟨pb, 0, none⟩) z q), (1, .I a), (10, .I ((i2 : Int) + 1)), (11, .I j2)] ?_
      refine qR 1 [.c [8, 0], .c [9]] [(0, .slice (some ⟨pb, 0, none⟩) z q), (1, .I a), (10, .I ((i2 : Int) + 1)), (11, .I j2)] ?_
      refine qG (sq 0 3) ?_
      refine qP 1 (sq 1 3) [(0, .slice (some ⟨pb, 0, none⟩) z q), (1, .I a), (10, .I ((i2 : Int) + 1)), (11, .I j2), (97, .I j2)] ?_
      refine qI .seq 98 (sq 2 3) ((j2 : Int) - 1) ?_
      refine qF 1 [(0, .slice (some ⟨pb, 0, none⟩) z q), (1, .I a), (10, .I ((i2 : Int) + 1)), (11, .I ((j2 : Int) - 1))] ?_
      refine qR 2 [.c [9, 0, 0], .b 4, .c [10]] [(0, .slice (some ⟨pb, 0, none⟩) z q), (1, .I a), (10, .I ((i2 : Int) + 1)), (11, .I ((j2 : Int) - 1))] ?_
      rw [show (j2 : Int) - 1 = ((j2 - 1 : Nat) : Int) by omega]
      refine WK.loop (α := Nat × Nat × Array Int) (b := cd Try.prog 57 [9, 0, 0, 0]) (by as_aux_lemma => kernel_rfl) (fun st_ => match st_ with | (i3, j3, e) => [(0, .slice (some ⟨pb, 0, none⟩) z q), (1, .I a), (10, .I i3), (11, .I j3)]) (fun st_ w' => match st_ with | (i3, j3, e) => Hp w S O [] [⟨Shape.int .u64, 44, .slice (some ⟨pb, 0, none⟩) z q, e.toList⟩] [] w' ∧ partLoop ltInt a i3 j3 e = (partLoop ltInt a (i2 + 1) (j2 - 1) (swp (swp d a pv) i2 j2)) ∧ e.size = z ∧ a < i3 ∧ i3 ≤ j3 + 1 ∧ j3 < b) (fun st_ => match st_ with | (i3, j3, e) => j3 + 1 - i3) ((i2 + 1), (j2 - 1), (swp (swp d a pv) i2 j2)) ⟨H, rfl, by rw [swp_size, swp_size]; exact hz, by omega, by omega, by omega⟩ (rfl) ?_
      rintro ⟨i3, j3, e⟩ w158 ⟨H, hinv2⟩ hback157
      refine qR 3 [.c [9, 0, 0, 0, 0, 0, 0], .b 6, .c [9, 0, 0, 0, 0, 1], .b 5, .l [9, 0, 0, 0], .b 4, .c [10]] [(0, .slice (some ⟨pb, 0, none⟩) z q), (1, .I a), (10, .I i3), (11, .I j3)] ?_
      refine WK.loop (α := Nat) (b := cd Try.prog 57 [9, 0, 0, 0, 0, 0, 0, 0]) (by as_aux_lemma => kernel_rfl) (fun i4 => [(0, .slice (some ⟨pb, 0, none⟩) z q), (1, .I a), (10, .I i4), (11, .I j3)]) (fun i4 w' => Hp w S O [] [⟨Shape.int .u64, 44, .slice (some ⟨pb, 0, none⟩) z q, e.toList⟩] [] w' ∧ scanUp (upP e a) e j3 i4 = scanUp (upP e a) e j3 i3 ∧ i3 ≤ i4 ∧ i4 ≤ j3 + 1) (fun i4 => j3 + 1 - i4) i3 ⟨H, rfl, Nat.le_refl _, by omega⟩ (rfl) ?_
      rintro i4 w160 ⟨H, hinv3⟩ hback159
      refine qR 2 [.c [9, 0, 0, 0, 0, 0, 0, 0, 0, 0], .c [9, 0, 0, 0, 0, 0, 0, 0, 0, 1], .c [9, 0, 0, 0, 0, 0, 0, 0, 1], .l [9, 0, 0, 0, 0, 0, 0, 0], .b 6, .c [9, 0, 0, 0, 0, 1], .b 5, .l [9, 0, 0, 0], .b 4, .c [10]] [(0, .slice (some ⟨pb, 0, none⟩) z q), (1, .I a), (10, .I i4), (11, .I j3)] ?_
      refine WK.joinV (α := Bool) (fun x_ w_ => match x_ with | gb => Hp w S O [] [⟨Shape.int .u64, 44, .slice (some ⟨pb, 0, none⟩) z q, e.toList⟩] [] w_ ∧ gb = decide (i4 ≤ j3 ∧ e[i4]! < e[a]!)) (fun x_ => match x_ with | gb => [(0, .slice (some ⟨pb, 0, none⟩) z q), (1, .I a), (10, .I i4), (11, .I j3), (112, .bool gb)]) [Cq Try.prog 57 [9, 0, 0, 0, 0, 0, 0, 0, 0, 1], Cq Try.prog 57 [9, 0, 0, 0, 0, 0, 0, 0, 1], Lq Try.prog 57 [9, 0, 0, 0, 0, 0, 0, 0], .inBlock 6, Cq Try.prog 57 [9, 0, 0, 0, 0, 1], .inBlock 5, Lq Try.prog 57 [9, 0, 0, 0], .inBlock 4, Cq Try.prog 57 [10]] (fun hJ161 => ?_) ?_
      ·
       refine WK.draw1 14 [(0, .qui), (1, .qui), (2, .qui), (3, .qui), (4, .qui), (5, .qui), (6, .qui), (7, .qui), (8, .qui), (9, .qui), (10, .qui), (11, .qui), (12, .chn), (13, .qui)] [(0, .qui), (1, .qui), (2, .qui), (3, .qui), (4, .qui), (5, .qui), (6, .qui), (7, .qui), (8, .qui), (9, .qui), (10, .qui), (11, .qui), (12, .chn), (13, .qui)] Try_mixed (by as_aux_lemma => kernel_rfl) (by as_aux_lemma => kernel_rfl) (by as_aux_lemma => kernel_rfl) ?_
       have H := H.draw
       generalize ({ w160 with drawn := w160.drawn + 1 } : World) = w163 at H ⊢
       refine qP 4 [(4, .qui), (5, .qui), (6, .qui), (7, .qui), (8, .qui), (9, .qui), (10, .qui), (11, .qui), (12, .chn), (13, .qui)] [(0, .slice (some ⟨pb, 0, none⟩) z q), (1, .I a), (10, .I i4), (11, .I j3), (102, .bool (decide (((i4 : Int) : Int) ≤ (j3 : Int))))] ?_
       refine tD (fun b_ => [(0, .slice (some ⟨pb, 0, none⟩) z q), (1, .I a), (10, .I i4), (11, .I j3), (102, .bool b_)]) (((i4 : Int) : Int) ≤ (j3 : Int)) (fun h164 => ?_) (fun h164 => ?_)
       ·
        refine qP 2 [(6, .qui), (7, .qui), (8, .qui), (9, .qui), (10, .qui), (11, .qui), (12, .chn), (13, .qui)] [(0, .slice (some ⟨pb, 0, none⟩) z q), (1, .I a), (10, .I i4), (11, .I j3), (102, .bool true), (103, .slice (some ⟨pb, 0, none⟩) z q), (104, .I i4)] ?_
        have hn166 : z = e.toList.length := by rw [tl_len (d := e)]; omega
        have hx165 : i4 < e.toList.length := by rw [tl_len (d := e)]; omega
        refine RW.indexW (κ := .qui) (d := some 105) (r := [(7, .qui), (8, .qui), (9, .qui), (10, .qui), (11, .qui), (12, .chn), (13, .qui)]) (T := 58) (e := 44) (m := 1) (ik := .i64) (ix := (i4 : Int)) (sh := (Shape.int .u64)) (xs := e.toList) (a := (some ⟨pb, 0, none⟩)) (len := z) (cap := q) (by as_aux_lemma => kernel_rfl) (by as_aux_lemma => kernel_rfl) rfl H i4 (by omega) hx165 hn166 ?_
        intro b167 es168 ha169 hcell170 hr171
        cases ha169
        rw [tl_at (d := e) (k := i4) _] at hr171
        have hb172 := Shape.u64_bd hr171
        obtain ⟨rfl, -⟩ := hr171
        refine qL .qui 106 [(8, .qui), (9, .qui), (10, .qui), (11, .qui), (12, .chn), (13, .qui)] 44 pb (i4 * 1) 0 (.int .u64 (e[i4]!)) hcell170 ?_
        refine qP 2 [(10, .qui), (11, .qui), (12, .chn), (13, .qui)] [(0, .slice (some ⟨pb, 0, none⟩) z q), (1, .I a), (10, .I i4), (11, .I j3), (102, .bool true), (106, .int .u64 (e[i4]!)), (107, .slice (some ⟨pb, 0, none⟩) z q), (108, .I a)] ?_
        have hn174 : z = e.toList.length := by rw [tl_len (d := e)]; omega
        have hx173 : a < e.toList.length := by rw [tl_len (d := e)]; omega
        refine RW.indexW (κ := .qui) (d := some 109) (r := [(11, .qui), (12, .chn), (13, .qui)]) (T := 58) (e := 44) (m := 1) (ik := .i64) (ix := (a : Int)) (sh := (Shape.int .u64)) (xs := e.toList) (a := (some ⟨pb, 0, none⟩)) (len := z) (cap := q) (by as_aux_lemma => kernel_rfl) (by as_aux_lemma => kernel_rfl) rfl H a (by omega) hx173 hn174 ?_
        intro b175 es176 ha177 hcell178 hr179
        cases ha177
        rw [tl_at (d := e) (k := a) _] at hr179
        have hb180 := Shape.u64_bd hr179
        obtain ⟨rfl, -⟩ := hr179
        refine qL .qui 110 [(12, .chn), (13, .qui)] 44 pb (a * 1) 0 (.int .u64 (e[a]!)) hcell178 ?_
        refine qK .chn (some 111) [(13, .qui)] 55 #[.int .u64 (e[i4]!), .int .u64 (e[a]!)] (uless_spec (S := fun _ => True) (e[i4]!) (e[a]!)) ?_
        rintro _ w181 hE182 rfl
        have H := H.ext hE182
        refine qF 1 [(0, .slice (some ⟨pb, 0, none⟩) z q), (1, .I a), (10, .I i4), (11, .I j3), (112, .bool (decide (e[i4]! < e[a]!)))] ?_
        exact hJ161 (decide (e[i4]! < e[a]!)) _ ⟨H, by
         rw [Bool.eq_iff_iff]
         simp only [decide_eq_true_iff, Bool.not_eq_true', decide_eq_false_iff_not]
         exact ⟨fun hq => ⟨by omega, hq⟩, fun hq => hq.2⟩⟩
       ·
        refine qF 10 [(0, .slice (some ⟨pb, 0, none⟩) z q), (1, .I a), (10, .I i4), (11, .I j3), (112, .bool false)] ?_
        exact hJ161 (false) _ ⟨H, (decide_eq_false (fun q => absurd q.1 (by omega))).symm⟩
      ·
       rintro gb w162 ⟨H, hgb⟩
       refine qC gb (fun h183 => ?_) (fun h183 => ?_)
       ·
        rw [hgb] at h183
        replace h183 := of_decide_eq_true h183
        have hc9 := h183
        refine qR 2 [.c [9, 0, 0, 0, 0, 0, 0, 0, 1, 0], .b 7, .l [9, 0, 0, 0, 0, 0, 0, 0], .b 6, .c [9, 0, 0, 0, 0, 1], .b 5, .l [9, 0, 0, 0], .b 4, .c [10]] [(0, .slice (some ⟨pb, 0, none⟩) z q), (1, .I a), (10, .I i4), (11, .I j3)] ?_
        refine qG (sq 0 3) ?_
        refine qP 1 (sq 1 3) [(0, .slice (some ⟨pb, 0, none⟩) z q), (1, .I a), (10, .I i4), (11, .I j3), (113, .I i4)] ?_
        refine qI .seq 114 (sq 2 3) ((i4 : Int) + 1) ?_
        refine qF 1 [(0, .slice (some ⟨pb, 0, none⟩) z q), (1, .I a), (10, .I ((i4 : Int) + 1)), (11, .I j3)] ?_
        refine qR 1 [.l [9, 0, 0, 0, 0, 0, 0, 0], .b 6, .c [9, 0, 0, 0, 0, 1], .b 5, .l [9, 0, 0, 0], .b 4, .c [10]] [(0, .slice (some ⟨pb, 0, none⟩) z q), (1, .I a), (10, .I ((i4 : Int) + 1)), (11, .I j3)] ?_
        exact WK.back (hback159 (i4 + 1) _ ⟨H, (scanUp_go (p := upP e a) (e := e) hc9.1 (ltI.2 hc9.2)).trans hinv3.1, by omega, by omega⟩ (by first | omega | (simp only []; omega))) (by as_aux_lemma => kernel_rfl)
       ·
        rw [hgb] at h183
        replace h183 := of_decide_eq_false h183
        have hn112 := h183
        have hu8 : scanUp (upP e a) e j3 i3 = i4 := hinv3.1.symm.trans (scanUp_stop fun q => absurd ⟨q.1, ltI.1 q.2⟩ h183)
        refine qR 3 [.c [9, 0, 0, 0, 0, 1, 0, 0], .b 8, .c [9, 0, 0, 0, 0, 2], .b 5, .l [9, 0, 0, 0], .b 4, .c [10]] [(0, .slice (some ⟨pb, 0, none⟩) z q), (1, .I a), (10, .I i4), (11, .I j3)] ?_
        refine WK.loop (α := Nat) (b := cd Try.prog 57 [9, 0, 0, 0, 0, 1, 0, 0, 0]) (by as_aux_lemma => kernel_rfl) (fun j4 => [(0, .slice (some ⟨pb, 0, none⟩) z q), (1, .I a), (10, .I i4), (11, .I j4)]) (fun j4 w' => Hp w S O [] [⟨Shape.int .u64, 44, .slice (some ⟨pb, 0, none⟩) z q, e.toList⟩] [] w' ∧ scanDown (uqP e a) e i4 j4 = scanDown (uqP e a) e i4 j3 ∧ j4 ≤ j3 ∧ i4 ≤ j4 + 1) (fun j4 => j4) j3 ⟨H, rfl, Nat.le_refl _, by omega⟩ (rfl) ?_
        rintro j4 w185 ⟨H, hinv4⟩ hback184
        refine qR 2 [.c [9, 0, 0, 0, 0, 1, 0, 0, 0, 0, 0], .c [9, 0, 0, 0, 0, 1, 0, 0, 0, 0, 1], .c [9, 0, 0, 0, 0, 1, 0, 0, 0, 1], .l [9, 0, 0, 0, 0, 1, 0, 0, 0], .b 8, .c [9, 0, 0, 0, 0, 2], .b 5, .l [9, 0, 0, 0], .b 4, .c [10]] [(0, .slice (some ⟨pb, 0, none⟩) z q), (1, .I a), (10, .I i4), (11, .I j4)] ?_
        refine WK.joinV (α := Bool) (fun x_ w_ => match x_ with | gb => Hp w S O [] [⟨Shape.int .u64, 44, .slice (some ⟨pb, 0, none⟩) z q, e.toList⟩] [] w_ ∧ gb = decide (i4 ≤ j4 ∧ ¬ e[j4]! < e[a]!)) (fun x_ => match x_ with | gb => [(0, .slice (some ⟨pb, 0, none⟩) z q), (1, .I a), (10, .I i4), (11, .I j4), (129, .bool gb)]) [Cq Try.prog 57 [9, 0, 0, 0, 0, 1, 0, 0, 0, 0, 1], Cq Try.prog 57 [9, 0, 0, 0, 0, 1, 0, 0, 0, 1], Lq Try.prog 57 [9, 0, 0, 0, 0, 1, 0, 0, 0], .inBlock 8, Cq Try.prog 57 [9, 0, 0, 0, 0, 2], .inBlock 5, Lq Try.prog 57 [9, 0, 0, 0], .inBlock 4, Cq Try.prog 57 [10]] (fun hJ186 => ?_) ?_
        ·
         refine WK.draw1 15 [(0, .qui), (1, .qui), (2, .qui), (3, .qui), (4, .qui), (5, .qui), (6, .qui), (7, .qui), (8, .qui), (9, .qui), (10, .qui), (11, .qui), (12, .chn), (13, .qui), (14, .qui)] [(0, .qui), (1, .qui), (2, .qui), (3, .qui), (4, .qui), (5, .qui), (6, .qui), (7, .qui), (8, .qui), (9, .qui), (10, .qui), (11, .qui), (12, .chn), (13, .qui), (14, .qui)] Try_mixed (by as_aux_lemma => kernel_rfl) (by as_aux_lemma => kernel_rfl) (by as_aux_lemma => kernel_rfl) ?_
         have H := H.draw
         generalize ({ w185 with drawn := w185.drawn + 1 } : World) = w188 at H ⊢
         refine qP 4 [(4, .qui), (5, .qui), (6, .qui), (7, .qui), (8, .qui), (9, .qui), (10, .qui), (11, .qui), (12, .chn), (13, .qui), (14, .qui)] [(0, .slice (some ⟨pb, 0, none⟩) z q), (1, .I a), (10, .I i4), (11, .I j4), (118, .bool (decide (((i4 : Int) : Int) ≤ (j4 : Int))))] ?_
         refine tD (fun b_ => [(0, .slice (some ⟨pb, 0, none⟩) z q), (1, .I a), (10, .I i4), (11, .I j4), (118, .bool b_)]) (((i4 : Int) : Int) ≤ (j4 : Int)) (fun h189 => ?_) (fun h189 => ?_)
         ·
          refine qP 2 [(6, .qui), (7, .qui), (8, .qui), (9, .qui), (10, .qui), (11, .qui), (12, .chn), (13, .qui), (14, .qui)] [(0, .slice (some ⟨pb, 0, none⟩) z q), (1, .I a), (10, .I i4), (11, .I j4), (118, .bool true), (119, .slice (some ⟨pb, 0, none⟩) z q), (120, .I j4)] ?_
          have hn191 : z = e.toList.length := by rw [tl_len (d := e)]; omega
          have hx190 : j4 < e.toList.length := by rw [tl_len (d := e)]; omega
          refine RW.indexW (κ := .qui) (d := some 121) (r := [(7, .qui), (8, .qui), (9, .qui), (10, .qui), (11, .qui), (12, .chn), (13, .qui), (14, .qui)]) (T := 58) (e := 44) (m := 1) (ik := .i64) (ix := (j4 : Int)) (sh := (Shape.int .u64)) (xs := e.toList) (a := (some ⟨pb, 0, none⟩)) (len := z) (cap := q) (by as_aux_lemma => kernel_rfl) (by as_aux_lemma => kernel_rfl) rfl H j4 (by omega) hx190 hn191 ?_
          intro b192 es193 ha194 hcell195 hr196
          cases ha194
          rw [tl_at (d := e) (k := j4) _] at hr196
          have hb197 := Shape.u64_bd hr196
          obtain ⟨rfl, -⟩ := hr196
          refine qL .qui 122 [(8, .qui), (9, .qui), (10, .qui), (11, .qui), (12, .chn), (13, .qui), (14, .qui)] 44 pb (j4 * 1) 0 (.int .u64 (e[j4]!)) hcell195 ?_
          refine qP 2 [(10, .qui), (11, .qui), (12, .chn), (13, .qui), (14, .qui)] [(0, .slice (some ⟨pb, 0, none⟩) z q), (1, .I a), (10, .I i4), (11, .I j4), (118, .bool true), (122, .int .u64 (e[j4]!)), (123, .slice (some ⟨pb, 0, none⟩) z q), (124, .I a)] ?_
          have hn199 : z = e.toList.length := by rw [tl_len (d := e)]; omega
          have hx198 : a < e.toList.length := by rw [tl_len (d := e)]; omega
          refine RW.indexW (κ := .qui) (d := some 125) (r := [(11, .qui), (12, .chn), (13, .qui), (14, .qui)]) (T := 58) (e := 44) (m := 1) (ik := .i64) (ix := (a : Int)) (sh := (Shape.int .u64)) (xs := e.toList) (a := (some ⟨pb, 0, none⟩)) (len := z) (cap := q) (by as_aux_lemma => kernel_rfl) (by as_aux_lemma => kernel_rfl) rfl H a (by omega) hx198 hn199 ?_
          intro b200 es201 ha202 hcell203 hr204
          cases ha202
          rw [tl_at (d := e) (k := a) _] at hr204
          have hb205 := Shape.u64_bd hr204
          obtain ⟨rfl, -⟩ := hr204
          refine qL .qui 126 [(12, .chn), (13, .qui), (14, .qui)] 44 pb (a * 1) 0 (.int .u64 (e[a]!)) hcell203 ?_
          refine qK .chn (some 127) (qs [13, 14]) 55 #[.int .u64 (e[j4]!), .int .u64 (e[a]!)] (uless_spec (S := fun _ => True) (e[j4]!) (e[a]!)) ?_
          rintro _ w206 hE207 rfl
          have H := H.ext hE207
          refine qF 2 [(0, .slice (some ⟨pb, 0, none⟩) z q), (1, .I a), (10, .I i4), (11, .I j4), (129, .bool (!(decide (e[j4]! < e[a]!))))] ?_
          exact hJ186 (!(decide (e[j4]! < e[a]!))) _ ⟨H, by
           rw [Bool.eq_iff_iff]
           simp only [decide_eq_true_iff, Bool.not_eq_true', decide_eq_false_iff_not]
           exact ⟨fun hq => ⟨by omega, hq⟩, fun hq => hq.2⟩⟩
         ·
          refine qF 11 [(0, .slice (some ⟨pb, 0, none⟩) z q), (1, .I a), (10, .I i4), (11, .I j4), (129, .bool false)] ?_
          exact hJ186 (false) _ ⟨H, (decide_eq_false (fun q => absurd q.1 (by omega))).symm⟩
        ·
         rintro gb w187 ⟨H, hgb⟩
         refine qC gb (fun h208 => ?_) (fun h208 => ?_)
         ·
          rw [hgb] at h208
          replace h208 := of_decide_eq_true h208
          have hd9 := h208
          refine qR 2 [.c [9, 0, 0, 0, 0, 1, 0, 0, 0, 1, 0], .b 9, .l [9, 0, 0, 0, 0, 1, 0, 0, 0], .b 8, .c [9, 0, 0, 0, 0, 2], .b 5, .l [9, 0, 0, 0], .b 4, .c [10]] [(0, .slice (some ⟨pb, 0, none⟩) z q), (1, .I a), (10, .I i4), (11, .I j4)] ?_
          refine qG (sq 0 3) ?_
          refine qP 1 (sq 1 3) [(0, .slice (some ⟨pb, 0, none⟩) z q), (1, .I a), (10, .I i4), (11, .I j4), (130, .I j4)] ?_
          refine qI .seq 131 (sq 2 3) ((j4 : Int) - 1) ?_
          refine qF 1 [(0, .slice (some ⟨pb, 0, none⟩) z q), (1, .I a), (10, .I i4), (11, .I ((j4 : Int) - 1))] ?_
          refine qR 1 [.l [9, 0, 0, 0, 0, 1, 0, 0, 0], .b 8, .c [9, 0, 0, 0, 0, 2], .b 5, .l [9, 0, 0, 0], .b 4, .c [10]] [(0, .slice (some ⟨pb, 0, none⟩) z q), (1, .I a), (10, .I i4), (11, .I ((j4 : Int) - 1))] ?_
          rw [show (j4 : Int) - 1 = ((j4 - 1 : Nat) : Int) by omega]
          exact WK.back (hback184 (j4 - 1) _ ⟨H, (scanDown_go (by omega) hd9.1 (nlt.2 hd9.2)).trans hinv4.1, by omega, by omega⟩ (by first | omega | (simp only []; omega))) (by as_aux_lemma => kernel_rfl)
         ·
          rw [hgb] at h208
          replace h208 := of_decide_eq_false h208
          have hn129 := h208
          have hv8 : scanDown (uqP e a) e i4 j3 = j4 := hinv4.1.symm.trans (scanDown_stop fun q => absurd ⟨q.1, nlt.1 q.2⟩ h208)
          refine qR 4 [.c [9, 0, 0, 0, 0, 2, 0, 1], .c [9, 0, 0, 0, 0, 3], .b 5, .l [9, 0, 0, 0], .b 4, .c [10]] [(0, .slice (some ⟨pb, 0, none⟩) z q), (1, .I a), (10, .I i4), (11, .I j4), (134, .bool (decide (((i4 : Int) : Int) > (j4 : Int))))] ?_
          refine qD (((i4 : Int) : Int) > (j4 : Int)) (fun h209 => ?_) (fun h209 => ?_)
          ·
           refine qR 2 [.c [10, 0], .c [11]] [(0, .slice (some ⟨pb, 0, none⟩) z q), (1, .I a), (11, .I j4)] ?_
           refine WK.drawP1 13 [0, 1, 2, 3, 4, 5, 8, 9] [(162, .I j4), (161, .slice (some ⟨pb, 0, none⟩) z q), (158, .I a), (157, .slice (some ⟨pb, 0, none⟩) z q), (156, .I a), (155, .slice (some ⟨pb, 0, none⟩) z q), (154, .I j4), (153, .slice (some ⟨pb, 0, none⟩) z q), (0, .slice (some ⟨pb, 0, none⟩) z q), (1, .I a), (11, .I j4)] (qs [6, 7, 10, 11, 12]) [(6, .qui), (7, .qui), (10, .qui), (11, .qui), (12, .qui), (13, .seq), (14, .seq), (15, .seq)] Try_mixed (by as_aux_lemma => kernel_rfl) (by as_aux_lemma => kernel_rfl) (by as_aux_lemma => kernel_rfl) (by as_aux_lemma => kernel_rfl) ?_
           have H := H.draw
           generalize ({ w187 with drawn := w187.drawn + 1 } : World) = w210 at H ⊢
           have hn212 : z = e.toList.length := by rw [tl_len (d := e)]; omega
           have hx211 : a < e.toList.length := by rw [tl_len (d := e)]; omega
           refine RW.indexW (κ := .qui) (d := some 159) (r := [(7, .qui), (10, .qui), (11, .qui), (12, .qui), (13, .seq), (14, .seq), (15, .seq)]) (T := 58) (e := 44) (m := 1) (ik := .i64) (ix := (a : Int)) (sh := (Shape.int .u64)) (xs := e.toList) (a := (some ⟨pb, 0, none⟩)) (len := z) (cap := q) (by as_aux_lemma => kernel_rfl) (by as_aux_lemma => kernel_rfl) rfl H a (by omega) hx211 hn212 ?_
           intro b213 es214 ha215 hcell216 hr217
           cases ha215
           rw [tl_at (d := e) (k := a) _] at hr217
           have hb218 := Shape.u64_bd hr217
           obtain ⟨rfl, -⟩ := hr217
           refine qL .qui 160 [(10, .qui), (11, .qui), (12, .qui), (13, .seq), (14, .seq), (15, .seq)] 44 pb (a * 1) 0 (.int .u64 (e[a]!)) hcell216 ?_
           have hn220 : z = e.toList.length := by rw [tl_len (d := e)]; omega
           have hx219 : j4 < e.toList.length := by rw [tl_len (d := e)]; omega
           refine RW.indexW (κ := .qui) (d := some 163) (r := [(11, .qui), (12, .qui), (13, .seq), (14, .seq), (15, .seq)]) (T := 58) (e := 44) (m := 1) (ik := .i64) (ix := (j4 : Int)) (sh := (Shape.int .u64)) (xs := e.toList) (a := (some ⟨pb, 0, none⟩)) (len := z) (cap := q) (by as_aux_lemma => kernel_rfl) (by as_aux_lemma => kernel_rfl) rfl H j4 (by omega) hx219 hn220 ?_
           intro b221 es222 ha223 hcell224 hr225
           cases ha223
           rw [tl_at (d := e) (k := j4) _] at hr225
           have hb226 := Shape.u64_bd hr225
           obtain ⟨rfl, -⟩ := hr225
           refine qL .qui 164 [(12, .qui), (13, .seq), (14, .seq), (15, .seq)] 44 pb (j4 * 1) 0 (.int .u64 (e[j4]!)) hcell224 ?_
           have hn228 : z = e.toList.length := by rw [tl_len (d := e)]; omega
           have hx227 : j4 < e.toList.length := by rw [tl_len (d := e)]; omega
           refine RW.indexW (κ := .qui) (d := some 165) (r := [(13, .seq), (14, .seq), (15, .seq)]) (T := 58) (e := 44) (m := 1) (ik := .i64) (ix := (j4 : Int)) (sh := (Shape.int .u64)) (xs := e.toList) (a := (some ⟨pb, 0, none⟩)) (len := z) (cap := q) (by as_aux_lemma => kernel_rfl) (by as_aux_lemma => kernel_rfl) rfl H j4 (by omega) hx227 hn228 ?_
           intro b229 es230 ha231 hcell232 hr233
           cases ha231
           rw [tl_at (d := e) (k := j4) _] at hr233
           have hb234 := Shape.u64_bd hr233
           obtain ⟨rfl, -⟩ := hr233
           refine RW.storeW (d := none) (r := [(14, .seq), (15, .seq)]) (e := 44) (m := 1) (b := pb) (k := j4) (v := .int .u64 (e[a]!)) (by as_aux_lemma => kernel_rfl) rfl (by as_aux_lemma => kernel_rfl) H rfl hx227 hn228 (e[a]!) u64a ?_
           intro w235 H
           have hn237 : z = (e.toList.set j4 (e[a]!)).length := by rw [List.length_set, tl_len (d := e)]; omega
           have hx236 : a < (e.toList.set j4 (e[a]!)).length := by rw [List.length_set, tl_len (d := e)]; omega
           refine RW.indexW (κ := .seq) (d := some 166) (r := [(15, .seq)]) (T := 58) (e := 44) (m := 1) (ik := .i64) (ix := (a : Int)) (sh := (Shape.int .u64)) (xs := e.toList.set j4 (e[a]!)) (a := (some ⟨pb, 0, none⟩)) (len := z) (cap := q) (by as_aux_lemma => kernel_rfl) (by as_aux_lemma => kernel_rfl) rfl H a (by omega) hx236 hn237 ?_
           intro b238 es239 ha240 hcell241 hr242
           cases ha240
           have hb243 := Shape.u64_bd hr242
           obtain ⟨rfl, -⟩ := hr242
           refine RW.storeW (d := none) (r := []) (e := 44) (m := 1) (b := pb) (k := a) (v := .int .u64 (e[j4]!)) (by as_aux_lemma => kernel_rfl) rfl (by as_aux_lemma => kernel_rfl) H rfl hx236 hn237 (e[j4]!) u64a ?_
           intro w244 H
           have H := H.reW (ys := (swp e j4 a).toList) (swp_tl)
           refine qF 0 [(11, .I j4)] ?_
           refine qR 2 [.c [12]] [(8, .I j4), (9, .bool false)] ?_
           refine qT (.tuple #[.I j4, .bool false]) Try.func57 ?_
           rw [hpt, ← hinv2.1, pp_stop hu8 hv8 (by omega)]
           exact ⟨_, rfl, rfl, H.pick [] rfl⟩
          ·
           have hne112 : i4 ≠ j4 := fun q => by
            subst q
            exact hn129 ⟨by omega, fun q2 => hn112 ⟨by omega, q2⟩⟩
           refine qR 2 [.c [9, 0, 0, 0, 0, 3, 0], .c [9, 0, 0, 0, 0, 4], .b 5, .l [9, 0, 0, 0], .b 4, .c [10]] [(0, .slice (some ⟨pb, 0, none⟩) z q), (1, .I a), (10, .I i4), (11, .I j4)] ?_
           refine WK.drawP1 13 [0, 1, 2, 3, 4, 5, 8, 9] [(144, .I i4), (143, .slice (some ⟨pb, 0, none⟩) z q), (140, .I j4), (139, .slice (some ⟨pb, 0, none⟩) z q), (138, .I j4), (137, .slice (some ⟨pb, 0, none⟩) z q), (136, .I i4), (135, .slice (some ⟨pb, 0, none⟩) z q), (0, .slice (some ⟨pb, 0, none⟩) z q), (1, .I a), (10, .I i4), (11, .I j4)] (qs [6, 7, 10, 11, 12]) [(6, .qui), (7, .qui), (10, .qui), (11, .qui), (12, .qui), (13, .seq), (14, .seq), (15, .seq)] Try_mixed (by as_aux_lemma => kernel_rfl) (by as_aux_lemma => kernel_rfl) (by as_aux_lemma => kernel_rfl) (by as_aux_lemma => kernel_rfl) ?_
           have H := H.draw
           generalize ({ w187 with drawn := w187.drawn + 1 } : World) = w245 at H ⊢
           have hn247 : z = e.toList.length := by rw [tl_len (d := e)]; omega
           have hx246 : j4 < e.toList.length := by rw [tl_len (d := e)]; omega
           refine RW.indexW (κ := .qui) (d := some 141) (r := [(7, .qui), (10, .qui), (11, .qui), (12, .qui), (13, .seq), (14, .seq), (15, .seq)]) (T := 58) (e := 44) (m := 1) (ik := .i64) (ix := (j4 : Int)) (sh := (Shape.int .u64)) (xs := e.toList) (a := (some ⟨pb, 0, none⟩)) (len := z) (cap := q) (by as_aux_lemma => kernel_rfl) (by as_aux_lemma => kernel_rfl) rfl H j4 (by omega) hx246 hn247 ?_
           intro b248 es249 ha250 hcell251 hr252
           cases ha250
           rw [tl_at (d := e) (k := j4) _] at hr252
           have hb253 := Shape.u64_bd hr252
           obtain ⟨rfl, -⟩ := hr252
           refine qL .qui 142 [(10, .qui), (11, .qui), (12, .qui), (13, .seq), (14, .seq), (15, .seq)] 44 pb (j4 * 1) 0 (.int .u64 (e[j4]!)) hcell251 ?_
           have hn255 : z = e.toList.length := by rw [tl_len (d := e)]; omega
           have hx254 : i4 < e.toList.length := by rw [tl_len (d := e)]; omega
           refine RW.indexW (κ := .qui) (d := some 145) (r := [(11, .qui), (12, .qui), (13, .seq), (14, .seq), (15, .seq)]) (T := 58) (e := 44) (m := 1) (ik := .i64) (ix := (i4 : Int)) (sh := (Shape.int .u64)) (xs := e.toList) (a := (some ⟨pb, 0, none⟩)) (len := z) (cap := q) (by as_aux_lemma => kernel_rfl) (by as_aux_lemma => kernel_rfl) rfl H i4 (by omega) hx254 hn255 ?_
           intro b256 es257 ha258 hcell259 hr260
           cases ha258
           rw [tl_at (d := e) (k := i4) _] at hr260
           have hb261 := Shape.u64_bd hr260
           obtain ⟨rfl, -⟩ := hr260
           refine qL .qui 146 [(12, .qui), (13, .seq), (14, .seq), (15, .seq)] 44 pb (i4 * 1) 0 (.int .u64 (e[i4]!)) hcell259 ?_
           have hn263 : z = e.toList.length := by rw [tl_len (d := e)]; omega
           have hx262 : i4 < e.toList.length := by rw [tl_len (d := e)]; omega
           refine RW.indexW (κ := .qui) (d := some 147) (r := [(13, .seq), (14, .seq), (15, .seq)]) (T := 58) (e := 44) (m := 1) (ik := .i64) (ix := (i4 : Int)) (sh := (Shape.int .u64)) (xs := e.toList) (a := (some ⟨pb, 0, none⟩)) (len := z) (cap := q) (by as_aux_lemma => kernel_rfl) (by as_aux_lemma => kernel_rfl) rfl H i4 (by omega) hx262 hn263 ?_
           intro b264 es265 ha266 hcell267 hr268
           cases ha266
           rw [tl_at (d := e) (k := i4) _] at hr268
           have hb269 := Shape.u64_bd hr268
           obtain ⟨rfl, -⟩ := hr268
           refine RW.storeW (d := none) (r := [(14, .seq), (15, .seq)]) (e := 44) (m := 1) (b := pb) (k := i4) (v := .int .u64 (e[j4]!)) (by as_aux_lemma => kernel_rfl) rfl (by as_aux_lemma => kernel_rfl) H rfl hx262 hn263 (e[j4]!) u64a ?_
           intro w270 H
           have hn272 : z = (e.toList.set i4 (e[j4]!)).length := by rw [List.length_set, tl_len (d := e)]; omega
           have hx271 : j4 < (e.toList.set i4 (e[j4]!)).length := by rw [List.length_set, tl_len (d := e)]; omega
           refine RW.indexW (κ := .seq) (d := some 148) (r := [(15, .seq)]) (T := 58) (e := 44) (m := 1) (ik := .i64) (ix := (j4 : Int)) (sh := (Shape.int .u64)) (xs := e.toList.set i4 (e[j4]!)) (a := (some ⟨pb, 0, none⟩)) (len := z) (cap := q) (by as_aux_lemma => kernel_rfl) (by as_aux_lemma => kernel_rfl) rfl H j4 (by omega) hx271 hn272 ?_
           intro b273 es274 ha275 hcell276 hr277
           cases ha275
           have hb278 := Shape.u64_bd hr277
           obtain ⟨rfl, -⟩ := hr277
           refine RW.storeW (d := none) (r := []) (e := 44) (m := 1) (b := pb) (k := j4) (v := .int .u64 (e[i4]!)) (by as_aux_lemma => kernel_rfl) rfl (by as_aux_lemma => kernel_rfl) H rfl hx271 hn272 (e[i4]!) u64a ?_
           intro w279 H
           have H := H.reW (ys := (swp e i4 j4).toList) (swp_tl)
           refine qF 0 [(0, .slice (some ⟨pb, 0, none⟩) z q), (1, .I a), (10, .I i4), (11, .I j4)] ?_
           refine qR 1 [.c [9, 0, 0, 0, 0, 4, 0], .c [9, 0, 0, 0, 0, 5], .b 5, .l [9, 0, 0, 0], .b 4, .c [10]] [(0, .slice (some ⟨pb, 0, none⟩) z q), (1, .I a), (10, .I i4), (11, .I j4)] ?_
           refine qG (sq 0 3) ?_
           refine qP 1 (sq 1 3) [(0, .slice (some ⟨pb, 0, none⟩) z q), (1, .I a), (10, .I i4), (11, .I j4), (149, .I i4)] ?_
           refine qI .seq 150 (sq 2 3) ((i4 : Int) + 1) ?_
           refine qF 1 [(0, .slice (some ⟨pb, 0, none⟩) z q), (1, .I a), (10, .I ((i4 : Int) + 1)), (11, .I j4)] ?_
           refine qG (sq 0 3) ?_
           refine qP 1 (sq 1 3) [(0, .slice (some ⟨pb, 0, none⟩) z q), (1, .I a), (10, .I ((i4 : Int) + 1)), (11, .I j4), (151, .I j4)] ?_
           refine qI .seq 152 (sq 2 3) ((j4 : Int) - 1) ?_
           refine qF 1 [(0, .slice (some ⟨pb, 0, none⟩) z q), (1, .I a), (10, .I ((i4 : Int) + 1)), (11, .I ((j4 : Int) - 1))] ?_
           refine qR 1 [.l [9, 0, 0, 0], .b 4, .c [10]] [(0, .slice (some ⟨pb, 0, none⟩) z q), (1, .I a), (10, .I ((i4 : Int) + 1)), (11, .I ((j4 : Int) - 1))] ?_
           rw [show (j4 : Int) - 1 = ((j4 - 1 : Nat) : Int) by omega]
           exact WK.back (hback157 ((i4 + 1), (j4 - 1), (swp e i4 j4)) _ ⟨H, by rw [← hinv2.1]; exact (pp_go hu8 hv8 (by omega)).symm, by rw [swp_size]; exact hinv2.2.1, by omega, by omega, by omega⟩ (by first | omega | (simp only []; omega))) (by as_aux_lemma => kernel_rfl)
end Go.Proofs.Ythbegjaoifghlaa
