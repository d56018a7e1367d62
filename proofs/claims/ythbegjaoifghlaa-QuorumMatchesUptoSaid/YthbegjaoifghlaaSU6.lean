import Derived.Test.YthbegjaoifghlaaSU5
namespace Go.Proofs.Ythbegjaoifghlaa
open Go.BX
open Go.Sort (swp insInner insOuter insertionSort ltInt siftDown heapBuild heapPop heapSort reverseLoop reverseRange scanUp scanDown partLoop partition partEqLoop partitionEqual scanSorted shiftDown shiftUp partialIns partialInsertionSort)
open Go.Sort (fixDown fixUp)
theorem ss_go {e : Array Int} {b i : Nat} (h1 : i < b) (h2 : ¬ e[i]! < e[i - 1]!) : scanSorted ltInt e b (i + 1) = scanSorted ltInt e b i := by
 rw [scanSorted.eq_1 ltInt e b i, if_pos (by rw [Bool.and_eq_true]; exact ⟨decide_eq_true h1, nlt.2 h2⟩)]
theorem ss_stop {e : Array Int} {b i : Nat} (h : ¬ (i < b ∧ ¬ e[i]! < e[i - 1]!)) : scanSorted ltInt e b i = i := by
 rw [scanSorted.eq_1 ltInt e b i, if_neg (by rw [Bool.and_eq_true]; exact fun q => h ⟨of_decide_eq_true q.1, nlt.1 q.2⟩)]
theorem sdn_go {f : Array Int} {j : Nat} (hj : 1 ≤ j) (h : f[j]! < f[j - 1]!) : shiftDown ltInt (j - 1) (swp f j (j - 1)) = shiftDown ltInt j f := by
 obtain ⟨m, rfl⟩ : ∃ m, j = m + 1 := ⟨j - 1, by omega⟩
 have h : f[m + 1]! < f[m]! := h
 exact (show shiftDown ltInt (m + 1) f = shiftDown ltInt m (swp f (m + 1) m) by rw [shiftDown, if_neg (by rw [ltI.2 h]; decide)]).symm
theorem sdn_stop {f : Array Int} {j : Nat} (hj : 1 ≤ j) (h : ¬ f[j]! < f[j - 1]!) : shiftDown ltInt j f = f := by
 obtain ⟨m, rfl⟩ : ∃ m, j = m + 1 := ⟨j - 1, by omega⟩
 have h : ¬ f[m + 1]! < f[m]! := h
 rw [shiftDown, if_pos (by rw [ltI0.2 h]; rfl)]
theorem su_go {f : Array Int} {b k : Nat} (h1 : k < b) (h : f[k]! < f[k - 1]!) : shiftUp ltInt b (k + 1) (swp f k (k - 1)) = shiftUp ltInt b k f := by
 rw [shiftUp.eq_1 ltInt b k f, if_pos h1, if_neg (by rw [ltI.2 h]; decide)]
theorem su_stop {f : Array Int} {b k : Nat} (h1 : k < b) (h : ¬ f[k]! < f[k - 1]!) : shiftUp ltInt b k f = f := by
 rw [shiftUp.eq_1 ltInt b k f, if_pos h1, if_pos (by rw [ltI0.2 h]; rfl)]
theorem su_end {f : Array Int} {b k : Nat} (h1 : b ≤ k) : shiftUp ltInt b k f = f := by
 rw [shiftUp.eq_1 ltInt b k f, if_neg (by omega)]
theorem pi_done {a b s i : Nat} {e : Array Int} (h : scanSorted ltInt e b i = b) : partialIns ltInt a b (s + 1) i e = (e, true) := by
 rw [partialIns, if_pos h]
theorem pi_short {a b s i i2 : Nat} {e : Array Int} (h : scanSorted ltInt e b i = i2) (h2 : i2 ≠ b) (h3 : b - a < 50) : partialIns ltInt a b (s + 1) i e = (e, false) := by
 subst h
 rw [partialIns, if_neg h2, if_pos h3]
theorem pi_go {a b s i i2 : Nat} {e : Array Int} (h : scanSorted ltInt e b i = i2) (h2 : i2 ≠ b) (h3 : ¬ b - a < 50) : partialIns ltInt a b (s + 1) i e = partialIns ltInt a b s i2 (fixUp ltInt b i2 (fixDown ltInt a i2 (swp e i2 (i2 - 1)))) := by
 subst h
 rw [partialIns, if_neg h2, if_neg h3]
 rfl
set_option maxHeartbeats 4000000 in
theorem upins_spec {S : Nat → Prop} {w : World} {O : List Nat} {d : Array Int} {pb z q : Nat} {a : Nat} {aI : Int} (haI : aI = (a : Int)) {b : Nat} {bI : Int} (hbI : bI = (b : Int)) (hab : a < b) (hb : b ≤ d.size) (H0 : Hp w S O [] [⟨Shape.int .u64, 44, .slice (some ⟨pb, 0, none⟩) z q, d.toList⟩] [] w) (hz : d.size = z) (hle : z ≤ 1048576) :
 Calls Try.prog 54 #[.slice (some ⟨pb, 0, none⟩) z q, .I aI, .I bI] w (Ret fun v w' => v = .bool (partialInsertionSort ltInt d a b).2 ∧ Hp w S O [] [⟨Shape.int .u64, 44, .slice (some ⟨pb, 0, none⟩) z q, (partialInsertionSort ltInt d a b).1.toList⟩] [] w') := by
 subst haI
 subst hbI
 refine qS (fn := Try.f54) (n := 133) (σ := [(0, .slice (some ⟨pb, 0, none⟩) z q), (1, .I a), (2, .I b)]) Try.func54 ?_
 have H := H0
 refine qR 3 [.c [1, 0], .c [2]] [(0, .slice (some ⟨pb, 0, none⟩) z q), (1, .I a), (2, .I b)] ?_
 refine qG (sq 0 3) ?_
 refine qP 1 (sq 1 3) [(0, .slice (some ⟨pb, 0, none⟩) z q), (1, .I a), (2, .I b), (11, .I a)] ?_
 refine qI .seq 12 (sq 2 3) ((a : Int) + 1) ?_
 refine qF 1 [(0, .slice (some ⟨pb, 0, none⟩) z q), (1, .I a), (2, .I b), (7, .I ((a : Int) + 1))] ?_
 refine qR 4 [.c [2, 0, 1, 0], .b 0, .c [3]] [(0, .slice (some ⟨pb, 0, none⟩) z q), (1, .I a), (2, .I b), (7, .I ((a : Int) + 1)), (8, .I 0)] ?_
 refine WK.loop (α := Nat × Nat × Array Int) (b := cd Try.prog 54 [2, 0, 1, 0, 0]) (by as_aux_lemma => kernel_rfl) (fun st_ => match st_ with | (t, i, e) => [(0, .slice (some ⟨pb, 0, none⟩) z q), (1, .I a), (2, .I b), (7, .I i), (8, .I t)]) (fun st_ w' => match st_ with | (t, i, e) => Hp w S O [] [⟨Shape.int .u64, 44, .slice (some ⟨pb, 0, none⟩) z q, e.toList⟩] [] w' ∧ partialIns ltInt a b (5 - t) i e = (partialInsertionSort ltInt d a b) ∧ e.size = z ∧ a < i ∧ i ≤ b ∧ t ≤ 5) (fun st_ => match st_ with | (t, i, e) => 5 - t) (0, (a + 1), d) ⟨H, rfl, hz, by omega, by omega, by omega⟩ (rfl) ?_
 rintro ⟨t, i, e⟩ w2 ⟨H, hinv0⟩ hback1
 refine qR 3 [.c [2, 0, 1, 0, 0, 0, 1], .c [2, 0, 1, 0, 0, 1], .l [2, 0, 1, 0, 0], .b 0, .c [3]] [(0, .slice (some ⟨pb, 0, none⟩) z q), (1, .I a), (2, .I b), (7, .I i), (8, .I t), (14, .bool (decide (((t : Int) : Int) < 5)))] ?_
 refine qD (((t : Int) : Int) < 5) (fun h3 => ?_) (fun h3 => ?_)
 ·
  refine qR 5 [.c [2, 0, 1, 0, 0, 1, 0, 0, 0, 0], .b 2, .c [2, 0, 1, 0, 0, 1, 0, 0, 1], .b 1, .c [2, 0, 1, 0, 0, 2], .l [2, 0, 1, 0, 0], .b 0, .c [3]] [(0, .slice (some ⟨pb, 0, none⟩) z q), (1, .I a), (2, .I b), (7, .I i), (8, .I t)] ?_
  refine WK.loop (α := Nat) (b := cd Try.prog 54 [2, 0, 1, 0, 0, 1, 0, 0, 0, 0, 0]) (by as_aux_lemma => kernel_rfl) (fun i2 => [(0, .slice (some ⟨pb, 0, none⟩) z q), (1, .I a), (2, .I b), (7, .I i2), (8, .I t)]) (fun i2 w' => Hp w S O [] [⟨Shape.int .u64, 44, .slice (some ⟨pb, 0, none⟩) z q, e.toList⟩] [] w' ∧ scanSorted ltInt e b i2 = scanSorted ltInt e b i ∧ i ≤ i2 ∧ i2 ≤ b) (fun i2 => b - i2) i ⟨H, rfl, Nat.le_refl _, by omega⟩ (rfl) ?_
  rintro i2 w5 ⟨H, hinv1⟩ hback4
  refine qR 2 [.c [2, 0, 1, 0, 0, 1, 0, 0, 0, 0, 0, 0, 0], .c [2, 0, 1, 0, 0, 1, 0, 0, 0, 0, 0, 0, 1], .c [2, 0, 1, 0, 0, 1, 0, 0, 0, 0, 0, 1], .l [2, 0, 1, 0, 0, 1, 0, 0, 0, 0, 0], .b 2, .c [2, 0, 1, 0, 0, 1, 0, 0, 1], .b 1, .c [2, 0, 1, 0, 0, 2], .l [2, 0, 1, 0, 0], .b 0, .c [3]] [(0, .slice (some ⟨pb, 0, none⟩) z q), (1, .I a), (2, .I b), (7, .I i2), (8, .I t)] ?_
  refine WK.joinV (α := Bool) (fun x_ w_ => match x_ with | gb => Hp w S O [] [⟨Shape.int .u64, 44, .slice (some ⟨pb, 0, none⟩) z q, e.toList⟩] [] w_ ∧ gb = decide (i2 < b ∧ ¬ e[i2]! < e[i2 - 1]!)) (fun x_ => match x_ with | gb => [(0, .slice (some ⟨pb, 0, none⟩) z q), (1, .I a), (2, .I b), (7, .I i2), (8, .I t), (32, .bool gb)]) [Cq Try.prog 54 [2, 0, 1, 0, 0, 1, 0, 0, 0, 0, 0, 0, 1], Cq Try.prog 54 [2, 0, 1, 0, 0, 1, 0, 0, 0, 0, 0, 1], Lq Try.prog 54 [2, 0, 1, 0, 0, 1, 0, 0, 0, 0, 0], .inBlock 2, Cq Try.prog 54 [2, 0, 1, 0, 0, 1, 0, 0, 1], .inBlock 1, Cq Try.prog 54 [2, 0, 1, 0, 0, 2], Lq Try.prog 54 [2, 0, 1, 0, 0], .inBlock 0, Cq Try.prog 54 [3]] (fun hJ6 => ?_) ?_
  ·
   refine WK.draw1 16 [(0, .qui), (1, .qui), (2, .qui), (3, .qui), (4, .qui), (5, .qui), (6, .qui), (7, .qui), (8, .qui), (9, .qui), (10, .qui), (11, .qui), (12, .qui), (13, .chn), (14, .qui), (15, .qui)] [(0, .qui), (1, .qui), (2, .qui), (3, .qui), (4, .qui), (5, .qui), (6, .qui), (7, .qui), (8, .qui), (9, .qui), (10, .qui), (11, .qui), (12, .qui), (13, .chn), (14, .qui), (15, .qui)] Try_mixed (by as_aux_lemma => kernel_rfl) (by as_aux_lemma => kernel_rfl) (by as_aux_lemma => kernel_rfl) ?_
   have H := H.draw
   generalize ({ w5 with drawn := w5.drawn + 1 } : World) = w8 at H ⊢
   refine qP 4 [(4, .qui), (5, .qui), (6, .qui), (7, .qui), (8, .qui), (9, .qui), (10, .qui), (11, .qui), (12, .qui), (13, .chn), (14, .qui), (15, .qui)] [(0, .slice (some ⟨pb, 0, none⟩) z q), (1, .I a), (2, .I b), (7, .I i2), (8, .I t), (20, .bool (decide (((i2 : Int) : Int) < (b : Int))))] ?_
   refine tD (fun b_ => [(0, .slice (some ⟨pb, 0, none⟩) z q), (1, .I a), (2, .I b), (7, .I i2), (8, .I t), (20, .bool b_)]) (((i2 : Int) : Int) < (b : Int)) (fun h9 => ?_) (fun h9 => ?_)
   ·
    refine qP 2 [(6, .qui), (7, .qui), (8, .qui), (9, .qui), (10, .qui), (11, .qui), (12, .qui), (13, .chn), (14, .qui), (15, .qui)] [(0, .slice (some ⟨pb, 0, none⟩) z q), (1, .I a), (2, .I b), (7, .I i2), (8, .I t), (20, .bool true), (21, .slice (some ⟨pb, 0, none⟩) z q), (22, .I i2)] ?_
    have hn11 : z = e.toList.length := by rw [tl_len (d := e)]; omega
    have hx10 : i2 < e.toList.length := by rw [tl_len (d := e)]; omega
    refine RW.indexW (κ := .qui) (d := some 23) (r := [(7, .qui), (8, .qui), (9, .qui), (10, .qui), (11, .qui), (12, .qui), (13, .chn), (14, .qui), (15, .qui)]) (T := 58) (e := 44) (m := 1) (ik := .i64) (ix := (i2 : Int)) (sh := (Shape.int .u64)) (xs := e.toList) (a := (some ⟨pb, 0, none⟩)) (len := z) (cap := q) (by as_aux_lemma => kernel_rfl) (by as_aux_lemma => kernel_rfl) rfl H i2 (by omega) hx10 hn11 ?_
    intro b12 es13 ha14 hcell15 hr16
    cases ha14
    rw [tl_at (d := e) (k := i2) _] at hr16
    have hb17 := Shape.u64_bd hr16
    obtain ⟨rfl, -⟩ := hr16
    refine qL .qui 24 [(8, .qui), (9, .qui), (10, .qui), (11, .qui), (12, .qui), (13, .chn), (14, .qui), (15, .qui)] 44 pb (i2 * 1) 0 (.int .u64 (e[i2]!)) hcell15 ?_
    refine qP 2 [(10, .qui), (11, .qui), (12, .qui), (13, .chn), (14, .qui), (15, .qui)] [(0, .slice (some ⟨pb, 0, none⟩) z q), (1, .I a), (2, .I b), (7, .I i2), (8, .I t), (20, .bool true), (24, .int .u64 (e[i2]!)), (25, .slice (some ⟨pb, 0, none⟩) z q), (26, .I i2)] ?_
    refine qI .qui 27 [(11, .qui), (12, .qui), (13, .chn), (14, .qui), (15, .qui)] ((i2 : Int) - 1) ?_
    have hn19 : z = e.toList.length := by rw [tl_len (d := e)]; omega
    have hx18 : (i2 - 1) < e.toList.length := by rw [tl_len (d := e)]; omega
    refine RW.indexW (κ := .qui) (d := some 28) (r := [(12, .qui), (13, .chn), (14, .qui), (15, .qui)]) (T := 58) (e := 44) (m := 1) (ik := .i64) (ix := (i2 : Int) - 1) (sh := (Shape.int .u64)) (xs := e.toList) (a := (some ⟨pb, 0, none⟩)) (len := z) (cap := q) (by as_aux_lemma => kernel_rfl) (by as_aux_lemma => kernel_rfl) rfl H (i2 - 1) (by omega) hx18 hn19 ?_
    intro b20 es21 ha22 hcell23 hr24
    cases ha22
    rw [tl_at (d := e) (k := (i2 - 1)) _] at hr24
    have hb25 := Shape.u64_bd hr24
    obtain ⟨rfl, -⟩ := hr24
    refine qL .qui 29 [(13, .chn), (14, .qui), (15, .qui)] 44 pb ((i2 - 1) * 1) 0 (.int .u64 (e[(i2 - 1)]!)) hcell23 ?_
    refine qK .chn (some 30) (qs [14, 15]) 55 #[.int .u64 (e[i2]!), .int .u64 (e[(i2 - 1)]!)] (uless_spec (S := fun _ => True) (e[i2]!) (e[(i2 - 1)]!)) ?_
    rintro _ w26 hE27 rfl
    have H := H.ext hE27
    refine qF 2 [(0, .slice (some ⟨pb, 0, none⟩) z q), (1, .I a), (2, .I b), (7, .I i2), (8, .I t), (32, .bool (!(decide (e[i2]! < e[(i2 - 1)]!))))] ?_
    exact hJ6 (!(decide (e[i2]! < e[(i2 - 1)]!))) _ ⟨H, by
     rw [Bool.eq_iff_iff]
     simp only [decide_eq_true_iff, Bool.not_eq_true', decide_eq_false_iff_not]
     exact ⟨fun hq => ⟨by omega, hq⟩, fun hq => hq.2⟩⟩
   ·
    refine qF 12 [(0, .slice (some ⟨pb, 0, none⟩) z q), (1, .I a), (2, .I b), (7, .I i2), (8, .I t), (32, .bool false)] ?_
    exact hJ6 (false) _ ⟨H, (decide_eq_false (fun q => absurd q.1 (by omega))).symm⟩
  ·
   rintro gb w7 ⟨H, hgb⟩
   refine qC gb (fun h28 => ?_) (fun h28 => ?_)
   ·
    rw [hgb] at h28
    replace h28 := of_decide_eq_true h28
    have hc9 := h28
    refine qR 2 [.c [2, 0, 1, 0, 0, 1, 0, 0, 0, 0, 0, 1, 0], .b 3, .l [2, 0, 1, 0, 0, 1, 0, 0, 0, 0, 0], .b 2, .c [2, 0, 1, 0, 0, 1, 0, 0, 1], .b 1, .c [2, 0, 1, 0, 0, 2], .l [2, 0, 1, 0, 0], .b 0, .c [3]] [(0, .slice (some ⟨pb, 0, none⟩) z q), (1, .I a), (2, .I b), (7, .I i2), (8, .I t)] ?_
    refine qG (sq 0 3) ?_
    refine qP 1 (sq 1 3) [(0, .slice (some ⟨pb, 0, none⟩) z q), (1, .I a), (2, .I b), (7, .I i2), (8, .I t), (33, .I i2)] ?_
    refine qI .seq 34 (sq 2 3) ((i2 : Int) + 1) ?_
    refine qF 1 [(0, .slice (some ⟨pb, 0, none⟩) z q), (1, .I a), (2, .I b), (7, .I ((i2 : Int) + 1)), (8, .I t)] ?_
    refine qR 1 [.l [2, 0, 1, 0, 0, 1, 0, 0, 0, 0, 0], .b 2, .c [2, 0, 1, 0, 0, 1, 0, 0, 1], .b 1, .c [2, 0, 1, 0, 0, 2], .l [2, 0, 1, 0, 0], .b 0, .c [3]] [(0, .slice (some ⟨pb, 0, none⟩) z q), (1, .I a), (2, .I b), (7, .I ((i2 : Int) + 1)), (8, .I t)] ?_
    exact WK.back (hback4 (i2 + 1) _ ⟨H, (ss_go hc9.1 hc9.2).trans hinv1.1, by omega, by omega⟩ (by first | omega | (simp only []; omega))) (by as_aux_lemma => kernel_rfl)
   ·
    rw [hgb] at h28
    replace h28 := of_decide_eq_false h28
    have hs9 : scanSorted ltInt e b i = i2 := hinv1.1.symm.trans (ss_stop h28)
    obtain ⟨s5, hs5⟩ : ∃ s5, 5 - t = s5 + 1 := ⟨4 - t, by omega⟩
    refine qR 4 [.c [2, 0, 1, 0, 0, 1, 0, 0, 1, 0, 1], .c [2, 0, 1, 0, 0, 1, 0, 0, 2], .b 1, .c [2, 0, 1, 0, 0, 2], .l [2, 0, 1, 0, 0], .b 0, .c [3]] [(0, .slice (some ⟨pb, 0, none⟩) z q), (1, .I a), (2, .I b), (7, .I i2), (8, .I t), (37, .bool ((i2 : Int) == (b : Int)))] ?_
    refine qE (i2 : Int) (b : Int) (fun h29 => ?_) (fun h29 => ?_)
    ·
     refine qR 2 [.c [2, 0, 1, 0, 0, 1, 0, 0, 1, 0, 1, 0, 1], .c [2, 0, 1, 0, 0, 1, 0, 0, 2], .b 1, .c [2, 0, 1, 0, 0, 2], .l [2, 0, 1, 0, 0], .b 0, .c [3]] [(6, .bool true)] ?_
     refine qT (.bool true) Try.func54 ?_
     have e9 : (partialInsertionSort ltInt d a b) = (e, true) := by rw [← hinv0.1, hs5]; exact pi_done (by rw [hs9]; omega)
     rw [e9]
     exact ⟨_, rfl, rfl, H.pick [] rfl⟩
    ·
     refine qR 3 [.c [2, 0, 1, 0, 0, 1, 0, 0, 2, 0, 0], .c [2, 0, 1, 0, 0, 1, 0, 0, 2, 0, 1], .c [2, 0, 1, 0, 0, 1, 0, 0, 3], .b 1, .c [2, 0, 1, 0, 0, 2], .l [2, 0, 1, 0, 0], .b 0, .c [3]] [(0, .slice (some ⟨pb, 0, none⟩) z q), (1, .I a), (2, .I b), (7, .I i2), (8, .I t)] ?_
     refine qG (sq 0 4) ?_
     refine qP 2 (sq 2 4) [(0, .slice (some ⟨pb, 0, none⟩) z q), (1, .I a), (2, .I b), (7, .I i2), (8, .I t), (38, .I b), (39, .I a)] ?_
     refine qI .seq 40 (sq 3 4) ((b : Int) - (a : Int)) ?_
     refine qF 1 [(0, .slice (some ⟨pb, 0, none⟩) z q), (1, .I a), (2, .I b), (7, .I i2), (8, .I t), (41, .bool (decide (((b : Int) - (a : Int) : Int) < 50)))] ?_
     refine qD (((b : Int) - (a : Int) : Int) < 50) (fun h30 => ?_) (fun h30 => ?_)
     ·
      refine qR 2 [.c [2, 0, 1, 0, 0, 1, 0, 0, 2, 0, 1, 0, 1], .c [2, 0, 1, 0, 0, 1, 0, 0, 3], .b 1, .c [2, 0, 1, 0, 0, 2], .l [2, 0, 1, 0, 0], .b 0, .c [3]] [(6, .bool false)] ?_
      refine qT (.bool false) Try.func54 ?_
      have e9 : (partialInsertionSort ltInt d a b) = (e, false) := by
       rw [← hinv0.1]
       first | (rw [hs5]; exact pi_short (a := a) (b := b) (e := e) (s := s5) hs9 (by omega) (by omega)) | (rw [show 5 - t = 0 by omega]; rfl)
      rw [e9]
      exact ⟨_, rfl, rfl, H.pick [] rfl⟩
     ·
      have hgo9 := pi_go (a := a) (b := b) (e := e) (s := s5) hs9 (by omega) (by omega)
      have hd1s : (swp e i2 (i2 - 1)).size = z := by rw [swp_size]; exact hinv0.2.1
      refine qR 2 [.c [2, 0, 1, 0, 0, 1, 0, 0, 3, 0], .c [2, 0, 1, 0, 0, 1, 0, 0, 4], .b 1, .c [2, 0, 1, 0, 0, 2], .l [2, 0, 1, 0, 0], .b 0, .c [3]] [(0, .slice (some ⟨pb, 0, none⟩) z q), (1, .I a), (2, .I b), (7, .I i2), (8, .I t)] ?_
      refine WK.drawH1 [pb] (.node (qs [0, 1, 2, 3, 4, 5, 6, 7, 8, 10, 11, 12]) (.cons 9 (.leaf [(13, .seq), (14, .qui), (15, .seq), (16, .qui), (17, .seq)]) (.cons 13 (.leaf [(9, .seq), (14, .qui), (15, .seq), (16, .qui), (17, .seq)]) .nil))) Try_mixed (by as_aux_lemma => kernel_rfl) (by as_aux_lemma => kernel_rfl) ?_
      intro w31 hw32
      have H := H.draw
      rw [← hw32] at H
      clear hw32
      have hS := Chg.refl w31 [pb]
      refine RG.node' (qs [0, 1, 2, 3, 4, 5, 6, 7, 8, 10, 11, 12]) (by as_aux_lemma => kernel_rfl) ?_
      refine qHP hS 4 (qs [4, 5, 6, 7, 8, 10, 11, 12]) [(0, .slice (some ⟨pb, 0, none⟩) z q), (1, .I a), (2, .I b), (7, .I i2), (8, .I t), (42, .slice (some ⟨pb, 0, none⟩) z q), (43, .I i2), (44, .slice (some ⟨pb, 0, none⟩) z q), (45, .I i2)] ?_
      refine RH.pv (d := some 46) (r := (qs [5, 6, 7, 8, 10, 11, 12])) (v := .I (IntKind.i64.wrap ((i2 : Int) - 1))) (v' := .I ((i2 : Int) - 1)) (by as_aux_lemma => kernel_rfl) hS (wr_i64 (by omega)) ?_
      refine qHP hS 2 (qs [7, 8, 10, 11, 12]) [(0, .slice (some ⟨pb, 0, none⟩) z q), (1, .I a), (2, .I b), (7, .I i2), (8, .I t), (42, .slice (some ⟨pb, 0, none⟩) z q), (43, .I i2), (44, .slice (some ⟨pb, 0, none⟩) z q), (46, .I ((i2 : Int) - 1)), (47, .slice (some ⟨pb, 0, none⟩) z q), (48, .I i2)] ?_
      refine RH.pv (d := some 49) (r := (qs [8, 10, 11, 12])) (v := .I (IntKind.i64.wrap ((i2 : Int) - 1))) (v' := .I ((i2 : Int) - 1)) (by as_aux_lemma => kernel_rfl) hS (wr_i64 (by omega)) ?_
      have hn34 : z = e.toList.length := by rw [tl_len (d := e)]; omega
      have hx33 : (i2 - 1) < e.toList.length := by rw [tl_len (d := e)]; omega
      refine RH.indexW (d := some 50) (r := (qs [10, 11, 12])) (T := 58) (e := 44) (m := 1) (ik := .i64) (ix := (i2 : Int) - 1) (sh := (Shape.int .u64)) (xs := e.toList) (a := (some ⟨pb, 0, none⟩)) (len := z) (cap := q) (by as_aux_lemma => kernel_rfl) hS (by as_aux_lemma => kernel_rfl) rfl H (i2 - 1) (by omega) hx33 hn34 ?_
      intro b35 es36 ha37 hcell38 hr39
      cases ha37
      rw [tl_at (d := e) (k := (i2 - 1)) _] at hr39
      have hb40 := Shape.u64_bd hr39
      obtain ⟨rfl, -⟩ := hr39
      refine qHP hS 2 [(12, .qui)] [(0, .slice (some ⟨pb, 0, none⟩) z q), (1, .I a), (2, .I b), (7, .I i2), (8, .I t), (42, .slice (some ⟨pb, 0, none⟩) z q), (43, .I i2), (44, .slice (some ⟨pb, 0, none⟩) z q), (46, .I ((i2 : Int) - 1)), (50, .pointer (some ⟨pb, (i2 - 1) * 1, none⟩)), (52, .slice (some ⟨pb, 0, none⟩) z q), (53, .I i2)] ?_
      have hn42 : z = e.toList.length := by rw [tl_len (d := e)]; omega
      have hx41 : i2 < e.toList.length := by rw [tl_len (d := e)]; omega
      refine RH.indexW (d := some 54) (r := []) (T := 58) (e := 44) (m := 1) (ik := .i64) (ix := (i2 : Int)) (sh := (Shape.int .u64)) (xs := e.toList) (a := (some ⟨pb, 0, none⟩)) (len := z) (cap := q) (by as_aux_lemma => kernel_rfl) hS (by as_aux_lemma => kernel_rfl) rfl H i2 (by omega) hx41 hn42 ?_
      intro b43 es44 ha45 hcell46 hr47
      cases ha45
      rw [tl_at (d := e) (k := i2) _] at hr47
      have hb48 := Shape.u64_bd hr47
      obtain ⟨rfl, -⟩ := hr47
      refine RH.finB hS 0 [0, 1, 2, 7, 8, 42, 43, 44, 46, 50, 54] [(0, .slice (some ⟨pb, 0, none⟩) z q), (1, .I a), (2, .I b), (7, .I i2), (8, .I t), (42, .slice (some ⟨pb, 0, none⟩) z q), (43, .I i2), (44, .slice (some ⟨pb, 0, none⟩) z q), (46, .I ((i2 : Int) - 1)), (50, .pointer (some ⟨pb, (i2 - 1) * 1, none⟩)), (54, .pointer (some ⟨pb, i2 * 1, none⟩))] (by as_aux_lemma => kernel_rfl) ?_
      refine (RGB.cons' ?_ (RGB.cons' ?_ RGB.nil'))
      ·
       refine RG.leaf' [(9, .seq), (13, .seq), (14, .qui), (15, .seq), (16, .qui), (17, .seq)] (by as_aux_lemma => kernel_rfl) ?_
       have Hr := H
       refine RH.chn hS ?_
       refine qL .chn 51 [] 44 pb ((i2 - 1) * 1) 0 (.int .u64 (e[(i2 - 1)]!)) hcell38 ?_
       intro hS
       have Hr := H
       refine RH.chn hS ?_
       refine qL .chn 55 [] 44 pb (i2 * 1) 0 (.int .u64 (e[i2]!)) hcell46 ?_
       intro hS
       have hn52 : z = e.toList.length := by rw [tl_len (d := e)]; omega
       have hx51 : i2 < e.toList.length := by rw [tl_len (d := e)]; omega
       refine RH.indexW (d := some 56) (r := [(15, .seq), (16, .qui), (17, .seq)]) (T := 58) (e := 44) (m := 1) (ik := .i64) (ix := (i2 : Int)) (sh := (Shape.int .u64)) (xs := e.toList) (a := (some ⟨pb, 0, none⟩)) (len := z) (cap := q) (by as_aux_lemma => kernel_rfl) hS (by as_aux_lemma => kernel_rfl) rfl H i2 (by omega) hx51 hn52 ?_
       intro b53 es54 ha55 hcell56 hr57
       cases ha55
       rw [tl_at (d := e) (k := i2) _] at hr57
       have hb58 := Shape.u64_bd hr57
       obtain ⟨rfl, -⟩ := hr57
       have Hr := H
       refine RH.sto ?_
       refine RW.storeWC (d := none) (r := []) (e := 44) (m := 1) (b := pb) (k := i2) (v := .int .u64 (e[(i2 - 1)]!)) (by as_aux_lemma => kernel_rfl) rfl (by as_aux_lemma => kernel_rfl) H rfl hx51 hn52 (e[(i2 - 1)]!) u64a ?_
       intro w60 hch59 H
       have hS61 := hS.sto hch59 (.inr (by simp))
       refine ⟨hS61, ?_⟩
       have hS := hS61
       have hn63 : z = (e.toList.set i2 (e[(i2 - 1)]!)).length := by rw [List.length_set, tl_len (d := e)]; omega
       have hx62 : (i2 - 1) < (e.toList.set i2 (e[(i2 - 1)]!)).length := by rw [List.length_set, tl_len (d := e)]; omega
       refine RH.indexW (d := some 57) (r := [(17, .seq)]) (T := 58) (e := 44) (m := 1) (ik := .i64) (ix := (i2 : Int) - 1) (sh := (Shape.int .u64)) (xs := e.toList.set i2 (e[(i2 - 1)]!)) (a := (some ⟨pb, 0, none⟩)) (len := z) (cap := q) (by as_aux_lemma => kernel_rfl) hS (by as_aux_lemma => kernel_rfl) rfl H (i2 - 1) (by omega) hx62 hn63 ?_
       intro b64 es65 ha66 hcell67 hr68
       cases ha66
       have hb69 := Shape.u64_bd hr68
       obtain ⟨rfl, -⟩ := hr68
       refine RH.sto ?_
       refine RW.storeWC (d := none) (r := []) (e := 44) (m := 1) (b := pb) (k := (i2 - 1)) (v := .int .u64 (e[i2]!)) (by as_aux_lemma => kernel_rfl) rfl (by as_aux_lemma => kernel_rfl) H rfl hx62 hn63 (e[i2]!) u64a ?_
       intro w71 hch70 H
       have H := H.reW (ys := (swp e i2 (i2 - 1)).toList) (swp_tl)
       have hS72 := hS.sto hch70 (.inr (by simp))
       refine ⟨hS72, ?_⟩
       have hS := hS72
       refine RH.fin hS 0 [0, 1, 2, 7, 8] [(0, .slice (some ⟨pb, 0, none⟩) z q), (1, .I a), (2, .I b), (7, .I i2), (8, .I t)] (by as_aux_lemma => kernel_rfl) ?_
       refine qR 2 [.c [2, 0, 1, 0, 0, 1, 0, 0, 4, 0, 0], .c [2, 0, 1, 0, 0, 1, 0, 0, 4, 0, 1], .c [2, 0, 1, 0, 0, 1, 0, 0, 5], .b 1, .c [2, 0, 1, 0, 0, 2], .l [2, 0, 1, 0, 0], .b 0, .c [3]] [(0, .slice (some ⟨pb, 0, none⟩) z q), (1, .I a), (2, .I b), (7, .I i2), (8, .I t)] ?_
       refine qG (sq 0 4) ?_
       refine qP 2 (sq 2 4) [(0, .slice (some ⟨pb, 0, none⟩) z q), (1, .I a), (2, .I b), (7, .I i2), (8, .I t), (58, .I i2), (59, .I a)] ?_
       refine qI .seq 60 (sq 3 4) ((i2 : Int) - (a : Int)) ?_
       refine qF 1 [(0, .slice (some ⟨pb, 0, none⟩) z q), (1, .I a), (2, .I b), (7, .I i2), (8, .I t), (61, .bool (decide (((i2 : Int) - (a : Int) : Int) ≥ 2)))] ?_
       refine qD (((i2 : Int) - (a : Int) : Int) ≥ 2) (fun h73 => ?_) (fun h73 => ?_)
       ·
        refine qR 1 [.c [2, 0, 1, 0, 0, 1, 0, 0, 4, 0, 1, 0, 0], .c [2, 0, 1, 0, 0, 1, 0, 0, 4, 0, 1, 0, 1], .c [2, 0, 1, 0, 0, 1, 0, 0, 5], .b 1, .c [2, 0, 1, 0, 0, 2], .l [2, 0, 1, 0, 0], .b 0, .c [3]] [(0, .slice (some ⟨pb, 0, none⟩) z q), (1, .I a), (2, .I b), (7, .I i2), (8, .I t)] ?_
        refine qG (sq 0 3) ?_
        refine qP 1 (sq 1 3) [(0, .slice (some ⟨pb, 0, none⟩) z q), (1, .I a), (2, .I b), (7, .I i2), (8, .I t), (62, .I i2)] ?_
        refine qI .seq 63 (sq 2 3) ((i2 : Int) - 1) ?_
        refine qF 1 [(0, .slice (some ⟨pb, 0, none⟩) z q), (1, .I a), (2, .I b), (7, .I i2), (8, .I t), (9, .I ((i2 : Int) - 1))] ?_
        refine qR 1 [.c [2, 0, 1, 0, 0, 1, 0, 0, 4, 0, 1, 0, 1, 0], .b 4, .c [2, 0, 1, 0, 0, 1, 0, 0, 5], .b 1, .c [2, 0, 1, 0, 0, 2], .l [2, 0, 1, 0, 0], .b 0, .c [3]] [(0, .slice (some ⟨pb, 0, none⟩) z q), (1, .I a), (2, .I b), (7, .I i2), (8, .I t), (9, .I ((i2 : Int) - 1))] ?_
        rw [show (i2 : Int) - 1 = ((i2 - 1 : Nat) : Int) by omega]
        refine WK.loop (α := Nat × Array Int) (b := cd Try.prog 54 [2, 0, 1, 0, 0, 1, 0, 0, 4, 0, 1, 0, 1, 0, 0]) (by as_aux_lemma => kernel_rfl) (fun st_ => match st_ with | (j, f) => [(0, .slice (some ⟨pb, 0, none⟩) z q), (1, .I a), (2, .I b), (7, .I i2), (8, .I t), (9, .I j)]) (fun st_ w' => match st_ with | (j, f) => Hp w S O [] [⟨Shape.int .u64, 44, .slice (some ⟨pb, 0, none⟩) z q, f.toList⟩] [] w' ∧ shiftDown ltInt j f = (fixDown ltInt a i2 (swp e i2 (i2 - 1))) ∧ f.size = z ∧ j < i2) (fun st_ => match st_ with | (j, f) => j) ((i2 - 1), (swp e i2 (i2 - 1))) ⟨H, (if_pos (by omega)).symm, hd1s, by omega⟩ (rfl) ?_
        rintro ⟨j, f⟩ w75 ⟨H, hinv2⟩ hback74
        refine qR 3 [.c [2, 0, 1, 0, 0, 1, 0, 0, 4, 0, 1, 0, 1, 0, 0, 0, 1], .c [2, 0, 1, 0, 0, 1, 0, 0, 4, 0, 1, 0, 1, 0, 0, 1], .l [2, 0, 1, 0, 0, 1, 0, 0, 4, 0, 1, 0, 1, 0, 0], .b 4, .c [2, 0, 1, 0, 0, 1, 0, 0, 5], .b 1, .c [2, 0, 1, 0, 0, 2], .l [2, 0, 1, 0, 0], .b 0, .c [3]] [(0, .slice (some ⟨pb, 0, none⟩) z q), (1, .I a), (2, .I b), (7, .I i2), (8, .I t), (9, .I j), (65, .bool (decide (((j : Int) : Int) ≥ 1)))] ?_
        refine qD (((j : Int) : Int) ≥ 1) (fun h76 => ?_) (fun h76 => ?_)
        ·
         refine qR 5 [.c [2, 0, 1, 0, 0, 1, 0, 0, 4, 0, 1, 0, 1, 0, 0, 1, 0, 0, 0, 0], .c [2, 0, 1, 0, 0, 1, 0, 0, 4, 0, 1, 0, 1, 0, 0, 1, 0, 0, 0, 1], .c [2, 0, 1, 0, 0, 1, 0, 0, 4, 0, 1, 0, 1, 0, 0, 1, 0, 0, 1], .b 5, .c [2, 0, 1, 0, 0, 1, 0, 0, 4, 0, 1, 0, 1, 0, 0, 2], .l [2, 0, 1, 0, 0, 1, 0, 0, 4, 0, 1, 0, 1, 0, 0], .b 4, .c [2, 0, 1, 0, 0, 1, 0, 0, 5], .b 1, .c [2, 0, 1, 0, 0, 2], .l [2, 0, 1, 0, 0], .b 0, .c [3]] [(0, .slice (some ⟨pb, 0, none⟩) z q), (1, .I a), (2, .I b), (7, .I i2), (8, .I t), (9, .I j)] ?_
         refine WK.draw1 11 [(0, .qui), (1, .qui), (2, .qui), (3, .qui), (4, .qui), (5, .qui), (6, .qui), (7, .qui), (8, .qui), (9, .chn), (10, .qui)] [(0, .qui), (1, .qui), (2, .qui), (3, .qui), (4, .qui), (5, .qui), (6, .qui), (7, .qui), (8, .qui), (9, .chn), (10, .qui)] Try_mixed (by as_aux_lemma => kernel_rfl) (by as_aux_lemma => kernel_rfl) (by as_aux_lemma => kernel_rfl) ?_
         have H := H.draw
         generalize ({ w75 with drawn := w75.drawn + 1 } : World) = w77 at H ⊢
         refine qP 2 [(2, .qui), (3, .qui), (4, .qui), (5, .qui), (6, .qui), (7, .qui), (8, .qui), (9, .chn), (10, .qui)] [(0, .slice (some ⟨pb, 0, none⟩) z q), (1, .I a), (2, .I b), (7, .I i2), (8, .I t), (9, .I j), (68, .slice (some ⟨pb, 0, none⟩) z q), (69, .I j)] ?_
         have hn79 : z = f.toList.length := by rw [tl_len (d := f)]; omega
         have hx78 : j < f.toList.length := by rw [tl_len (d := f)]; omega
         refine RW.indexW (κ := .qui) (d := some 70) (r := [(3, .qui), (4, .qui), (5, .qui), (6, .qui), (7, .qui), (8, .qui), (9, .chn), (10, .qui)]) (T := 58) (e := 44) (m := 1) (ik := .i64) (ix := (j : Int)) (sh := (Shape.int .u64)) (xs := f.toList) (a := (some ⟨pb, 0, none⟩)) (len := z) (cap := q) (by as_aux_lemma => kernel_rfl) (by as_aux_lemma => kernel_rfl) rfl H j (by omega) hx78 hn79 ?_
         intro b80 es81 ha82 hcell83 hr84
         cases ha82
         rw [tl_at (d := f) (k := j) _] at hr84
         have hb85 := Shape.u64_bd hr84
         obtain ⟨rfl, -⟩ := hr84
         refine qL .qui 71 [(4, .qui), (5, .qui), (6, .qui), (7, .qui), (8, .qui), (9, .chn), (10, .qui)] 44 pb (j * 1) 0 (.int .u64 (f[j]!)) hcell83 ?_
         refine qP 2 [(6, .qui), (7, .qui), (8, .qui), (9, .chn), (10, .qui)] [(0, .slice (some ⟨pb, 0, none⟩) z q), (1, .I a), (2, .I b), (7, .I i2), (8, .I t), (9, .I j), (71, .int .u64 (f[j]!)), (72, .slice (some ⟨pb, 0, none⟩) z q), (73, .I j)] ?_
         refine qI .qui 74 [(7, .qui), (8, .qui), (9, .chn), (10, .qui)] ((j : Int) - 1) ?_
         have hn87 : z = f.toList.length := by rw [tl_len (d := f)]; omega
         have hx86 : (j - 1) < f.toList.length := by rw [tl_len (d := f)]; omega
         refine RW.indexW (κ := .qui) (d := some 75) (r := [(8, .qui), (9, .chn), (10, .qui)]) (T := 58) (e := 44) (m := 1) (ik := .i64) (ix := (j : Int) - 1) (sh := (Shape.int .u64)) (xs := f.toList) (a := (some ⟨pb, 0, none⟩)) (len := z) (cap := q) (by as_aux_lemma => kernel_rfl) (by as_aux_lemma => kernel_rfl) rfl H (j - 1) (by omega) hx86 hn87 ?_
         intro b88 es89 ha90 hcell91 hr92
         cases ha90
         rw [tl_at (d := f) (k := (j - 1)) _] at hr92
         have hb93 := Shape.u64_bd hr92
         obtain ⟨rfl, -⟩ := hr92
         refine qL .qui 76 [(9, .chn), (10, .qui)] 44 pb ((j - 1) * 1) 0 (.int .u64 (f[(j - 1)]!)) hcell91 ?_
         refine qK .chn (some 77) [(10, .qui)] 55 #[.int .u64 (f[j]!), .int .u64 (f[(j - 1)]!)] (uless_spec (S := fun _ => True) (f[j]!) (f[(j - 1)]!)) ?_
         rintro _ w94 hE95 rfl
         have H := H.ext hE95
         refine qF 1 [(0, .slice (some ⟨pb, 0, none⟩) z q), (1, .I a), (2, .I b), (7, .I i2), (8, .I t), (9, .I j), (78, .bool (!(decide (f[j]! < f[(j - 1)]!))))] ?_
         refine qC (!(decide (f[j]! < f[(j - 1)]!))) (fun h96 => ?_) (fun h96 => ?_)
         ·
          replace h96 : (decide (f[j]! < f[(j - 1)]!)) = false := by revert h96; cases (decide (f[j]! < f[(j - 1)]!)) <;> simp
          replace h96 := of_decide_eq_false h96
          have hf9 : f = (fixDown ltInt a i2 (swp e i2 (i2 - 1))) := by rw [← hinv2.1]; exact (sdn_stop (by omega) (by simpa using h96)).symm
          obtain ⟨g, hg⟩ : ∃ g, g = (fixDown ltInt a i2 (swp e i2 (i2 - 1))) := ⟨_, rfl⟩
          have hgs : g.size = z := by rw [hg, ← hf9]; exact hinv2.2.1
          rw [hf9, ← hg] at H
          refine qR 2 [.c [2, 0, 1, 0, 0, 1, 0, 0, 5, 0], .c [2, 0, 1, 0, 0, 1, 0, 0, 6], .b 1, .c [2, 0, 1, 0, 0, 2], .l [2, 0, 1, 0, 0], .b 0, .c [3]] [(0, .slice (some ⟨pb, 0, none⟩) z q), (1, .I a), (2, .I b), (7, .I i2), (8, .I t)] ?_
          refine qG (sq 0 4) ?_
          refine qP 2 (sq 2 4) [(0, .slice (some ⟨pb, 0, none⟩) z q), (1, .I a), (2, .I b), (7, .I i2), (8, .I t), (95, .I b), (96, .I i2)] ?_
          refine qI .seq 97 (sq 3 4) ((b : Int) - (i2 : Int)) ?_
          refine qF 1 [(0, .slice (some ⟨pb, 0, none⟩) z q), (1, .I a), (2, .I b), (7, .I i2), (8, .I t), (98, .bool (decide (((b : Int) - (i2 : Int) : Int) ≥ 2)))] ?_
          refine qD (((b : Int) - (i2 : Int) : Int) ≥ 2) (fun h97 => ?_) (fun h97 => ?_)
          ·
           refine qR 1 [.c [2, 0, 1, 0, 0, 1, 0, 0, 6, 0, 0], .c [2, 0, 1, 0, 0, 1, 0, 0, 6, 0, 1], .b 1, .c [2, 0, 1, 0, 0, 2], .l [2, 0, 1, 0, 0], .b 0, .c [3]] [(0, .slice (some ⟨pb, 0, none⟩) z q), (1, .I a), (2, .I b), (7, .I i2), (8, .I t)] ?_
           refine qG (sq 0 3) ?_
           refine qP 1 (sq 1 3) [(0, .slice (some ⟨pb, 0, none⟩) z q), (1, .I a), (2, .I b), (7, .I i2), (8, .I t), (99, .I i2)] ?_
           refine qI .seq 100 (sq 2 3) ((i2 : Int) + 1) ?_
           refine qF 1 [(0, .slice (some ⟨pb, 0, none⟩) z q), (1, .I a), (2, .I b), (7, .I i2), (8, .I t), (10, .I ((i2 : Int) + 1))] ?_
           refine qR 1 [.c [2, 0, 1, 0, 0, 1, 0, 0, 6, 0, 1, 0], .b 6, .b 1, .c [2, 0, 1, 0, 0, 2], .l [2, 0, 1, 0, 0], .b 0, .c [3]] [(0, .slice (some ⟨pb, 0, none⟩) z q), (1, .I a), (2, .I b), (7, .I i2), (8, .I t), (10, .I ((i2 : Int) + 1))] ?_
           refine WK.loop (α := Nat × Array Int) (b := cd Try.prog 54 [2, 0, 1, 0, 0, 1, 0, 0, 6, 0, 1, 0, 0]) (by as_aux_lemma => kernel_rfl) (fun st_ => match st_ with | (k, u) => [(0, .slice (some ⟨pb, 0, none⟩) z q), (1, .I a), (2, .I b), (7, .I i2), (8, .I t), (10, .I k)]) (fun st_ w' => match st_ with | (k, u) => Hp w S O [] [⟨Shape.int .u64, 44, .slice (some ⟨pb, 0, none⟩) z q, u.toList⟩] [] w' ∧ shiftUp ltInt b k u = (fixUp ltInt b i2 g) ∧ u.size = z ∧ i2 < k) (fun st_ => match st_ with | (k, u) => b - k) ((i2 + 1), g) ⟨H, (if_pos (by omega)).symm, hgs, by omega⟩ (rfl) ?_
           rintro ⟨k, u⟩ w99 ⟨H, hinv3⟩ hback98
           refine qR 3 [.c [2, 0, 1, 0, 0, 1, 0, 0, 6, 0, 1, 0, 0, 0, 1], .c [2, 0, 1, 0, 0, 1, 0, 0, 6, 0, 1, 0, 0, 1], .l [2, 0, 1, 0, 0, 1, 0, 0, 6, 0, 1, 0, 0], .b 6, .b 1, .c [2, 0, 1, 0, 0, 2], .l [2, 0, 1, 0, 0], .b 0, .c [3]] [(0, .slice (some ⟨pb, 0, none⟩) z q), (1, .I a), (2, .I b), (7, .I i2), (8, .I t), (10, .I k), (103, .bool (decide (((k : Int) : Int) < (b : Int))))] ?_
           refine qD (((k : Int) : Int) < (b : Int)) (fun h100 => ?_) (fun h100 => ?_)
           ·
            refine qR 5 [.c [2, 0, 1, 0, 0, 1, 0, 0, 6, 0, 1, 0, 0, 1, 0, 0, 0, 0], .c [2, 0, 1, 0, 0, 1, 0, 0, 6, 0, 1, 0, 0, 1, 0, 0, 0, 1], .c [2, 0, 1, 0, 0, 1, 0, 0, 6, 0, 1, 0, 0, 1, 0, 0, 1], .b 7, .c [2, 0, 1, 0, 0, 1, 0, 0, 6, 0, 1, 0, 0, 2], .l [2, 0, 1, 0, 0, 1, 0, 0, 6, 0, 1, 0, 0], .b 6, .b 1, .c [2, 0, 1, 0, 0, 2], .l [2, 0, 1, 0, 0], .b 0, .c [3]] [(0, .slice (some ⟨pb, 0, none⟩) z q), (1, .I a), (2, .I b), (7, .I i2), (8, .I t), (10, .I k)] ?_
            refine WK.draw1 11 [(0, .qui), (1, .qui), (2, .qui), (3, .qui), (4, .qui), (5, .qui), (6, .qui), (7, .qui), (8, .qui), (9, .chn), (10, .qui)] [(0, .qui), (1, .qui), (2, .qui), (3, .qui), (4, .qui), (5, .qui), (6, .qui), (7, .qui), (8, .qui), (9, .chn), (10, .qui)] Try_mixed (by as_aux_lemma => kernel_rfl) (by as_aux_lemma => kernel_rfl) (by as_aux_lemma => kernel_rfl) ?_
            have H := H.draw
            generalize ({ w99 with drawn := w99.drawn + 1 } : World) = w101 at H ⊢
            refine qP 2 [(2, .qui), (3, .qui), (4, .qui), (5, .qui), (6, .qui), (7, .qui), (8, .qui), (9, .chn), (10, .qui)] [(0, .slice (some ⟨pb, 0, none⟩) z q), (1, .I a), (2, .I b), (7, .I i2), (8, .I t), (10, .I k), (106, .slice (some ⟨pb, 0, none⟩) z q), (107, .I k)] ?_
            have hn103 : z = u.toList.length := by rw [tl_len (d := u)]; omega
            have hx102 : k < u.toList.length := by rw [tl_len (d := u)]; omega
            refine RW.indexW (κ := .qui) (d := some 108) (r := [(3, .qui), (4, .qui), (5, .qui), (6, .qui), (7, .qui), (8, .qui), (9, .chn), (10, .qui)]) (T := 58) (e := 44) (m := 1) (ik := .i64) (ix := (k : Int)) (sh := (Shape.int .u64)) (xs := u.toList) (a := (some ⟨pb, 0, none⟩)) (len := z) (cap := q) (by as_aux_lemma => kernel_rfl) (by as_aux_lemma => kernel_rfl) rfl H k (by omega) hx102 hn103 ?_
            intro b104 es105 ha106 hcell107 hr108
            cases ha106
            rw [tl_at (d := u) (k := k) _] at hr108
            have hb109 := Shape.u64_bd hr108
            obtain ⟨rfl, -⟩ := hr108
            refine qL .qui 109 [(4, .qui), (5, .qui), (6, .qui), (7, .qui), (8, .qui), (9, .chn), (10, .qui)] 44 pb (k * 1) 0 (.int .u64 (u[k]!)) hcell107 ?_
            refine qP 2 [(6, .qui), (7, .qui), (8, .qui), (9, .chn), (10, .qui)] [(0, .slice (some ⟨pb, 0, none⟩) z q), (1, .I a), (2, .I b), (7, .I i2), (8, .I t), (10, .I k), (109, .int .u64 (u[k]!)), (110, .slice (some ⟨pb, 0, none⟩) z q), (111, .I k)] ?_
            refine qI .qui 112 [(7, .qui), (8, .qui), (9, .chn), (10, .qui)] ((k : Int) - 1) ?_
            have hn111 : z = u.toList.length := by rw [tl_len (d := u)]; omega
            have hx110 : (k - 1) < u.toList.length := by rw [tl_len (d := u)]; omega
            refine RW.indexW (κ := .qui) (d := some 113) (r := [(8, .qui), (9, .chn), (10, .qui)]) (T := 58) (e := 44) (m := 1) (ik := .i64) (ix := (k : Int) - 1) (sh := (Shape.int .u64)) (xs := u.toList) (a := (some ⟨pb, 0, none⟩)) (len := z) (cap := q) (by as_aux_lemma => kernel_rfl) (by as_aux_lemma => kernel_rfl) rfl H (k - 1) (by omega) hx110 hn111 ?_
            intro b112 es113 ha114 hcell115 hr116
            cases ha114
            rw [tl_at (d := u) (k := (k - 1)) _] at hr116
            have hb117 := Shape.u64_bd hr116
            obtain ⟨rfl, -⟩ := hr116
            refine qL .qui 114 [(9, .chn), (10, .qui)] 44 pb ((k - 1) * 1) 0 (.int .u64 (u[(k - 1)]!)) hcell115 ?_
            refine qK .chn (some 115) [(10, .qui)] 55 #[.int .u64 (u[k]!), .int .u64 (u[(k - 1)]!)] (uless_spec (S := fun _ => True) (u[k]!) (u[(k - 1)]!)) ?_
            rintro _ w118 hE119 rfl
            have H := H.ext hE119
            refine qF 1 [(0, .slice (some ⟨pb, 0, none⟩) z q), (1, .I a), (2, .I b), (7, .I i2), (8, .I t), (10, .I k), (116, .bool (!(decide (u[k]! < u[(k - 1)]!))))] ?_
            refine qC (!(decide (u[k]! < u[(k - 1)]!))) (fun h120 => ?_) (fun h120 => ?_)
            ·
             replace h120 : (decide (u[k]! < u[(k - 1)]!)) = false := by revert h120; cases (decide (u[k]! < u[(k - 1)]!)) <;> simp
             replace h120 := of_decide_eq_false h120
             have hq9 : u = (fixUp ltInt b i2 g) := by rw [← hinv3.1]; exact (su_stop (by omega) (by simpa using h120)).symm
             have hqs : (fixUp ltInt b i2 g).size = z := by rw [← hq9]; first | exact hinv3.2.1 | exact hinv2.2.1 | exact hgs
             rw [hq9] at H
             refine qR 2 [.c [2, 0, 1, 0, 0, 2], .l [2, 0, 1, 0, 0], .b 0, .c [3]] [(0, .slice (some ⟨pb, 0, none⟩) z q), (1, .I a), (2, .I b), (7, .I i2), (8, .I t)] ?_
             refine qG (sq 0 3) ?_
             refine qP 1 (sq 1 3) [(0, .slice (some ⟨pb, 0, none⟩) z q), (1, .I a), (2, .I b), (7, .I i2), (8, .I t), (15, .I t)] ?_
             refine qI .seq 16 (sq 2 3) ((t : Int) + 1) ?_
             refine qF 1 [(0, .slice (some ⟨pb, 0, none⟩) z q), (1, .I a), (2, .I b), (7, .I i2), (8, .I ((t : Int) + 1))] ?_
             exact WK.back (hback1 (t + 1, i2, (fixUp ltInt b i2 g)) _ ⟨H, by rw [← hinv0.1, hs5, hgo9, ← hg]; congr 1; omega, hqs, by omega, by omega, by omega⟩ (by first | omega | (simp only []; omega))) (by as_aux_lemma => kernel_rfl)
            ·
             replace h120 : (decide (u[k]! < u[(k - 1)]!)) = true := by revert h120; cases (decide (u[k]! < u[(k - 1)]!)) <;> simp
             replace h120 := of_decide_eq_true h120
             have hl9 : u[k]! < u[k - 1]! := by simpa using h120
             refine qR 1 [.c [2, 0, 1, 0, 0, 1, 0, 0, 6, 0, 1, 0, 0, 1, 0, 0, 1], .b 7, .c [2, 0, 1, 0, 0, 1, 0, 0, 6, 0, 1, 0, 0, 2], .l [2, 0, 1, 0, 0, 1, 0, 0, 6, 0, 1, 0, 0], .b 6, .b 1, .c [2, 0, 1, 0, 0, 2], .l [2, 0, 1, 0, 0], .b 0, .c [3]] [(0, .slice (some ⟨pb, 0, none⟩) z q), (1, .I a), (2, .I b), (7, .I i2), (8, .I t), (10, .I k)] ?_
             refine WK.drawH1 [pb] (.node (qs [0, 1, 2, 3, 4, 5, 6, 7, 8, 10, 11, 12]) (.cons 9 (.leaf [(13, .seq), (14, .qui), (15, .seq), (16, .qui), (17, .seq)]) (.cons 13 (.leaf [(9, .seq), (14, .qui), (15, .seq), (16, .qui), (17, .seq)]) .nil))) Try_mixed (by as_aux_lemma => kernel_rfl) (by as_aux_lemma => kernel_rfl) ?_
             intro w121 hw122
             have H := H.draw
             rw [← hw122] at H
             clear hw122
             have hS := Chg.refl w121 [pb]
             refine RG.node' (qs [0, 1, 2, 3, 4, 5, 6, 7, 8, 10, 11, 12]) (by as_aux_lemma => kernel_rfl) ?_
             refine qHP hS 4 (qs [4, 5, 6, 7, 8, 10, 11, 12]) [(0, .slice (some ⟨pb, 0, none⟩) z q), (1, .I a), (2, .I b), (7, .I i2), (8, .I t), (10, .I k), (117, .slice (some ⟨pb, 0, none⟩) z q), (118, .I k), (119, .slice (some ⟨pb, 0, none⟩) z q), (120, .I k)] ?_
             refine RH.pv (d := some 121) (r := (qs [5, 6, 7, 8, 10, 11, 12])) (v := .I (IntKind.i64.wrap ((k : Int) - 1))) (v' := .I ((k : Int) - 1)) (by as_aux_lemma => kernel_rfl) hS (wr_i64 (by omega)) ?_
             refine qHP hS 2 (qs [7, 8, 10, 11, 12]) [(0, .slice (some ⟨pb, 0, none⟩) z q), (1, .I a), (2, .I b), (7, .I i2), (8, .I t), (10, .I k), (117, .slice (some ⟨pb, 0, none⟩) z q), (118, .I k), (119, .slice (some ⟨pb, 0, none⟩) z q), (121, .I ((k : Int) - 1)), (122, .slice (some ⟨pb, 0, none⟩) z q), (123, .I k)] ?_
             refine RH.pv (d := some 124) (r := (qs [8, 10, 11, 12])) (v := .I (IntKind.i64.wrap ((k : Int) - 1))) (v' := .I ((k : Int) - 1)) (by as_aux_lemma => kernel_rfl) hS (wr_i64 (by omega)) ?_
             have hn124 : z = u.toList.length := by rw [tl_len (d := u)]; omega
             have hx123 : (k - 1) < u.toList.length := by rw [tl_len (d := u)]; omega
             refine RH.indexW (d := some 125) (r := (qs [10, 11, 12])) (T := 58) (e := 44) (m := 1) (ik := .i64) (ix := (k : Int) - 1) (sh := (Shape.int .u64)) (xs := u.toList) (a := (some ⟨pb, 0, none⟩)) (len := z) (cap := q) (by as_aux_lemma => kernel_rfl) hS (by as_aux_lemma => kernel_rfl) rfl H (k - 1) (by omega) hx123 hn124 ?_
             intro b125 es126 ha127 hcell128 hr129
             cases ha127
             rw [tl_at (d := u) (k := (k - 1)) _] at hr129
             have hb130 := Shape.u64_bd hr129
             obtain ⟨rfl, -⟩ := hr129
             refine qHP hS 2 [(12, .qui)] [(0, .slice (some ⟨pb, 0, none⟩) z q), (1, .I a), (2, .I b), (7, .I i2), (8, .I t), (10, .I k), (117, .slice (some ⟨pb, 0, none⟩) z q), (118, .I k), (119, .slice (some ⟨pb, 0, none⟩) z q), (121, .I ((k : Int) - 1)), (125, .pointer (some ⟨pb, (k - 1) * 1, none⟩)), (127, .slice (some ⟨pb, 0, none⟩) z q), (128, .I k)] ?_
             have hn132 : z = u.toList.length := by rw [tl_len (d := u)]; omega
             have hx131 : k < u.toList.length := by rw [tl_len (d := u)]; omega
             refine RH.indexW (d := some 129) (r := []) (T := 58) (e := 44) (m := 1) (ik := .i64) (ix := (k : Int)) (sh := (Shape.int .u64)) (xs := u.toList) (a := (some ⟨pb, 0, none⟩)) (len := z) (cap := q) (by as_aux_lemma => kernel_rfl) hS (by as_aux_lemma => kernel_rfl) rfl H k (by omega) hx131 hn132 ?_
             intro b133 es134 ha135 hcell136 hr137
             cases ha135
             rw [tl_at (d := u) (k := k) _] at hr137
             have hb138 := Shape.u64_bd hr137
             obtain ⟨rfl, -⟩ := hr137
             refine RH.finB hS 0 [0, 1, 2, 7, 8, 10, 117, 118, 119, 121, 125, 129] [(0, .slice (some ⟨pb, 0, none⟩) z q), (1, .I a), (2, .I b), (7, .I i2), (8, .I t), (10, .I k), (117, .slice (some ⟨pb, 0, none⟩) z q), (118, .I k), (119, .slice (some ⟨pb, 0, none⟩) z q), (121, .I ((k : Int) - 1)), (125, .pointer (some ⟨pb, (k - 1) * 1, none⟩)), (129, .pointer (some ⟨pb, k * 1, none⟩))] (by as_aux_lemma => kernel_rfl) ?_
             refine (RGB.cons' ?_ (RGB.cons' ?_ RGB.nil'))
             ·
              refine RG.leaf' [(9, .seq), (13, .seq), (14, .qui), (15, .seq), (16, .qui), (17, .seq)] (by as_aux_lemma => kernel_rfl) ?_
              have Hr := H
              refine RH.chn hS ?_
              refine qL .chn 126 [] 44 pb ((k - 1) * 1) 0 (.int .u64 (u[(k - 1)]!)) hcell128 ?_
              intro hS
              have Hr := H
              refine RH.chn hS ?_
              refine qL .chn 130 [] 44 pb (k * 1) 0 (.int .u64 (u[k]!)) hcell136 ?_
              intro hS
              have hn142 : z = u.toList.length := by rw [tl_len (d := u)]; omega
              have hx141 : k < u.toList.length := by rw [tl_len (d := u)]; omega
              refine RH.indexW (d := some 131) (r := [(15, .seq), (16, .qui), (17, .seq)]) (T := 58) (e := 44) (m := 1) (ik := .i64) (ix := (k : Int)) (sh := (Shape.int .u64)) (xs := u.toList) (a := (some ⟨pb, 0, none⟩)) (len := z) (cap := q) (by as_aux_lemma => kernel_rfl) hS (by as_aux_lemma => kernel_rfl) rfl H k (by omega) hx141 hn142 ?_
              intro b143 es144 ha145 hcell146 hr147
              cases ha145
              rw [tl_at (d := u) (k := k) _] at hr147
              have hb148 := Shape.u64_bd hr147
              obtain ⟨rfl, -⟩ := hr147
              have Hr := H
              refine RH.sto ?_
              refine RW.storeWC (d := none) (r := []) (e := 44) (m := 1) (b := pb) (k := k) (v := .int .u64 (u[(k - 1)]!)) (by as_aux_lemma => kernel_rfl) rfl (by as_aux_lemma => kernel_rfl) H rfl hx141 hn142 (u[(k - 1)]!) u64a ?_
              intro w150 hch149 H
              have hS151 := hS.sto hch149 (.inr (by simp))
              refine ⟨hS151, ?_⟩
              have hS := hS151
              have hn153 : z = (u.toList.set k (u[(k - 1)]!)).length := by rw [List.length_set, tl_len (d := u)]; omega
              have hx152 : (k - 1) < (u.toList.set k (u[(k - 1)]!)).length := by rw [List.length_set, tl_len (d := u)]; omega
              refine RH.indexW (d := some 132) (r := [(17, .seq)]) (T := 58) (e := 44) (m := 1) (ik := .i64) (ix := (k : Int) - 1) (sh := (Shape.int .u64)) (xs := u.toList.set k (u[(k - 1)]!)) (a := (some ⟨pb, 0, none⟩)) (len := z) (cap := q) (by as_aux_lemma => kernel_rfl) hS (by as_aux_lemma => kernel_rfl) rfl H (k - 1) (by omega) hx152 hn153 ?_
              intro b154 es155 ha156 hcell157 hr158
              cases ha156
              have hb159 := Shape.u64_bd hr158
              obtain ⟨rfl, -⟩ := hr158
              refine RH.sto ?_
              refine RW.storeWC (d := none) (r := []) (e := 44) (m := 1) (b := pb) (k := (k - 1)) (v := .int .u64 (u[k]!)) (by as_aux_lemma => kernel_rfl) rfl (by as_aux_lemma => kernel_rfl) H rfl hx152 hn153 (u[k]!) u64a ?_
              intro w161 hch160 H
              have H := H.reW (ys := (swp u k (k - 1)).toList) (swp_tl)
              have hS162 := hS.sto hch160 (.inr (by simp))
              refine ⟨hS162, ?_⟩
              have hS := hS162
              refine RH.fin hS 0 [0, 1, 2, 7, 8, 10] [(0, .slice (some ⟨pb, 0, none⟩) z q), (1, .I a), (2, .I b), (7, .I i2), (8, .I t), (10, .I k)] (by as_aux_lemma => kernel_rfl) ?_
              refine qR 1 [.c [2, 0, 1, 0, 0, 1, 0, 0, 6, 0, 1, 0, 0, 2], .l [2, 0, 1, 0, 0, 1, 0, 0, 6, 0, 1, 0, 0], .b 6, .b 1, .c [2, 0, 1, 0, 0, 2], .l [2, 0, 1, 0, 0], .b 0, .c [3]] [(0, .slice (some ⟨pb, 0, none⟩) z q), (1, .I a), (2, .I b), (7, .I i2), (8, .I t), (10, .I k)] ?_
              refine qG (sq 0 3) ?_
              refine qP 1 (sq 1 3) [(0, .slice (some ⟨pb, 0, none⟩) z q), (1, .I a), (2, .I b), (7, .I i2), (8, .I t), (10, .I k), (104, .I k)] ?_
              refine qI .seq 105 (sq 2 3) ((k : Int) + 1) ?_
              refine qF 1 [(0, .slice (some ⟨pb, 0, none⟩) z q), (1, .I a), (2, .I b), (7, .I i2), (8, .I t), (10, .I ((k : Int) + 1))] ?_
              exact WK.back (hback98 (k + 1, (swp u k (k - 1))) _ ⟨H, by rw [← hinv3.1]; exact su_go (by omega) hl9, by rw [swp_size]; exact hinv3.2.1, by omega⟩ (by first | omega | (simp only []; omega))) (by as_aux_lemma => kernel_rfl)
             ·
              refine RG.leaf' [(13, .seq), (9, .seq), (14, .qui), (15, .seq), (16, .qui), (17, .seq)] (by as_aux_lemma => kernel_rfl) ?_
              have Hr := H
              refine RH.chn hS ?_
              refine qL .chn 130 [] 44 pb (k * 1) 0 (.int .u64 (u[k]!)) hcell136 ?_
              intro hS
              have Hr := H
              refine RH.chn hS ?_
              refine qL .chn 126 [] 44 pb ((k - 1) * 1) 0 (.int .u64 (u[(k - 1)]!)) hcell128 ?_
              intro hS
              have hn166 : z = u.toList.length := by rw [tl_len (d := u)]; omega
              have hx165 : k < u.toList.length := by rw [tl_len (d := u)]; omega
              refine RH.indexW (d := some 131) (r := [(15, .seq), (16, .qui), (17, .seq)]) (T := 58) (e := 44) (m := 1) (ik := .i64) (ix := (k : Int)) (sh := (Shape.int .u64)) (xs := u.toList) (a := (some ⟨pb, 0, none⟩)) (len := z) (cap := q) (by as_aux_lemma => kernel_rfl) hS (by as_aux_lemma => kernel_rfl) rfl H k (by omega) hx165 hn166 ?_
              intro b167 es168 ha169 hcell170 hr171
              cases ha169
              rw [tl_at (d := u) (k := k) _] at hr171
              have hb172 := Shape.u64_bd hr171
              obtain ⟨rfl, -⟩ := hr171
              have Hr := H
              refine RH.sto ?_
              refine RW.storeWC (d := none) (r := []) (e := 44) (m := 1) (b := pb) (k := k) (v := .int .u64 (u[(k - 1)]!)) (by as_aux_lemma => kernel_rfl) rfl (by as_aux_lemma => kernel_rfl) H rfl hx165 hn166 (u[(k - 1)]!) u64a ?_
              intro w174 hch173 H
              have hS175 := hS.sto hch173 (.inr (by simp))
              refine ⟨hS175, ?_⟩
              have hS := hS175
              have hn177 : z = (u.toList.set k (u[(k - 1)]!)).length := by rw [List.length_set, tl_len (d := u)]; omega
              have hx176 : (k - 1) < (u.toList.set k (u[(k - 1)]!)).length := by rw [List.length_set, tl_len (d := u)]; omega
              refine RH.indexW (d := some 132) (r := [(17, .seq)]) (T := 58) (e := 44) (m := 1) (ik := .i64) (ix := (k : Int) - 1) (sh := (Shape.int .u64)) (xs := u.toList.set k (u[(k - 1)]!)) (a := (some ⟨pb, 0, none⟩)) (len := z) (cap := q) (by as_aux_lemma => kernel_rfl) hS (by as_aux_lemma => kernel_rfl) rfl H (k - 1) (by omega) hx176 hn177 ?_
              intro b178 es179 ha180 hcell181 hr182
              cases ha180
              have hb183 := Shape.u64_bd hr182
              obtain ⟨rfl, -⟩ := hr182
              refine RH.sto ?_
              refine RW.storeWC (d := none) (r := []) (e := 44) (m := 1) (b := pb) (k := (k - 1)) (v := .int .u64 (u[k]!)) (by as_aux_lemma => kernel_rfl) rfl (by as_aux_lemma => kernel_rfl) H rfl hx176 hn177 (u[k]!) u64a ?_
              intro w185 hch184 H
              have H := H.reW (ys := (swp u k (k - 1)).toList) (swp_tl)
              have hS186 := hS.sto hch184 (.inr (by simp))
              refine ⟨hS186, ?_⟩
              have hS := hS186
              refine RH.fin hS 0 [0, 1, 2, 7, 8, 10] [(0, .slice (some ⟨pb, 0, none⟩) z q), (1, .I a), (2, .I b), (7, .I i2), (8, .I t), (10, .I k)] (by as_aux_lemma => kernel_rfl) ?_
              refine qR 1 [.c [2, 0, 1, 0, 0, 1, 0, 0, 6, 0, 1, 0, 0, 2], .l [2, 0, 1, 0, 0, 1, 0, 0, 6, 0, 1, 0, 0], .b 6, .b 1, .c [2, 0, 1, 0, 0, 2], .l [2, 0, 1, 0, 0], .b 0, .c [3]] [(0, .slice (some ⟨pb, 0, none⟩) z q), (1, .I a), (2, .I b), (7, .I i2), (8, .I t), (10, .I k)] ?_
              refine qG (sq 0 3) ?_
              refine qP 1 (sq 1 3) [(0, .slice (some ⟨pb, 0, none⟩) z q), (1, .I a), (2, .I b), (7, .I i2), (8, .I t), (10, .I k), (104, .I k)] ?_
              refine qI .seq 105 (sq 2 3) ((k : Int) + 1) ?_
              refine qF 1 [(0, .slice (some ⟨pb, 0, none⟩) z q), (1, .I a), (2, .I b), (7, .I i2), (8, .I t), (10, .I ((k : Int) + 1))] ?_
              exact WK.back (hback98 (k + 1, (swp u k (k - 1))) _ ⟨H, by rw [← hinv3.1]; exact su_go (by omega) hl9, by rw [swp_size]; exact hinv3.2.1, by omega⟩ (by first | omega | (simp only []; omega))) (by as_aux_lemma => kernel_rfl)
           ·
            have hq9 : u = (fixUp ltInt b i2 g) := by rw [← hinv3.1]; exact (su_end (by omega)).symm
            have hqs : (fixUp ltInt b i2 g).size = z := by rw [← hq9]; first | exact hinv3.2.1 | exact hinv2.2.1 | exact hgs
            rw [hq9] at H
            refine qR 2 [.c [2, 0, 1, 0, 0, 2], .l [2, 0, 1, 0, 0], .b 0, .c [3]] [(0, .slice (some ⟨pb, 0, none⟩) z q), (1, .I a), (2, .I b), (7, .I i2), (8, .I t)] ?_
            refine qG (sq 0 3) ?_
            refine qP 1 (sq 1 3) [(0, .slice (some ⟨pb, 0, none⟩) z q), (1, .I a), (2, .I b), (7, .I i2), (8, .I t), (15, .I t)] ?_
            refine qI .seq 16 (sq 2 3) ((t : Int) + 1) ?_
            refine qF 1 [(0, .slice (some ⟨pb, 0, none⟩) z q), (1, .I a), (2, .I b), (7, .I i2), (8, .I ((t : Int) + 1))] ?_
            exact WK.back (hback1 (t + 1, i2, (fixUp ltInt b i2 g)) _ ⟨H, by rw [← hinv0.1, hs5, hgo9, ← hg]; congr 1; omega, hqs, by omega, by omega, by omega⟩ (by first | omega | (simp only []; omega))) (by as_aux_lemma => kernel_rfl)
          ·
           have hq9 : g = (fixUp ltInt b i2 g) := (if_neg (by omega)).symm
           have hqs : (fixUp ltInt b i2 g).size = z := by rw [← hq9]; first | exact hinv3.2.1 | exact hinv2.2.1 | exact hgs
           rw [hq9] at H
           refine qR 2 [.c [2, 0, 1, 0, 0, 2], .l [2, 0, 1, 0, 0], .b 0, .c [3]] [(0, .slice (some ⟨pb, 0, none⟩) z q), (1, .I a), (2, .I b), (7, .I i2), (8, .I t)] ?_
           refine qG (sq 0 3) ?_
           refine qP 1 (sq 1 3) [(0, .slice (some ⟨pb, 0, none⟩) z q), (1, .I a), (2, .I b), (7, .I i2), (8, .I t), (15, .I t)] ?_
           refine qI .seq 16 (sq 2 3) ((t : Int) + 1) ?_
           refine qF 1 [(0, .slice (some ⟨pb, 0, none⟩) z q), (1, .I a), (2, .I b), (7, .I i2), (8, .I ((t : Int) + 1))] ?_
           exact WK.back (hback1 (t + 1, i2, (fixUp ltInt b i2 g)) _ ⟨H, by rw [← hinv0.1, hs5, hgo9, ← hg]; congr 1; omega, hqs, by omega, by omega, by omega⟩ (by first | omega | (simp only []; omega))) (by as_aux_lemma => kernel_rfl)
         ·
          replace h96 : (decide (f[j]! < f[(j - 1)]!)) = true := by revert h96; cases (decide (f[j]! < f[(j - 1)]!)) <;> simp
          replace h96 := of_decide_eq_true h96
          have hl9 : f[j]! < f[j - 1]! := by simpa using h96
          refine qR 1 [.c [2, 0, 1, 0, 0, 1, 0, 0, 4, 0, 1, 0, 1, 0, 0, 1, 0, 0, 1], .b 5, .c [2, 0, 1, 0, 0, 1, 0, 0, 4, 0, 1, 0, 1, 0, 0, 2], .l [2, 0, 1, 0, 0, 1, 0, 0, 4, 0, 1, 0, 1, 0, 0], .b 4, .c [2, 0, 1, 0, 0, 1, 0, 0, 5], .b 1, .c [2, 0, 1, 0, 0, 2], .l [2, 0, 1, 0, 0], .b 0, .c [3]] [(0, .slice (some ⟨pb, 0, none⟩) z q), (1, .I a), (2, .I b), (7, .I i2), (8, .I t), (9, .I j)] ?_
          refine WK.drawH1 [pb] (.node (qs [0, 1, 2, 3, 4, 5, 6, 7, 8, 10, 11, 12]) (.cons 9 (.leaf [(13, .seq), (14, .qui), (15, .seq), (16, .qui), (17, .seq)]) (.cons 13 (.leaf [(9, .seq), (14, .qui), (15, .seq), (16, .qui), (17, .seq)]) .nil))) Try_mixed (by as_aux_lemma => kernel_rfl) (by as_aux_lemma => kernel_rfl) ?_
          intro w187 hw188
          have H := H.draw
          rw [← hw188] at H
          clear hw188
          have hS := Chg.refl w187 [pb]
          refine RG.node' (qs [0, 1, 2, 3, 4, 5, 6, 7, 8, 10, 11, 12]) (by as_aux_lemma => kernel_rfl) ?_
          refine qHP hS 4 (qs [4, 5, 6, 7, 8, 10, 11, 12]) [(0, .slice (some ⟨pb, 0, none⟩) z q), (1, .I a), (2, .I b), (7, .I i2), (8, .I t), (9, .I j), (79, .slice (some ⟨pb, 0, none⟩) z q), (80, .I j), (81, .slice (some ⟨pb, 0, none⟩) z q), (82, .I j)] ?_
          refine RH.pv (d := some 83) (r := (qs [5, 6, 7, 8, 10, 11, 12])) (v := .I (IntKind.i64.wrap ((j : Int) - 1))) (v' := .I ((j : Int) - 1)) (by as_aux_lemma => kernel_rfl) hS (wr_i64 (by omega)) ?_
          refine qHP hS 2 (qs [7, 8, 10, 11, 12]) [(0, .slice (some ⟨pb, 0, none⟩) z q), (1, .I a), (2, .I b), (7, .I i2), (8, .I t), (9, .I j), (79, .slice (some ⟨pb, 0, none⟩) z q), (80, .I j), (81, .slice (some ⟨pb, 0, none⟩) z q), (83, .I ((j : Int) - 1)), (84, .slice (some ⟨pb, 0, none⟩) z q), (85, .I j)] ?_
          refine RH.pv (d := some 86) (r := (qs [8, 10, 11, 12])) (v := .I (IntKind.i64.wrap ((j : Int) - 1))) (v' := .I ((j : Int) - 1)) (by as_aux_lemma => kernel_rfl) hS (wr_i64 (by omega)) ?_
          have hn190 : z = f.toList.length := by rw [tl_len (d := f)]; omega
          have hx189 : (j - 1) < f.toList.length := by rw [tl_len (d := f)]; omega
          refine RH.indexW (d := some 87) (r := (qs [10, 11, 12])) (T := 58) (e := 44) (m := 1) (ik := .i64) (ix := (j : Int) - 1) (sh := (Shape.int .u64)) (xs := f.toList) (a := (some ⟨pb, 0, none⟩)) (len := z) (cap := q) (by as_aux_lemma => kernel_rfl) hS (by as_aux_lemma => kernel_rfl) rfl H (j - 1) (by omega) hx189 hn190 ?_
          intro b191 es192 ha193 hcell194 hr195
          cases ha193
          rw [tl_at (d := f) (k := (j - 1)) _] at hr195
          have hb196 := Shape.u64_bd hr195
          obtain ⟨rfl, -⟩ := hr195
          refine qHP hS 2 [(12, .qui)] [(0, .slice (some ⟨pb, 0, none⟩) z q), (1, .I a), (2, .I b), (7, .I i2), (8, .I t), (9, .I j), (79, .slice (some ⟨pb, 0, none⟩) z q), (80, .I j), (81, .slice (some ⟨pb, 0, none⟩) z q), (83, .I ((j : Int) - 1)), (87, .pointer (some ⟨pb, (j - 1) * 1, none⟩)), (89, .slice (some ⟨pb, 0, none⟩) z q), (90, .I j)] ?_
          have hn198 : z = f.toList.length := by rw [tl_len (d := f)]; omega
          have hx197 : j < f.toList.length := by rw [tl_len (d := f)]; omega
          refine RH.indexW (d := some 91) (r := []) (T := 58) (e := 44) (m := 1) (ik := .i64) (ix := (j : Int)) (sh := (Shape.int .u64)) (xs := f.toList) (a := (some ⟨pb, 0, none⟩)) (len := z) (cap := q) (by as_aux_lemma => kernel_rfl) hS (by as_aux_lemma => kernel_rfl) rfl H j (by omega) hx197 hn198 ?_
          intro b199 es200 ha201 hcell202 hr203
          cases ha201
          rw [tl_at (d := f) (k := j) _] at hr203
          have hb204 := Shape.u64_bd hr203
          obtain ⟨rfl, -⟩ := hr203
          refine RH.finB hS 0 [0, 1, 2, 7, 8, 9, 79, 80, 81, 83, 87, 91] [(0, .slice (some ⟨pb, 0, none⟩) z q), (1, .I a), (2, .I b), (7, .I i2), (8, .I t), (9, .I j), (79, .slice (some ⟨pb, 0, none⟩) z q), (80, .I j), (81, .slice (some ⟨pb, 0, none⟩) z q), (83, .I ((j : Int) - 1)), (87, .pointer (some ⟨pb, (j - 1) * 1, none⟩)), (91, .pointer (some ⟨pb, j * 1, none⟩))] (by as_aux_lemma => kernel_rfl) ?_
          refine (RGB.cons' ?_ (RGB.cons' ?_ RGB.nil'))
          ·
           refine RG.leaf' [(9, .seq), (13, .seq), (14, .qui), (15, .seq), (16, .qui), (17, .seq)] (by as_aux_lemma => kernel_rfl) ?_
           have Hr := H
           refine RH.chn hS ?_
           refine qL .chn 88 [] 44 pb ((j - 1) * 1) 0 (.int .u64 (f[(j - 1)]!)) hcell194 ?_
           intro hS
           have Hr := H
           refine RH.chn hS ?_
           refine qL .chn 92 [] 44 pb (j * 1) 0 (.int .u64 (f[j]!)) hcell202 ?_
           intro hS
           have hn208 : z = f.toList.length := by rw [tl_len (d := f)]; omega
           have hx207 : j < f.toList.length := by rw [tl_len (d := f)]; omega
           refine RH.indexW (d := some 93) (r := [(15, .seq), (16, .qui), (17, .seq)]) (T := 58) (e := 44) (m := 1) (ik := .i64) (ix := (j : Int)) (sh := (Shape.int .u64)) (xs := f.toList) (a := (some ⟨pb, 0, none⟩)) (len := z) (cap := q) (by as_aux_lemma => kernel_rfl) hS (by as_aux_lemma => kernel_rfl) rfl H j (by omega) hx207 hn208 ?_
           intro b209 es210 ha211 hcell212 hr213
           cases ha211
           rw [tl_at (d := f) (k := j) _] at hr213
           have hb214 := Shape.u64_bd hr213
           obtain ⟨rfl, -⟩ := hr213
           have Hr := H
           refine RH.sto ?_
           refine RW.storeWC (d := none) (r := []) (e := 44) (m := 1) (b := pb) (k := j) (v := .int .u64 (f[(j - 1)]!)) (by as_aux_lemma => kernel_rfl) rfl (by as_aux_lemma => kernel_rfl) H rfl hx207 hn208 (f[(j - 1)]!) u64a ?_
           intro w216 hch215 H
           have hS217 := hS.sto hch215 (.inr (by simp))
           refine ⟨hS217, ?_⟩
           have hS := hS217
           have hn219 : z = (f.toList.set j (f[(j - 1)]!)).length := by rw [List.length_set, tl_len (d := f)]; omega
           have hx218 : (j - 1) < (f.toList.set j (f[(j - 1)]!)).length := by rw [List.length_set, tl_len (d := f)]; omega
           refine RH.indexW (d := some 94) (r := [(17, .seq)]) (T := 58) (e := 44) (m := 1) (ik := .i64) (ix := (j : Int) - 1) (sh := (Shape.int .u64)) (xs := f.toList.set j (f[(j - 1)]!)) (a := (some ⟨pb, 0, none⟩)) (len := z) (cap := q) (by as_aux_lemma => kernel_rfl) hS (by as_aux_lemma => kernel_rfl) rfl H (j - 1) (by omega) hx218 hn219 ?_
           intro b220 es221 ha222 hcell223 hr224
           cases ha222
           have hb225 := Shape.u64_bd hr224
           obtain ⟨rfl, -⟩ := hr224
           refine RH.sto ?_
           refine RW.storeWC (d := none) (r := []) (e := 44) (m := 1) (b := pb) (k := (j - 1)) (v := .int .u64 (f[j]!)) (by as_aux_lemma => kernel_rfl) rfl (by as_aux_lemma => kernel_rfl) H rfl hx218 hn219 (f[j]!) u64a ?_
           intro w227 hch226 H
           have H := H.reW (ys := (swp f j (j - 1)).toList) (swp_tl)
           have hS228 := hS.sto hch226 (.inr (by simp))
           refine ⟨hS228, ?_⟩
           have hS := hS228
           refine RH.fin hS 0 [0, 1, 2, 7, 8, 9] [(0, .slice (some ⟨pb, 0, none⟩) z q), (1, .I a), (2, .I b), (7, .I i2), (8, .I t), (9, .I j)] (by as_aux_lemma => kernel_rfl) ?_
           refine qR 1 [.c [2, 0, 1, 0, 0, 1, 0, 0, 4, 0, 1, 0, 1, 0, 0, 2], .l [2, 0, 1, 0, 0, 1, 0, 0, 4, 0, 1, 0, 1, 0, 0], .b 4, .c [2, 0, 1, 0, 0, 1, 0, 0, 5], .b 1, .c [2, 0, 1, 0, 0, 2], .l [2, 0, 1, 0, 0], .b 0, .c [3]] [(0, .slice (some ⟨pb, 0, none⟩) z q), (1, .I a), (2, .I b), (7, .I i2), (8, .I t), (9, .I j)] ?_
           refine qG (sq 0 3) ?_
           refine qP 1 (sq 1 3) [(0, .slice (some ⟨pb, 0, none⟩) z q), (1, .I a), (2, .I b), (7, .I i2), (8, .I t), (9, .I j), (66, .I j)] ?_
           refine qI .seq 67 (sq 2 3) ((j : Int) - 1) ?_
           refine qF 1 [(0, .slice (some ⟨pb, 0, none⟩) z q), (1, .I a), (2, .I b), (7, .I i2), (8, .I t), (9, .I ((j : Int) - 1))] ?_
           rw [show (j : Int) - 1 = ((j - 1 : Nat) : Int) by omega]
           exact WK.back (hback74 ((j - 1), (swp f j (j - 1))) _ ⟨H, by rw [← hinv2.1]; exact sdn_go (by omega) hl9, by rw [swp_size]; exact hinv2.2.1, by omega⟩ (by first | omega | (simp only []; omega))) (by as_aux_lemma => kernel_rfl)
          ·
           refine RG.leaf' [(13, .seq), (9, .seq), (14, .qui), (15, .seq), (16, .qui), (17, .seq)] (by as_aux_lemma => kernel_rfl) ?_
           have Hr := H
           refine RH.chn hS ?_
           refine qL .chn 92 [] 44 pb (j * 1) 0 (.int .u64 (f[j]!)) hcell202 ?_
           intro hS
           have Hr := H
           refine RH.chn hS ?_
           refine qL .chn 88 [] 44 pb ((j - 1) * 1) 0 (.int .u64 (f[(j - 1)]!)) hcell194 ?_
           intro hS
           have hn232 : z = f.toList.length := by rw [tl_len (d := f)]; omega
           have hx231 : j < f.toList.length := by rw [tl_len (d := f)]; omega
           refine RH.indexW (d := some 93) (r := [(15, .seq), (16, .qui), (17, .seq)]) (T := 58) (e := 44) (m := 1) (ik := .i64) (ix := (j : Int)) (sh := (Shape.int .u64)) (xs := f.toList) (a := (some ⟨pb, 0, none⟩)) (len := z) (cap := q) (by as_aux_lemma => kernel_rfl) hS (by as_aux_lemma => kernel_rfl) rfl H j (by omega) hx231 hn232 ?_
           intro b233 es234 ha235 hcell236 hr237
           cases ha235
           rw [tl_at (d := f) (k := j) _] at hr237
           have hb238 := Shape.u64_bd hr237
           obtain ⟨rfl, -⟩ := hr237
           have Hr := H
           refine RH.sto ?_
           refine RW.storeWC (d := none) (r := []) (e := 44) (m := 1) (b := pb) (k := j) (v := .int .u64 (f[(j - 1)]!)) (by as_aux_lemma => kernel_rfl) rfl (by as_aux_lemma => kernel_rfl) H rfl hx231 hn232 (f[(j - 1)]!) u64a ?_
           intro w240 hch239 H
           have hS241 := hS.sto hch239 (.inr (by simp))
           refine ⟨hS241, ?_⟩
           have hS := hS241
           have hn243 : z = (f.toList.set j (f[(j - 1)]!)).length := by rw [List.length_set, tl_len (d := f)]; omega
           have hx242 : (j - 1) < (f.toList.set j (f[(j - 1)]!)).length := by rw [List.length_set, tl_len (d := f)]; omega
           refine RH.indexW (d := some 94) (r := [(17, .seq)]) (T := 58) (e := 44) (m := 1) (ik := .i64) (ix := (j : Int) - 1) (sh := (Shape.int .u64)) (xs := f.toList.set j (f[(j - 1)]!)) (a := (some ⟨pb, 0, none⟩)) (len := z) (cap := q) (by as_aux_lemma => kernel_rfl) hS (by as_aux_lemma => kernel_rfl) rfl H (j - 1) (by omega) hx242 hn243 ?_
           intro b244 es245 ha246 hcell247 hr248
           cases ha246
           have hb249 := Shape.u64_bd hr248
           obtain ⟨rfl, -⟩ := hr248
           refine RH.sto ?_
           refine RW.storeWC (d := none) (r := []) (e := 44) (m := 1) (b := pb) (k := (j - 1)) (v := .int .u64 (f[j]!)) (by as_aux_lemma => kernel_rfl) rfl (by as_aux_lemma => kernel_rfl) H rfl hx242 hn243 (f[j]!) u64a ?_
           intro w251 hch250 H
           have H := H.reW (ys := (swp f j (j - 1)).toList) (swp_tl)
           have hS252 := hS.sto hch250 (.inr (by simp))
           refine ⟨hS252, ?_⟩
           have hS := hS252
           refine RH.fin hS 0 [0, 1, 2, 7, 8, 9] [(0, .slice (some ⟨pb, 0, none⟩) z q), (1, .I a), (2, .I b), (7, .I i2), (8, .I t), (9, .I j)] (by as_aux_lemma => kernel_rfl) ?_
           refine qR 1 [.c [2, 0, 1, 0, 0, 1, 0, 0, 4, 0, 1, 0, 1, 0, 0, 2], .l [2, 0, 1, 0, 0, 1, 0, 0, 4, 0, 1, 0, 1, 0, 0], .b 4, .c [2, 0, 1, 0, 0, 1, 0, 0, 5], .b 1, .c [2, 0, 1, 0, 0, 2], .l [2, 0, 1, 0, 0], .b 0, .c [3]] [(0, .slice (some ⟨pb, 0, none⟩) z q), (1, .I a), (2, .I b), (7, .I i2), (8, .I t), (9, .I j)] ?_
           refine qG (sq 0 3) ?_
           refine qP 1 (sq 1 3) [(0, .slice (some ⟨pb, 0, none⟩) z q), (1, .I a), (2, .I b), (7, .I i2), (8, .I t), (9, .I j), (66, .I j)] ?_
           refine qI .seq 67 (sq 2 3) ((j : Int) - 1) ?_
           refine qF 1 [(0, .slice (some ⟨pb, 0, none⟩) z q), (1, .I a), (2, .I b), (7, .I i2), (8, .I t), (9, .I ((j : Int) - 1))] ?_
           rw [show (j : Int) - 1 = ((j - 1 : Nat) : Int) by omega]
           exact WK.back (hback74 ((j - 1), (swp f j (j - 1))) _ ⟨H, by rw [← hinv2.1]; exact sdn_go (by omega) hl9, by rw [swp_size]; exact hinv2.2.1, by omega⟩ (by first | omega | (simp only []; omega))) (by as_aux_lemma => kernel_rfl)
        ·
         have hf9 : f = (fixDown ltInt a i2 (swp e i2 (i2 - 1))) := by rw [← hinv2.1, show j = 0 by omega]; rfl
         obtain ⟨g, hg⟩ : ∃ g, g = (fixDown ltInt a i2 (swp e i2 (i2 - 1))) := ⟨_, rfl⟩
         have hgs : g.size = z := by rw [hg, ← hf9]; exact hinv2.2.1
         rw [hf9, ← hg] at H
         refine qR 2 [.c [2, 0, 1, 0, 0, 1, 0, 0, 5, 0], .c [2, 0, 1, 0, 0, 1, 0, 0, 6], .b 1, .c [2, 0, 1, 0, 0, 2], .l [2, 0, 1, 0, 0], .b 0, .c [3]] [(0, .slice (some ⟨pb, 0, none⟩) z q), (1, .I a), (2, .I b), (7, .I i2), (8, .I t)] ?_
         refine qG (sq 0 4) ?_
         refine qP 2 (sq 2 4) [(0, .slice (some ⟨pb, 0, none⟩) z q), (1, .I a), (2, .I b), (7, .I i2), (8, .I t), (95, .I b), (96, .I i2)] ?_
         refine qI .seq 97 (sq 3 4) ((b : Int) - (i2 : Int)) ?_
         refine qF 1 [(0, .slice (some ⟨pb, 0, none⟩) z q), (1, .I a), (2, .I b), (7, .I i2), (8, .I t), (98, .bool (decide (((b : Int) - (i2 : Int) : Int) ≥ 2)))] ?_
         refine qD (((b : Int) - (i2 : Int) : Int) ≥ 2) (fun h253 => ?_) (fun h253 => ?_)
         ·
          refine qR 1 [.c [2, 0, 1, 0, 0, 1, 0, 0, 6, 0, 0], .c [2, 0, 1, 0, 0, 1, 0, 0, 6, 0, 1], .b 1, .c [2, 0, 1, 0, 0, 2], .l [2, 0, 1, 0, 0], .b 0, .c [3]] [(0, .slice (some ⟨pb, 0, none⟩) z q), (1, .I a), (2, .I b), (7, .I i2), (8, .I t)] ?_
          refine qG (sq 0 3) ?_
          refine qP 1 (sq 1 3) [(0, .slice (some ⟨pb, 0, none⟩) z q), (1, .I a), (2, .I b), (7, .I i2), (8, .I t), (99, .I i2)] ?_
          refine qI .seq 100 (sq 2 3) ((i2 : Int) + 1) ?_
          refine qF 1 [(0, .slice (some ⟨pb, 0, none⟩) z q), (1, .I a), (2, .I b), (7, .I i2), (8, .I t), (10, .I ((i2 : Int) + 1))] ?_
          refine qR 1 [.c [2, 0, 1, 0, 0, 1, 0, 0, 6, 0, 1, 0], .b 6, .b 1, .c [2, 0, 1, 0, 0, 2], .l [2, 0, 1, 0, 0], .b 0, .c [3]] [(0, .slice (some ⟨pb, 0, none⟩) z q), (1, .I a), (2, .I b), (7, .I i2), (8, .I t), (10, .I ((i2 : Int) + 1))] ?_
          refine WK.loop (α := Nat × Array Int) (b := cd Try.prog 54 [2, 0, 1, 0, 0, 1, 0, 0, 6, 0, 1, 0, 0]) (by as_aux_lemma => kernel_rfl) (fun st_ => match st_ with | (k, u) => [(0, .slice (some ⟨pb, 0, none⟩) z q), (1, .I a), (2, .I b), (7, .I i2), (8, .I t), (10, .I k)]) (fun st_ w' => match st_ with | (k, u) => Hp w S O [] [⟨Shape.int .u64, 44, .slice (some ⟨pb, 0, none⟩) z q, u.toList⟩] [] w' ∧ shiftUp ltInt b k u = (fixUp ltInt b i2 g) ∧ u.size = z ∧ i2 < k) (fun st_ => match st_ with | (k, u) => b - k) ((i2 + 1), g) ⟨H, (if_pos (by omega)).symm, hgs, by omega⟩ (rfl) ?_
          rintro ⟨k, u⟩ w255 ⟨H, hinv3⟩ hback254
          refine qR 3 [.c [2, 0, 1, 0, 0, 1, 0, 0, 6, 0, 1, 0, 0, 0, 1], .c [2, 0, 1, 0, 0, 1, 0, 0, 6, 0, 1, 0, 0, 1], .l [2, 0, 1, 0, 0, 1, 0, 0, 6, 0, 1, 0, 0], .b 6, .b 1, .c [2, 0, 1, 0, 0, 2], .l [2, 0, 1, 0, 0], .b 0, .c [3]] [(0, .slice (some ⟨pb, 0, none⟩) z q), (1, .I a), (2, .I b), (7, .I i2), (8, .I t), (10, .I k), (103, .bool (decide (((k : Int) : Int) < (b : Int))))] ?_
          refine qD (((k : Int) : Int) < (b : Int)) (fun h256 => ?_) (fun h256 => ?_)
          ·
           refine qR 5 [.c [2, 0, 1, 0, 0, 1, 0, 0, 6, 0, 1, 0, 0, 1, 0, 0, 0, 0], .c [2, 0, 1, 0, 0, 1, 0, 0, 6, 0, 1, 0, 0, 1, 0, 0, 0, 1], .c [2, 0, 1, 0, 0, 1, 0, 0, 6, 0, 1, 0, 0, 1, 0, 0, 1], .b 7, .c [2, 0, 1, 0, 0, 1, 0, 0, 6, 0, 1, 0, 0, 2], .l [2, 0, 1, 0, 0, 1, 0, 0, 6, 0, 1, 0, 0], .b 6, .b 1, .c [2, 0, 1, 0, 0, 2], .l [2, 0, 1, 0, 0], .b 0, .c [3]] [(0, .slice (some ⟨pb, 0, none⟩) z q), (1, .I a), (2, .I b), (7, .I i2), (8, .I t), (10, .I k)] ?_
           refine WK.draw1 11 [(0, .qui), (1, .qui), (2, .qui), (3, .qui), (4, .qui), (5, .qui), (6, .qui), (7, .qui), (8, .qui), (9, .chn), (10, .qui)] [(0, .qui), (1, .qui), (2, .qui), (3, .qui), (4, .qui), (5, .qui), (6, .qui), (7, .qui), (8, .qui), (9, .chn), (10, .qui)] Try_mixed (by as_aux_lemma => kernel_rfl) (by as_aux_lemma => kernel_rfl) (by as_aux_lemma => kernel_rfl) ?_
           have H := H.draw
           generalize ({ w255 with drawn := w255.drawn + 1 } : World) = w257 at H ⊢
           refine qP 2 [(2, .qui), (3, .qui), (4, .qui), (5, .qui), (6, .qui), (7, .qui), (8, .qui), (9, .chn), (10, .qui)] [(0, .slice (some ⟨pb, 0, none⟩) z q), (1, .I a), (2, .I b), (7, .I i2), (8, .I t), (10, .I k), (106, .slice (some ⟨pb, 0, none⟩) z q), (107, .I k)] ?_
           have hn259 : z = u.toList.length := by rw [tl_len (d := u)]; omega
           have hx258 : k < u.toList.length := by rw [tl_len (d := u)]; omega
           refine RW.indexW (κ := .qui) (d := some 108) (r := [(3, .qui), (4, .qui), (5, .qui), (6, .qui), (7, .qui), (8, .qui), (9, .chn), (10, .qui)]) (T := 58) (e := 44) (m := 1) (ik := .i64) (ix := (k : Int)) (sh := (Shape.int .u64)) (xs := u.toList) (a := (some ⟨pb, 0, none⟩)) (len := z) (cap := q) (by as_aux_lemma => kernel_rfl) (by as_aux_lemma => kernel_rfl) rfl H k (by omega) hx258 hn259 ?_
           intro b260 es261 ha262 hcell263 hr264
           cases ha262
           rw [tl_at (d := u) (k := k) _] at hr264
           have hb265 := Shape.u64_bd hr264
           obtain ⟨rfl, -⟩ := hr264
           refine qL .qui 109 [(4, .qui), (5, .qui), (6, .qui), (7, .qui), (8, .qui), (9, .chn), (10, .qui)] 44 pb (k * 1) 0 (.int .u64 (u[k]!)) hcell263 ?_
           refine qP 2 [(6, .qui), (7, .qui), (8, .qui), (9, .chn), (10, .qui)] [(0, .slice (some ⟨pb, 0, none⟩) z q), (1, .I a), (2, .I b), (7, .I i2), (8, .I t), (10, .I k), (109, .int .u64 (u[k]!)), (110, .slice (some ⟨pb, 0, none⟩) z q), (111, .I k)] ?_
           refine qI .qui 112 [(7, .qui), (8, .qui), (9, .chn), (10, .qui)] ((k : Int) - 1) ?_
           have hn267 : z = u.toList.length := by rw [tl_len (d := u)]; omega
           have hx266 : (k - 1) < u.toList.length := by rw [tl_len (d := u)]; omega
           refine RW.indexW (κ := .qui) (d := some 113) (r := [(8, .qui), (9, .chn), (10, .qui)]) (T := 58) (e := 44) (m := 1) (ik := .i64) (ix := (k : Int) - 1) (sh := (Shape.int .u64)) (xs := u.toList) (a := (some ⟨pb, 0, none⟩)) (len := z) (cap := q) (by as_aux_lemma => kernel_rfl) (by as_aux_lemma => kernel_rfl) rfl H (k - 1) (by omega) hx266 hn267 ?_
           intro b268 es269 ha270 hcell271 hr272
           cases ha270
           rw [tl_at (d := u) (k := (k - 1)) _] at hr272
           have hb273 := Shape.u64_bd hr272
           obtain ⟨rfl, -⟩ := hr272
           refine qL .qui 114 [(9, .chn), (10, .qui)] 44 pb ((k - 1) * 1) 0 (.int .u64 (u[(k - 1)]!)) hcell271 ?_
           refine qK .chn (some 115) [(10, .qui)] 55 #[.int .u64 (u[k]!), .int .u64 (u[(k - 1)]!)] (uless_spec (S := fun _ => True) (u[k]!) (u[(k - 1)]!)) ?_
           rintro _ w274 hE275 rfl
           have H := H.ext hE275
           refine qF 1 [(0, .slice (some ⟨pb, 0, none⟩) z q), (1, .I a), (2, .I b), (7, .I i2), (8, .I t), (10, .I k), (116, .bool (!(decide (u[k]! < u[(k - 1)]!))))] ?_
           refine qC (!(decide (u[k]! < u[(k - 1)]!))) (fun h276 => ?_) (fun h276 => ?_)
           ·
            replace h276 : (decide (u[k]! < u[(k - 1)]!)) = false := by revert h276; cases (decide (u[k]! < u[(k - 1)]!)) <;> simp
            replace h276 := of_decide_eq_false h276
            have hq9 : u = (fixUp ltInt b i2 g) := by rw [← hinv3.1]; exact (su_stop (by omega) (by simpa using h276)).symm
            have hqs : (fixUp ltInt b i2 g).size = z := by rw [← hq9]; first | exact hinv3.2.1 | exact hinv2.2.1 | exact hgs
            rw [hq9] at H
            refine qR 2 [.c [2, 0, 1, 0, 0, 2], .l [2, 0, 1, 0, 0], .b 0, .c [3]] [(0, .slice (some ⟨pb, 0, none⟩) z q), (1, .I a), (2, .I b), (7, .I i2), (8, .I t)] ?_
            refine qG (sq 0 3) ?_
            refine qP 1 (sq 1 3) [(0, .slice (some ⟨pb, 0, none⟩) z q), (1, .I a), (2, .I b), (7, .I i2), (8, .I t), (15, .I t)] ?_
            refine qI .seq 16 (sq 2 3) ((t : Int) + 1) ?_
            refine qF 1 [(0, .slice (some ⟨pb, 0, none⟩) z q), (1, .I a), (2, .I b), (7, .I i2), (8, .I ((t : Int) + 1))] ?_
            exact WK.back (hback1 (t + 1, i2, (fixUp ltInt b i2 g)) _ ⟨H, by rw [← hinv0.1, hs5, hgo9, ← hg]; congr 1; omega, hqs, by omega, by omega, by omega⟩ (by first | omega | (simp only []; omega))) (by as_aux_lemma => kernel_rfl)
           ·
            replace h276 : (decide (u[k]! < u[(k - 1)]!)) = true := by revert h276; cases (decide (u[k]! < u[(k - 1)]!)) <;> simp
            replace h276 := of_decide_eq_true h276
            have hl9 : u[k]! < u[k - 1]! := by simpa using h276
            refine qR 1 [.c [2, 0, 1, 0, 0, 1, 0, 0, 6, 0, 1, 0, 0, 1, 0, 0, 1], .b 7, .c [2, 0, 1, 0, 0, 1, 0, 0, 6, 0, 1, 0, 0, 2], .l [2, 0, 1, 0, 0, 1, 0, 0, 6, 0, 1, 0, 0], .b 6, .b 1, .c [2, 0, 1, 0, 0, 2], .l [2, 0, 1, 0, 0], .b 0, .c [3]] [(0, .slice (some ⟨pb, 0, none⟩) z q), (1, .I a), (2, .I b), (7, .I i2), (8, .I t), (10, .I k)] ?_
            refine WK.drawH1 [pb] (.node (qs [0, 1, 2, 3, 4, 5, 6, 7, 8, 10, 11, 12]) (.cons 9 (.leaf [(13, .seq), (14, .qui), (15, .seq), (16, .qui), (17, .seq)]) (.cons 13 (.leaf [(9, .seq), (14, .qui), (15, .seq), (16, .qui), (17, .seq)]) .nil))) Try_mixed (by as_aux_lemma => kernel_rfl) (by as_aux_lemma => kernel_rfl) ?_
            intro w277 hw278
            have H := H.draw
            rw [← hw278] at H
            clear hw278
            have hS := Chg.refl w277 [pb]
            refine RG.node' (qs [0, 1, 2, 3, 4, 5, 6, 7, 8, 10, 11, 12]) (by as_aux_lemma => kernel_rfl) ?_
            refine qHP hS 4 (qs [4, 5, 6, 7, 8, 10, 11, 12]) [(0, .slice (some ⟨pb, 0, none⟩) z q), (1, .I a), (2, .I b), (7, .I i2), (8, .I t), (10, .I k), (117, .slice (some ⟨pb, 0, none⟩) z q), (118, .I k), (119, .slice (some ⟨pb, 0, none⟩) z q), (120, .I k)] ?_
            refine RH.pv (d := some 121) (r := (qs [5, 6, 7, 8, 10, 11, 12])) (v := .I (IntKind.i64.wrap ((k : Int) - 1))) (v' := .I ((k : Int) - 1)) (by as_aux_lemma => kernel_rfl) hS (wr_i64 (by omega)) ?_
            refine qHP hS 2 (qs [7, 8, 10, 11, 12]) [(0, .slice (some ⟨pb, 0, none⟩) z q), (1, .I a), (2, .I b), (7, .I i2), (8, .I t), (10, .I k), (117, .slice (some ⟨pb, 0, none⟩) z q), (118, .I k), (119, .slice (some ⟨pb, 0, none⟩) z q), (121, .I ((k : Int) - 1)), (122, .slice (some ⟨pb, 0, none⟩) z q), (123, .I k)] ?_
            refine RH.pv (d := some 124) (r := (qs [8, 10, 11, 12])) (v := .I (IntKind.i64.wrap ((k : Int) - 1))) (v' := .I ((k : Int) - 1)) (by as_aux_lemma => kernel_rfl) hS (wr_i64 (by omega)) ?_
            have hn280 : z = u.toList.length := by rw [tl_len (d := u)]; omega
            have hx279 : (k - 1) < u.toList.length := by rw [tl_len (d := u)]; omega
            refine RH.indexW (d := some 125) (r := (qs [10, 11, 12])) (T := 58) (e := 44) (m := 1) (ik := .i64) (ix := (k : Int) - 1) (sh := (Shape.int .u64)) (xs := u.toList) (a := (some ⟨pb, 0, none⟩)) (len := z) (cap := q) (by as_aux_lemma => kernel_rfl) hS (by as_aux_lemma => kernel_rfl) rfl H (k - 1) (by omega) hx279 hn280 ?_
            intro b281 es282 ha283 hcell284 hr285
            cases ha283
            rw [tl_at (d := u) (k := (k - 1)) _] at hr285
            have hb286 := Shape.u64_bd hr285
            obtain ⟨rfl, -⟩ := hr285
            refine qHP hS 2 [(12, .qui)] [(0, .slice (some ⟨pb, 0, none⟩) z q), (1, .I a), (2, .I b), (7, .I i2), (8, .I t), (10, .I k), (117, .slice (some ⟨pb, 0, none⟩) z q), (118, .I k), (119, .slice (some ⟨pb, 0, none⟩) z q), (121, .I ((k : Int) - 1)), (125, .pointer (some ⟨pb, (k - 1) * 1, none⟩)), (127, .slice (some ⟨pb, 0, none⟩) z q), (128, .I k)] ?_
            have hn288 : z = u.toList.length := by rw [tl_len (d := u)]; omega
            have hx287 : k < u.toList.length := by rw [tl_len (d := u)]; omega
            refine RH.indexW (d := some 129) (r := []) (T := 58) (e := 44) (m := 1) (ik := .i64) (ix := (k : Int)) (sh := (Shape.int .u64)) (xs := u.toList) (a := (some ⟨pb, 0, none⟩)) (len := z) (cap := q) (by as_aux_lemma => kernel_rfl) hS (by as_aux_lemma => kernel_rfl) rfl H k (by omega) hx287 hn288 ?_
            intro b289 es290 ha291 hcell292 hr293
            cases ha291
            rw [tl_at (d := u) (k := k) _] at hr293
            have hb294 := Shape.u64_bd hr293
            obtain ⟨rfl, -⟩ := hr293
            refine RH.finB hS 0 [0, 1, 2, 7, 8, 10, 117, 118, 119, 121, 125, 129] [(0, .slice (some ⟨pb, 0, none⟩) z q), (1, .I a), (2, .I b), (7, .I i2), (8, .I t), (10, .I k), (117, .slice (some ⟨pb, 0, none⟩) z q), (118, .I k), (119, .slice (some ⟨pb, 0, none⟩) z q), (121, .I ((k : Int) - 1)), (125, .pointer (some ⟨pb, (k - 1) * 1, none⟩)), (129, .pointer (some ⟨pb, k * 1, none⟩))] (by as_aux_lemma => kernel_rfl) ?_
            refine (RGB.cons' ?_ (RGB.cons' ?_ RGB.nil'))
            ·
             refine RG.leaf' [(9, .seq), (13, .seq), (14, .qui), (15, .seq), (16, .qui), (17, .seq)] (by as_aux_lemma => kernel_rfl) ?_
             have Hr := H
             refine RH.chn hS ?_
             refine qL .chn 126 [] 44 pb ((k - 1) * 1) 0 (.int .u64 (u[(k - 1)]!)) hcell284 ?_
             intro hS
             have Hr := H
             refine RH.chn hS ?_
             refine qL .chn 130 [] 44 pb (k * 1) 0 (.int .u64 (u[k]!)) hcell292 ?_
             intro hS
             have hn298 : z = u.toList.length := by rw [tl_len (d := u)]; omega
             have hx297 : k < u.toList.length := by rw [tl_len (d := u)]; omega
             refine RH.indexW (d := some 131) (r := [(15, .seq), (16, .qui), (17, .seq)]) (T := 58) (e := 44) (m := 1) (ik := .i64) (ix := (k : Int)) (sh := (Shape.int .u64)) (xs := u.toList) (a := (some ⟨pb, 0, none⟩)) (len := z) (cap := q) (by as_aux_lemma => kernel_rfl) hS (by as_aux_lemma => kernel_rfl) rfl H k (by omega) hx297 hn298 ?_
             intro b299 es300 ha301 hcell302 hr303
             cases ha301
             rw [tl_at (d := u) (k := k) _] at hr303
             have hb304 := Shape.u64_bd hr303
             obtain ⟨rfl, -⟩ := hr303
             have Hr := H
             refine RH.sto ?_
             refine RW.storeWC (d := none) (r := []) (e := 44) (m := 1) (b := pb) (k := k) (v := .int .u64 (u[(k - 1)]!)) (by as_aux_lemma => kernel_rfl) rfl (by as_aux_lemma => kernel_rfl) H rfl hx297 hn298 (u[(k - 1)]!) u64a ?_
             intro w306 hch305 H
             have hS307 := hS.sto hch305 (.inr (by simp))
             refine ⟨hS307, ?_⟩
             have hS := hS307
             have hn309 : z = (u.toList.set k (u[(k - 1)]!)).length := by rw [List.length_set, tl_len (d := u)]; omega
             have hx308 : (k - 1) < (u.toList.set k (u[(k - 1)]!)).length := by rw [List.length_set, tl_len (d := u)]; omega
             refine RH.indexW (d := some 132) (r := [(17, .seq)]) (T := 58) (e := 44) (m := 1) (ik := .i64) (ix := (k : Int) - 1) (sh := (Shape.int .u64)) (xs := u.toList.set k (u[(k - 1)]!)) (a := (some ⟨pb, 0, none⟩)) (len := z) (cap := q) (by as_aux_lemma => kernel_rfl) hS (by as_aux_lemma => kernel_rfl) rfl H (k - 1) (by omega) hx308 hn309 ?_
             intro b310 es311 ha312 hcell313 hr314
             cases ha312
             have hb315 := Shape.u64_bd hr314
             obtain ⟨rfl, -⟩ := hr314
             refine RH.sto ?_
             refine RW.storeWC (d := none) (r := []) (e := 44) (m := 1) (b := pb) (k := (k - 1)) (v := .int .u64 (u[k]!)) (by as_aux_lemma => kernel_rfl) rfl (by as_aux_lemma => kernel_rfl) H rfl hx308 hn309 (u[k]!) u64a ?_
             intro w317 hch316 H
             have H := H.reW (ys := (swp u k (k - 1)).toList) (swp_tl)
             have hS318 := hS.sto hch316 (.inr (by simp))
             refine ⟨hS318, ?_⟩
             have hS := hS318
             refine RH.fin hS 0 [0, 1, 2, 7, 8, 10] [(0, .slice (some ⟨pb, 0, none⟩) z q), (1, .I a), (2, .I b), (7, .I i2), (8, .I t), (10, .I k)] (by as_aux_lemma => kernel_rfl) ?_
             refine qR 1 [.c [2, 0, 1, 0, 0, 1, 0, 0, 6, 0, 1, 0, 0, 2], .l [2, 0, 1, 0, 0, 1, 0, 0, 6, 0, 1, 0, 0], .b 6, .b 1, .c [2, 0, 1, 0, 0, 2], .l [2, 0, 1, 0, 0], .b 0, .c [3]] [(0, .slice (some ⟨pb, 0, none⟩) z q), (1, .I a), (2, .I b), (7, .I i2), (8, .I t), (10, .I k)] ?_
             refine qG (sq 0 3) ?_
             refine qP 1 (sq 1 3) [(0, .slice (some ⟨pb, 0, none⟩) z q), (1, .I a), (2, .I b), (7, .I i2), (8, .I t), (10, .I k), (104, .I k)] ?_
             refine qI .seq 105 (sq 2 3) ((k : Int) + 1) ?_
             refine qF 1 [(0, .slice (some ⟨pb, 0, none⟩) z q), (1, .I a), (2, .I b), (7, .I i2), (8, .I t), (10, .I ((k : Int) + 1))] ?_
             exact WK.back (hback254 (k + 1, (swp u k (k - 1))) _ ⟨H, by rw [← hinv3.1]; exact su_go (by omega) hl9, by rw [swp_size]; exact hinv3.2.1, by omega⟩ (by first | omega | (simp only []; omega))) (by as_aux_lemma => kernel_rfl)
            ·
             refine RG.leaf' [(13, .seq), (9, .seq), (14, .qui), (15, .seq), (16, .qui), (17, .seq)] (by as_aux_lemma => kernel_rfl) ?_
             have Hr := H
             refine RH.chn hS ?_
             refine qL .chn 130 [] 44 pb (k * 1) 0 (.int .u64 (u[k]!)) hcell292 ?_
             intro hS
             have Hr := H
             refine RH.chn hS ?_
             refine qL .chn 126 [] 44 pb ((k - 1) * 1) 0 (.int .u64 (u[(k - 1)]!)) hcell284 ?_
             intro hS
             have hn322 : z = u.toList.length := by rw [tl_len (d := u)]; omega
             have hx321 : k < u.toList.length := by rw [tl_len (d := u)]; omega
             refine RH.indexW (d := some 131) (r := [(15, .seq), (16, .qui), (17, .seq)]) (T := 58) (e := 44) (m := 1) (ik := .i64) (ix := (k : Int)) (sh := (Shape.int .u64)) (xs := u.toList) (a := (some ⟨pb, 0, none⟩)) (len := z) (cap := q) (by as_aux_lemma => kernel_rfl) hS (by as_aux_lemma => kernel_rfl) rfl H k (by omega) hx321 hn322 ?_
             intro b323 es324 ha325 hcell326 hr327
             cases ha325
             rw [tl_at (d := u) (k := k) _] at hr327
             have hb328 := Shape.u64_bd hr327
             obtain ⟨rfl, -⟩ := hr327
             have Hr := H
             refine RH.sto ?_
             refine RW.storeWC (d := none) (r := []) (e := 44) (m := 1) (b := pb) (k := k) (v := .int .u64 (u[(k - 1)]!)) (by as_aux_lemma => kernel_rfl) rfl (by as_aux_lemma => kernel_rfl) H rfl hx321 hn322 (u[(k - 1)]!) u64a ?_
             intro w330 hch329 H
             have hS331 := hS.sto hch329 (.inr (by simp))
             refine ⟨hS331, ?_⟩
             have hS := hS331
             have hn333 : z = (u.toList.set k (u[(k - 1)]!)).length := by rw [List.length_set, tl_len (d := u)]; omega
             have hx332 : (k - 1) < (u.toList.set k (u[(k - 1)]!)).length := by rw [List.length_set, tl_len (d := u)]; omega
             refine RH.indexW (d := some 132) (r := [(17, .seq)]) (T := 58) (e := 44) (m := 1) (ik := .i64) (ix := (k : Int) - 1) (sh := (Shape.int .u64)) (xs := u.toList.set k (u[(k - 1)]!)) (a := (some ⟨pb, 0, none⟩)) (len := z) (cap := q) (by as_aux_lemma => kernel_rfl) hS (by as_aux_lemma => kernel_rfl) rfl H (k - 1) (by omega) hx332 hn333 ?_
             intro b334 es335 ha336 hcell337 hr338
             cases ha336
             have hb339 := Shape.u64_bd hr338
             obtain ⟨rfl, -⟩ := hr338
             refine RH.sto ?_
             refine RW.storeWC (d := none) (r := []) (e := 44) (m := 1) (b := pb) (k := (k - 1)) (v := .int .u64 (u[k]!)) (by as_aux_lemma => kernel_rfl) rfl (by as_aux_lemma => kernel_rfl) H rfl hx332 hn333 (u[k]!) u64a ?_
             intro w341 hch340 H
             have H := H.reW (ys := (swp u k (k - 1)).toList) (swp_tl)
             have hS342 := hS.sto hch340 (.inr (by simp))
             refine ⟨hS342, ?_⟩
             have hS := hS342
             refine RH.fin hS 0 [0, 1, 2, 7, 8, 10] [(0, .slice (some ⟨pb, 0, none⟩) z q), (1, .I a), (2, .I b), (7, .I i2), (8, .I t), (10, .I k)] (by as_aux_lemma => kernel_rfl) ?_
             refine qR 1 [.c [2, 0, 1, 0, 0, 1, 0, 0, 6, 0, 1, 0, 0, 2], .l [2, 0, 1, 0, 0, 1, 0, 0, 6, 0, 1, 0, 0], .b 6, .b 1, .c [2, 0, 1, 0, 0, 2], .l [2, 0, 1, 0, 0], .b 0, .c [3]] [(0, .slice (some ⟨pb, 0, none⟩) z q), (1, .I a), (2, .I b), (7, .I i2), (8, .I t), (10, .I k)] ?_
             refine qG (sq 0 3) ?_
             refine qP 1 (sq 1 3) [(0, .slice (some ⟨pb, 0, none⟩) z q), (1, .I a), (2, .I b), (7, .I i2), (8, .I t), (10, .I k), (104, .I k)] ?_
             refine qI .seq 105 (sq 2 3) ((k : Int) + 1) ?_
             refine qF 1 [(0, .slice (some ⟨pb, 0, none⟩) z q), (1, .I a), (2, .I b), (7, .I i2), (8, .I t), (10, .I ((k : Int) + 1))] ?_
             exact WK.back (hback254 (k + 1, (swp u k (k - 1))) _ ⟨H, by rw [← hinv3.1]; exact su_go (by omega) hl9, by rw [swp_size]; exact hinv3.2.1, by omega⟩ (by first | omega | (simp only []; omega))) (by as_aux_lemma => kernel_rfl)
          ·
           have hq9 : u = (fixUp ltInt b i2 g) := by rw [← hinv3.1]; exact (su_end (by omega)).symm
           have hqs : (fixUp ltInt b i2 g).size = z := by rw [← hq9]; first | exact hinv3.2.1 | exact hinv2.2.1 | exact hgs
           rw [hq9] at H
           refine qR 2 [.c [2, 0, 1, 0, 0, 2], .l [2, 0, 1, 0, 0], .b 0, .c [3]] [(0, .slice (some ⟨pb, 0, none⟩) z q), (1, .I a), (2, .I b), (7, .I i2), (8, .I t)] ?_
           refine qG (sq 0 3) ?_
           refine qP 1 (sq 1 3) [(0, .slice (some ⟨pb, 0, none⟩) z q), (1, .I a), (2, .I b), (7, .I i2), (8, .I t), (15, .I t)] ?_
           refine qI .seq 16 (sq 2 3) ((t : Int) + 1) ?_
           refine qF 1 [(0, .slice (some ⟨pb, 0, none⟩) z q), (1, .I a), (2, .I b), (7, .I i2), (8, .I ((t : Int) + 1))] ?_
           exact WK.back (hback1 (t + 1, i2, (fixUp ltInt b i2 g)) _ ⟨H, by rw [← hinv0.1, hs5, hgo9, ← hg]; congr 1; omega, hqs, by omega, by omega, by omega⟩ (by first | omega | (simp only []; omega))) (by as_aux_lemma => kernel_rfl)
         ·
          have hq9 : g = (fixUp ltInt b i2 g) := (if_neg (by omega)).symm
          have hqs : (fixUp ltInt b i2 g).size = z := by rw [← hq9]; first | exact hinv3.2.1 | exact hinv2.2.1 | exact hgs
          rw [hq9] at H
          refine qR 2 [.c [2, 0, 1, 0, 0, 2], .l [2, 0, 1, 0, 0], .b 0, .c [3]] [(0, .slice (some ⟨pb, 0, none⟩) z q), (1, .I a), (2, .I b), (7, .I i2), (8, .I t)] ?_
          refine qG (sq 0 3) ?_
          refine qP 1 (sq 1 3) [(0, .slice (some ⟨pb, 0, none⟩) z q), (1, .I a), (2, .I b), (7, .I i2), (8, .I t), (15, .I t)] ?_
          refine qI .seq 16 (sq 2 3) ((t : Int) + 1) ?_
          refine qF 1 [(0, .slice (some ⟨pb, 0, none⟩) z q), (1, .I a), (2, .I b), (7, .I i2), (8, .I ((t : Int) + 1))] ?_
          exact WK.back (hback1 (t + 1, i2, (fixUp ltInt b i2 g)) _ ⟨H, by rw [← hinv0.1, hs5, hgo9, ← hg]; congr 1; omega, hqs, by omega, by omega, by omega⟩ (by first | omega | (simp only []; omega))) (by as_aux_lemma => kernel_rfl)
       ·
        have hf9 : (swp e i2 (i2 - 1)) = (fixDown ltInt a i2 (swp e i2 (i2 - 1))) := (if_neg (by omega)).symm
        obtain ⟨g, hg⟩ : ∃ g, g = (fixDown ltInt a i2 (swp e i2 (i2 - 1))) := ⟨_, rfl⟩
        have hgs : g.size = z := by rw [hg, ← hf9]; exact hd1s
        rw [hf9, ← hg] at H
        refine qR 2 [.c [2, 0, 1, 0, 0, 1, 0, 0, 5, 0], .c [2, 0, 1, 0, 0, 1, 0, 0, 6], .b 1, .c [2, 0, 1, 0, 0, 2], .l [2, 0, 1, 0, 0], .b 0, .c [3]] [(0, .slice (some ⟨pb, 0, none⟩) z q), (1, .I a), (2, .I b), (7, .I i2), (8, .I t)] ?_
        refine qG (sq 0 4) ?_
        refine qP 2 (sq 2 4) [(0, .slice (some ⟨pb, 0, none⟩) z q), (1, .I a), (2, .I b), (7, .I i2), (8, .I t), (95, .I b), (96, .I i2)] ?_
        refine qI .seq 97 (sq 3 4) ((b : Int) - (i2 : Int)) ?_
        refine qF 1 [(0, .slice (some ⟨pb, 0, none⟩) z q), (1, .I a), (2, .I b), (7, .I i2), (8, .I t), (98, .bool (decide (((b : Int) - (i2 : Int) : Int) ≥ 2)))] ?_
        refine qD (((b : Int) - (i2 : Int) : Int) ≥ 2) (fun h343 => ?_) (fun h343 => ?_)
        ·
         refine qR 1 [.c [2, 0, 1, 0, 0, 1, 0, 0, 6, 0, 0], .c [2, 0, 1, 0, 0, 1, 0, 0, 6, 0, 1], .b 1, .c [2, 0, 1, 0, 0, 2], .l [2, 0, 1, 0, 0], .b 0, .c [3]] [(0, .slice (some ⟨pb, 0, none⟩) z q), (1, .I a), (2, .I b), (7, .I i2), (8, .I t)] ?_
         refine qG (sq 0 3) ?_
         refine qP 1 (sq 1 3) [(0, .slice (some ⟨pb, 0, none⟩) z q), (1, .I a), (2, .I b), (7, .I i2), (8, .I t), (99, .I i2)] ?_
         refine qI .seq 100 (sq 2 3) ((i2 : Int) + 1) ?_
         refine qF 1 [(0, .slice (some ⟨pb, 0, none⟩) z q), (1, .I a), (2, .I b), (7, .I i2), (8, .I t), (10, .I ((i2 : Int) + 1))] ?_
         refine qR 1 [.c [2, 0, 1, 0, 0, 1, 0, 0, 6, 0, 1, 0], .b 6, .b 1, .c [2, 0, 1, 0, 0, 2], .l [2, 0, 1, 0, 0], .b 0, .c [3]] [(0, .slice (some ⟨pb, 0, none⟩) z q), (1, .I a), (2, .I b), (7, .I i2), (8, .I t), (10, .I ((i2 : Int) + 1))] ?_
         refine WK.loop (α := Nat × Array Int) (b := cd Try.prog 54 [2, 0, 1, 0, 0, 1, 0, 0, 6, 0, 1, 0, 0]) (by as_aux_lemma => kernel_rfl) (fun st_ => match st_ with | (k, u) => [(0, .slice (some ⟨pb, 0, none⟩) z q), (1, .I a), (2, .I b), (7, .I i2), (8, .I t), (10, .I k)]) (fun st_ w' => match st_ with | (k, u) => Hp w S O [] [⟨Shape.int .u64, 44, .slice (some ⟨pb, 0, none⟩) z q, u.toList⟩] [] w' ∧ shiftUp ltInt b k u = (fixUp ltInt b i2 g) ∧ u.size = z ∧ i2 < k) (fun st_ => match st_ with | (k, u) => b - k) ((i2 + 1), g) ⟨H, (if_pos (by omega)).symm, hgs, by omega⟩ (rfl) ?_
         rintro ⟨k, u⟩ w345 ⟨H, hinv3⟩ hback344
         refine qR 3 [.c [2, 0, 1, 0, 0, 1, 0, 0, 6, 0, 1, 0, 0, 0, 1], .c [2, 0, 1, 0, 0, 1, 0, 0, 6, 0, 1, 0, 0, 1], .l [2, 0, 1, 0, 0, 1, 0, 0, 6, 0, 1, 0, 0], .b 6, .b 1, .c [2, 0, 1, 0, 0, 2], .l [2, 0, 1, 0, 0], .b 0, .c [3]] [(0, .slice (some ⟨pb, 0, none⟩) z q), (1, .I a), (2, .I b), (7, .I i2), (8, .I t), (10, .I k), (103, .bool (decide (((k : Int) : Int) < (b : Int))))] ?_
         refine qD (((k : Int) : Int) < (b : Int)) (fun h346 => ?_) (fun h346 => ?_)
         ·
          refine qR 5 [.c [2, 0, 1, 0, 0, 1, 0, 0, 6, 0, 1, 0, 0, 1, 0, 0, 0, 0], .c [2, 0, 1, 0, 0, 1, 0, 0, 6, 0, 1, 0, 0, 1, 0, 0, 0, 1], .c [2, 0, 1, 0, 0, 1, 0, 0, 6, 0, 1, 0, 0, 1, 0, 0, 1], .b 7, .c [2, 0, 1, 0, 0, 1, 0, 0, 6, 0, 1, 0, 0, 2], .l [2, 0, 1, 0, 0, 1, 0, 0, 6, 0, 1, 0, 0], .b 6, .b 1, .c [2, 0, 1, 0, 0, 2], .l [2, 0, 1, 0, 0], .b 0, .c [3]] [(0, .slice (some ⟨pb, 0, none⟩) z q), (1, .I a), (2, .I b), (7, .I i2), (8, .I t), (10, .I k)] ?_
          refine WK.draw1 11 [(0, .qui), (1, .qui), (2, .qui), (3, .qui), (4, .qui), (5, .qui), (6, .qui), (7, .qui), (8, .qui), (9, .chn), (10, .qui)] [(0, .qui), (1, .qui), (2, .qui), (3, .qui), (4, .qui), (5, .qui), (6, .qui), (7, .qui), (8, .qui), (9, .chn), (10, .qui)] Try_mixed (by as_aux_lemma => kernel_rfl) (by as_aux_lemma => kernel_rfl) (by as_aux_lemma => kernel_rfl) ?_
          have H := H.draw
          generalize ({ w345 with drawn := w345.drawn + 1 } : World) = w347 at H ⊢
          refine qP 2 [(2, .qui), (3, .qui), (4, .qui), (5, .qui), (6, .qui), (7, .qui), (8, .qui), (9, .chn), (10, .qui)] [(0, .slice (some ⟨pb, 0, none⟩) z q), (1, .I a), (2, .I b), (7, .I i2), (8, .I t), (10, .I k), (106, .slice (some ⟨pb, 0, none⟩) z q), (107, .I k)] ?_
          have hn349 : z = u.toList.length := by rw [tl_len (d := u)]; omega
          have hx348 : k < u.toList.length := by rw [tl_len (d := u)]; omega
          refine RW.indexW (κ := .qui) (d := some 108) (r := [(3, .qui), (4, .qui), (5, .qui), (6, .qui), (7, .qui), (8, .qui), (9, .chn), (10, .qui)]) (T := 58) (e := 44) (m := 1) (ik := .i64) (ix := (k : Int)) (sh := (Shape.int .u64)) (xs := u.toList) (a := (some ⟨pb, 0, none⟩)) (len := z) (cap := q) (by as_aux_lemma => kernel_rfl) (by as_aux_lemma => kernel_rfl) rfl H k (by omega) hx348 hn349 ?_
          intro b350 es351 ha352 hcell353 hr354
          cases ha352
          rw [tl_at (d := u) (k := k) _] at hr354
          have hb355 := Shape.u64_bd hr354
          obtain ⟨rfl, -⟩ := hr354
          refine qL .qui 109 [(4, .qui), (5, .qui), (6, .qui), (7, .qui), (8, .qui), (9, .chn), (10, .qui)] 44 pb (k * 1) 0 (.int .u64 (u[k]!)) hcell353 ?_
          refine qP 2 [(6, .qui), (7, .qui), (8, .qui), (9, .chn), (10, .qui)] [(0, .slice (some ⟨pb, 0, none⟩) z q), (1, .I a), (2, .I b), (7, .I i2), (8, .I t), (10, .I k), (109, .int .u64 (u[k]!)), (110, .slice (some ⟨pb, 0, none⟩) z q), (111, .I k)] ?_
          refine qI .qui 112 [(7, .qui), (8, .qui), (9, .chn), (10, .qui)] ((k : Int) - 1) ?_
          have hn357 : z = u.toList.length := by rw [tl_len (d := u)]; omega
          have hx356 : (k - 1) < u.toList.length := by rw [tl_len (d := u)]; omega
          refine RW.indexW (κ := .qui) (d := some 113) (r := [(8, .qui), (9, .chn), (10, .qui)]) (T := 58) (e := 44) (m := 1) (ik := .i64) (ix := (k : Int) - 1) (sh := (Shape.int .u64)) (xs := u.toList) (a := (some ⟨pb, 0, none⟩)) (len := z) (cap := q) (by as_aux_lemma => kernel_rfl) (by as_aux_lemma => kernel_rfl) rfl H (k - 1) (by omega) hx356 hn357 ?_
          intro b358 es359 ha360 hcell361 hr362
          cases ha360
          rw [tl_at (d := u) (k := (k - 1)) _] at hr362
          have hb363 := Shape.u64_bd hr362
          obtain ⟨rfl, -⟩ := hr362
          refine qL .qui 114 [(9, .chn), (10, .qui)] 44 pb ((k - 1) * 1) 0 (.int .u64 (u[(k - 1)]!)) hcell361 ?_
          refine qK .chn (some 115) [(10, .qui)] 55 #[.int .u64 (u[k]!), .int .u64 (u[(k - 1)]!)] (uless_spec (S := fun _ => True) (u[k]!) (u[(k - 1)]!)) ?_
          rintro _ w364 hE365 rfl
          have H := H.ext hE365
          refine qF 1 [(0, .slice (some ⟨pb, 0, none⟩) z q), (1, .I a), (2, .I b), (7, .I i2), (8, .I t), (10, .I k), (116, .bool (!(decide (u[k]! < u[(k - 1)]!))))] ?_
          refine qC (!(decide (u[k]! < u[(k - 1)]!))) (fun h366 => ?_) (fun h366 => ?_)
          ·
           replace h366 : (decide (u[k]! < u[(k - 1)]!)) = false := by revert h366; cases (decide (u[k]! < u[(k - 1)]!)) <;> simp
           replace h366 := of_decide_eq_false h366
           have hq9 : u = (fixUp ltInt b i2 g) := by rw [← hinv3.1]; exact (su_stop (by omega) (by simpa using h366)).symm
           have hqs : (fixUp ltInt b i2 g).size = z := by rw [← hq9]; first | exact hinv3.2.1 | exact hinv2.2.1 | exact hgs
           rw [hq9] at H
           refine qR 2 [.c [2, 0, 1, 0, 0, 2], .l [2, 0, 1, 0, 0], .b 0, .c [3]] [(0, .slice (some ⟨pb, 0, none⟩) z q), (1, .I a), (2, .I b), (7, .I i2), (8, .I t)] ?_
           refine qG (sq 0 3) ?_
           refine qP 1 (sq 1 3) [(0, .slice (some ⟨pb, 0, none⟩) z q), (1, .I a), (2, .I b), (7, .I i2), (8, .I t), (15, .I t)] ?_
           refine qI .seq 16 (sq 2 3) ((t : Int) + 1) ?_
           refine qF 1 [(0, .slice (some ⟨pb, 0, none⟩) z q), (1, .I a), (2, .I b), (7, .I i2), (8, .I ((t : Int) + 1))] ?_
           exact WK.back (hback1 (t + 1, i2, (fixUp ltInt b i2 g)) _ ⟨H, by rw [← hinv0.1, hs5, hgo9, ← hg]; congr 1; omega, hqs, by omega, by omega, by omega⟩ (by first | omega | (simp only []; omega))) (by as_aux_lemma => kernel_rfl)
          ·
           replace h366 : (decide (u[k]! < u[(k - 1)]!)) = true := by revert h366; cases (decide (u[k]! < u[(k - 1)]!)) <;> simp
           replace h366 := of_decide_eq_true h366
           have hl9 : u[k]! < u[k - 1]! := by simpa using h366
           refine qR 1 [.c [2, 0, 1, 0, 0, 1, 0, 0, 6, 0, 1, 0, 0, 1, 0, 0, 1], .b 7, .c [2, 0, 1, 0, 0, 1, 0, 0, 6, 0, 1, 0, 0, 2], .l [2, 0, 1, 0, 0, 1, 0, 0, 6, 0, 1, 0, 0], .b 6, .b 1, .c [2, 0, 1, 0, 0, 2], .l [2, 0, 1, 0, 0], .b 0, .c [3]] [(0, .slice (some ⟨pb, 0, none⟩) z q), (1, .I a), (2, .I b), (7, .I i2), (8, .I t), (10, .I k)] ?_
           refine WK.drawH1 [pb] (.node (qs [0, 1, 2, 3, 4, 5, 6, 7, 8, 10, 11, 12]) (.cons 9 (.leaf [(13, .seq), (14, .qui), (15, .seq), (16, .qui), (17, .seq)]) (.cons 13 (.leaf [(9, .seq), (14, .qui), (15, .seq), (16, .qui), (17, .seq)]) .nil))) Try_mixed (by as_aux_lemma => kernel_rfl) (by as_aux_lemma => kernel_rfl) ?_
           intro w367 hw368
           have H := H.draw
           rw [← hw368] at H
           clear hw368
           have hS := Chg.refl w367 [pb]
           refine RG.node' (qs [0, 1, 2, 3, 4, 5, 6, 7, 8, 10, 11, 12]) (by as_aux_lemma => kernel_rfl) ?_
           refine qHP hS 4 (qs [4, 5, 6, 7, 8, 10, 11, 12]) [(0, .slice (some ⟨pb, 0, none⟩) z q), (1, .I a), (2, .I b), (7, .I i2), (8, .I t), (10, .I k), (117, .slice (some ⟨pb, 0, none⟩) z q), (118, .I k), (119, .slice (some ⟨pb, 0, none⟩) z q), (120, .I k)] ?_
           refine RH.pv (d := some 121) (r := (qs [5, 6, 7, 8, 10, 11, 12])) (v := .I (IntKind.i64.wrap ((k : Int) - 1))) (v' := .I ((k : Int) - 1)) (by as_aux_lemma => kernel_rfl) hS (wr_i64 (by omega)) ?_
           refine qHP hS 2 (qs [7, 8, 10, 11, 12]) [(0, .slice (some ⟨pb, 0, none⟩) z q), (1, .I a), (2, .I b), (7, .I i2), (8, .I t), (10, .I k), (117, .slice (some ⟨pb, 0, none⟩) z q), (118, .I k), (119, .slice (some ⟨pb, 0, none⟩) z q), (121, .I ((k : Int) - 1)), (122, .slice (some ⟨pb, 0, none⟩) z q), (123, .I k)] ?_
           refine RH.pv (d := some 124) (r := (qs [8, 10, 11, 12])) (v := .I (IntKind.i64.wrap ((k : Int) - 1))) (v' := .I ((k : Int) - 1)) (by as_aux_lemma => kernel_rfl) hS (wr_i64 (by omega)) ?_
           have hn370 : z = u.toList.length := by rw [tl_len (d := u)]; omega
           have hx369 : (k - 1) < u.toList.length := by rw [tl_len (d := u)]; omega
           refine RH.indexW (d := some 125) (r := (qs [10, 11, 12])) (T := 58) (e := 44) (m := 1) (ik := .i64) (ix := (k : Int) - 1) (sh := (Shape.int .u64)) (xs := u.toList) (a := (some ⟨pb, 0, none⟩)) (len := z) (cap := q) (by as_aux_lemma => kernel_rfl) hS (by as_aux_lemma => kernel_rfl) rfl H (k - 1) (by omega) hx369 hn370 ?_
           intro b371 es372 ha373 hcell374 hr375
           cases ha373
           rw [tl_at (d := u) (k := (k - 1)) _] at hr375
           have hb376 := Shape.u64_bd hr375
           obtain ⟨rfl, -⟩ := hr375
           refine qHP hS 2 [(12, .qui)] [(0, .slice (some ⟨pb, 0, none⟩) z q), (1, .I a), (2, .I b), (7, .I i2), (8, .I t), (10, .I k), (117, .slice (some ⟨pb, 0, none⟩) z q), (118, .I k), (119, .slice (some ⟨pb, 0, none⟩) z q), (121, .I ((k : Int) - 1)), (125, .pointer (some ⟨pb, (k - 1) * 1, none⟩)), (127, .slice (some ⟨pb, 0, none⟩) z q), (128, .I k)] ?_
           have hn378 : z = u.toList.length := by rw [tl_len (d := u)]; omega
           have hx377 : k < u.toList.length := by rw [tl_len (d := u)]; omega
           refine RH.indexW (d := some 129) (r := []) (T := 58) (e := 44) (m := 1) (ik := .i64) (ix := (k : Int)) (sh := (Shape.int .u64)) (xs := u.toList) (a := (some ⟨pb, 0, none⟩)) (len := z) (cap := q) (by as_aux_lemma => kernel_rfl) hS (by as_aux_lemma => kernel_rfl) rfl H k (by omega) hx377 hn378 ?_
           intro b379 es380 ha381 hcell382 hr383
           cases ha381
           rw [tl_at (d := u) (k := k) _] at hr383
           have hb384 := Shape.u64_bd hr383
           obtain ⟨rfl, -⟩ := hr383
           refine RH.finB hS 0 [0, 1, 2, 7, 8, 10, 117, 118, 119, 121, 125, 129] [(0, .slice (some ⟨pb, 0, none⟩) z q), (1, .I a), (2, .I b), (7, .I i2), (8, .I t), (10, .I k), (117, .slice (some ⟨pb, 0, none⟩) z q), (118, .I k), (119, .slice (some ⟨pb, 0, none⟩) z q), (121, .I ((k : Int) - 1)), (125, .pointer (some ⟨pb, (k - 1) * 1, none⟩)), (129, .pointer (some ⟨pb, k * 1, none⟩))] (by as_aux_lemma => kernel_rfl) ?_
           refine (RGB.cons' ?_ (RGB.cons' ?_ RGB.nil'))
           ·
            refine RG.leaf' [(9, .seq), (13, .seq), (14, .qui), (15, .seq), (16, .qui), (17, .seq)] (by as_aux_lemma => kernel_rfl) ?_
            have Hr := H
            refine RH.chn hS ?_
            refine qL .chn 126 [] 44 pb ((k - 1) * 1) 0 (.int .u64 (u[(k - 1)]!)) hcell374 ?_
            intro hS
            have Hr := H
            refine RH.chn hS ?_
            refine qL .chn 130 [] 44 pb (k * 1) 0 (.int .u64 (u[k]!)) hcell382 ?_
            intro hS
            have hn388 : z = u.toList.length := by rw [tl_len (d := u)]; omega
            have hx387 : k < u.toList.length := by rw [tl_len (d := u)]; omega
            refine RH.indexW (d := some 131) (r := [(15, .seq), (16, .qui), (17, .seq)]) (T := 58) (e := 44) (m := 1) (ik := .i64) (ix := (k : Int)) (sh := (Shape.int .u64)) (xs := u.toList) (a := (some ⟨pb, 0, none⟩)) (len := z) (cap := q) (by as_aux_lemma => kernel_rfl) hS (by as_aux_lemma => kernel_rfl) rfl H k (by omega) hx387 hn388 ?_
            intro b389 es390 ha391 hcell392 hr393
            cases ha391
            rw [tl_at (d := u) (k := k) _] at hr393
            have hb394 := Shape.u64_bd hr393
            obtain ⟨rfl, -⟩ := hr393
            have Hr := H
            refine RH.sto ?_
            refine RW.storeWC (d := none) (r := []) (e := 44) (m := 1) (b := pb) (k := k) (v := .int .u64 (u[(k - 1)]!)) (by as_aux_lemma => kernel_rfl) rfl (by as_aux_lemma => kernel_rfl) H rfl hx387 hn388 (u[(k - 1)]!) u64a ?_
            intro w396 hch395 H
            have hS397 := hS.sto hch395 (.inr (by simp))
            refine ⟨hS397, ?_⟩
            have hS := hS397
            have hn399 : z = (u.toList.set k (u[(k - 1)]!)).length := by rw [List.length_set, tl_len (d := u)]; omega
            have hx398 : (k - 1) < (u.toList.set k (u[(k - 1)]!)).length := by rw [List.length_set, tl_len (d := u)]; omega
            refine RH.indexW (d := some 132) (r := [(17, .seq)]) (T := 58) (e := 44) (m := 1) (ik := .i64) (ix := (k : Int) - 1) (sh := (Shape.int .u64)) (xs := u.toList.set k (u[(k - 1)]!)) (a := (some ⟨pb, 0, none⟩)) (len := z) (cap := q) (by as_aux_lemma => kernel_rfl) hS (by as_aux_lemma => kernel_rfl) rfl H (k - 1) (by omega) hx398 hn399 ?_
            intro b400 es401 ha402 hcell403 hr404
            cases ha402
            have hb405 := Shape.u64_bd hr404
            obtain ⟨rfl, -⟩ := hr404
            refine RH.sto ?_
            refine RW.storeWC (d := none) (r := []) (e := 44) (m := 1) (b := pb) (k := (k - 1)) (v := .int .u64 (u[k]!)) (by as_aux_lemma => kernel_rfl) rfl (by as_aux_lemma => kernel_rfl) H rfl hx398 hn399 (u[k]!) u64a ?_
            intro w407 hch406 H
            have H := H.reW (ys := (swp u k (k - 1)).toList) (swp_tl)
            have hS408 := hS.sto hch406 (.inr (by simp))
            refine ⟨hS408, ?_⟩
            have hS := hS408
            refine RH.fin hS 0 [0, 1, 2, 7, 8, 10] [(0, .slice (some ⟨pb, 0, none⟩) z q), (1, .I a), (2, .I b), (7, .I i2), (8, .I t), (10, .I k)] (by as_aux_lemma => kernel_rfl) ?_
            refine qR 1 [.c [2, 0, 1, 0, 0, 1, 0, 0, 6, 0, 1, 0, 0, 2], .l [2, 0, 1, 0, 0, 1, 0, 0, 6, 0, 1, 0, 0], .b 6, .b 1, .c [2, 0, 1, 0, 0, 2], .l [2, 0, 1, 0, 0], .b 0, .c [3]] [(0, .slice (some ⟨pb, 0, none⟩) z q), (1, .I a), (2, .I b), (7, .I i2), (8, .I t), (10, .I k)] ?_
            refine qG (sq 0 3) ?_
            refine qP 1 (sq 1 3) [(0, .slice (some ⟨pb, 0, none⟩) z q), (1, .I a), (2, .I b), (7, .I i2), (8, .I t), (10, .I k), (104, .I k)] ?_
            refine qI .seq 105 (sq 2 3) ((k : Int) + 1) ?_
            refine qF 1 [(0, .slice (some ⟨pb, 0, none⟩) z q), (1, .I a), (2, .I b), (7, .I i2), (8, .I t), (10, .I ((k : Int) + 1))] ?_
            exact WK.back (hback344 (k + 1, (swp u k (k - 1))) _ ⟨H, by rw [← hinv3.1]; exact su_go (by omega) hl9, by rw [swp_size]; exact hinv3.2.1, by omega⟩ (by first | omega | (simp only []; omega))) (by as_aux_lemma => kernel_rfl)
           ·
            refine RG.leaf' [(13, .seq), (9, .seq), (14, .qui), (15, .seq), (16, .qui), (17, .seq)] (by as_aux_lemma => kernel_rfl) ?_
            have Hr := H
            refine RH.chn hS ?_
            refine qL .chn 130 [] 44 pb (k * 1) 0 (.int .u64 (u[k]!)) hcell382 ?_
            intro hS
            have Hr := H
            refine RH.chn hS ?_
            refine qL .chn 126 [] 44 pb ((k - 1) * 1) 0 (.int .u64 (u[(k - 1)]!)) hcell374 ?_
            intro hS
            have hn412 : z = u.toList.length := by rw [tl_len (d := u)]; omega
            have hx411 : k < u.toList.length := by rw [tl_len (d := u)]; omega
            refine RH.indexW (d := some 131) (r := [(15, .seq), (16, .qui), (17, .seq)]) (T := 58) (e := 44) (m := 1) (ik := .i64) (ix := (k : Int)) (sh := (Shape.int .u64)) (xs := u.toList) (a := (some ⟨pb, 0, none⟩)) (len := z) (cap := q) (by as_aux_lemma => kernel_rfl) hS (by as_aux_lemma => kernel_rfl) rfl H k (by omega) hx411 hn412 ?_
            intro b413 es414 ha415 hcell416 hr417
            cases ha415
            rw [tl_at (d := u) (k := k) _] at hr417
            have hb418 := Shape.u64_bd hr417
            obtain ⟨rfl, -⟩ := hr417
            have Hr := H
            refine RH.sto ?_
            refine RW.storeWC (d := none) (r := []) (e := 44) (m := 1) (b := pb) (k := k) (v := .int .u64 (u[(k - 1)]!)) (by as_aux_lemma => kernel_rfl) rfl (by as_aux_lemma => kernel_rfl) H rfl hx411 hn412 (u[(k - 1)]!) u64a ?_
            intro w420 hch419 H
            have hS421 := hS.sto hch419 (.inr (by simp))
            refine ⟨hS421, ?_⟩
            have hS := hS421
            have hn423 : z = (u.toList.set k (u[(k - 1)]!)).length := by rw [List.length_set, tl_len (d := u)]; omega
            have hx422 : (k - 1) < (u.toList.set k (u[(k - 1)]!)).length := by rw [List.length_set, tl_len (d := u)]; omega
            refine RH.indexW (d := some 132) (r := [(17, .seq)]) (T := 58) (e := 44) (m := 1) (ik := .i64) (ix := (k : Int) - 1) (sh := (Shape.int .u64)) (xs := u.toList.set k (u[(k - 1)]!)) (a := (some ⟨pb, 0, none⟩)) (len := z) (cap := q) (by as_aux_lemma => kernel_rfl) hS (by as_aux_lemma => kernel_rfl) rfl H (k - 1) (by omega) hx422 hn423 ?_
            intro b424 es425 ha426 hcell427 hr428
            cases ha426
            have hb429 := Shape.u64_bd hr428
            obtain ⟨rfl, -⟩ := hr428
            refine RH.sto ?_
            refine RW.storeWC (d := none) (r := []) (e := 44) (m := 1) (b := pb) (k := (k - 1)) (v := .int .u64 (u[k]!)) (by as_aux_lemma => kernel_rfl) rfl (by as_aux_lemma => kernel_rfl) H rfl hx422 hn423 (u[k]!) u64a ?_
            intro w431 hch430 H
            have H := H.reW (ys := (swp u k (k - 1)).toList) (swp_tl)
            have hS432 := hS.sto hch430 (.inr (by simp))
            refine ⟨hS432, ?_⟩
            have hS := hS432
            refine RH.fin hS 0 [0, 1, 2, 7, 8, 10] [(0, .slice (some ⟨pb, 0, none⟩) z q), (1, .I a), (2, .I b), (7, .I i2), (8, .I t), (10, .I k)] (by as_aux_lemma => kernel_rfl) ?_
            refine qR 1 [.c [2, 0, 1, 0, 0, 1, 0, 0, 6, 0, 1, 0, 0, 2], .l [2, 0, 1, 0, 0, 1, 0, 0, 6, 0, 1, 0, 0], .b 6, .b 1, .c [2, 0, 1, 0, 0, 2], .l [2, 0, 1, 0, 0], .b 0, .c [3]] [(0, .slice (some ⟨pb, 0, none⟩) z q), (1, .I a), (2, .I b), (7, .I i2), (8, .I t), (10, .I k)] ?_
            refine qG (sq 0 3) ?_
            refine qP 1 (sq 1 3) [(0, .slice (some ⟨pb, 0, none⟩) z q), (1, .I a), (2, .I b), (7, .I i2), (8, .I t), (10, .I k), (104, .I k)] ?_
            refine qI .seq 105 (sq 2 3) ((k : Int) + 1) ?_
            refine qF 1 [(0, .slice (some ⟨pb, 0, none⟩) z q), (1, .I a), (2, .I b), (7, .I i2), (8, .I t), (10, .I ((k : Int) + 1))] ?_
            exact WK.back (hback344 (k + 1, (swp u k (k - 1))) _ ⟨H, by rw [← hinv3.1]; exact su_go (by omega) hl9, by rw [swp_size]; exact hinv3.2.1, by omega⟩ (by first | omega | (simp only []; omega))) (by as_aux_lemma => kernel_rfl)
         ·
          have hq9 : u = (fixUp ltInt b i2 g) := by rw [← hinv3.1]; exact (su_end (by omega)).symm
          have hqs : (fixUp ltInt b i2 g).size = z := by rw [← hq9]; first | exact hinv3.2.1 | exact hinv2.2.1 | exact hgs
          rw [hq9] at H
          refine qR 2 [.c [2, 0, 1, 0, 0, 2], .l [2, 0, 1, 0, 0], .b 0, .c [3]] [(0, .slice (some ⟨pb, 0, none⟩) z q), (1, .I a), (2, .I b), (7, .I i2), (8, .I t)] ?_
          refine qG (sq 0 3) ?_
          refine qP 1 (sq 1 3) [(0, .slice (some ⟨pb, 0, none⟩) z q), (1, .I a), (2, .I b), (7, .I i2), (8, .I t), (15, .I t)] ?_
          refine qI .seq 16 (sq 2 3) ((t : Int) + 1) ?_
          refine qF 1 [(0, .slice (some ⟨pb, 0, none⟩) z q), (1, .I a), (2, .I b), (7, .I i2), (8, .I ((t : Int) + 1))] ?_
          exact WK.back (hback1 (t + 1, i2, (fixUp ltInt b i2 g)) _ ⟨H, by rw [← hinv0.1, hs5, hgo9, ← hg]; congr 1; omega, hqs, by omega, by omega, by omega⟩ (by first | omega | (simp only []; omega))) (by as_aux_lemma => kernel_rfl)
        ·
         have hq9 : g = (fixUp ltInt b i2 g) := (if_neg (by omega)).symm
         have hqs : (fixUp ltInt b i2 g).size = z := by rw [← hq9]; first | exact hinv3.2.1 | exact hinv2.2.1 | exact hgs
         rw [hq9] at H
         refine qR 2 [.c [2, 0, 1, 0, 0, 2], .l [2, 0, 1, 0, 0], .b 0, .c [3]] [(0, .slice (some ⟨pb, 0, none⟩) z q), (1, .I a), (2, .I b), (7, .I i2), (8, .I t)] ?_
         refine qG (sq 0 3) ?_
         refine qP 1 (sq 1 3) [(0, .slice (some ⟨pb, 0, none⟩) z q), (1, .I a), (2, .I b), (7, .I i2), (8, .I t), (15, .I t)] ?_
         refine qI .seq 16 (sq 2 3) ((t : Int) + 1) ?_
         refine qF 1 [(0, .slice (some ⟨pb, 0, none⟩) z q), (1, .I a), (2, .I b), (7, .I i2), (8, .I ((t : Int) + 1))] ?_
         exact WK.back (hback1 (t + 1, i2, (fixUp ltInt b i2 g)) _ ⟨H, by rw [← hinv0.1, hs5, hgo9, ← hg]; congr 1; omega, hqs, by omega, by omega, by omega⟩ (by first | omega | (simp only []; omega))) (by as_aux_lemma => kernel_rfl)
      ·
       refine RG.leaf' [(13, .seq), (9, .seq), (14, .qui), (15, .seq), (16, .qui), (17, .seq)] (by as_aux_lemma => kernel_rfl) ?_
       have Hr := H
       refine RH.chn hS ?_
       refine qL .chn 55 [] 44 pb (i2 * 1) 0 (.int .u64 (e[i2]!)) hcell46 ?_
       intro hS
       have Hr := H
       refine RH.chn hS ?_
       refine qL .chn 51 [] 44 pb ((i2 - 1) * 1) 0 (.int .u64 (e[(i2 - 1)]!)) hcell38 ?_
       intro hS
       have hn436 : z = e.toList.length := by rw [tl_len (d := e)]; omega
       have hx435 : i2 < e.toList.length := by rw [tl_len (d := e)]; omega
       refine RH.indexW (d := some 56) (r := [(15, .seq), (16, .qui), (17, .seq)]) (T := 58) (e := 44) (m := 1) (ik := .i64) (ix := (i2 : Int)) (sh := (Shape.int .u64)) (xs := e.toList) (a := (some ⟨pb, 0, none⟩)) (len := z) (cap := q) (by as_aux_lemma => kernel_rfl) hS (by as_aux_lemma => kernel_rfl) rfl H i2 (by omega) hx435 hn436 ?_
       intro b437 es438 ha439 hcell440 hr441
       cases ha439
       rw [tl_at (d := e) (k := i2) _] at hr441
       have hb442 := Shape.u64_bd hr441
       obtain ⟨rfl, -⟩ := hr441
       have Hr := H
       refine RH.sto ?_
       refine RW.storeWC (d := none) (r := []) (e := 44) (m := 1) (b := pb) (k := i2) (v := .int .u64 (e[(i2 - 1)]!)) (by as_aux_lemma => kernel_rfl) rfl (by as_aux_lemma => kernel_rfl) H rfl hx435 hn436 (e[(i2 - 1)]!) u64a ?_
       intro w444 hch443 H
       have hS445 := hS.sto hch443 (.inr (by simp))
       refine ⟨hS445, ?_⟩
       have hS := hS445
       have hn447 : z = (e.toList.set i2 (e[(i2 - 1)]!)).length := by rw [List.length_set, tl_len (d := e)]; omega
       have hx446 : (i2 - 1) < (e.toList.set i2 (e[(i2 - 1)]!)).length := by rw [List.length_set, tl_len (d := e)]; omega
       refine RH.indexW (d := some 57) (r := [(17, .seq)]) (T := 58) (e := 44) (m := 1) (ik := .i64) (ix := (i2 : Int) - 1) (sh := (Shape.int .u64)) (xs := e.toList.set i2 (e[(i2 - 1)]!)) (a := (some ⟨pb, 0, none⟩)) (len := z) (cap := q) (by as_aux_lemma => kernel_rfl) hS (by as_aux_lemma => kernel_rfl) rfl H (i2 - 1) (by omega) hx446 hn447 ?_
       intro b448 es449 ha450 hcell451 hr452
       cases ha450
       have hb453 := Shape.u64_bd hr452
       obtain ⟨rfl, -⟩ := hr452
       refine RH.sto ?_
       refine RW.storeWC (d := none) (r := []) (e := 44) (m := 1) (b := pb) (k := (i2 - 1)) (v := .int .u64 (e[i2]!)) (by as_aux_lemma => kernel_rfl) rfl (by as_aux_lemma => kernel_rfl) H rfl hx446 hn447 (e[i2]!) u64a ?_
       intro w455 hch454 H
       have H := H.reW (ys := (swp e i2 (i2 - 1)).toList) (swp_tl)
       have hS456 := hS.sto hch454 (.inr (by simp))
       refine ⟨hS456, ?_⟩
       have hS := hS456
       refine RH.fin hS 0 [0, 1, 2, 7, 8] [(0, .slice (some ⟨pb, 0, none⟩) z q), (1, .I a), (2, .I b), (7, .I i2), (8, .I t)] (by as_aux_lemma => kernel_rfl) ?_
       refine qR 2 [.c [2, 0, 1, 0, 0, 1, 0, 0, 4, 0, 0], .c [2, 0, 1, 0, 0, 1, 0, 0, 4, 0, 1], .c [2, 0, 1, 0, 0, 1, 0, 0, 5], .b 1, .c [2, 0, 1, 0, 0, 2], .l [2, 0, 1, 0, 0], .b 0, .c [3]] [(0, .slice (some ⟨pb, 0, none⟩) z q), (1, .I a), (2, .I b), (7, .I i2), (8, .I t)] ?_
       refine qG (sq 0 4) ?_
       refine qP 2 (sq 2 4) [(0, .slice (some ⟨pb, 0, none⟩) z q), (1, .I a), (2, .I b), (7, .I i2), (8, .I t), (58, .I i2), (59, .I a)] ?_
       refine qI .seq 60 (sq 3 4) ((i2 : Int) - (a : Int)) ?_
       refine qF 1 [(0, .slice (some ⟨pb, 0, none⟩) z q), (1, .I a), (2, .I b), (7, .I i2), (8, .I t), (61, .bool (decide (((i2 : Int) - (a : Int) : Int) ≥ 2)))] ?_
       refine qD (((i2 : Int) - (a : Int) : Int) ≥ 2) (fun h457 => ?_) (fun h457 => ?_)
       ·
        refine qR 1 [.c [2, 0, 1, 0, 0, 1, 0, 0, 4, 0, 1, 0, 0], .c [2, 0, 1, 0, 0, 1, 0, 0, 4, 0, 1, 0, 1], .c [2, 0, 1, 0, 0, 1, 0, 0, 5], .b 1, .c [2, 0, 1, 0, 0, 2], .l [2, 0, 1, 0, 0], .b 0, .c [3]] [(0, .slice (some ⟨pb, 0, none⟩) z q), (1, .I a), (2, .I b), (7, .I i2), (8, .I t)] ?_
        refine qG (sq 0 3) ?_
        refine qP 1 (sq 1 3) [(0, .slice (some ⟨pb, 0, none⟩) z q), (1, .I a), (2, .I b), (7, .I i2), (8, .I t), (62, .I i2)] ?_
        refine qI .seq 63 (sq 2 3) ((i2 : Int) - 1) ?_
        refine qF 1 [(0, .slice (some ⟨pb, 0, none⟩) z q), (1, .I a), (2, .I b), (7, .I i2), (8, .I t), (9, .I ((i2 : Int) - 1))] ?_
        refine qR 1 [.c [2, 0, 1, 0, 0, 1, 0, 0, 4, 0, 1, 0, 1, 0], .b 4, .c [2, 0, 1, 0, 0, 1, 0, 0, 5], .b 1, .c [2, 0, 1, 0, 0, 2], .l [2, 0, 1, 0, 0], .b 0, .c [3]] [(0, .slice (some ⟨pb, 0, none⟩) z q), (1, .I a), (2, .I b), (7, .I i2), (8, .I t), (9, .I ((i2 : Int) - 1))] ?_
        rw [show (i2 : Int) - 1 = ((i2 - 1 : Nat) : Int) by omega]
        refine WK.loop (α := Nat × Array Int) (b := cd Try.prog 54 [2, 0, 1, 0, 0, 1, 0, 0, 4, 0, 1, 0, 1, 0, 0]) (by as_aux_lemma => kernel_rfl) (fun st_ => match st_ with | (j, f) => [(0, .slice (some ⟨pb, 0, none⟩) z q), (1, .I a), (2, .I b), (7, .I i2), (8, .I t), (9, .I j)]) (fun st_ w' => match st_ with | (j, f) => Hp w S O [] [⟨Shape.int .u64, 44, .slice (some ⟨pb, 0, none⟩) z q, f.toList⟩] [] w' ∧ shiftDown ltInt j f = (fixDown ltInt a i2 (swp e i2 (i2 - 1))) ∧ f.size = z ∧ j < i2) (fun st_ => match st_ with | (j, f) => j) ((i2 - 1), (swp e i2 (i2 - 1))) ⟨H, (if_pos (by omega)).symm, hd1s, by omega⟩ (rfl) ?_
        rintro ⟨j, f⟩ w459 ⟨H, hinv2⟩ hback458
        refine qR 3 [.c [2, 0, 1, 0, 0, 1, 0, 0, 4, 0, 1, 0, 1, 0, 0, 0, 1], .c [2, 0, 1, 0, 0, 1, 0, 0, 4, 0, 1, 0, 1, 0, 0, 1], .l [2, 0, 1, 0, 0, 1, 0, 0, 4, 0, 1, 0, 1, 0, 0], .b 4, .c [2, 0, 1, 0, 0, 1, 0, 0, 5], .b 1, .c [2, 0, 1, 0, 0, 2], .l [2, 0, 1, 0, 0], .b 0, .c [3]] [(0, .slice (some ⟨pb, 0, none⟩) z q), (1, .I a), (2, .I b), (7, .I i2), (8, .I t), (9, .I j), (65, .bool (decide (((j : Int) : Int) ≥ 1)))] ?_
        refine qD (((j : Int) : Int) ≥ 1) (fun h460 => ?_) (fun h460 => ?_)
        ·
         refine qR 5 [.c [2, 0, 1, 0, 0, 1, 0, 0, 4, 0, 1, 0, 1, 0, 0, 1, 0, 0, 0, 0], .c [2, 0, 1, 0, 0, 1, 0, 0, 4, 0, 1, 0, 1, 0, 0, 1, 0, 0, 0, 1], .c [2, 0, 1, 0, 0, 1, 0, 0, 4, 0, 1, 0, 1, 0, 0, 1, 0, 0, 1], .b 5, .c [2, 0, 1, 0, 0, 1, 0, 0, 4, 0, 1, 0, 1, 0, 0, 2], .l [2, 0, 1, 0, 0, 1, 0, 0, 4, 0, 1, 0, 1, 0, 0], .b 4, .c [2, 0, 1, 0, 0, 1, 0, 0, 5], .b 1, .c [2, 0, 1, 0, 0, 2], .l [2, 0, 1, 0, 0], .b 0, .c [3]] [(0, .slice (some ⟨pb, 0, none⟩) z q), (1, .I a), (2, .I b), (7, .I i2), (8, .I t), (9, .I j)] ?_
         refine WK.draw1 11 [(0, .qui), (1, .qui), (2, .qui), (3, .qui), (4, .qui), (5, .qui), (6, .qui), (7, .qui), (8, .qui), (9, .chn), (10, .qui)] [(0, .qui), (1, .qui), (2, .qui), (3, .qui), (4, .qui), (5, .qui), (6, .qui), (7, .qui), (8, .qui), (9, .chn), (10, .qui)] Try_mixed (by as_aux_lemma => kernel_rfl) (by as_aux_lemma => kernel_rfl) (by as_aux_lemma => kernel_rfl) ?_
         have H := H.draw
         generalize ({ w459 with drawn := w459.drawn + 1 } : World) = w461 at H ⊢
         refine qP 2 [(2, .qui), (3, .qui), (4, .qui), (5, .qui), (6, .qui), (7, .qui), (8, .qui), (9, .chn), (10, .qui)] [(0, .slice (some ⟨pb, 0, none⟩) z q), (1, .I a), (2, .I b), (7, .I i2), (8, .I t), (9, .I j), (68, .slice (some ⟨pb, 0, none⟩) z q), (69, .I j)] ?_
         have hn463 : z = f.toList.length := by rw [tl_len (d := f)]; omega
         have hx462 : j < f.toList.length := by rw [tl_len (d := f)]; omega
         refine RW.indexW (κ := .qui) (d := some 70) (r := [(3, .qui), (4, .qui), (5, .qui), (6, .qui), (7, .qui), (8, .qui), (9, .chn), (10, .qui)]) (T := 58) (e := 44) (m := 1) (ik := .i64) (ix := (j : Int)) (sh := (Shape.int .u64)) (xs := f.toList) (a := (some ⟨pb, 0, none⟩)) (len := z) (cap := q) (by as_aux_lemma => kernel_rfl) (by as_aux_lemma => kernel_rfl) rfl H j (by omega) hx462 hn463 ?_
         intro b464 es465 ha466 hcell467 hr468
         cases ha466
         rw [tl_at (d := f) (k := j) _] at hr468
         have hb469 := Shape.u64_bd hr468
         obtain ⟨rfl, -⟩ := hr468
         refine qL .qui 71 [(4, .qui), (5, .qui), (6, .qui), (7, .qui), (8, .qui), (9, .chn), (10, .qui)] 44 pb (j * 1) 0 (.int .u64 (f[j]!)) hcell467 ?_
         refine qP 2 [(6, .qui), (7, .qui), (8, .qui), (9, .chn), (10, .qui)] [(0, .slice (some ⟨pb, 0, none⟩) z q), (1, .I a), (2, .I b), (7, .I i2), (8, .I t), (9, .I j), (71, .int .u64 (f[j]!)), (72, .slice (some ⟨pb, 0, none⟩) z q), (73, .I j)] ?_
         refine qI .qui 74 [(7, .qui), (8, .qui), (9, .chn), (10, .qui)] ((j : Int) - 1) ?_
         have hn471 : z = f.toList.length := by rw [tl_len (d := f)]; omega
         have hx470 : (j - 1) < f.toList.length := by rw [tl_len (d := f)]; omega
         refine RW.indexW (κ := .qui) (d := some 75) (r := [(8, .qui), (9, .chn), (10, .qui)]) (T := 58) (e := 44) (m := 1) (ik := .i64) (ix := (j : Int) - 1) (sh := (Shape.int .u64)) (xs := f.toList) (a := (some ⟨pb, 0, none⟩)) (len := z) (cap := q) (by as_aux_lemma => kernel_rfl) (by as_aux_lemma => kernel_rfl) rfl H (j - 1) (by omega) hx470 hn471 ?_
         intro b472 es473 ha474 hcell475 hr476
         cases ha474
         rw [tl_at (d := f) (k := (j - 1)) _] at hr476
         have hb477 := Shape.u64_bd hr476
         obtain ⟨rfl, -⟩ := hr476
         refine qL .qui 76 [(9, .chn), (10, .qui)] 44 pb ((j - 1) * 1) 0 (.int .u64 (f[(j - 1)]!)) hcell475 ?_
         refine qK .chn (some 77) [(10, .qui)] 55 #[.int .u64 (f[j]!), .int .u64 (f[(j - 1)]!)] (uless_spec (S := fun _ => True) (f[j]!) (f[(j - 1)]!)) ?_
         rintro _ w478 hE479 rfl
         have H := H.ext hE479
         refine qF 1 [(0, .slice (some ⟨pb, 0, none⟩) z q), (1, .I a), (2, .I b), (7, .I i2), (8, .I t), (9, .I j), (78, .bool (!(decide (f[j]! < f[(j - 1)]!))))] ?_
         refine qC (!(decide (f[j]! < f[(j - 1)]!))) (fun h480 => ?_) (fun h480 => ?_)
         ·
          replace h480 : (decide (f[j]! < f[(j - 1)]!)) = false := by revert h480; cases (decide (f[j]! < f[(j - 1)]!)) <;> simp
          replace h480 := of_decide_eq_false h480
          have hf9 : f = (fixDown ltInt a i2 (swp e i2 (i2 - 1))) := by rw [← hinv2.1]; exact (sdn_stop (by omega) (by simpa using h480)).symm
          obtain ⟨g, hg⟩ : ∃ g, g = (fixDown ltInt a i2 (swp e i2 (i2 - 1))) := ⟨_, rfl⟩
          have hgs : g.size = z := by rw [hg, ← hf9]; exact hinv2.2.1
          rw [hf9, ← hg] at H
          refine qR 2 [.c [2, 0, 1, 0, 0, 1, 0, 0, 5, 0], .c [2, 0, 1, 0, 0, 1, 0, 0, 6], .b 1, .c [2, 0, 1, 0, 0, 2], .l [2, 0, 1, 0, 0], .b 0, .c [3]] [(0, .slice (some ⟨pb, 0, none⟩) z q), (1, .I a), (2, .I b), (7, .I i2), (8, .I t)] ?_
          refine qG (sq 0 4) ?_
          refine qP 2 (sq 2 4) [(0, .slice (some ⟨pb, 0, none⟩) z q), (1, .I a), (2, .I b), (7, .I i2), (8, .I t), (95, .I b), (96, .I i2)] ?_
          refine qI .seq 97 (sq 3 4) ((b : Int) - (i2 : Int)) ?_
          refine qF 1 [(0, .slice (some ⟨pb, 0, none⟩) z q), (1, .I a), (2, .I b), (7, .I i2), (8, .I t), (98, .bool (decide (((b : Int) - (i2 : Int) : Int) ≥ 2)))] ?_
          refine qD (((b : Int) - (i2 : Int) : Int) ≥ 2) (fun h481 => ?_) (fun h481 => ?_)
          ·
           refine qR 1 [.c [2, 0, 1, 0, 0, 1, 0, 0, 6, 0, 0], .c [2, 0, 1, 0, 0, 1, 0, 0, 6, 0, 1], .b 1, .c [2, 0, 1, 0, 0, 2], .l [2, 0, 1, 0, 0], .b 0, .c [3]] [(0, .slice (some ⟨pb, 0, none⟩) z q), (1, .I a), (2, .I b), (7, .I i2), (8, .I t)] ?_
           refine qG (sq 0 3) ?_
           refine qP 1 (sq 1 3) [(0, .slice (some ⟨pb, 0, none⟩) z q), (1, .I a), (2, .I b), (7, .I i2), (8, .I t), (99, .I i2)] ?_
           refine qI .seq 100 (sq 2 3) ((i2 : Int) + 1) ?_
           refine qF 1 [(0, .slice (some ⟨pb, 0, none⟩) z q), (1, .I a), (2, .I b), (7, .I i2), (8, .I t), (10, .I ((i2 : Int) + 1))] ?_
           refine qR 1 [.c [2, 0, 1, 0, 0, 1, 0, 0, 6, 0, 1, 0], .b 6, .b 1, .c [2, 0, 1, 0, 0, 2], .l [2, 0, 1, 0, 0], .b 0, .c [3]] [(0, .slice (some ⟨pb, 0, none⟩) z q), (1, .I a), (2, .I b), (7, .I i2), (8, .I t), (10, .I ((i2 : Int) + 1))] ?_
           refine WK.loop (α := Nat × Array Int) (b := cd Try.prog 54 [2, 0, 1, 0, 0, 1, 0, 0, 6, 0, 1, 0, 0]) (by as_aux_lemma => kernel_rfl) (fun st_ => match st_ with | (k, u) => [(0, .slice (some ⟨pb, 0, none⟩) z q), (1, .I a), (2, .I b), (7, .I i2), (8, .I t), (10, .I k)]) (fun st_ w' => match st_ with | (k, u) => Hp w S O [] [⟨Shape.int .u64, 44, .slice (some ⟨pb, 0, none⟩) z q, u.toList⟩] [] w' ∧ shiftUp ltInt b k u = (fixUp ltInt b i2 g) ∧ u.size = z ∧ i2 < k) (fun st_ => match st_ with | (k, u) => b - k) ((i2 + 1), g) ⟨H, (if_pos (by omega)).symm, hgs, by omega⟩ (rfl) ?_
           rintro ⟨k, u⟩ w483 ⟨H, hinv3⟩ hback482
           refine qR 3 [.c [2, 0, 1, 0, 0, 1, 0, 0, 6, 0, 1, 0, 0, 0, 1], .c [2, 0, 1, 0, 0, 1, 0, 0, 6, 0, 1, 0, 0, 1], .l [2, 0, 1, 0, 0, 1, 0, 0, 6, 0, 1, 0, 0], .b 6, .b 1, .c [2, 0, 1, 0, 0, 2], .l [2, 0, 1, 0, 0], .b 0, .c [3]] [(0, .slice (some ⟨pb, 0, none⟩) z q), (1, .I a), (2, .I b), (7, .I i2), (8, .I t), (10, .I k), (103, .bool (decide (((k : Int) : Int) < (b : Int))))] ?_
           refine qD (((k : Int) : Int) < (b : Int)) (fun h484 => ?_) (fun h484 => ?_)
           ·
            refine qR 5 [.c [2, 0, 1, 0, 0, 1, 0, 0, 6, 0, 1, 0, 0, 1, 0, 0, 0, 0], .c [2, 0, 1, 0, 0, 1, 0, 0, 6, 0, 1, 0, 0, 1, 0, 0, 0, 1], .c [2, 0, 1, 0, 0, 1, 0, 0, 6, 0, 1, 0, 0, 1, 0, 0, 1], .b 7, .c [2, 0, 1, 0, 0, 1, 0, 0, 6, 0, 1, 0, 0, 2], .l [2, 0, 1, 0, 0, 1, 0, 0, 6, 0, 1, 0, 0], .b 6, .b 1, .c [2, 0, 1, 0, 0, 2], .l [2, 0, 1, 0, 0], .b 0, .c [3]] [(0, .slice (some ⟨pb, 0, none⟩) z q), (1, .I a), (2, .I b), (7, .I i2), (8, .I t), (10, .I k)] ?_
            refine WK.draw1 11 [(0, .qui), (1, .qui), (2, .qui), (3, .qui), (4, .qui), (5, .qui), (6, .qui), (7, .qui), (8, .qui), (9, .chn), (10, .qui)] [(0, .qui), (1, .qui), (2, .qui), (3, .qui), (4, .qui), (5, .qui), (6, .qui), (7, .qui), (8, .qui), (9, .chn), (10, .qui)] Try_mixed (by as_aux_lemma => kernel_rfl) (by as_aux_lemma => kernel_rfl) (by as_aux_lemma => kernel_rfl) ?_
            have H := H.draw
            generalize ({ w483 with drawn := w483.drawn + 1 } : World) = w485 at H ⊢
            refine qP 2 [(2, .qui), (3, .qui), (4, .qui), (5, .qui), (6, .qui), (7, .qui), (8, .qui), (9, .chn), (10, .qui)] [(0, .slice (some ⟨pb, 0, none⟩) z q), (1, .I a), (2, .I b), (7, .I i2), (8, .I t), (10, .I k), (106, .slice (some ⟨pb, 0, none⟩) z q), (107, .I k)] ?_
            have hn487 : z = u.toList.length := by rw [tl_len (d := u)]; omega
            have hx486 : k < u.toList.length := by rw [tl_len (d := u)]; omega
            refine RW.indexW (κ := .qui) (d := some 108) (r := [(3, .qui), (4, .qui), (5, .qui), (6, .qui), (7, .qui), (8, .qui), (9, .chn), (10, .qui)]) (T := 58) (e := 44) (m := 1) (ik := .i64) (ix := (k : Int)) (sh := (Shape.int .u64)) (xs := u.toList) (a := (some ⟨pb, 0, none⟩)) (len := z) (cap := q) (by as_aux_lemma => kernel_rfl) (by as_aux_lemma => kernel_rfl) rfl H k (by omega) hx486 hn487 ?_
            intro b488 es489 ha490 hcell491 hr492
            cases ha490
            rw [tl_at (d := u) (k := k) _] at hr492
            have hb493 := Shape.u64_bd hr492
            obtain ⟨rfl, -⟩ := hr492
            refine qL .qui 109 [(4, .qui), (5, .qui), (6, .qui), (7, .qui), (8, .qui), (9, .chn), (10, .qui)] 44 pb (k * 1) 0 (.int .u64 (u[k]!)) hcell491 ?_
            refine qP 2 [(6, .qui), (7, .qui), (8, .qui), (9, .chn), (10, .qui)] [(0, .slice (some ⟨pb, 0, none⟩) z q), (1, .I a), (2, .I b), (7, .I i2), (8, .I t), (10, .I k), (109, .int .u64 (u[k]!)), (110, .slice (some ⟨pb, 0, none⟩) z q), (111, .I k)] ?_
            refine qI .qui 112 [(7, .qui), (8, .qui), (9, .chn), (10, .qui)] ((k : Int) - 1) ?_
            have hn495 : z = u.toList.length := by rw [tl_len (d := u)]; omega
            have hx494 : (k - 1) < u.toList.length := by rw [tl_len (d := u)]; omega
            refine RW.indexW (κ := .qui) (d := some 113) (r := [(8, .qui), (9, .chn), (10, .qui)]) (T := 58) (e := 44) (m := 1) (ik := .i64) (ix := (k : Int) - 1) (sh := (Shape.int .u64)) (xs := u.toList) (a := (some ⟨pb, 0, none⟩)) (len := z) (cap := q) (by as_aux_lemma => kernel_rfl) (by as_aux_lemma => kernel_rfl) rfl H (k - 1) (by omega) hx494 hn495 ?_
            intro b496 es497 ha498 hcell499 hr500
            cases ha498
            rw [tl_at (d := u) (k := (k - 1)) _] at hr500
            have hb501 := Shape.u64_bd hr500
            obtain ⟨rfl, -⟩ := hr500
            refine qL .qui 114 [(9, .chn), (10, .qui)] 44 pb ((k - 1) * 1) 0 (.int .u64 (u[(k - 1)]!)) hcell499 ?_
            refine qK .chn (some 115) [(10, .qui)] 55 #[.int .u64 (u[k]!), .int .u64 (u[(k - 1)]!)] (uless_spec (S := fun _ => True) (u[k]!) (u[(k - 1)]!)) ?_
            rintro _ w502 hE503 rfl
            have H := H.ext hE503
            refine qF 1 [(0, .slice (some ⟨pb, 0, none⟩) z q), (1, .I a), (2, .I b), (7, .I i2), (8, .I t), (10, .I k), (116, .bool (!(decide (u[k]! < u[(k - 1)]!))))] ?_
            refine qC (!(decide (u[k]! < u[(k - 1)]!))) (fun h504 => ?_) (fun h504 => ?_)
            ·
             replace h504 : (decide (u[k]! < u[(k - 1)]!)) = false := by revert h504; cases (decide (u[k]! < u[(k - 1)]!)) <;> simp
             replace h504 := of_decide_eq_false h504
             have hq9 : u = (fixUp ltInt b i2 g) := by rw [← hinv3.1]; exact (su_stop (by omega) (by simpa using h504)).symm
             have hqs : (fixUp ltInt b i2 g).size = z := by rw [← hq9]; first | exact hinv3.2.1 | exact hinv2.2.1 | exact hgs
             rw [hq9] at H
             refine qR 2 [.c [2, 0, 1, 0, 0, 2], .l [2, 0, 1, 0, 0], .b 0, .c [3]] [(0, .slice (some ⟨pb, 0, none⟩) z q), (1, .I a), (2, .I b), (7, .I i2), (8, .I t)] ?_
             refine qG (sq 0 3) ?_
             refine qP 1 (sq 1 3) [(0, .slice (some ⟨pb, 0, none⟩) z q), (1, .I a), (2, .I b), (7, .I i2), (8, .I t), (15, .I t)] ?_
             refine qI .seq 16 (sq 2 3) ((t : Int) + 1) ?_
             refine qF 1 [(0, .slice (some ⟨pb, 0, none⟩) z q), (1, .I a), (2, .I b), (7, .I i2), (8, .I ((t : Int) + 1))] ?_
             exact WK.back (hback1 (t + 1, i2, (fixUp ltInt b i2 g)) _ ⟨H, by rw [← hinv0.1, hs5, hgo9, ← hg]; congr 1; omega, hqs, by omega, by omega, by omega⟩ (by first | omega | (simp only []; omega))) (by as_aux_lemma => kernel_rfl)
            ·
             replace h504 : (decide (u[k]! < u[(k - 1)]!)) = true := by revert h504; cases (decide (u[k]! < u[(k - 1)]!)) <;> simp
             replace h504 := of_decide_eq_true h504
             have hl9 : u[k]! < u[k - 1]! := by simpa using h504
             refine qR 1 [.c [2, 0, 1, 0, 0, 1, 0, 0, 6, 0, 1, 0, 0, 1, 0, 0, 1], .b 7, .c [2, 0, 1, 0, 0, 1, 0, 0, 6, 0, 1, 0, 0, 2], .l [2, 0, 1, 0, 0, 1, 0, 0, 6, 0, 1, 0, 0], .b 6, .b 1, .c [2, 0, 1, 0, 0, 2], .l [2, 0, 1, 0, 0], .b 0, .c [3]] [(0, .slice (some ⟨pb, 0, none⟩) z q), (1, .I a), (2, .I b), (7, .I i2), (8, .I t), (10, .I k)] ?_
             refine WK.drawH1 [pb] (.node (qs [0, 1, 2, 3, 4, 5, 6, 7, 8, 10, 11, 12]) (.cons 9 (.leaf [(13, .seq), (14, .qui), (15, .seq), (16, .qui), (17, .seq)]) (.cons 13 (.leaf [(9, .seq), (14, .qui), (15, .seq), (16, .qui), (17, .seq)]) .nil))) Try_mixed (by as_aux_lemma => kernel_rfl) (by as_aux_lemma => kernel_rfl) ?_
             intro w505 hw506
             have H := H.draw
             rw [← hw506] at H
             clear hw506
             have hS := Chg.refl w505 [pb]
             refine RG.node' (qs [0, 1, 2, 3, 4, 5, 6, 7, 8, 10, 11, 12]) (by as_aux_lemma => kernel_rfl) ?_
             refine qHP hS 4 (qs [4, 5, 6, 7, 8, 10, 11, 12]) [(0, .slice (some ⟨pb, 0, none⟩) z q), (1, .I a), (2, .I b), (7, .I i2), (8, .I t), (10, .I k), (117, .slice (some ⟨pb, 0, none⟩) z q), (118, .I k), (119, .slice (some ⟨pb, 0, none⟩) z q), (120, .I k)] ?_
             refine RH.pv (d := some 121) (r := (qs [5, 6, 7, 8, 10, 11, 12])) (v := .I (IntKind.i64.wrap ((k : Int) - 1))) (v' := .I ((k : Int) - 1)) (by as_aux_lemma => kernel_rfl) hS (wr_i64 (by omega)) ?_
             refine qHP hS 2 (qs [7, 8, 10, 11, 12]) [(0, .slice (some ⟨pb, 0, none⟩) z q), (1, .I a), (2, .I b), (7, .I i2), (8, .I t), (10, .I k), (117, .slice (some ⟨pb, 0, none⟩) z q), (118, .I k), (119, .slice (some ⟨pb, 0, none⟩) z q), (121, .I ((k : Int) - 1)), (122, .slice (some ⟨pb, 0, none⟩) z q), (123, .I k)] ?_
             refine RH.pv (d := some 124) (r := (qs [8, 10, 11, 12])) (v := .I (IntKind.i64.wrap ((k : Int) - 1))) (v' := .I ((k : Int) - 1)) (by as_aux_lemma => kernel_rfl) hS (wr_i64 (by omega)) ?_
             have hn508 : z = u.toList.length := by rw [tl_len (d := u)]; omega
             have hx507 : (k - 1) < u.toList.length := by rw [tl_len (d := u)]; omega
             refine RH.indexW (d := some 125) (r := (qs [10, 11, 12])) (T := 58) (e := 44) (m := 1) (ik := .i64) (ix := (k : Int) - 1) (sh := (Shape.int .u64)) (xs := u.toList) (a := (some ⟨pb, 0, none⟩)) (len := z) (cap := q) (by as_aux_lemma => kernel_rfl) hS (by as_aux_lemma => kernel_rfl) rfl H (k - 1) (by omega) hx507 hn508 ?_
             intro b509 es510 ha511 hcell512 hr513
             cases ha511
             rw [tl_at (d := u) (k := (k - 1)) _] at hr513
             have hb514 := Shape.u64_bd hr513
             obtain ⟨rfl, -⟩ := hr513
             refine qHP hS 2 [(12, .qui)] [(0, .slice (some ⟨pb, 0, none⟩) z q), (1, .I a), (2, .I b), (7, .I i2), (8, .I t), (10, .I k), (117, .slice (some ⟨pb, 0, none⟩) z q), (118, .I k), (119, .slice (some ⟨pb, 0, none⟩) z q), (121, .I ((k : Int) - 1)), (125, .pointer (some ⟨pb, (k - 1) * 1, none⟩)), (127, .slice (some ⟨pb, 0, none⟩) z q), (128, .I k)] ?_
             have hn516 : z = u.toList.length := by rw [tl_len (d := u)]; omega
             have hx515 : k < u.toList.length := by rw [tl_len (d := u)]; omega
             refine RH.indexW (d := some 129) (r := []) (T := 58) (e := 44) (m := 1) (ik := .i64) (ix := (k : Int)) (sh := (Shape.int .u64)) (xs := u.toList) (a := (some ⟨pb, 0, none⟩)) (len := z) (cap := q) (by as_aux_lemma => kernel_rfl) hS (by as_aux_lemma => kernel_rfl) rfl H k (by omega) hx515 hn516 ?_
             intro b517 es518 ha519 hcell520 hr521
             cases ha519
             rw [tl_at (d := u) (k := k) _] at hr521
             have hb522 := Shape.u64_bd hr521
             obtain ⟨rfl, -⟩ := hr521
             refine RH.finB hS 0 [0, 1, 2, 7, 8, 10, 117, 118, 119, 121, 125, 129] [(0, .slice (some ⟨pb, 0, none⟩) z q), (1, .I a), (2, .I b), (7, .I i2), (8, .I t), (10, .I k), (117, .slice (some ⟨pb, 0, none⟩) z q), (118, .I k), (119, .slice (some ⟨pb, 0, none⟩) z q), (121, .I ((k : Int) - 1)), (125, .pointer (some ⟨pb, (k - 1) * 1, none⟩)), (129, .pointer (some ⟨pb, k * 1, none⟩))] (by as_aux_lemma => kernel_rfl) ?_
             refine (RGB.cons' ?_ (RGB.cons' ?_ RGB.nil'))
             ·
              refine RG.leaf' [(9, .seq), (13, .seq), (14, .qui), (15, .seq), (16, .qui), (17, .seq)] (by as_aux_lemma => kernel_rfl) ?_
              have Hr := H
              refine RH.chn hS ?_
              refine qL .chn 126 [] 44 pb ((k - 1) * 1) 0 (.int .u64 (u[(k - 1)]!)) hcell512 ?_
              intro hS
              have Hr := H
              refine RH.chn hS ?_
              refine qL .chn 130 [] 44 pb (k * 1) 0 (.int .u64 (u[k]!)) hcell520 ?_
              intro hS
              have hn526 : z = u.toList.length := by rw [tl_len (d := u)]; omega
              have hx525 : k < u.toList.length := by rw [tl_len (d := u)]; omega
              refine RH.indexW (d := some 131) (r := [(15, .seq), (16, .qui), (17, .seq)]) (T := 58) (e := 44) (m := 1) (ik := .i64) (ix := (k : Int)) (sh := (Shape.int .u64)) (xs := u.toList) (a := (some ⟨pb, 0, none⟩)) (len := z) (cap := q) (by as_aux_lemma => kernel_rfl) hS (by as_aux_lemma => kernel_rfl) rfl H k (by omega) hx525 hn526 ?_
              intro b527 es528 ha529 hcell530 hr531
              cases ha529
              rw [tl_at (d := u) (k := k) _] at hr531
              have hb532 := Shape.u64_bd hr531
              obtain ⟨rfl, -⟩ := hr531
              have Hr := H
              refine RH.sto ?_
              refine RW.storeWC (d := none) (r := []) (e := 44) (m := 1) (b := pb) (k := k) (v := .int .u64 (u[(k - 1)]!)) (by as_aux_lemma => kernel_rfl) rfl (by as_aux_lemma => kernel_rfl) H rfl hx525 hn526 (u[(k - 1)]!) u64a ?_
              intro w534 hch533 H
              have hS535 := hS.sto hch533 (.inr (by simp))
              refine ⟨hS535, ?_⟩
              have hS := hS535
              have hn537 : z = (u.toList.set k (u[(k - 1)]!)).length := by rw [List.length_set, tl_len (d := u)]; omega
              have hx536 : (k - 1) < (u.toList.set k (u[(k - 1)]!)).length := by rw [List.length_set, tl_len (d := u)]; omega
              refine RH.indexW (d := some 132) (r := [(17, .seq)]) (T := 58) (e := 44) (m := 1) (ik := .i64) (ix := (k : Int) - 1) (sh := (Shape.int .u64)) (xs := u.toList.set k (u[(k - 1)]!)) (a := (some ⟨pb, 0, none⟩)) (len := z) (cap := q) (by as_aux_lemma => kernel_rfl) hS (by as_aux_lemma => kernel_rfl) rfl H (k - 1) (by omega) hx536 hn537 ?_
              intro b538 es539 ha540 hcell541 hr542
              cases ha540
              have hb543 := Shape.u64_bd hr542
              obtain ⟨rfl, -⟩ := hr542
              refine RH.sto ?_
              refine RW.storeWC (d := none) (r := []) (e := 44) (m := 1) (b := pb) (k := (k - 1)) (v := .int .u64 (u[k]!)) (by as_aux_lemma => kernel_rfl) rfl (by as_aux_lemma => kernel_rfl) H rfl hx536 hn537 (u[k]!) u64a ?_
              intro w545 hch544 H
              have H := H.reW (ys := (swp u k (k - 1)).toList) (swp_tl)
              have hS546 := hS.sto hch544 (.inr (by simp))
              refine ⟨hS546, ?_⟩
              have hS := hS546
              refine RH.fin hS 0 [0, 1, 2, 7, 8, 10] [(0, .slice (some ⟨pb, 0, none⟩) z q), (1, .I a), (2, .I b), (7, .I i2), (8, .I t), (10, .I k)] (by as_aux_lemma => kernel_rfl) ?_
              refine qR 1 [.c [2, 0, 1, 0, 0, 1, 0, 0, 6, 0, 1, 0, 0, 2], .l [2, 0, 1, 0, 0, 1, 0, 0, 6, 0, 1, 0, 0], .b 6, .b 1, .c [2, 0, 1, 0, 0, 2], .l [2, 0, 1, 0, 0], .b 0, .c [3]] [(0, .slice (some ⟨pb, 0, none⟩) z q), (1, .I a), (2, .I b), (7, .I i2), (8, .I t), (10, .I k)] ?_
              refine qG (sq 0 3) ?_
              refine qP 1 (sq 1 3) [(0, .slice (some ⟨pb, 0, none⟩) z q), (1, .I a), (2, .I b), (7, .I i2), (8, .I t), (10, .I k), (104, .I k)] ?_
              refine qI .seq 105 (sq 2 3) ((k : Int) + 1) ?_
              refine qF 1 [(0, .slice (some ⟨pb, 0, none⟩) z q), (1, .I a), (2, .I b), (7, .I i2), (8, .I t), (10, .I ((k : Int) + 1))] ?_
              exact WK.back (hback482 (k + 1, (swp u k (k - 1))) _ ⟨H, by rw [← hinv3.1]; exact su_go (by omega) hl9, by rw [swp_size]; exact hinv3.2.1, by omega⟩ (by first | omega | (simp only []; omega))) (by as_aux_lemma => kernel_rfl)
             ·
              refine RG.leaf' [(13, .seq), (9, .seq), (14, .qui), (15, .seq), (16, .qui), (17, .seq)] (by as_aux_lemma => kernel_rfl) ?_
              have Hr := H
              refine RH.chn hS ?_
              refine qL .chn 130 [] 44 pb (k * 1) 0 (.int .u64 (u[k]!)) hcell520 ?_
              intro hS
              have Hr := H
              refine RH.chn hS ?_
              refine qL .chn 126 [] 44 pb ((k - 1) * 1) 0 (.int .u64 (u[(k - 1)]!)) hcell512 ?_
              intro hS
              have hn550 : z = u.toList.length := by rw [tl_len (d := u)]; omega
              have hx549 : k < u.toList.length := by rw [tl_len (d := u)]; omega
              refine RH.indexW (d := some 131) (r := [(15, .seq), (16, .qui), (17, .seq)]) (T := 58) (e := 44) (m := 1) (ik := .i64) (ix := (k : Int)) (sh := (Shape.int .u64)) (xs := u.toList) (a := (some ⟨pb, 0, none⟩)) (len := z) (cap := q) (by as_aux_lemma => kernel_rfl) hS (by as_aux_lemma => kernel_rfl) rfl H k (by omega) hx549 hn550 ?_
              intro b551 es552 ha553 hcell554 hr555
              cases ha553
              rw [tl_at (d := u) (k := k) _] at hr555
              have hb556 := Shape.u64_bd hr555
              obtain ⟨rfl, -⟩ := hr555
              have Hr := H
              refine RH.sto ?_
              refine RW.storeWC (d := none) (r := []) (e := 44) (m := 1) (b := pb) (k := k) (v := .int .u64 (u[(k - 1)]!)) (by as_aux_lemma => kernel_rfl) rfl (by as_aux_lemma => kernel_rfl) H rfl hx549 hn550 (u[(k - 1)]!) u64a ?_
              intro w558 hch557 H
              have hS559 := hS.sto hch557 (.inr (by simp))
              refine ⟨hS559, ?_⟩
              have hS := hS559
              have hn561 : z = (u.toList.set k (u[(k - 1)]!)).length := by rw [List.length_set, tl_len (d := u)]; omega
              have hx560 : (k - 1) < (u.toList.set k (u[(k - 1)]!)).length := by rw [List.length_set, tl_len (d := u)]; omega
              refine RH.indexW (d := some 132) (r := [(17, .seq)]) (T := 58) (e := 44) (m := 1) (ik := .i64) (ix := (k : Int) - 1) (sh := (Shape.int .u64)) (xs := u.toList.set k (u[(k - 1)]!)) (a := (some ⟨pb, 0, none⟩)) (len := z) (cap := q) (by as_aux_lemma => kernel_rfl) hS (by as_aux_lemma => kernel_rfl) rfl H (k - 1) (by omega) hx560 hn561 ?_
              intro b562 es563 ha564 hcell565 hr566
              cases ha564
              have hb567 := Shape.u64_bd hr566
              obtain ⟨rfl, -⟩ := hr566
              refine RH.sto ?_
              refine RW.storeWC (d := none) (r := []) (e := 44) (m := 1) (b := pb) (k := (k - 1)) (v := .int .u64 (u[k]!)) (by as_aux_lemma => kernel_rfl) rfl (by as_aux_lemma => kernel_rfl) H rfl hx560 hn561 (u[k]!) u64a ?_
              intro w569 hch568 H
              have H := H.reW (ys := (swp u k (k - 1)).toList) (swp_tl)
              have hS570 := hS.sto hch568 (.inr (by simp))
              refine ⟨hS570, ?_⟩
              have hS := hS570
              refine RH.fin hS 0 [0, 1, 2, 7, 8, 10] [(0, .slice (some ⟨pb, 0, none⟩) z q), (1, .I a), (2, .I b), (7, .I i2), (8, .I t), (10, .I k)] (by as_aux_lemma => kernel_rfl) ?_
              refine qR 1 [.c [2, 0, 1, 0, 0, 1, 0, 0, 6, 0, 1, 0, 0, 2], .l [2, 0, 1, 0, 0, 1, 0, 0, 6, 0, 1, 0, 0], .b 6, .b 1, .c [2, 0, 1, 0, 0, 2], .l [2, 0, 1, 0, 0], .b 0, .c [3]] [(0, .slice (some ⟨pb, 0, none⟩) z q), (1, .I a), (2, .I b), (7, .I i2), (8, .I t), (10, .I k)] ?_
              refine qG (sq 0 3) ?_
              refine qP 1 (sq 1 3) [(0, .slice (some ⟨pb, 0, none⟩) z q), (1, .I a), (2, .I b), (7, .I i2), (8, .I t), (10, .I k), (104, .I k)] ?_
              refine qI .seq 105 (sq 2 3) ((k : Int) + 1) ?_
              refine qF 1 [(0, .slice (some ⟨pb, 0, none⟩) z q), (1, .I a), (2, .I b), (7, .I i2), (8, .I t), (10, .I ((k : Int) + 1))] ?_
              exact WK.back (hback482 (k + 1, (swp u k (k - 1))) _ ⟨H, by rw [← hinv3.1]; exact su_go (by omega) hl9, by rw [swp_size]; exact hinv3.2.1, by omega⟩ (by first | omega | (simp only []; omega))) (by as_aux_lemma => kernel_rfl)
           ·
            have hq9 : u = (fixUp ltInt b i2 g) := by rw [← hinv3.1]; exact (su_end (by omega)).symm
            have hqs : (fixUp ltInt b i2 g).size = z := by rw [← hq9]; first | exact hinv3.2.1 | exact hinv2.2.1 | exact hgs
            rw [hq9] at H
            refine qR 2 [.c [2, 0, 1, 0, 0, 2], .l [2, 0, 1, 0, 0], .b 0, .c [3]] [(0, .slice (some ⟨pb, 0, none⟩) z q), (1, .I a), (2, .I b), (7, .I i2), (8, .I t)] ?_
            refine qG (sq 0 3) ?_
            refine qP 1 (sq 1 3) [(0, .slice (some ⟨pb, 0, none⟩) z q), (1, .I a), (2, .I b), (7, .I i2), (8, .I t), (15, .I t)] ?_
            refine qI .seq 16 (sq 2 3) ((t : Int) + 1) ?_
            refine qF 1 [(0, .slice (some ⟨pb, 0, none⟩) z q), (1, .I a), (2, .I b), (7, .I i2), (8, .I ((t : Int) + 1))] ?_
            exact WK.back (hback1 (t + 1, i2, (fixUp ltInt b i2 g)) _ ⟨H, by rw [← hinv0.1, hs5, hgo9, ← hg]; congr 1; omega, hqs, by omega, by omega, by omega⟩ (by first | omega | (simp only []; omega))) (by as_aux_lemma => kernel_rfl)
          ·
           have hq9 : g = (fixUp ltInt b i2 g) := (if_neg (by omega)).symm
           have hqs : (fixUp ltInt b i2 g).size = z := by rw [← hq9]; first | exact hinv3.2.1 | exact hinv2.2.1 | exact hgs
           rw [hq9] at H
           refine qR 2 [.c [2, 0, 1, 0, 0, 2], .l [2, 0, 1, 0, 0], .b 0, .c [3]] [(0, .slice (some ⟨pb, 0, none⟩) z q), (1, .I a), (2, .I b), (7, .I i2), (8, .I t)] ?_
           refine qG (sq 0 3) ?_
           refine qP 1 (sq 1 3) [(0, .slice (some ⟨pb, 0, none⟩) z q), (1, .I a), (2, .I b), (7, .I i2), (8, .I t), (15, .I t)] ?_
           refine qI .seq 16 (sq 2 3) ((t : Int) + 1) ?_
           refine qF 1 [(0, .slice (some ⟨pb, 0, none⟩) z q), (1, .I a), (2, .I b), (7, .I i2), (8, .I ((t : Int) + 1))] ?_
           exact WK.back (hback1 (t + 1, i2, (fixUp ltInt b i2 g)) _ ⟨H, by rw [← hinv0.1, hs5, hgo9, ← hg]; congr 1; omega, hqs, by omega, by omega, by omega⟩ (by first | omega | (simp only []; omega))) (by as_aux_lemma => kernel_rfl)
         ·
          replace h480 : (decide (f[j]! < f[(j - 1)]!)) = true := by revert h480; cases (decide (f[j]! < f[(j - 1)]!)) <;> simp
          replace h480 := of_decide_eq_true h480
          have hl9 : f[j]! < f[j - 1]! := by simpa using h480
          refine qR 1 [.c [2, 0, 1, 0, 0, 1, 0, 0, 4, 0, 1, 0, 1, 0, 0, 1, 0, 0, 1], .b 5, .c [2, 0, 1, 0, 0, 1, 0, 0, 4, 0, 1, 0, 1, 0, 0, 2], .l [2, 0, 1, 0, 0, 1, 0, 0, 4, 0, 1, 0, 1, 0, 0], .b 4, .c [2, 0, 1, 0, 0, 1, 0, 0, 5], .b 1, .c [2, 0, 1, 0, 0, 2], .l [2, 0, 1, 0, 0], .b 0, .c [3]] [(0, .slice (some ⟨pb, 0, none⟩) z q), (1, .I a), (2, .I b), (7, .I i2), (8, .I t), (9, .I j)] ?_
          refine WK.drawH1 [pb] (.node (qs [0, 1, 2, 3, 4, 5, 6, 7, 8, 10, 11, 12]) (.cons 9 (.leaf [(13, .seq), (14, .qui), (15, .seq), (16, .qui), (17, .seq)]) (.cons 13 (.leaf [(9, .seq), (14, .qui), (15, .seq), (16, .qui), (17, .seq)]) .nil))) Try_mixed (by as_aux_lemma => kernel_rfl) (by as_aux_lemma => kernel_rfl) ?_
          intro w571 hw572
          have H := H.draw
          rw [← hw572] at H
          clear hw572
          have hS := Chg.refl w571 [pb]
          refine RG.node' (qs [0, 1, 2, 3, 4, 5, 6, 7, 8, 10, 11, 12]) (by as_aux_lemma => kernel_rfl) ?_
          refine qHP hS 4 (qs [4, 5, 6, 7, 8, 10, 11, 12]) [(0, .slice (some ⟨pb, 0, none⟩) z q), (1, .I a), (2, .I b), (7, .I i2), (8, .I t), (9, .I j), (79, .slice (some ⟨pb, 0, none⟩) z q), (80, .I j), (81, .slice (some ⟨pb, 0, none⟩) z q), (82, .I j)] ?_
          refine RH.pv (d := some 83) (r := (qs [5, 6, 7, 8, 10, 11, 12])) (v := .I (IntKind.i64.wrap ((j : Int) - 1))) (v' := .I ((j : Int) - 1)) (by as_aux_lemma => kernel_rfl) hS (wr_i64 (by omega)) ?_
          refine qHP hS 2 (qs [7, 8, 10, 11, 12]) [(0, .slice (some ⟨pb, 0, none⟩) z q), (1, .I a), (2, .I b), (7, .I i2), (8, .I t), (9, .I j), (79, .slice (some ⟨pb, 0, none⟩) z q), (80, .I j), (81, .slice (some ⟨pb, 0, none⟩) z q), (83, .I ((j : Int) - 1)), (84, .slice (some ⟨pb, 0, none⟩) z q), (85, .I j)] ?_
          refine RH.pv (d := some 86) (r := (qs [8, 10, 11, 12])) (v := .I (IntKind.i64.wrap ((j : Int) - 1))) (v' := .I ((j : Int) - 1)) (by as_aux_lemma => kernel_rfl) hS (wr_i64 (by omega)) ?_
          have hn574 : z = f.toList.length := by rw [tl_len (d := f)]; omega
          have hx573 : (j - 1) < f.toList.length := by rw [tl_len (d := f)]; omega
          refine RH.indexW (d := some 87) (r := (qs [10, 11, 12])) (T := 58) (e := 44) (m := 1) (ik := .i64) (ix := (j : Int) - 1) (sh := (Shape.int .u64)) (xs := f.toList) (a := (some ⟨pb, 0, none⟩)) (len := z) (cap := q) (by as_aux_lemma => kernel_rfl) hS (by as_aux_lemma => kernel_rfl) rfl H (j - 1) (by omega) hx573 hn574 ?_
          intro b575 es576 ha577 hcell578 hr579
          cases ha577
          rw [tl_at (d := f) (k := (j - 1)) _] at hr579
          have hb580 := Shape.u64_bd hr579
          obtain ⟨rfl, -⟩ := hr579
          refine qHP hS 2 [(12, .qui)] [(0, .slice (some ⟨pb, 0, none⟩) z q), (1, .I a), (2, .I b), (7, .I i2), (8, .I t), (9, .I j), (79, .slice (some ⟨pb, 0, none⟩) z q), (80, .I j), (81, .slice (some ⟨pb, 0, none⟩) z q), (83, .I ((j : Int) - 1)), (87, .pointer (some ⟨pb, (j - 1) * 1, none⟩)), (89, .slice (some ⟨pb, 0, none⟩) z q), (90, .I j)] ?_
          have hn582 : z = f.toList.length := by rw [tl_len (d := f)]; omega
          have hx581 : j < f.toList.length := by rw [tl_len (d := f)]; omega
          refine RH.indexW (d := some 91) (r := []) (T := 58) (e := 44) (m := 1) (ik := .i64) (ix := (j : Int)) (sh := (Shape.int .u64)) (xs := f.toList) (a := (some ⟨pb, 0, none⟩)) (len := z) (cap := q) (by as_aux_lemma => kernel_rfl) hS (by as_aux_lemma => kernel_rfl) rfl H j (by omega) hx581 hn582 ?_
          intro b583 es584 ha585 hcell586 hr587
          cases ha585
          rw [tl_at (d := f) (k := j) _] at hr587
          have hb588 := Shape.u64_bd hr587
          obtain ⟨rfl, -⟩ := hr587
          refine RH.finB hS 0 [0, 1, 2, 7, 8, 9, 79, 80, 81, 83, 87, 91] [(0, .slice (some ⟨pb, 0, none⟩) z q), (1, .I a), (2, .I b), (7, .I i2), (8, .I t), (9, .I j), (79, .slice (some ⟨pb, 0, none⟩) z q), (80, .I j), (81, .slice (some ⟨pb, 0, none⟩) z q), (83, .I ((j : Int) - 1)), (87, .pointer (some ⟨pb, (j - 1) * 1, none⟩)), (91, .pointer (some ⟨pb, j * 1, none⟩))] (by as_aux_lemma => kernel_rfl) ?_
          refine (RGB.cons' ?_ (RGB.cons' ?_ RGB.nil'))
          ·
           refine RG.leaf' [(9, .seq), (13, .seq), (14, .qui), (15, .seq), (16, .qui), (17, .seq)] (by as_aux_lemma => kernel_rfl) ?_
           have Hr := H
           refine RH.chn hS ?_
           refine qL .chn 88 [] 44 pb ((j - 1) * 1) 0 (.int .u64 (f[(j - 1)]!)) hcell578 ?_
           intro hS
           have Hr := H
           refine RH.chn hS ?_
           refine qL .chn 92 [] 44 pb (j * 1) 0 (.int .u64 (f[j]!)) hcell586 ?_
           intro hS
           have hn592 : z = f.toList.length := by rw [tl_len (d := f)]; omega
           have hx591 : j < f.toList.length := by rw [tl_len (d := f)]; omega
           refine RH.indexW (d := some 93) (r := [(15, .seq), (16, .qui), (17, .seq)]) (T := 58) (e := 44) (m := 1) (ik := .i64) (ix := (j : Int)) (sh := (Shape.int .u64)) (xs := f.toList) (a := (some ⟨pb, 0, none⟩)) (len := z) (cap := q) (by as_aux_lemma => kernel_rfl) hS (by as_aux_lemma => kernel_rfl) rfl H j (by omega) hx591 hn592 ?_
           intro b593 es594 ha595 hcell596 hr597
           cases ha595
           rw [tl_at (d := f) (k := j) _] at hr597
           have hb598 := Shape.u64_bd hr597
           obtain ⟨rfl, -⟩ := hr597
           have Hr := H
           refine RH.sto ?_
           refine RW.storeWC (d := none) (r := []) (e := 44) (m := 1) (b := pb) (k := j) (v := .int .u64 (f[(j - 1)]!)) (by as_aux_lemma => kernel_rfl) rfl (by as_aux_lemma => kernel_rfl) H rfl hx591 hn592 (f[(j - 1)]!) u64a ?_
           intro w600 hch599 H
           have hS601 := hS.sto hch599 (.inr (by simp))
           refine ⟨hS601, ?_⟩
           have hS := hS601
           have hn603 : z = (f.toList.set j (f[(j - 1)]!)).length := by rw [List.length_set, tl_len (d := f)]; omega
           have hx602 : (j - 1) < (f.toList.set j (f[(j - 1)]!)).length := by rw [List.length_set, tl_len (d := f)]; omega
           refine RH.indexW (d := some 94) (r := [(17, .seq)]) (T := 58) (e := 44) (m := 1) (ik := .i64) (ix := (j : Int) - 1) (sh := (Shape.int .u64)) (xs := f.toList.set j (f[(j - 1)]!)) (a := (some ⟨pb, 0, none⟩)) (len := z) (cap := q) (by as_aux_lemma => kernel_rfl) hS (by as_aux_lemma => kernel_rfl) rfl H (j - 1) (by omega) hx602 hn603 ?_
           intro b604 es605 ha606 hcell607 hr608
           cases ha606
           have hb609 := Shape.u64_bd hr608
           obtain ⟨rfl, -⟩ := hr608
           refine RH.sto ?_
           refine RW.storeWC (d := none) (r := []) (e := 44) (m := 1) (b := pb) (k := (j - 1)) (v := .int .u64 (f[j]!)) (by as_aux_lemma => kernel_rfl) rfl (by as_aux_lemma => kernel_rfl) H rfl hx602 hn603 (f[j]!) u64a ?_
           intro w611 hch610 H
           have H := H.reW (ys := (swp f j (j - 1)).toList) (swp_tl)
           have hS612 := hS.sto hch610 (.inr (by simp))
           refine ⟨hS612, ?_⟩
           have hS := hS612
           refine RH.fin hS 0 [0, 1, 2, 7, 8, 9] [(0, .slice (some ⟨pb, 0, none⟩) z q), (1, .I a), (2, .I b), (7, .I i2), (8, .I t), (9, .I j)] (by as_aux_lemma => kernel_rfl) ?_
           refine qR 1 [.c [2, 0, 1, 0, 0, 1, 0, 0, 4, 0, 1, 0, 1, 0, 0, 2], .l [2, 0, 1, 0, 0, 1, 0, 0, 4, 0, 1, 0, 1, 0, 0], .b 4, .c [2, 0, 1, 0, 0, 1, 0, 0, 5], .b 1, .c [2, 0, 1, 0, 0, 2], .l [2, 0, 1, 0, 0], .b 0, .c [3]] [(0, .slice (some ⟨pb, 0, none⟩) z q), (1, .I a), (2, .I b), (7, .I i2), (8, .I t), (9, .I j)] ?_
           refine qG (sq 0 3) ?_
           refine qP 1 (sq 1 3) [(0, .slice (some ⟨pb, 0, none⟩) z q), (1, .I a), (2, .I b), (7, .I i2), (8, .I t), (9, .I j), (66, .I j)] ?_
           refine qI .seq 67 (sq 2 3) ((j : Int) - 1) ?_
           refine qF 1 [(0, .slice (some ⟨pb, 0, none⟩) z q), (1, .I a), (2, .I b), (7, .I i2), (8, .I t), (9, .I ((j : Int) - 1))] ?_
           rw [show (j : Int) - 1 = ((j - 1 : Nat) : Int) by omega]
           exact WK.back (hback458 ((j - 1), (swp f j (j - 1))) _ ⟨H, by rw [← hinv2.1]; exact sdn_go (by omega) hl9, by rw [swp_size]; exact hinv2.2.1, by omega⟩ (by first | omega | (simp only []; omega))) (by as_aux_lemma => kernel_rfl)
          ·
           refine RG.leaf' [(13, .seq), (9, .seq), (14, .qui), (15, .seq), (16, .qui), (17, .seq)] (by as_aux_lemma => kernel_rfl) ?_
           have Hr := H
           refine RH.chn hS ?_
           refine qL .chn 92 [] 44 pb (j * 1) 0 (.int .u64 (f[j]!)) hcell586 ?_
           intro hS
           have Hr := H
           refine RH.chn hS ?_
           refine qL .chn 88 [] 44 pb ((j - 1) * 1) 0 (.int .u64 (f[(j - 1)]!)) hcell578 ?_
           intro hS
           have hn616 : z = f.toList.length := by rw [tl_len (d := f)]; omega
           have hx615 : j < f.toList.length := by rw [tl_len (d := f)]; omega
           refine RH.indexW (d := some 93) (r := [(15, .seq), (16, .qui), (17, .seq)]) (T := 58) (e := 44) (m := 1) (ik := .i64) (ix := (j : Int)) (sh := (Shape.int .u64)) (xs := f.toList) (a := (some ⟨pb, 0, none⟩)) (len := z) (cap := q) (by as_aux_lemma => kernel_rfl) hS (by as_aux_lemma => kernel_rfl) rfl H j (by omega) hx615 hn616 ?_
           intro b617 es618 ha619 hcell620 hr621
           cases ha619
           rw [tl_at (d := f) (k := j) _] at hr621
           have hb622 := Shape.u64_bd hr621
           obtain ⟨rfl, -⟩ := hr621
           have Hr := H
           refine RH.sto ?_
           refine RW.storeWC (d := none) (r := []) (e := 44) (m := 1) (b := pb) (k := j) (v := .int .u64 (f[(j - 1)]!)) (by as_aux_lemma => kernel_rfl) rfl (by as_aux_lemma => kernel_rfl) H rfl hx615 hn616 (f[(j - 1)]!) u64a ?_
           intro w624 hch623 H
           have hS625 := hS.sto hch623 (.inr (by simp))
           refine ⟨hS625, ?_⟩
           have hS := hS625
           have hn627 : z = (f.toList.set j (f[(j - 1)]!)).length := by rw [List.length_set, tl_len (d := f)]; omega
           have hx626 : (j - 1) < (f.toList.set j (f[(j - 1)]!)).length := by rw [List.length_set, tl_len (d := f)]; omega
           refine RH.indexW (d := some 94) (r := [(17, .seq)]) (T := 58) (e := 44) (m := 1) (ik := .i64) (ix := (j : Int) - 1) (sh := (Shape.int .u64)) (xs := f.toList.set j (f[(j - 1)]!)) (a := (some ⟨pb, 0, none⟩)) (len := z) (cap := q) (by as_aux_lemma => kernel_rfl) hS (by as_aux_lemma => kernel_rfl) rfl H (j - 1) (by omega) hx626 hn627 ?_
           intro b628 es629 ha630 hcell631 hr632
           cases ha630
           have hb633 := Shape.u64_bd hr632
           obtain ⟨rfl, -⟩ := hr632
           refine RH.sto ?_
           refine RW.storeWC (d := none) (r := []) (e := 44) (m := 1) (b := pb) (k := (j - 1)) (v := .int .u64 (f[j]!)) (by as_aux_lemma => kernel_rfl) rfl (by as_aux_lemma => kernel_rfl) H rfl hx626 hn627 (f[j]!) u64a ?_
           intro w635 hch634 H
           have H := H.reW (ys := (swp f j (j - 1)).toList) (swp_tl)
           have hS636 := hS.sto hch634 (.inr (by simp))
           refine ⟨hS636, ?_⟩
           have hS := hS636
           refine RH.fin hS 0 [0, 1, 2, 7, 8, 9] [(0, .slice (some ⟨pb, 0, none⟩) z q), (1, .I a), (2, .I b), (7, .I i2), (8, .I t), (9, .I j)] (by as_aux_lemma => kernel_rfl) ?_
           refine qR 1 [.c [2, 0, 1, 0, 0, 1, 0, 0, 4, 0, 1, 0, 1, 0, 0, 2], .l [2, 0, 1, 0, 0, 1, 0, 0, 4, 0, 1, 0, 1, 0, 0], .b 4, .c [2, 0, 1, 0, 0, 1, 0, 0, 5], .b 1, .c [2, 0, 1, 0, 0, 2], .l [2, 0, 1, 0, 0], .b 0, .c [3]] [(0, .slice (some ⟨pb, 0, none⟩) z q), (1, .I a), (2, .I b), (7, .I i2), (8, .I t), (9, .I j)] ?_
           refine qG (sq 0 3) ?_
           refine qP 1 (sq 1 3) [(0, .slice (some ⟨pb, 0, none⟩) z q), (1, .I a), (2, .I b), (7, .I i2), (8, .I t), (9, .I j), (66, .I j)] ?_
           refine qI .seq 67 (sq 2 3) ((j : Int) - 1) ?_
           refine qF 1 [(0, .slice (some ⟨pb, 0, none⟩) z q), (1, .I a), (2, .I b), (7, .I i2), (8, .I t), (9, .I ((j : Int) - 1))] ?_
           rw [show (j : Int) - 1 = ((j - 1 : Nat) : Int) by omega]
           exact WK.back (hback458 ((j - 1), (swp f j (j - 1))) _ ⟨H, by rw [← hinv2.1]; exact sdn_go (by omega) hl9, by rw [swp_size]; exact hinv2.2.1, by omega⟩ (by first | omega | (simp only []; omega))) (by as_aux_lemma => kernel_rfl)
        ·
         have hf9 : f = (fixDown ltInt a i2 (swp e i2 (i2 - 1))) := by rw [← hinv2.1, show j = 0 by omega]; rfl
         obtain ⟨g, hg⟩ : ∃ g, g = (fixDown ltInt a i2 (swp e i2 (i2 - 1))) := ⟨_, rfl⟩
         have hgs : g.size = z := by rw [hg, ← hf9]; exact hinv2.2.1
         rw [hf9, ← hg] at H
         refine qR 2 [.c [2, 0, 1, 0, 0, 1, 0, 0, 5, 0], .c [2, 0, 1, 0, 0, 1, 0, 0, 6], .b 1, .c [2, 0, 1, 0, 0, 2], .l [2, 0, 1, 0, 0], .b 0, .c [3]] [(0, .slice (some ⟨pb, 0, none⟩) z q), (1, .I a), (2, .I b), (7, .I i2), (8, .I t)] ?_
         refine qG (sq 0 4) ?_
         refine qP 2 (sq 2 4) [(0, .slice (some ⟨pb, 0, none⟩) z q), (1, .I a), (2, .I b), (7, .I i2), (8, .I t), (95, .I b), (96, .I i2)] ?_
         refine qI .seq 97 (sq 3 4) ((b : Int) - (i2 : Int)) ?_
         refine qF 1 [(0, .slice (some ⟨pb, 0, none⟩) z q), (1, .I a), (2, .I b), (7, .I i2), (8, .I t), (98, .bool (decide (((b : Int) - (i2 : Int) : Int) ≥ 2)))] ?_
         refine qD (((b : Int) - (i2 : Int) : Int) ≥ 2) (fun h637 => ?_) (fun h637 => ?_)
         ·
          refine qR 1 [.c [2, 0, 1, 0, 0, 1, 0, 0, 6, 0, 0], .c [2, 0, 1, 0, 0, 1, 0, 0, 6, 0, 1], .b 1, .c [2, 0, 1, 0, 0, 2], .l [2, 0, 1, 0, 0], .b 0, .c [3]] [(0, .slice (some ⟨pb, 0, none⟩) z q), (1, .I a), (2, .I b), (7, .I i2), (8, .I t)] ?_
          refine qG (sq 0 3) ?_
          refine qP 1 (sq 1 3) [(0, .slice (some ⟨pb, 0, none⟩) z q), (1, .I a), (2, .I b), (7, .I i2), (8, .I t), (99, .I i2)] ?_
          refine qI .seq 100 (sq 2 3) ((i2 : Int) + 1) ?_
          refine qF 1 [(0, .slice (some ⟨pb, 0, none⟩) z q), (1, .I a), (2, .I b), (7, .I i2), (8, .I t), (10, .I ((i2 : Int) + 1))] ?_
          refine qR 1 [.c [2, 0, 1, 0, 0, 1, 0, 0, 6, 0, 1, 0], .b 6, .b 1, .c [2, 0, 1, 0, 0, 2], .l [2, 0, 1, 0, 0], .b 0, .c [3]] [(0, .slice (some ⟨pb, 0, none⟩) z q), (1, .I a), (2, .I b), (7, .I i2), (8, .I t), (10, .I ((i2 : Int) + 1))] ?_
          refine WK.loop (α := Nat × Array Int) (b := cd Try.prog 54 [2, 0, 1, 0, 0, 1, 0, 0, 6, 0, 1, 0, 0]) (by as_aux_lemma => kernel_rfl) (fun st_ => match st_ with | (k, u) => [(0, .slice (some ⟨pb, 0, none⟩) z q), (1, .I a), (2, .I b), (7, .I i2), (8, .I t), (10, .I k)]) (fun st_ w' => match st_ with | (k, u) => Hp w S O [] [⟨Shape.int .u64, 44, .slice (some ⟨pb, 0, none⟩) z q, u.toList⟩] [] w' ∧ shiftUp ltInt b k u = (fixUp ltInt b i2 g) ∧ u.size = z ∧ i2 < k) (fun st_ => match st_ with | (k, u) => b - k) ((i2 + 1), g) ⟨H, (if_pos (by omega)).symm, hgs, by omega⟩ (rfl) ?_
          rintro ⟨k, u⟩ w639 ⟨H, hinv3⟩ hback638
          refine qR 3 [.c [2, 0, 1, 0, 0, 1, 0, 0, 6, 0, 1, 0, 0, 0, 1], .c [2, 0, 1, 0, 0, 1, 0, 0, 6, 0, 1, 0, 0, 1], .l [2, 0, 1, 0, 0, 1, 0, 0, 6, 0, 1, 0, 0], .b 6, .b 1, .c [2, 0, 1, 0, 0, 2], .l [2, 0, 1, 0, 0], .b 0, .c [3]] [(0, .slice (some ⟨pb, 0, none⟩) z q), (1, .I a), (2, .I b), (7, .I i2), (8, .I t), (10, .I k), (103, .bool (decide (((k : Int) : Int) < (b : Int))))] ?_
          refine qD (((k : Int) : Int) < (b : Int)) (fun h640 => ?_) (fun h640 => ?_)
          ·
           refine qR 5 [.c [2, 0, 1, 0, 0, 1, 0, 0, 6, 0, 1, 0, 0, 1, 0, 0, 0, 0], .c [2, 0, 1, 0, 0, 1, 0, 0, 6, 0, 1, 0, 0, 1, 0, 0, 0, 1], .c [2, 0, 1, 0, 0, 1, 0, 0, 6, 0, 1, 0, 0, 1, 0, 0, 1], .b 7, .c [2, 0, 1, 0, 0, 1, 0, 0, 6, 0, 1, 0, 0, 2], .l [2, 0, 1, 0, 0, 1, 0, 0, 6, 0, 1, 0, 0], .b 6, .b 1, .c [2, 0, 1, 0, 0, 2], .l [2, 0, 1, 0, 0], .b 0, .c [3]] [(0, .slice (some ⟨pb, 0, none⟩) z q), (1, .I a), (2, .I b), (7, .I i2), (8, .I t), (10, .I k)] ?_
           refine WK.draw1 11 [(0, .qui), (1, .qui), (2, .qui), (3, .qui), (4, .qui), (5, .qui), (6, .qui), (7, .qui), (8, .qui), (9, .chn), (10, .qui)] [(0, .qui), (1, .qui), (2, .qui), (3, .qui), (4, .qui), (5, .qui), (6, .qui), (7, .qui), (8, .qui), (9, .chn), (10, .qui)] Try_mixed (by as_aux_lemma => kernel_rfl) (by as_aux_lemma => kernel_rfl) (by as_aux_lemma => kernel_rfl) ?_
           have H := H.draw
           generalize ({ w639 with drawn := w639.drawn + 1 } : World) = w641 at H ⊢
           refine qP 2 [(2, .qui), (3, .qui), (4, .qui), (5, .qui), (6, .qui), (7, .qui), (8, .qui), (9, .chn), (10, .qui)] [(0, .slice (some ⟨pb, 0, none⟩) z q), (1, .I a), (2, .I b), (7, .I i2), (8, .I t), (10, .I k), (106, .slice (some ⟨pb, 0, none⟩) z q), (107, .I k)] ?_
           have hn643 : z = u.toList.length := by rw [tl_len (d := u)]; omega
           have hx642 : k < u.toList.length := by rw [tl_len (d := u)]; omega
           refine RW.indexW (κ := .qui) (d := some 108) (r := [(3, .qui), (4, .qui), (5, .qui), (6, .qui), (7, .qui), (8, .qui), (9, .chn), (10, .qui)]) (T := 58) (e := 44) (m := 1) (ik := .i64) (ix := (k : Int)) (sh := (Shape.int .u64)) (xs := u.toList) (a := (some ⟨pb, 0, none⟩)) (len := z) (cap := q) (by as_aux_lemma => kernel_rfl) (by as_aux_lemma => kernel_rfl) rfl H k (by omega) hx642 hn643 ?_
           intro b644 es645 ha646 hcell647 hr648
           cases ha646
           rw [tl_at (d := u) (k := k) _] at hr648
           have hb649 := Shape.u64_bd hr648
           obtain ⟨rfl, -⟩ := hr648
           refine qL .qui 109 [(4, .qui), (5, .qui), (6, .qui), (7, .qui), (8, .qui), (9, .chn), (10, .qui)] 44 pb (k * 1) 0 (.int .u64 (u[k]!)) hcell647 ?_
           refine qP 2 [(6, .qui), (7, .qui), (8, .qui), (9, .chn), (10, .qui)] [(0, .slice (some ⟨pb, 0, none⟩) z q), (1, .I a), (2, .I b), (7, .I i2), (8, .I t), (10, .I k), (109, .int .u64 (u[k]!)), (110, .slice (some ⟨pb, 0, none⟩) z q), (111, .I k)] ?_
           refine qI .qui 112 [(7, .qui), (8, .qui), (9, .chn), (10, .qui)] ((k : Int) - 1) ?_
           have hn651 : z = u.toList.length := by rw [tl_len (d := u)]; omega
           have hx650 : (k - 1) < u.toList.length := by rw [tl_len (d := u)]; omega
           refine RW.indexW (κ := .qui) (d := some 113) (r := [(8, .qui), (9, .chn), (10, .qui)]) (T := 58) (e := 44) (m := 1) (ik := .i64) (ix := (k : Int) - 1) (sh := (Shape.int .u64)) (xs := u.toList) (a := (some ⟨pb, 0, none⟩)) (len := z) (cap := q) (by as_aux_lemma => kernel_rfl) (by as_aux_lemma => kernel_rfl) rfl H (k - 1) (by omega) hx650 hn651 ?_
           intro b652 es653 ha654 hcell655 hr656
           cases ha654
           rw [tl_at (d := u) (k := (k - 1)) _] at hr656
           have hb657 := Shape.u64_bd hr656
           obtain ⟨rfl, -⟩ := hr656
           refine qL .qui 114 [(9, .chn), (10, .qui)] 44 pb ((k - 1) * 1) 0 (.int .u64 (u[(k - 1)]!)) hcell655 ?_
           refine qK .chn (some 115) [(10, .qui)] 55 #[.int .u64 (u[k]!), .int .u64 (u[(k - 1)]!)] (uless_spec (S := fun _ => True) (u[k]!) (u[(k - 1)]!)) ?_
           rintro _ w658 hE659 rfl
           have H := H.ext hE659
           refine qF 1 [(0, .slice (some ⟨pb, 0, none⟩) z q), (1, .I a), (2, .I b), (7, .I i2), (8, .I t), (10, .I k), (116, .bool (!(decide (u[k]! < u[(k - 1)]!))))] ?_
           refine qC (!(decide (u[k]! < u[(k - 1)]!))) (fun h660 => ?_) (fun h660 => ?_)
           ·
            replace h660 : (decide (u[k]! < u[(k - 1)]!)) = false := by revert h660; cases (decide (u[k]! < u[(k - 1)]!)) <;> simp
            replace h660 := of_decide_eq_false h660
            have hq9 : u = (fixUp ltInt b i2 g) := by rw [← hinv3.1]; exact (su_stop (by omega) (by simpa using h660)).symm
            have hqs : (fixUp ltInt b i2 g).size = z := by rw [← hq9]; first | exact hinv3.2.1 | exact hinv2.2.1 | exact hgs
            rw [hq9] at H
            refine qR 2 [.c [2, 0, 1, 0, 0, 2], .l [2, 0, 1, 0, 0], .b 0, .c [3]] [(0, .slice (some ⟨pb, 0, none⟩) z q), (1, .I a), (2, .I b), (7, .I i2), (8, .I t)] ?_
            refine qG (sq 0 3) ?_
            refine qP 1 (sq 1 3) [(0, .slice (some ⟨pb, 0, none⟩) z q), (1, .I a), (2, .I b), (7, .I i2), (8, .I t), (15, .I t)] ?_
            refine qI .seq 16 (sq 2 3) ((t : Int) + 1) ?_
            refine qF 1 [(0, .slice (some ⟨pb, 0, none⟩) z q), (1, .I a), (2, .I b), (7, .I i2), (8, .I ((t : Int) + 1))] ?_
            exact WK.back (hback1 (t + 1, i2, (fixUp ltInt b i2 g)) _ ⟨H, by rw [← hinv0.1, hs5, hgo9, ← hg]; congr 1; omega, hqs, by omega, by omega, by omega⟩ (by first | omega | (simp only []; omega))) (by as_aux_lemma => kernel_rfl)
           ·
            replace h660 : (decide (u[k]! < u[(k - 1)]!)) = true := by revert h660; cases (decide (u[k]! < u[(k - 1)]!)) <;> simp
            replace h660 := of_decide_eq_true h660
            have hl9 : u[k]! < u[k - 1]! := by simpa using h660
            refine qR 1 [.c [2, 0, 1, 0, 0, 1, 0, 0, 6, 0, 1, 0, 0, 1, 0, 0, 1], .b 7, .c [2, 0, 1, 0, 0, 1, 0, 0, 6, 0, 1, 0, 0, 2], .l [2, 0, 1, 0, 0, 1, 0, 0, 6, 0, 1, 0, 0], .b 6, .b 1, .c [2, 0, 1, 0, 0, 2], .l [2, 0, 1, 0, 0], .b 0, .c [3]] [(0, .slice (some ⟨pb, 0, none⟩) z q), (1, .I a), (2, .I b), (7, .I i2), (8, .I t), (10, .I k)] ?_
            refine WK.drawH1 [pb] (.node (qs [0, 1, 2, 3, 4, 5, 6, 7, 8, 10, 11, 12]) (.cons 9 (.leaf [(13, .seq), (14, .qui), (15, .seq), (16, .qui), (17, .seq)]) (.cons 13 (.leaf [(9, .seq), (14, .qui), (15, .seq), (16, .qui), (17, .seq)]) .nil))) Try_mixed (by as_aux_lemma => kernel_rfl) (by as_aux_lemma => kernel_rfl) ?_
            intro w661 hw662
            have H := H.draw
            rw [← hw662] at H
            clear hw662
            have hS := Chg.refl w661 [pb]
            refine RG.node' (qs [0, 1, 2, 3, 4, 5, 6, 7, 8, 10, 11, 12]) (by as_aux_lemma => kernel_rfl) ?_
            refine qHP hS 4 (qs [4, 5, 6, 7, 8, 10, 11, 12]) [(0, .slice (some ⟨pb, 0, none⟩) z q), (1, .I a), (2, .I b), (7, .I i2), (8, .I t), (10, .I k), (117, .slice (some ⟨pb, 0, none⟩) z q), (118, .I k), (119, .slice (some ⟨pb, 0, none⟩) z q), (120, .I k)] ?_
            refine RH.pv (d := some 121) (r := (qs [5, 6, 7, 8, 10, 11, 12])) (v := .I (IntKind.i64.wrap ((k : Int) - 1))) (v' := .I ((k : Int) - 1)) (by as_aux_lemma => kernel_rfl) hS (wr_i64 (by omega)) ?_
            refine qHP hS 2 (qs [7, 8, 10, 11, 12]) [(0, .slice (some ⟨pb, 0, none⟩) z q), (1, .I a), (2, .I b), (7, .I i2), (8, .I t), (10, .I k), (117, .slice (some ⟨pb, 0, none⟩) z q), (118, .I k), (119, .slice (some ⟨pb, 0, none⟩) z q), (121, .I ((k : Int) - 1)), (122, .slice (some ⟨pb, 0, none⟩) z q), (123, .I k)] ?_
            refine RH.pv (d := some 124) (r := (qs [8, 10, 11, 12])) (v := .I (IntKind.i64.wrap ((k : Int) - 1))) (v' := .I ((k : Int) - 1)) (by as_aux_lemma => kernel_rfl) hS (wr_i64 (by omega)) ?_
            have hn664 : z = u.toList.length := by rw [tl_len (d := u)]; omega
            have hx663 : (k - 1) < u.toList.length := by rw [tl_len (d := u)]; omega
            refine RH.indexW (d := some 125) (r := (qs [10, 11, 12])) (T := 58) (e := 44) (m := 1) (ik := .i64) (ix := (k : Int) - 1) (sh := (Shape.int .u64)) (xs := u.toList) (a := (some ⟨pb, 0, none⟩)) (len := z) (cap := q) (by as_aux_lemma => kernel_rfl) hS (by as_aux_lemma => kernel_rfl) rfl H (k - 1) (by omega) hx663 hn664 ?_
            intro b665 es666 ha667 hcell668 hr669
            cases ha667
            rw [tl_at (d := u) (k := (k - 1)) _] at hr669
            have hb670 := Shape.u64_bd hr669
            obtain ⟨rfl, -⟩ := hr669
            refine qHP hS 2 [(12, .qui)] [(0, .slice (some ⟨pb, 0, none⟩) z q), (1, .I a), (2, .I b), (7, .I i2), (8, .I t), (10, .I k), (117, .slice (some ⟨pb, 0, none⟩) z q), (118, .I k), (119, .slice (some ⟨pb, 0, none⟩) z q), (121, .I ((k : Int) - 1)), (125, .pointer (some ⟨pb, (k - 1) * 1, none⟩)), (127, .slice (some ⟨pb, 0, none⟩) z q), (128, .I k)] ?_
            have hn672 : z = u.toList.length := by rw [tl_len (d := u)]; omega
            have hx671 : k < u.toList.length := by rw [tl_len (d := u)]; omega
            refine RH.indexW (d := some 129) (r := []) (T := 58) (e := 44) (m := 1) (ik := .i64) (ix := (k : Int)) (sh := (Shape.int .u64)) (xs := u.toList) (a := (some ⟨pb, 0, none⟩)) (len := z) (cap := q) (by as_aux_lemma => kernel_rfl) hS (by as_aux_lemma => kernel_rfl) rfl H k (by omega) hx671 hn672 ?_
            intro b673 es674 ha675 hcell676 hr677
            cases ha675
            rw [tl_at (d := u) (k := k) _] at hr677
            have hb678 := Shape.u64_bd hr677
            obtain ⟨rfl, -⟩ := hr677
            refine RH.finB hS 0 [0, 1, 2, 7, 8, 10, 117, 118, 119, 121, 125, 129] [(0, .slice (some ⟨pb, 0, none⟩) z q), (1, .I a), (2, .I b), (7, .I i2), (8, .I t), (10, .I k), (117, .slice (some ⟨pb, 0, none⟩) z q), (118, .I k), (119, .slice (some ⟨pb, 0, none⟩) z q), (121, .I ((k : Int) - 1)), (125, .pointer (some ⟨pb, (k - 1) * 1, none⟩)), (129, .pointer (some ⟨pb, k * 1, none⟩))] (by as_aux_lemma => kernel_rfl) ?_
            refine (RGB.cons' ?_ (RGB.cons' ?_ RGB.nil'))
            ·
             refine RG.leaf' [(9, .seq), (13, .seq), (14, .qui), (15, .seq), (16, .qui), (17, .seq)] (by as_aux_lemma => kernel_rfl) ?_
             have Hr := H
             refine RH.chn hS ?_
             refine qL .chn 126 [] 44 pb ((k - 1) * 1) 0 (.int .u64 (u[(k - 1)]!)) hcell668 ?_
             intro hS
             have Hr := H
             refine RH.chn hS ?_
             refine qL .chn 130 [] 44 pb (k * 1) 0 (.int .u64 (u[k]!)) hcell676 ?_
             intro hS
             have hn682 : z = u.toList.length := by rw [tl_len (d := u)]; omega
             have hx681 : k < u.toList.length := by rw [tl_len (d := u)]; omega
             refine RH.indexW (d := some 131) (r := [(15, .seq), (16, .qui), (17, .seq)]) (T := 58) (e := 44) (m := 1) (ik := .i64) (ix := (k : Int)) (sh := (Shape.int .u64)) (xs := u.toList) (a := (some ⟨pb, 0, none⟩)) (len := z) (cap := q) (by as_aux_lemma => kernel_rfl) hS (by as_aux_lemma => kernel_rfl) rfl H k (by omega) hx681 hn682 ?_
             intro b683 es684 ha685 hcell686 hr687
             cases ha685
             rw [tl_at (d := u) (k := k) _] at hr687
             have hb688 := Shape.u64_bd hr687
             obtain ⟨rfl, -⟩ := hr687
             have Hr := H
             refine RH.sto ?_
             refine RW.storeWC (d := none) (r := []) (e := 44) (m := 1) (b := pb) (k := k) (v := .int .u64 (u[(k - 1)]!)) (by as_aux_lemma => kernel_rfl) rfl (by as_aux_lemma => kernel_rfl) H rfl hx681 hn682 (u[(k - 1)]!) u64a ?_
             intro w690 hch689 H
             have hS691 := hS.sto hch689 (.inr (by simp))
             refine ⟨hS691, ?_⟩
             have hS := hS691
             have hn693 : z = (u.toList.set k (u[(k - 1)]!)).length := by rw [List.length_set, tl_len (d := u)]; omega
             have hx692 : (k - 1) < (u.toList.set k (u[(k - 1)]!)).length := by rw [List.length_set, tl_len (d := u)]; omega
             refine RH.indexW (d := some 132) (r := [(17, .seq)]) (T := 58) (e := 44) (m := 1) (ik := .i64) (ix := (k : Int) - 1) (sh := (Shape.int .u64)) (xs := u.toList.set k (u[(k - 1)]!)) (a := (some ⟨pb, 0, none⟩)) (len := z) (cap := q) (by as_aux_lemma => kernel_rfl) hS (by as_aux_lemma => kernel_rfl) rfl H (k - 1) (by omega) hx692 hn693 ?_
             intro b694 es695 ha696 hcell697 hr698
             cases ha696
             have hb699 := Shape.u64_bd hr698
             obtain ⟨rfl, -⟩ := hr698
             refine RH.sto ?_
             refine RW.storeWC (d := none) (r := []) (e := 44) (m := 1) (b := pb) (k := (k - 1)) (v := .int .u64 (u[k]!)) (by as_aux_lemma => kernel_rfl) rfl (by as_aux_lemma => kernel_rfl) H rfl hx692 hn693 (u[k]!) u64a ?_
             intro w701 hch700 H
             have H := H.reW (ys := (swp u k (k - 1)).toList) (swp_tl)
             have hS702 := hS.sto hch700 (.inr (by simp))
             refine ⟨hS702, ?_⟩
             have hS := hS702
             refine RH.fin hS 0 [0, 1, 2, 7, 8, 10] [(0, .slice (some ⟨pb, 0, none⟩) z q), (1, .I a), (2, .I b), (7, .I i2), (8, .I t), (10, .I k)] (by as_aux_lemma => kernel_rfl) ?_
             refine qR 1 [.c [2, 0, 1, 0, 0, 1, 0, 0, 6, 0, 1, 0, 0, 2], .l [2, 0, 1, 0, 0, 1, 0, 0, 6, 0, 1, 0, 0], .b 6, .b 1, .c [2, 0, 1, 0, 0, 2], .l [2, 0, 1, 0, 0], .b 0, .c [3]] [(0, .slice (some ⟨pb, 0, none⟩) z q), (1, .I a), (2, .I b), (7, .I i2), (8, .I t), (10, .I k)] ?_
             refine qG (sq 0 3) ?_
             refine qP 1 (sq 1 3) [(0, .slice (some ⟨pb, 0, none⟩) z q), (1, .I a), (2, .I b), (7, .I i2), (8, .I t), (10, .I k), (104, .I k)] ?_
             refine qI .seq 105 (sq 2 3) ((k : Int) + 1) ?_
             refine qF 1 [(0, .slice (some ⟨pb, 0, none⟩) z q), (1, .I a), (2, .I b), (7, .I i2), (8, .I t), (10, .I ((k : Int) + 1))] ?_
             exact WK.back (hback638 (k + 1, (swp u k (k - 1))) _ ⟨H, by rw [← hinv3.1]; exact su_go (by omega) hl9, by rw [swp_size]; exact hinv3.2.1, by omega⟩ (by first | omega | (simp only []; omega))) (by as_aux_lemma => kernel_rfl)
            ·
             refine RG.leaf' [(13, .seq), (9, .seq), (14, .qui), (15, .seq), (16, .qui), (17, .seq)] (by as_aux_lemma => kernel_rfl) ?_
             have Hr := H
             refine RH.chn hS ?_
             refine qL .chn 130 [] 44 pb (k * 1) 0 (.int .u64 (u[k]!)) hcell676 ?_
             intro hS
             have Hr := H
             refine RH.chn hS ?_
             refine qL .chn 126 [] 44 pb ((k - 1) * 1) 0 (.int .u64 (u[(k - 1)]!)) hcell668 ?_
             intro hS
             have hn706 : z = u.toList.length := by rw [tl_len (d := u)]; omega
             have hx705 : k < u.toList.length := by rw [tl_len (d := u)]; omega
             refine RH.indexW (d := some 131) (r := [(15, .seq), (16, .qui), (17, .seq)]) (T := 58) (e := 44) (m := 1) (ik := .i64) (ix := (k : Int)) (sh := (Shape.int .u64)) (xs := u.toList) (a := (some ⟨pb, 0, none⟩)) (len := z) (cap := q) (by as_aux_lemma => kernel_rfl) hS (by as_aux_lemma => kernel_rfl) rfl H k (by omega) hx705 hn706 ?_
             intro b707 es708 ha709 hcell710 hr711
             cases ha709
             rw [tl_at (d := u) (k := k) _] at hr711
             have hb712 := Shape.u64_bd hr711
             obtain ⟨rfl, -⟩ := hr711
             have Hr := H
             refine RH.sto ?_
             refine RW.storeWC (d := none) (r := []) (e := 44) (m := 1) (b := pb) (k := k) (v := .int .u64 (u[(k - 1)]!)) (by as_aux_lemma => kernel_rfl) rfl (by as_aux_lemma => kernel_rfl) H rfl hx705 hn706 (u[(k - 1)]!) u64a ?_
             intro w714 hch713 H
             have hS715 := hS.sto hch713 (.inr (by simp))
             refine ⟨hS715, ?_⟩
             have hS := hS715
             have hn717 : z = (u.toList.set k (u[(k - 1)]!)).length := by rw [List.length_set, tl_len (d := u)]; omega
             have hx716 : (k - 1) < (u.toList.set k (u[(k - 1)]!)).length := by rw [List.length_set, tl_len (d := u)]; omega
             refine RH.indexW (d := some 132) (r := [(17, .seq)]) (T := 58) (e := 44) (m := 1) (ik := .i64) (ix := (k : Int) - 1) (sh := (Shape.int .u64)) (xs := u.toList.set k (u[(k - 1)]!)) (a := (some ⟨pb, 0, none⟩)) (len := z) (cap := q) (by as_aux_lemma => kernel_rfl) hS (by as_aux_lemma => kernel_rfl) rfl H (k - 1) (by omega) hx716 hn717 ?_
             intro b718 es719 ha720 hcell721 hr722
             cases ha720
             have hb723 := Shape.u64_bd hr722
             obtain ⟨rfl, -⟩ := hr722
             refine RH.sto ?_
             refine RW.storeWC (d := none) (r := []) (e := 44) (m := 1) (b := pb) (k := (k - 1)) (v := .int .u64 (u[k]!)) (by as_aux_lemma => kernel_rfl) rfl (by as_aux_lemma => kernel_rfl) H rfl hx716 hn717 (u[k]!) u64a ?_
             intro w725 hch724 H
             have H := H.reW (ys := (swp u k (k - 1)).toList) (swp_tl)
             have hS726 := hS.sto hch724 (.inr (by simp))
             refine ⟨hS726, ?_⟩
             have hS := hS726
             refine RH.fin hS 0 [0, 1, 2, 7, 8, 10] [(0, .slice (some ⟨pb, 0, none⟩) z q), (1, .I a), (2, .I b), (7, .I i2), (8, .I t), (10, .I k)] (by as_aux_lemma => kernel_rfl) ?_
             refine qR 1 [.c [2, 0, 1, 0, 0, 1, 0, 0, 6, 0, 1, 0, 0, 2], .l [2, 0, 1, 0, 0, 1, 0, 0, 6, 0, 1, 0, 0], .b 6, .b 1, .c [2, 0, 1, 0, 0, 2], .l [2, 0, 1, 0, 0], .b 0, .c [3]] [(0, .slice (some ⟨pb, 0, none⟩) z q), (1, .I a), (2, .I b), (7, .I i2), (8, .I t), (10, .I k)] ?_
             refine qG (sq 0 3) ?_
             refine qP 1 (sq 1 3) [(0, .slice (some ⟨pb, 0, none⟩) z q), (1, .I a), (2, .I b), (7, .I i2), (8, .I t), (10, .I k), (104, .I k)] ?_
             refine qI .seq 105 (sq 2 3) ((k : Int) + 1) ?_
             refine qF 1 [(0, .slice (some ⟨pb, 0, none⟩) z q), (1, .I a), (2, .I b), (7, .I i2), (8, .I t), (10, .I ((k : Int) + 1))] ?_
             exact WK.back (hback638 (k + 1, (swp u k (k - 1))) _ ⟨H, by rw [← hinv3.1]; exact su_go (by omega) hl9, by rw [swp_size]; exact hinv3.2.1, by omega⟩ (by first | omega | (simp only []; omega))) (by as_aux_lemma => kernel_rfl)
          ·
           have hq9 : u = (fixUp ltInt b i2 g) := by rw [← hinv3.1]; exact (su_end (by omega)).symm
           have hqs : (fixUp ltInt b i2 g).size = z := by rw [← hq9]; first | exact hinv3.2.1 | exact hinv2.2.1 | exact hgs
           rw [hq9] at H
           refine qR 2 [.c [2, 0, 1, 0, 0, 2], .l [2, 0, 1, 0, 0], .b 0, .c [3]] [(0, .slice (some ⟨pb, 0, none⟩) z q), (1, .I a), (2, .I b), (7, .I i2), (8, .I t)] ?_
           refine qG (sq 0 3) ?_
           refine qP 1 (sq 1 3) [(0, .slice (some ⟨pb, 0, none⟩) z q), (1, .I a), (2, .I b), (7, .I i2), (8, .I t), (15, .I t)] ?_
           refine qI .seq 16 (sq 2 3) ((t : Int) + 1) ?_
           refine qF 1 [(0, .slice (some ⟨pb, 0, none⟩) z q), (1, .I a), (2, .I b), (7, .I i2), (8, .I ((t : Int) + 1))] ?_
           exact WK.back (hback1 (t + 1, i2, (fixUp ltInt b i2 g)) _ ⟨H, by rw [← hinv0.1, hs5, hgo9, ← hg]; congr 1; omega, hqs, by omega, by omega, by omega⟩ (by first | omega | (simp only []; omega))) (by as_aux_lemma => kernel_rfl)
         ·
          have hq9 : g = (fixUp ltInt b i2 g) := (if_neg (by omega)).symm
          have hqs : (fixUp ltInt b i2 g).size = z := by rw [← hq9]; first | exact hinv3.2.1 | exact hinv2.2.1 | exact hgs
          rw [hq9] at H
          refine qR 2 [.c [2, 0, 1, 0, 0, 2], .l [2, 0, 1, 0, 0], .b 0, .c [3]] [(0, .slice (some ⟨pb, 0, none⟩) z q), (1, .I a), (2, .I b), (7, .I i2), (8, .I t)] ?_
          refine qG (sq 0 3) ?_
          refine qP 1 (sq 1 3) [(0, .slice (some ⟨pb, 0, none⟩) z q), (1, .I a), (2, .I b), (7, .I i2), (8, .I t), (15, .I t)] ?_
          refine qI .seq 16 (sq 2 3) ((t : Int) + 1) ?_
          refine qF 1 [(0, .slice (some ⟨pb, 0, none⟩) z q), (1, .I a), (2, .I b), (7, .I i2), (8, .I ((t : Int) + 1))] ?_
          exact WK.back (hback1 (t + 1, i2, (fixUp ltInt b i2 g)) _ ⟨H, by rw [← hinv0.1, hs5, hgo9, ← hg]; congr 1; omega, hqs, by omega, by omega, by omega⟩ (by first | omega | (simp only []; omega))) (by as_aux_lemma => kernel_rfl)
       ·
        have hf9 : (swp e i2 (i2 - 1)) = (fixDown ltInt a i2 (swp e i2 (i2 - 1))) := (if_neg (by omega)).symm
        obtain ⟨g, hg⟩ : ∃ g, g = (fixDown ltInt a i2 (swp e i2 (i2 - 1))) := ⟨_, rfl⟩
        have hgs : g.size = z := by rw [hg, ← hf9]; exact hd1s
        rw [hf9, ← hg] at H
        refine qR 2 [.c [2, 0, 1, 0, 0, 1, 0, 0, 5, 0], .c [2, 0, 1, 0, 0, 1, 0, 0, 6], .b 1, .c [2, 0, 1, 0, 0, 2], .l [2, 0, 1, 0, 0], .b 0, .c [3]] [(0, .slice (some ⟨pb, 0, none⟩) z q), (1, .I a), (2, .I b), (7, .I i2), (8, .I t)] ?_
        refine qG (sq 0 4) ?_
        refine qP 2 (sq 2 4) [(0, .slice (some ⟨pb, 0, none⟩) z q), (1, .I a), (2, .I b), (7, .I i2), (8, .I t), (95, .I b), (96, .I i2)] ?_
        refine qI .seq 97 (sq 3 4) ((b : Int) - (i2 : Int)) ?_
        refine qF 1 [(0, .slice (some ⟨pb, 0, none⟩) z q), (1, .I a), (2, .I b), (7, .I i2), (8, .I t), (98, .bool (decide (((b : Int) - (i2 : Int) : Int) ≥ 2)))] ?_
        refine qD (((b : Int) - (i2 : Int) : Int) ≥ 2) (fun h727 => ?_) (fun h727 => ?_)
        ·
         refine qR 1 [.c [2, 0, 1, 0, 0, 1, 0, 0, 6, 0, 0], .c [2, 0, 1, 0, 0, 1, 0, 0, 6, 0, 1], .b 1, .c [2, 0, 1, 0, 0, 2], .l [2, 0, 1, 0, 0], .b 0, .c [3]] [(0, .slice (some ⟨pb, 0, none⟩) z q), (1, .I a), (2, .I b), (7, .I i2), (8, .I t)] ?_
         refine qG (sq 0 3) ?_
         refine qP 1 (sq 1 3) [(0, .slice (some ⟨pb, 0, none⟩) z q), (1, .I a), (2, .I b), (7, .I i2), (8, .I t), (99, .I i2)] ?_
         refine qI .seq 100 (sq 2 3) ((i2 : Int) + 1) ?_
         refine qF 1 [(0, .slice (some ⟨pb, 0, none⟩) z q), (1, .I a), (2, .I b), (7, .I i2), (8, .I t), (10, .I ((i2 : Int) + 1))] ?_
         refine qR 1 [.c [2, 0, 1, 0, 0, 1, 0, 0, 6, 0, 1, 0], .b 6, .b 1, .c [2, 0, 1, 0, 0, 2], .l [2, 0, 1, 0, 0], .b 0, .c [3]] [(0, .slice (some ⟨pb, 0, none⟩) z q), (1, .I a), (2, .I b), (7, .I i2), (8, .I t), (10, .I ((i2 : Int) + 1))] ?_
         refine WK.loop (α := Nat × Array Int) (b := cd Try.prog 54 [2, 0, 1, 0, 0, 1, 0, 0, 6, 0, 1, 0, 0]) (by as_aux_lemma => kernel_rfl) (fun st_ => match st_ with | (k, u) => [(0, .slice (some ⟨pb, 0, none⟩) z q), (1, .I a), (2, .I b), (7, .I i2), (8, .I t), (10, .I k)]) (fun st_ w' => match st_ with | (k, u) => Hp w S O [] [⟨Shape.int .u64, 44, .slice (some ⟨pb, 0, none⟩) z q, u.toList⟩] [] w' ∧ shiftUp ltInt b k u = (fixUp ltInt b i2 g) ∧ u.size = z ∧ i2 < k) (fun st_ => match st_ with | (k, u) => b - k) ((i2 + 1), g) ⟨H, (if_pos (by omega)).symm, hgs, by omega⟩ (rfl) ?_
         rintro ⟨k, u⟩ w729 ⟨H, hinv3⟩ hback728
         refine qR 3 [.c [2, 0, 1, 0, 0, 1, 0, 0, 6, 0, 1, 0, 0, 0, 1], .c [2, 0, 1, 0, 0, 1, 0, 0, 6, 0, 1, 0, 0, 1], .l [2, 0, 1, 0, 0, 1, 0, 0, 6, 0, 1, 0, 0], .b 6, .b 1, .c [2, 0, 1, 0, 0, 2], .l [2, 0, 1, 0, 0], .b 0, .c [3]] [(0, .slice (some ⟨pb, 0, none⟩) z q), (1, .I a), (2, .I b), (7, .I i2), (8, .I t), (10, .I k), (103, .bool (decide (((k : Int) : Int) < (b : Int))))] ?_
         refine qD (((k : Int) : Int) < (b : Int)) (fun h730 => ?_) (fun h730 => ?_)
         ·
          refine qR 5 [.c [2, 0, 1, 0, 0, 1, 0, 0, 6, 0, 1, 0, 0, 1, 0, 0, 0, 0], .c [2, 0, 1, 0, 0, 1, 0, 0, 6, 0, 1, 0, 0, 1, 0, 0, 0, 1], .c [2, 0, 1, 0, 0, 1, 0, 0, 6, 0, 1, 0, 0, 1, 0, 0, 1], .b 7, .c [2, 0, 1, 0, 0, 1, 0, 0, 6, 0, 1, 0, 0, 2], .l [2, 0, 1, 0, 0, 1, 0, 0, 6, 0, 1, 0, 0], .b 6, .b 1, .c [2, 0, 1, 0, 0, 2], .l [2, 0, 1, 0, 0], .b 0, .c [3]] [(0, .slice (some ⟨pb, 0, none⟩) z q), (1, .I a), (2, .I b), (7, .I i2), (8, .I t), (10, .I k)] ?_
          refine WK.draw1 11 [(0, .qui), (1, .qui), (2, .qui), (3, .qui), (4, .qui), (5, .qui), (6, .qui), (7, .qui), (8, .qui), (9, .chn), (10, .qui)] [(0, .qui), (1, .qui), (2, .qui), (3, .qui), (4, .qui), (5, .qui), (6, .qui), (7, .qui), (8, .qui), (9, .chn), (10, .qui)] Try_mixed (by as_aux_lemma => kernel_rfl) (by as_aux_lemma => kernel_rfl) (by as_aux_lemma => kernel_rfl) ?_
          have H := H.draw
          generalize ({ w729 with drawn := w729.drawn + 1 } : World) = w731 at H ⊢
          refine qP 2 [(2, .qui), (3, .qui), (4, .qui), (5, .qui), (6, .qui), (7, .qui), (8, .qui), (9, .chn), (10, .qui)] [(0, .slice (some ⟨pb, 0, none⟩) z q), (1, .I a), (2, .I b), (7, .I i2), (8, .I t), (10, .I k), (106, .slice (some ⟨pb, 0, none⟩) z q), (107, .I k)] ?_
          have hn733 : z = u.toList.length := by rw [tl_len (d := u)]; omega
          have hx732 : k < u.toList.length := by rw [tl_len (d := u)]; omega
          refine RW.indexW (κ := .qui) (d := some 108) (r := [(3, .qui), (4, .qui), (5, .qui), (6, .qui), (7, .qui), (8, .qui), (9, .chn), (10, .qui)]) (T := 58) (e := 44) (m := 1) (ik := .i64) (ix := (k : Int)) (sh := (Shape.int .u64)) (xs := u.toList) (a := (some ⟨pb, 0, none⟩)) (len := z) (cap := q) (by as_aux_lemma => kernel_rfl) (by as_aux_lemma => kernel_rfl) rfl H k (by omega) hx732 hn733 ?_
          intro b734 es735 ha736 hcell737 hr738
          cases ha736
          rw [tl_at (d := u) (k := k) _] at hr738
          have hb739 := Shape.u64_bd hr738
          obtain ⟨rfl, -⟩ := hr738
          refine qL .qui 109 [(4, .qui), (5, .qui), (6, .qui), (7, .qui), (8, .qui), (9, .chn), (10, .qui)] 44 pb (k * 1) 0 (.int .u64 (u[k]!)) hcell737 ?_
          refine qP 2 [(6, .qui), (7, .qui), (8, .qui), (9, .chn), (10, .qui)] [(0, .slice (some ⟨pb, 0, none⟩) z q), (1, .I a), (2, .I b), (7, .I i2), (8, .I t), (10, .I k), (109, .int .u64 (u[k]!)), (110, .slice (some ⟨pb, 0, none⟩) z q), (111, .I k)] ?_
          refine qI .qui 112 [(7, .qui), (8, .qui), (9, .chn), (10, .qui)] ((k : Int) - 1) ?_
          have hn741 : z = u.toList.length := by rw [tl_len (d := u)]; omega
          have hx740 : (k - 1) < u.toList.length := by rw [tl_len (d := u)]; omega
          refine RW.indexW (κ := .qui) (d := some 113) (r := [(8, .qui), (9, .chn), (10, .qui)]) (T := 58) (e := 44) (m := 1) (ik := .i64) (ix := (k : Int) - 1) (sh := (Shape.int .u64)) (xs := u.toList) (a := (some ⟨pb, 0, none⟩)) (len := z) (cap := q) (by as_aux_lemma => kernel_rfl) (by as_aux_lemma => kernel_rfl) rfl H (k - 1) (by omega) hx740 hn741 ?_
          intro b742 es743 ha744 hcell745 hr746
          cases ha744
          rw [tl_at (d := u) (k := (k - 1)) _] at hr746
          have hb747 := Shape.u64_bd hr746
          obtain ⟨rfl, -⟩ := hr746
          refine qL .qui 114 [(9, .chn), (10, .qui)] 44 pb ((k - 1) * 1) 0 (.int .u64 (u[(k - 1)]!)) hcell745 ?_
          refine qK .chn (some 115) [(10, .qui)] 55 #[.int .u64 (u[k]!), .int .u64 (u[(k - 1)]!)] (uless_spec (S := fun _ => True) (u[k]!) (u[(k - 1)]!)) ?_
          rintro _ w748 hE749 rfl
          have H := H.ext hE749
          refine qF 1 [(0, .slice (some ⟨pb, 0, none⟩) z q), (1, .I a), (2, .I b), (7, .I i2), (8, .I t), (10, .I k), (116, .bool (!(decide (u[k]! < u[(k - 1)]!))))] ?_
          refine qC (!(decide (u[k]! < u[(k - 1)]!))) (fun h750 => ?_) (fun h750 => ?_)
          ·
           replace h750 : (decide (u[k]! < u[(k - 1)]!)) = false := by revert h750; cases (decide (u[k]! < u[(k - 1)]!)) <;> simp
           replace h750 := of_decide_eq_false h750
           have hq9 : u = (fixUp ltInt b i2 g) := by rw [← hinv3.1]; exact (su_stop (by omega) (by simpa using h750)).symm
           have hqs : (fixUp ltInt b i2 g).size = z := by rw [← hq9]; first | exact hinv3.2.1 | exact hinv2.2.1 | exact hgs
           rw [hq9] at H
           refine qR 2 [.c [2, 0, 1, 0, 0, 2], .l [2, 0, 1, 0, 0], .b 0, .c [3]] [(0, .slice (some ⟨pb, 0, none⟩) z q), (1, .I a), (2, .I b), (7, .I i2), (8, .I t)] ?_
           refine qG (sq 0 3) ?_
           refine qP 1 (sq 1 3) [(0, .slice (some ⟨pb, 0, none⟩) z q), (1, .I a), (2, .I b), (7, .I i2), (8, .I t), (15, .I t)] ?_
           refine qI .seq 16 (sq 2 3) ((t : Int) + 1) ?_
           refine qF 1 [(0, .slice (some ⟨pb, 0, none⟩) z q), (1, .I a), (2, .I b), (7, .I i2), (8, .I ((t : Int) + 1))] ?_
           exact WK.back (hback1 (t + 1, i2, (fixUp ltInt b i2 g)) _ ⟨H, by rw [← hinv0.1, hs5, hgo9, ← hg]; congr 1; omega, hqs, by omega, by omega, by omega⟩ (by first | omega | (simp only []; omega))) (by as_aux_lemma => kernel_rfl)
          ·
           replace h750 : (decide (u[k]! < u[(k - 1)]!)) = true := by revert h750; cases (decide (u[k]! < u[(k - 1)]!)) <;> simp
           replace h750 := of_decide_eq_true h750
           have hl9 : u[k]! < u[k - 1]! := by simpa using h750
           refine qR 1 [.c [2, 0, 1, 0, 0, 1, 0, 0, 6, 0, 1, 0, 0, 1, 0, 0, 1], .b 7, .c [2, 0, 1, 0, 0, 1, 0, 0, 6, 0, 1, 0, 0, 2], .l [2, 0, 1, 0, 0, 1, 0, 0, 6, 0, 1, 0, 0], .b 6, .b 1, .c [2, 0, 1, 0, 0, 2], .l [2, 0, 1, 0, 0], .b 0, .c [3]] [(0, .slice (some ⟨pb, 0, none⟩) z q), (1, .I a), (2, .I b), (7, .I i2), (8, .I t), (10, .I k)] ?_
           refine WK.drawH1 [pb] (.node (qs [0, 1, 2, 3, 4, 5, 6, 7, 8, 10, 11, 12]) (.cons 9 (.leaf [(13, .seq), (14, .qui), (15, .seq), (16, .qui), (17, .seq)]) (.cons 13 (.leaf [(9, .seq), (14, .qui), (15, .seq), (16, .qui), (17, .seq)]) .nil))) Try_mixed (by as_aux_lemma => kernel_rfl) (by as_aux_lemma => kernel_rfl) ?_
           intro w751 hw752
           have H := H.draw
           rw [← hw752] at H
           clear hw752
           have hS := Chg.refl w751 [pb]
           refine RG.node' (qs [0, 1, 2, 3, 4, 5, 6, 7, 8, 10, 11, 12]) (by as_aux_lemma => kernel_rfl) ?_
           refine qHP hS 4 (qs [4, 5, 6, 7, 8, 10, 11, 12]) [(0, .slice (some ⟨pb, 0, none⟩) z q), (1, .I a), (2, .I b), (7, .I i2), (8, .I t), (10, .I k), (117, .slice (some ⟨pb, 0, none⟩) z q), (118, .I k), (119, .slice (some ⟨pb, 0, none⟩) z q), (120, .I k)] ?_
           refine RH.pv (d := some 121) (r := (qs [5, 6, 7, 8, 10, 11, 12])) (v := .I (IntKind.i64.wrap ((k : Int) - 1))) (v' := .I ((k : Int) - 1)) (by as_aux_lemma => kernel_rfl) hS (wr_i64 (by omega)) ?_
           refine qHP hS 2 (qs [7, 8, 10, 11, 12]) [(0, .slice (some ⟨pb, 0, none⟩) z q), (1, .I a), (2, .I b), (7, .I i2), (8, .I t), (10, .I k), (117, .slice (some ⟨pb, 0, none⟩) z q), (118, .I k), (119, .slice (some ⟨pb, 0, none⟩) z q), (121, .I ((k : Int) - 1)), (122, .slice (some ⟨pb, 0, none⟩) z q), (123, .I k)] ?_
           refine RH.pv (d := some 124) (r := (qs [8, 10, 11, 12])) (v := .I (IntKind.i64.wrap ((k : Int) - 1))) (v' := .I ((k : Int) - 1)) (by as_aux_lemma => kernel_rfl) hS (wr_i64 (by omega)) ?_
           have hn754 : z = u.toList.length := by rw [tl_len (d := u)]; omega
           have hx753 : (k - 1) < u.toList.length := by rw [tl_len (d := u)]; omega
           refine RH.indexW (d := some 125) (r := (qs [10, 11, 12])) (T := 58) (e := 44) (m := 1) (ik := .i64) (ix := (k : Int) - 1) (sh := (Shape.int .u64)) (xs := u.toList) (a := (some ⟨pb, 0, none⟩)) (len := z) (cap := q) (by as_aux_lemma => kernel_rfl) hS (by as_aux_lemma => kernel_rfl) rfl H (k - 1) (by omega) hx753 hn754 ?_
           intro b755 es756 ha757 hcell758 hr759
           cases ha757
           rw [tl_at (d := u) (k := (k - 1)) _] at hr759
           have hb760 := Shape.u64_bd hr759
           obtain ⟨rfl, -⟩ := hr759
           refine qHP hS 2 [(12, .qui)] [(0, .slice (some ⟨pb, 0, none⟩) z q), (1, .I a), (2, .I b), (7, .I i2), (8, .I t), (10, .I k), (117, .slice (some ⟨pb, 0, none⟩) z q), (118, .I k), (119, .slice (some ⟨pb, 0, none⟩) z q), (121, .I ((k : Int) - 1)), (125, .pointer (some ⟨pb, (k - 1) * 1, none⟩)), (127, .slice (some ⟨pb, 0, none⟩) z q), (128, .I k)] ?_
           have hn762 : z = u.toList.length := by rw [tl_len (d := u)]; omega
           have hx761 : k < u.toList.length := by rw [tl_len (d := u)]; omega
           refine RH.indexW (d := some 129) (r := []) (T := 58) (e := 44) (m := 1) (ik := .i64) (ix := (k : Int)) (sh := (Shape.int .u64)) (xs := u.toList) (a := (some ⟨pb, 0, none⟩)) (len := z) (cap := q) (by as_aux_lemma => kernel_rfl) hS (by as_aux_lemma => kernel_rfl) rfl H k (by omega) hx761 hn762 ?_
           intro b763 es764 ha765 hcell766 hr767
           cases ha765
           rw [tl_at (d := u) (k := k) _] at hr767
           have hb768 := Shape.u64_bd hr767
           obtain ⟨rfl, -⟩ := hr767
           refine RH.finB hS 0 [0, 1, 2, 7, 8, 10, 117, 118, 119, 121, 125, 129] [(0, .slice (some ⟨pb, 0, none⟩) z q), (1, .I a), (2, .I b), (7, .I i2), (8, .I t), (10, .I k), (117, .slice (some ⟨pb, 0, none⟩) z q), (118, .I k), (119, .slice (some ⟨pb, 0, none⟩) z q), (121, .I ((k : Int) - 1)), (125, .pointer (some ⟨pb, (k - 1) * 1, none⟩)), (129, .pointer (some ⟨pb, k * 1, none⟩))] (by as_aux_lemma => kernel_rfl) ?_
           refine (RGB.cons' ?_ (RGB.cons' ?_ RGB.nil'))
           ·
            refine RG.leaf' [(9, .seq), (13, .seq), (14, .qui), (15, .seq), (16, .qui), (17, .seq)] (by as_aux_lemma => kernel_rfl) ?_
            have Hr := H
            refine RH.chn hS ?_
            refine qL .chn 126 [] 44 pb ((k - 1) * 1) 0 (.int .u64 (u[(k - 1)]!)) hcell758 ?_
            intro hS
            have Hr := H
            refine RH.chn hS ?_
            refine qL .chn 130 [] 44 pb (k * 1) 0 (.int .u64 (u[k]!)) hcell766 ?_
            intro hS
            have hn772 : z = u.toList.length := by rw [tl_len (d := u)]; omega
            have hx771 : k < u.toList.length := by rw [tl_len (d := u)]; omega
            refine RH.indexW (d := some 131) (r := [(15, .seq), (16, .qui), (17, .seq)]) (T := 58) (e := 44) (m := 1) (ik := .i64) (ix := (k : Int)) (sh := (Shape.int .u64)) (xs := u.toList) (a := (some ⟨pb, 0, none⟩)) (len := z) (cap := q) (by as_aux_lemma => kernel_rfl) hS (by as_aux_lemma => kernel_rfl) rfl H k (by omega) hx771 hn772 ?_
            intro b773 es774 ha775 hcell776 hr777
            cases ha775
            rw [tl_at (d := u) (k := k) _] at hr777
            have hb778 := Shape.u64_bd hr777
            obtain ⟨rfl, -⟩ := hr777
            have Hr := H
            refine RH.sto ?_
            refine RW.storeWC (d := none) (r := []) (e := 44) (m := 1) (b := pb) (k := k) (v := .int .u64 (u[(k - 1)]!)) (by as_aux_lemma => kernel_rfl) rfl (by as_aux_lemma => kernel_rfl) H rfl hx771 hn772 (u[(k - 1)]!) u64a ?_
            intro w780 hch779 H
            have hS781 := hS.sto hch779 (.inr (by simp))
            refine ⟨hS781, ?_⟩
            have hS := hS781
            have hn783 : z = (u.toList.set k (u[(k - 1)]!)).length := by rw [List.length_set, tl_len (d := u)]; omega
            have hx782 : (k - 1) < (u.toList.set k (u[(k - 1)]!)).length := by rw [List.length_set, tl_len (d := u)]; omega
            refine RH.indexW (d := some 132) (r := [(17, .seq)]) (T := 58) (e := 44) (m := 1) (ik := .i64) (ix := (k : Int) - 1) (sh := (Shape.int .u64)) (xs := u.toList.set k (u[(k - 1)]!)) (a := (some ⟨pb, 0, none⟩)) (len := z) (cap := q) (by as_aux_lemma => kernel_rfl) hS (by as_aux_lemma => kernel_rfl) rfl H (k - 1) (by omega) hx782 hn783 ?_
            intro b784 es785 ha786 hcell787 hr788
            cases ha786
            have hb789 := Shape.u64_bd hr788
            obtain ⟨rfl, -⟩ := hr788
            refine RH.sto ?_
            refine RW.storeWC (d := none) (r := []) (e := 44) (m := 1) (b := pb) (k := (k - 1)) (v := .int .u64 (u[k]!)) (by as_aux_lemma => kernel_rfl) rfl (by as_aux_lemma => kernel_rfl) H rfl hx782 hn783 (u[k]!) u64a ?_
            intro w791 hch790 H
            have H := H.reW (ys := (swp u k (k - 1)).toList) (swp_tl)
            have hS792 := hS.sto hch790 (.inr (by simp))
            refine ⟨hS792, ?_⟩
            have hS := hS792
            refine RH.fin hS 0 [0, 1, 2, 7, 8, 10] [(0, .slice (some ⟨pb, 0, none⟩) z q), (1, .I a), (2, .I b), (7, .I i2), (8, .I t), (10, .I k)] (by as_aux_lemma => kernel_rfl) ?_
            refine qR 1 [.c [2, 0, 1, 0, 0, 1, 0, 0, 6, 0, 1, 0, 0, 2], .l [2, 0, 1, 0, 0, 1, 0, 0, 6, 0, 1, 0, 0], .b 6, .b 1, .c [2, 0, 1, 0, 0, 2], .l [2, 0, 1, 0, 0], .b 0, .c [3]] [(0, .slice (some ⟨pb, 0, none⟩) z q), (1, .I a), (2, .I b), (7, .I i2), (8, .I t), (10, .I k)] ?_
            refine qG (sq 0 3) ?_
            refine qP 1 (sq 1 3) [(0, .slice (some ⟨pb, 0, none⟩) z q), (1, .I a), (2, .I b), (7, .I i2), (8, .I t), (10, .I k), (104, .I k)] ?_
            refine qI .seq 105 (sq 2 3) ((k : Int) + 1) ?_
            refine qF 1 [(0, .slice (some ⟨pb, 0, none⟩) z q), (1, .I a), (2, .I b), (7, .I i2), (8, .I t), (10, .I ((k : Int) + 1))] ?_
            exact WK.back (hback728 (k + 1, (swp u k (k - 1))) _ ⟨H, by rw [← hinv3.1]; exact su_go (by omega) hl9, by rw [swp_size]; exact hinv3.2.1, by omega⟩ (by first | omega | (simp only []; omega))) (by as_aux_lemma => kernel_rfl)
           ·
            refine RG.leaf' [(13, .seq), (9, .seq), (14, .qui), (15, .seq), (16, .qui), (17, .seq)] (by as_aux_lemma => kernel_rfl) ?_
            have Hr := H
            refine RH.chn hS ?_
            refine qL .chn 130 [] 44 pb (k * 1) 0 (.int .u64 (u[k]!)) hcell766 ?_
            intro hS
            have Hr := H
            refine RH.chn hS ?_
            refine qL .chn 126 [] 44 pb ((k - 1) * 1) 0 (.int .u64 (u[(k - 1)]!)) hcell758 ?_
            intro hS
            have hn796 : z = u.toList.length := by rw [tl_len (d := u)]; omega
            have hx795 : k < u.toList.length := by rw [tl_len (d := u)]; omega
            refine RH.indexW (d := some 131) (r := [(15, .seq), (16, .qui), (17, .seq)]) (T := 58) (e := 44) (m := 1) (ik := .i64) (ix := (k : Int)) (sh := (Shape.int .u64)) (xs := u.toList) (a := (some ⟨pb, 0, none⟩)) (len := z) (cap := q) (by as_aux_lemma => kernel_rfl) hS (by as_aux_lemma => kernel_rfl) rfl H k (by omega) hx795 hn796 ?_
            intro b797 es798 ha799 hcell800 hr801
            cases ha799
            rw [tl_at (d := u) (k := k) _] at hr801
            have hb802 := Shape.u64_bd hr801
            obtain ⟨rfl, -⟩ := hr801
            have Hr := H
            refine RH.sto ?_
            refine RW.storeWC (d := none) (r := []) (e := 44) (m := 1) (b := pb) (k := k) (v := .int .u64 (u[(k - 1)]!)) (by as_aux_lemma => kernel_rfl) rfl (by as_aux_lemma => kernel_rfl) H rfl hx795 hn796 (u[(k - 1)]!) u64a ?_
            intro w804 hch803 H
            have hS805 := hS.sto hch803 (.inr (by simp))
            refine ⟨hS805, ?_⟩
            have hS := hS805
            have hn807 : z = (u.toList.set k (u[(k - 1)]!)).length := by rw [List.length_set, tl_len (d := u)]; omega
            have hx806 : (k - 1) < (u.toList.set k (u[(k - 1)]!)).length := by rw [List.length_set, tl_len (d := u)]; omega
            refine RH.indexW (d := some 132) (r := [(17, .seq)]) (T := 58) (e := 44) (m := 1) (ik := .i64) (ix := (k : Int) - 1) (sh := (Shape.int .u64)) (xs := u.toList.set k (u[(k - 1)]!)) (a := (some ⟨pb, 0, none⟩)) (len := z) (cap := q) (by as_aux_lemma => kernel_rfl) hS (by as_aux_lemma => kernel_rfl) rfl H (k - 1) (by omega) hx806 hn807 ?_
            intro b808 es809 ha810 hcell811 hr812
            cases ha810
            have hb813 := Shape.u64_bd hr812
            obtain ⟨rfl, -⟩ := hr812
            refine RH.sto ?_
            refine RW.storeWC (d := none) (r := []) (e := 44) (m := 1) (b := pb) (k := (k - 1)) (v := .int .u64 (u[k]!)) (by as_aux_lemma => kernel_rfl) rfl (by as_aux_lemma => kernel_rfl) H rfl hx806 hn807 (u[k]!) u64a ?_
            intro w815 hch814 H
            have H := H.reW (ys := (swp u k (k - 1)).toList) (swp_tl)
            have hS816 := hS.sto hch814 (.inr (by simp))
            refine ⟨hS816, ?_⟩
            have hS := hS816
            refine RH.fin hS 0 [0, 1, 2, 7, 8, 10] [(0, .slice (some ⟨pb, 0, none⟩) z q), (1, .I a), (2, .I b), (7, .I i2), (8, .I t), (10, .I k)] (by as_aux_lemma => kernel_rfl) ?_
            refine qR 1 [.c [2, 0, 1, 0, 0, 1, 0, 0, 6, 0, 1, 0, 0, 2], .l [2, 0, 1, 0, 0, 1, 0, 0, 6, 0, 1, 0, 0], .b 6, .b 1, .c [2, 0, 1, 0, 0, 2], .l [2, 0, 1, 0, 0], .b 0, .c [3]] [(0, .slice (some ⟨pb, 0, none⟩) z q), (1, .I a), (2, .I b), (7, .I i2), (8, .I t), (10, .I k)] ?_
            refine qG (sq 0 3) ?_
            refine qP 1 (sq 1 3) [(0, .slice (some ⟨pb, 0, none⟩) z q), (1, .I a), (2, .I b), (7, .I i2), (8, .I t), (10, .I k), (104, .I k)] ?_
            refine qI .seq 105 (sq 2 3) ((k : Int) + 1) ?_
            refine qF 1 [(0, .slice (some ⟨pb, 0, none⟩) z q), (1, .I a), (2, .I b), (7, .I i2), (8, .I t), (10, .I ((k : Int) + 1))] ?_
            exact WK.back (hback728 (k + 1, (swp u k (k - 1))) _ ⟨H, by rw [← hinv3.1]; exact su_go (by omega) hl9, by rw [swp_size]; exact hinv3.2.1, by omega⟩ (by first | omega | (simp only []; omega))) (by as_aux_lemma => kernel_rfl)
         ·
          have hq9 : u = (fixUp ltInt b i2 g) := by rw [← hinv3.1]; exact (su_end (by omega)).symm
          have hqs : (fixUp ltInt b i2 g).size = z := by rw [← hq9]; first | exact hinv3.2.1 | exact hinv2.2.1 | exact hgs
          rw [hq9] at H
          refine qR 2 [.c [2, 0, 1, 0, 0, 2], .l [2, 0, 1, 0, 0], .b 0, .c [3]] [(0, .slice (some ⟨pb, 0, none⟩) z q), (1, .I a), (2, .I b), (7, .I i2), (8, .I t)] ?_
          refine qG (sq 0 3) ?_
          refine qP 1 (sq 1 3) [(0, .slice (some ⟨pb, 0, none⟩) z q), (1, .I a), (2, .I b), (7, .I i2), (8, .I t), (15, .I t)] ?_
          refine qI .seq 16 (sq 2 3) ((t : Int) + 1) ?_
          refine qF 1 [(0, .slice (some ⟨pb, 0, none⟩) z q), (1, .I a), (2, .I b), (7, .I i2), (8, .I ((t : Int) + 1))] ?_
          exact WK.back (hback1 (t + 1, i2, (fixUp ltInt b i2 g)) _ ⟨H, by rw [← hinv0.1, hs5, hgo9, ← hg]; congr 1; omega, hqs, by omega, by omega, by omega⟩ (by first | omega | (simp only []; omega))) (by as_aux_lemma => kernel_rfl)
        ·
         have hq9 : g = (fixUp ltInt b i2 g) := (if_neg (by omega)).symm
         have hqs : (fixUp ltInt b i2 g).size = z := by rw [← hq9]; first | exact hinv3.2.1 | exact hinv2.2.1 | exact hgs
         rw [hq9] at H
         refine qR 2 [.c [2, 0, 1, 0, 0, 2], .l [2, 0, 1, 0, 0], .b 0, .c [3]] [(0, .slice (some ⟨pb, 0, none⟩) z q), (1, .I a), (2, .I b), (7, .I i2), (8, .I t)] ?_
         refine qG (sq 0 3) ?_
         refine qP 1 (sq 1 3) [(0, .slice (some ⟨pb, 0, none⟩) z q), (1, .I a), (2, .I b), (7, .I i2), (8, .I t), (15, .I t)] ?_
         refine qI .seq 16 (sq 2 3) ((t : Int) + 1) ?_
         refine qF 1 [(0, .slice (some ⟨pb, 0, none⟩) z q), (1, .I a), (2, .I b), (7, .I i2), (8, .I ((t : Int) + 1))] ?_
         exact WK.back (hback1 (t + 1, i2, (fixUp ltInt b i2 g)) _ ⟨H, by rw [← hinv0.1, hs5, hgo9, ← hg]; congr 1; omega, hqs, by omega, by omega, by omega⟩ (by first | omega | (simp only []; omega))) (by as_aux_lemma => kernel_rfl)
 ·
  refine qR 3 [.c [4]] [(6, .bool false)] ?_
  refine qT (.bool false) Try.func54 ?_
  have e9 : (partialInsertionSort ltInt d a b) = (e, false) := by
   rw [← hinv0.1]
   first | (rw [hs5]; exact pi_short (a := a) (b := b) (e := e) (s := s5) hs9 (by omega) (by omega)) | (rw [show 5 - t = 0 by omega]; rfl)
  rw [e9]
  exact ⟨_, rfl, rfl, H.pick [] rfl⟩
end Go.Proofs.Ythbegjaoifghlaa
