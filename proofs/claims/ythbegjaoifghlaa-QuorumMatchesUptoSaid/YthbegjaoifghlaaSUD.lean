import Derived.Test.YthbegjaoifghlaaSUC
namespace Go.Proofs.Ythbegjaoifghlaa
open Go.BX
open Go.Sort (swp insInner insOuter insertionSort ltInt siftDown heapBuild heapPop heapSort reverseLoop reverseRange scanUp scanDown partLoop partition partEqLoop partitionEqual scanSorted shiftDown shiftUp partialIns partialInsertionSort)
theorem okC_ne {C : Conf} (h : okConf C = true) : C.voters ≠ [] := fun q => by have := (okConf_iff.1 h).1; rw [q] at this; exact this rfl
set_option maxHeartbeats 4000000 in
theorem matches_spec {S : Nat → Prop} {w : World} {cs : List Value} {C : Conf} (h : confS.rep S w cs C) {ps : List Peer} {pa : Option Addr} {pc : Nat} (hps : (Shape.slice peerS).rep S w [.slice pa ps.length pc] ps) (hv1 : C.voters.length ≤ 1048576) (hp1 : ps.length ≤ 1048576) :
 Calls Try.prog 6 #[.agg cs.toArray, .slice pa ps.length pc] w (Ret fun v w' => Ext w w' ∧ v = .bool true) := by
 obtain ⟨a0C, k0C, a1C, k1C, rfl, hvC, hlC⟩ := conf_open h
 have hlen := Shape.slice_len hps
 refine qS (fn := Try.f6) (n := 86) (σ := [(0, .agg #[.slice a0C C.voters.length k0C, .slice a1C C.learners.length k1C]), (1, .slice pa ps.length pc)]) Try.func6 ?_
 have H := Hp.startF (w := w) (S := S) (G := [Rp (Shape.slice (Shape.int .i64)) [.slice a0C C.voters.length k0C] C.voters, Rp (Shape.slice (Shape.int .i64)) [.slice a1C C.learners.length k1C] C.learners, Rp (Shape.slice peerS) [.slice pa ps.length pc] ps]) (.rp hvC (.rp hlC (.rp hps .nil)))
 refine qR 1 [.c [0], .c [1]] [(0, .agg #[.slice a0C C.voters.length k0C, .slice a1C C.learners.length k1C]), (1, .slice pa ps.length pc)] ?_
 refine qG (sq 0 2) ?_
 refine qB .seq 2 (sq 1 2) #[.slice a0C C.voters.length k0C, .slice a1C C.learners.length k1C] 24 H ?_
 intro b1 w2 H
 refine qF 1 [(1, .slice pa ps.length pc), (2, .P b1 0)] ?_
 refine qR 1 [.c [1, 0], .c [2]] [(1, .slice pa ps.length pc), (2, .P b1 0)] ?_
 refine qG (sq 0 4) ?_
 refine qL .seq 10 (sq 1 4) 24 b1 0 0 (.agg #[.slice a0C C.voters.length k0C, .slice a1C C.learners.length k1C]) (H.cells 0 rfl) ?_
 refine qP 1 (sq 2 4) [(1, .slice pa ps.length pc), (2, .P b1 0), (10, .agg #[.slice a0C C.voters.length k0C, .slice a1C C.learners.length k1C]), (11, .slice pa ps.length pc)] ?_
 refine qK .seq (some 12) (sq 3 4) 17 #[.agg #[.slice a0C C.voters.length k0C, .slice a1C C.learners.length k1C], .slice pa ps.length pc] (matched_spec (C := C) (conf_mk (H.rp 0 rfl) (H.rp 1 rfl)) (H.rp 2 rfl) (by omega)) ?_
 rintro _ w3 hE4 ⟨m, rfl, hmb, hmed⟩
 have H := H.ext hE4
 refine qF 1 [(1, .slice pa ps.length pc), (2, .P b1 0), (5, .int .u64 m)] ?_
 refine qR 2 [.c [2, 0, 0], .c [2, 0, 1], .c [3]] [(1, .slice pa ps.length pc), (2, .P b1 0), (5, .int .u64 m)] ?_
 refine qG (sq 0 3) ?_
 refine qL .seq 13 (sq 1 3) 24 b1 0 0 (.agg #[.slice a0C C.voters.length k0C, .slice a1C C.learners.length k1C]) (H.cells 0 rfl) ?_
 refine qK .seq (some 14) (sq 2 3) 7 #[.agg #[.slice a0C C.voters.length k0C, .slice a1C C.learners.length k1C]] (check_spec (C := C) (conf_mk (H.rp 0 rfl) (H.rp 1 rfl))) ?_
 rintro _ w5 hE6 rfl
 have H := H.ext hE6
 refine qF 1 [(1, .slice pa ps.length pc), (2, .P b1 0), (5, .int .u64 m), (15, .bool ((errOf (okConf C)) != 0))] ?_
 refine qN (errOf (okConf C)) 0 (fun h7 => ?_) (fun h7 => ?_)
 ·
  refine qR 1 [.c [2, 0, 1, 0, 0], .c [2, 0, 1, 0, 1], .c [3]] [] ?_
  refine qG (sq 0 2) ?_
  refine qK .seq (some 16) (sq 1 2) 9 #[] (heads_spec (S := fun _ => True)) ?_
  rintro _ w8 hE9 rfl
  have H := H.ext hE9
  refine qF 1 [(4, .bool true)] ?_
  refine qT (.bool true) Try.func6 ?_
  exact ⟨_, rfl, H.done, rfl⟩
 ·
  have hokC := errOf_eq h7
  have hlC := ok_len hokC
  refine qR 9 [.c [5, 0, 1, 0], .b 0, .c [6]] [(1, .slice pa ps.length pc), (2, .P b1 0), (5, .int .u64 m), (6, .slice none 0 0), (7, .slice none 0 0), (8, .I 0)] ?_
  have H := H.ownNil (Shape.int .i64) 3
  have H := H.ownNil (Shape.int .i64) 3
  refine WK.loop (α := Nat × List Int × List Int × Option Addr × Nat × Option Addr × Nat) (b := cd Try.prog 6 [5, 0, 1, 0, 0]) (by as_aux_lemma => kernel_rfl) (fun st_ => match st_ with | (i, hv, mo, a8, c8, a9, c9) => [(1, .slice pa ps.length pc), (2, .P b1 0), (5, .int .u64 m), (6, .slice a8 hv.length c8), (7, .slice a9 mo.length c9), (8, .I i)]) (fun st_ w' => match st_ with | (i, hv, mo, a8, c8, a9, c9) => Hp w S [] [(b1, .cells #[.slice a0C C.voters.length k0C, .slice a1C C.learners.length k1C] 24 (0, 0))] [⟨Shape.int .i64, 3, .slice a8 hv.length c8, hv⟩, ⟨Shape.int .i64, 3, .slice a9 mo.length c9, mo⟩] [Rp (Shape.slice (Shape.int .i64)) [.slice a0C C.voters.length k0C] C.voters, Rp (Shape.slice (Shape.int .i64)) [.slice a1C C.learners.length k1C] C.learners, Rp (Shape.slice peerS) [.slice pa ps.length pc] ps] w' ∧ i ≤ ps.length ∧ hv = haveL m (ps.take i) ∧ mo = moreL m (ps.take i) ∧ unlike ps i) (fun st_ => match st_ with | (i, hv, mo, a8, c8, a9, c9) => ps.length - i) (0, [], [], none, 0, none, 0) ⟨H, Nat.zero_le _, rfl, rfl, fun _ _ _ h => absurd h (by omega)⟩ (rfl) ?_
  rintro ⟨i, hv, mo, a8, c8, a9, c9⟩ w11 ⟨H, hinv0⟩ hback10
  have hl8 : hv.length ≤ i := by rw [hinv0.2.1]; exact haveL_le
  have hl9 : mo.length ≤ i := by rw [hinv0.2.2.1]; exact moreL_le
  refine qR 3 [.c [5, 0, 1, 0, 0, 0, 1], .c [5, 0, 1, 0, 0, 1], .l [5, 0, 1, 0, 0], .b 0, .c [6]] [(1, .slice pa ps.length pc), (2, .P b1 0), (5, .int .u64 m), (6, .slice a8 hv.length c8), (7, .slice a9 mo.length c9), (8, .I i), (20, .bool (decide (((i : Int) : Int) < ((ps.length : Nat) : Int))))] ?_
  refine qD (((i : Int) : Int) < ((ps.length : Nat) : Int)) (fun h12 => ?_) (fun h12 => ?_)
  ·
   refine qR 7 [.c [5, 0, 1, 0, 0, 1, 0, 0, 0, 1, 0], .b 2, .c [5, 0, 1, 0, 0, 1, 0, 0, 1], .b 1, .c [5, 0, 1, 0, 0, 2], .l [5, 0, 1, 0, 0], .b 0, .c [6]] [(1, .slice pa ps.length pc), (2, .P b1 0), (5, .int .u64 m), (6, .slice a8 hv.length c8), (7, .slice a9 mo.length c9), (8, .I i), (9, .I 0)] ?_
   refine WK.loop (α := Nat) (b := cd Try.prog 6 [5, 0, 1, 0, 0, 1, 0, 0, 0, 1, 0, 0]) (by as_aux_lemma => kernel_rfl) (fun k => [(1, .slice pa ps.length pc), (2, .P b1 0), (5, .int .u64 m), (6, .slice a8 hv.length c8), (7, .slice a9 mo.length c9), (8, .I i), (9, .I k)]) (fun k w' => Hp w S [] [(b1, .cells #[.slice a0C C.voters.length k0C, .slice a1C C.learners.length k1C] 24 (0, 0))] [⟨Shape.int .i64, 3, .slice a8 hv.length c8, hv⟩, ⟨Shape.int .i64, 3, .slice a9 mo.length c9, mo⟩] [Rp (Shape.slice (Shape.int .i64)) [.slice a0C C.voters.length k0C] C.voters, Rp (Shape.slice (Shape.int .i64)) [.slice a1C C.learners.length k1C] C.learners, Rp (Shape.slice peerS) [.slice pa ps.length pc] ps] w' ∧ k ≤ i ∧ ∀ j (_ : j < k) (hj : j < ps.length), ps[j].id ≠ ps[i].id) (fun k => i - k) 0 ⟨H, Nat.zero_le _, fun _ h => absurd h (by omega)⟩ (rfl) ?_
   rintro k w14 ⟨H, hinv1⟩ hback13
   refine qR 3 [.c [5, 0, 1, 0, 0, 1, 0, 0, 0, 1, 0, 0, 0, 1], .c [5, 0, 1, 0, 0, 1, 0, 0, 0, 1, 0, 0, 1], .l [5, 0, 1, 0, 0, 1, 0, 0, 0, 1, 0, 0], .b 2, .c [5, 0, 1, 0, 0, 1, 0, 0, 1], .b 1, .c [5, 0, 1, 0, 0, 2], .l [5, 0, 1, 0, 0], .b 0, .c [6]] [(1, .slice pa ps.length pc), (2, .P b1 0), (5, .int .u64 m), (6, .slice a8 hv.length c8), (7, .slice a9 mo.length c9), (8, .I i), (9, .I k), (25, .bool (decide (((k : Int) : Int) < (i : Int))))] ?_
   refine qD (((k : Int) : Int) < (i : Int)) (fun h15 => ?_) (fun h15 => ?_)
   ·
    refine qR 4 [.c [5, 0, 1, 0, 0, 1, 0, 0, 0, 1, 0, 0, 1, 0, 0, 0], .c [5, 0, 1, 0, 0, 1, 0, 0, 0, 1, 0, 0, 1, 0, 0, 1], .b 3, .c [5, 0, 1, 0, 0, 1, 0, 0, 0, 1, 0, 0, 2], .l [5, 0, 1, 0, 0, 1, 0, 0, 0, 1, 0, 0], .b 2, .c [5, 0, 1, 0, 0, 1, 0, 0, 1], .b 1, .c [5, 0, 1, 0, 0, 2], .l [5, 0, 1, 0, 0], .b 0, .c [6]] [(1, .slice pa ps.length pc), (2, .P b1 0), (5, .int .u64 m), (6, .slice a8 hv.length c8), (7, .slice a9 mo.length c9), (8, .I i), (9, .I k)] ?_
    refine WK.draw1 11 (qs [0, 1, 2, 3, 4, 5, 6, 7, 8, 9, 10]) (qs [0, 1, 2, 3, 4, 5, 6, 7, 8, 9, 10]) Try_mixed (by as_aux_lemma => kernel_rfl) (by as_aux_lemma => kernel_rfl) (by as_aux_lemma => kernel_rfl) ?_
    have H := H.draw
    generalize ({ w14 with drawn := w14.drawn + 1 } : World) = w16 at H ⊢
    refine qP 2 (qs [2, 3, 4, 5, 6, 7, 8, 9, 10]) [(1, .slice pa ps.length pc), (2, .P b1 0), (5, .int .u64 m), (6, .slice a8 hv.length c8), (7, .slice a9 mo.length c9), (8, .I i), (9, .I k), (28, .slice pa ps.length pc), (29, .I k)] ?_
    have hx17 : k < ps.length := by omega
    refine qX .qui 30 (qs [3, 4, 5, 6, 7, 8, 9, 10]) 43 47 (k : Int) peerS (ps[k]) H 2 rfl k (by omega) (List.getElem?_eq_getElem hx17) ?_
    intro b18 o19 es20 hr21 H
    obtain ⟨rfl, hf23, hf24, hf25⟩ := peer_open hr21
    refine qP 1 (qs [4, 5, 6, 7, 8, 9, 10]) [(1, .slice pa ps.length pc), (2, .P b1 0), (5, .int .u64 m), (6, .slice a8 hv.length c8), (7, .slice a9 mo.length c9), (8, .I i), (9, .I k), (31, .P b18 o19)] ?_
    refine qL .qui 32 (qs [5, 6, 7, 8, 9, 10]) 3 b18 o19 0 (.I ((ps[k]).id)) (H.fc 0 rfl) ?_
    refine qP 2 (qs [7, 8, 9, 10]) [(1, .slice pa ps.length pc), (2, .P b1 0), (5, .int .u64 m), (6, .slice a8 hv.length c8), (7, .slice a9 mo.length c9), (8, .I i), (9, .I k), (32, .I ((ps[k]).id)), (33, .slice pa ps.length pc), (34, .I i)] ?_
    have hx26 : i < ps.length := by omega
    refine qX .qui 35 (qs [8, 9, 10]) 43 47 (i : Int) peerS (ps[i]) H 3 rfl i (by omega) (List.getElem?_eq_getElem hx26) ?_
    intro b27 o28 es29 hr30 H
    obtain ⟨rfl, hf32, hf33, hf34⟩ := peer_open hr30
    refine qP 1 (qs [9, 10]) [(1, .slice pa ps.length pc), (2, .P b1 0), (5, .int .u64 m), (6, .slice a8 hv.length c8), (7, .slice a9 mo.length c9), (8, .I i), (9, .I k), (32, .I ((ps[k]).id)), (36, .P b27 o28)] ?_
    refine qL .qui 37 [(10, .qui)] 3 b27 o28 0 (.I ((ps[i]).id)) (H.fc 0 rfl) ?_
    refine qF 1 [(1, .slice pa ps.length pc), (2, .P b1 0), (5, .int .u64 m), (6, .slice a8 hv.length c8), (7, .slice a9 mo.length c9), (8, .I i), (9, .I k), (38, .bool (((ps[k]).id) == ((ps[i]).id)))] ?_
    refine qE ((ps[k]).id) ((ps[i]).id) (fun h35 => ?_) (fun h35 => ?_)
    ·
     refine qR 1 [.c [5, 0, 1, 0, 0, 1, 0, 0, 0, 1, 0, 0, 1, 0, 0, 1, 0, 0], .c [5, 0, 1, 0, 0, 1, 0, 0, 0, 1, 0, 0, 1, 0, 0, 1, 0, 1], .b 3, .c [5, 0, 1, 0, 0, 1, 0, 0, 0, 1, 0, 0, 2], .l [5, 0, 1, 0, 0, 1, 0, 0, 0, 1, 0, 0], .b 2, .c [5, 0, 1, 0, 0, 1, 0, 0, 1], .b 1, .c [5, 0, 1, 0, 0, 2], .l [5, 0, 1, 0, 0], .b 0, .c [6]] [] ?_
     refine qG (sq 0 2) ?_
     refine qK .seq (some 39) (sq 1 2) 9 #[] (heads_spec (S := fun _ => True)) ?_
     rintro _ w36 hE37 rfl
     have H := H.ext hE37
     refine qF 1 [(4, .bool true)] ?_
     refine qT (.bool true) Try.func6 ?_
     exact ⟨_, rfl, H.done, rfl⟩
    ·
     refine qR 2 [.c [5, 0, 1, 0, 0, 1, 0, 0, 0, 1, 0, 0, 2], .l [5, 0, 1, 0, 0, 1, 0, 0, 0, 1, 0, 0], .b 2, .c [5, 0, 1, 0, 0, 1, 0, 0, 1], .b 1, .c [5, 0, 1, 0, 0, 2], .l [5, 0, 1, 0, 0], .b 0, .c [6]] [(1, .slice pa ps.length pc), (2, .P b1 0), (5, .int .u64 m), (6, .slice a8 hv.length c8), (7, .slice a9 mo.length c9), (8, .I i), (9, .I k)] ?_
     refine qG (sq 0 3) ?_
     refine qP 1 (sq 1 3) [(1, .slice pa ps.length pc), (2, .P b1 0), (5, .int .u64 m), (6, .slice a8 hv.length c8), (7, .slice a9 mo.length c9), (8, .I i), (9, .I k), (26, .I k)] ?_
     refine qI .seq 27 (sq 2 3) ((k : Int) + 1) ?_
     refine qF 1 [(1, .slice pa ps.length pc), (2, .P b1 0), (5, .int .u64 m), (6, .slice a8 hv.length c8), (7, .slice a9 mo.length c9), (8, .I i), (9, .I ((k : Int) + 1))] ?_
     have H := H.pick [2, 3, 4] rfl
     exact WK.back (hback13 (k + 1) _ ⟨H, by omega, fun j hj hl => (Nat.lt_or_ge j k).elim (fun q => hinv1.2 j q hl) (fun q => by
      have e : j = k := by omega
      subst e
      assumption)⟩ (by first | omega | (simp only []; omega))) (by as_aux_lemma => kernel_rfl)
   ·
    refine qR 3 [.c [5, 0, 1, 0, 0, 1, 0, 0, 1, 0, 0], .c [5, 0, 1, 0, 0, 1, 0, 0, 1, 0, 1], .c [5, 0, 1, 0, 0, 1, 0, 0, 2], .b 1, .c [5, 0, 1, 0, 0, 2], .l [5, 0, 1, 0, 0], .b 0, .c [6]] [(1, .slice pa ps.length pc), (2, .P b1 0), (5, .int .u64 m), (6, .slice a8 hv.length c8), (7, .slice a9 mo.length c9), (8, .I i)] ?_
    refine qG (sq 0 7) ?_
    refine qP 2 (sq 2 7) [(1, .slice pa ps.length pc), (2, .P b1 0), (5, .int .u64 m), (6, .slice a8 hv.length c8), (7, .slice a9 mo.length c9), (8, .I i), (40, .slice pa ps.length pc), (41, .I i)] ?_
    have hx38 : i < ps.length := by omega
    refine qX .seq 42 (sq 3 7) 43 47 (i : Int) peerS (ps[i]) H 2 rfl i (by omega) (List.getElem?_eq_getElem hx38) ?_
    intro b39 o40 es41 hr42 H
    obtain ⟨rfl, hf44, hf45, hf46⟩ := peer_open hr42
    refine qP 1 (sq 4 7) [(1, .slice pa ps.length pc), (2, .P b1 0), (5, .int .u64 m), (6, .slice a8 hv.length c8), (7, .slice a9 mo.length c9), (8, .I i), (43, .pointer (some ⟨b39, o40 + 2, none⟩))] ?_
    refine qL .seq 44 (sq 5 7) 44 b39 (o40 + 2) 2 (.int .u64 ((ps[i]).mat)) (H.fc 0 rfl) ?_
    refine qF 2 [(1, .slice pa ps.length pc), (2, .P b1 0), (5, .int .u64 m), (6, .slice a8 hv.length c8), (7, .slice a9 mo.length c9), (8, .I i), (46, .bool (decide (((ps[i]).mat : Int) ≥ m)))] ?_
    refine qD (((ps[i]).mat : Int) ≥ m) (fun h47 => ?_) (fun h47 => ?_)
    ·
     have hs1 : haveL m (ps.take (i + 1)) = haveL m (ps.take i) ++ [ps[i].id] := by rw [haveL_step (by omega), if_pos (by omega)]
     refine qG (sq 0 9) ?_
     refine qP 3 (sq 3 9) [(1, .slice pa ps.length pc), (2, .P b1 0), (5, .int .u64 m), (6, .slice a8 hv.length c8), (7, .slice a9 mo.length c9), (8, .I i), (47, .slice a8 hv.length c8), (48, .slice pa ps.length pc), (49, .I i)] ?_
     have hx48 : i < ps.length := by omega
     refine qX .seq 50 (sq 4 9) 43 47 (i : Int) peerS (ps[i]) H 3 rfl i (by omega) (List.getElem?_eq_getElem hx48) ?_
     intro b49 o50 es51 hr52 H
     obtain ⟨rfl, hf54, hf55, hf56⟩ := peer_open hr52
     refine qP 1 (sq 5 9) [(1, .slice pa ps.length pc), (2, .P b1 0), (5, .int .u64 m), (6, .slice a8 hv.length c8), (7, .slice a9 mo.length c9), (8, .I i), (47, .slice a8 hv.length c8), (51, .P b49 o50)] ?_
     refine qL .seq 52 (sq 6 9) 3 b49 o50 0 (.I ((ps[i]).id)) (H.fc 0 rfl) ?_
     refine RW.new (κ := .seq) (d := some 53) (r := (sq 7 9)) (o := .cells #[.I ((ps[i]).id)] 3 (0, 0)) (v := fun b => .slice (some ⟨b, 0, none⟩) 1 1) (fun b => by as_aux_lemma => kernel_rfl) (nofun) H ?_
     intro b57 w58 H
     have H := H.freeze 0 rfl (Shape.int .i64) ([(ps[i]).id] : List Int) 1 (by simp [maxLen]) (by first | exact Nat.le_refl _ | simp) (EsP.cons (c := [.I ((ps[i]).id)]) i64a EsP.nil)
     have H : Hp w S [] [(b1, .cells #[.slice a0C C.voters.length k0C, .slice a1C C.learners.length k1C] 24 (0, 0))] [⟨Shape.int .i64, 3, .slice a8 hv.length c8, hv⟩, ⟨Shape.int .i64, 3, .slice a9 mo.length c9, mo⟩] [Rp (Shape.slice (Shape.int .i64)) [.slice (some ⟨b57, 0, none⟩) 1 1] ([(ps[i]).id] : List Int), Fc b49 o50 [.I ((ps[i]).id), .int .u64 ((ps[i]).next), .int .u64 ((ps[i]).mat), .bool ((ps[i]).heard)], Fc b39 o40 [.I ((ps[i]).id), .int .u64 ((ps[i]).next), .int .u64 ((ps[i]).mat), .bool ((ps[i]).heard)], Rp (Shape.slice (Shape.int .i64)) [.slice a0C C.voters.length k0C] C.voters, Rp (Shape.slice (Shape.int .i64)) [.slice a1C C.learners.length k1C] C.learners, Rp (Shape.slice peerS) [.slice pa ps.length pc] ps] _ := H
     refine RW.appendW (d := some 54) (r := (sq 8 9)) (T := 22) (ty := 22) (e := 3) (m := 1) (by_ := 8) (v := .slice a8 hv.length c8) (a2 := (some ⟨b57, 0, none⟩)) (l2 := 1) (c2 := 1) (zs := hv ++ ([(ps[i]).id] : List Int)) (by as_aux_lemma => kernel_rfl) (by as_aux_lemma => kernel_rfl) rfl H 0 rfl 0 rfl (rfl) (by simp; omega) ?_
     intro a59 c60 w62 H hc61
     have H : Hp w S [] [(b1, .cells #[.slice a0C C.voters.length k0C, .slice a1C C.learners.length k1C] 24 (0, 0))] [⟨Shape.int .i64, 3, .slice a59 ((hv ++ ([(ps[i]).id] : List Int)).length) c60, hv ++ ([(ps[i]).id] : List Int)⟩, ⟨Shape.int .i64, 3, .slice a9 mo.length c9, mo⟩] [Rp (Shape.slice (Shape.int .i64)) [.slice (some ⟨b57, 0, none⟩) 1 1] ([(ps[i]).id] : List Int), Fc b49 o50 [.I ((ps[i]).id), .int .u64 ((ps[i]).next), .int .u64 ((ps[i]).mat), .bool ((ps[i]).heard)], Fc b39 o40 [.I ((ps[i]).id), .int .u64 ((ps[i]).next), .int .u64 ((ps[i]).mat), .bool ((ps[i]).heard)], Rp (Shape.slice (Shape.int .i64)) [.slice a0C C.voters.length k0C] C.voters, Rp (Shape.slice (Shape.int .i64)) [.slice a1C C.learners.length k1C] C.learners, Rp (Shape.slice peerS) [.slice pa ps.length pc] ps] _ := H
     refine qF 1 [(1, .slice pa ps.length pc), (2, .P b1 0), (5, .int .u64 m), (6, .slice a59 ((hv ++ ([(ps[i]).id] : List Int)).length) c60), (7, .slice a9 mo.length c9), (8, .I i)] ?_
     refine qR 1 [.c [5, 0, 1, 0, 0, 1, 0, 0, 2, 0], .c [5, 0, 1, 0, 0, 1, 0, 0, 3], .b 1, .c [5, 0, 1, 0, 0, 2], .l [5, 0, 1, 0, 0], .b 0, .c [6]] [(1, .slice pa ps.length pc), (2, .P b1 0), (5, .int .u64 m), (6, .slice a59 ((hv ++ ([(ps[i]).id] : List Int)).length) c60), (7, .slice a9 mo.length c9), (8, .I i)] ?_
     refine qG (sq 0 7) ?_
     refine qP 2 (sq 2 7) [(1, .slice pa ps.length pc), (2, .P b1 0), (5, .int .u64 m), (6, .slice a59 ((hv ++ ([(ps[i]).id] : List Int)).length) c60), (7, .slice a9 mo.length c9), (8, .I i), (55, .slice pa ps.length pc), (56, .I i)] ?_
     have hx63 : i < ps.length := by omega
     refine qX .seq 57 (sq 3 7) 43 47 (i : Int) peerS (ps[i]) H 5 rfl i (by omega) (List.getElem?_eq_getElem hx63) ?_
     intro b64 o65 es66 hr67 H
     obtain ⟨rfl, hf69, hf70, hf71⟩ := peer_open hr67
     refine qP 1 (sq 4 7) [(1, .slice pa ps.length pc), (2, .P b1 0), (5, .int .u64 m), (6, .slice a59 ((hv ++ ([(ps[i]).id] : List Int)).length) c60), (7, .slice a9 mo.length c9), (8, .I i), (58, .pointer (some ⟨b64, o65 + 2, none⟩))] ?_
     refine qL .seq 59 (sq 5 7) 44 b64 (o65 + 2) 2 (.int .u64 ((ps[i]).mat)) (H.fc 0 rfl) ?_
     refine qF 2 [(1, .slice pa ps.length pc), (2, .P b1 0), (5, .int .u64 m), (6, .slice a59 ((hv ++ ([(ps[i]).id] : List Int)).length) c60), (7, .slice a9 mo.length c9), (8, .I i), (61, .bool (decide (((ps[i]).mat : Int) > m)))] ?_
     refine qD (((ps[i]).mat : Int) > m) (fun h72 => ?_) (fun h72 => ?_)
     ·
      have hs2 : moreL m (ps.take (i + 1)) = moreL m (ps.take i) ++ [ps[i].id] := by rw [moreL_step (by omega), if_pos (by omega)]
      refine qG (sq 0 9) ?_
      refine qP 3 (sq 3 9) [(1, .slice pa ps.length pc), (2, .P b1 0), (5, .int .u64 m), (6, .slice a59 ((hv ++ ([(ps[i]).id] : List Int)).length) c60), (7, .slice a9 mo.length c9), (8, .I i), (62, .slice a9 mo.length c9), (63, .slice pa ps.length pc), (64, .I i)] ?_
      have hx73 : i < ps.length := by omega
      refine qX .seq 65 (sq 4 9) 43 47 (i : Int) peerS (ps[i]) H 6 rfl i (by omega) (List.getElem?_eq_getElem hx73) ?_
      intro b74 o75 es76 hr77 H
      obtain ⟨rfl, hf79, hf80, hf81⟩ := peer_open hr77
      refine qP 1 (sq 5 9) [(1, .slice pa ps.length pc), (2, .P b1 0), (5, .int .u64 m), (6, .slice a59 ((hv ++ ([(ps[i]).id] : List Int)).length) c60), (7, .slice a9 mo.length c9), (8, .I i), (62, .slice a9 mo.length c9), (66, .P b74 o75)] ?_
      refine qL .seq 67 (sq 6 9) 3 b74 o75 0 (.I ((ps[i]).id)) (H.fc 0 rfl) ?_
      refine RW.new (κ := .seq) (d := some 68) (r := (sq 7 9)) (o := .cells #[.I ((ps[i]).id)] 3 (0, 0)) (v := fun b => .slice (some ⟨b, 0, none⟩) 1 1) (fun b => by as_aux_lemma => kernel_rfl) (nofun) H ?_
      intro b82 w83 H
      have H := H.freeze 0 rfl (Shape.int .i64) ([(ps[i]).id] : List Int) 1 (by simp [maxLen]) (by first | exact Nat.le_refl _ | simp) (EsP.cons (c := [.I ((ps[i]).id)]) i64a EsP.nil)
      have H : Hp w S [] [(b1, .cells #[.slice a0C C.voters.length k0C, .slice a1C C.learners.length k1C] 24 (0, 0))] [⟨Shape.int .i64, 3, .slice a59 ((hv ++ ([(ps[i]).id] : List Int)).length) c60, hv ++ ([(ps[i]).id] : List Int)⟩, ⟨Shape.int .i64, 3, .slice a9 mo.length c9, mo⟩] [Rp (Shape.slice (Shape.int .i64)) [.slice (some ⟨b82, 0, none⟩) 1 1] ([(ps[i]).id] : List Int), Fc b74 o75 [.I ((ps[i]).id), .int .u64 ((ps[i]).next), .int .u64 ((ps[i]).mat), .bool ((ps[i]).heard)], Fc b64 o65 [.I ((ps[i]).id), .int .u64 ((ps[i]).next), .int .u64 ((ps[i]).mat), .bool ((ps[i]).heard)], Rp (Shape.slice (Shape.int .i64)) [.slice (some ⟨b57, 0, none⟩) 1 1] ([(ps[i]).id] : List Int), Fc b49 o50 [.I ((ps[i]).id), .int .u64 ((ps[i]).next), .int .u64 ((ps[i]).mat), .bool ((ps[i]).heard)], Fc b39 o40 [.I ((ps[i]).id), .int .u64 ((ps[i]).next), .int .u64 ((ps[i]).mat), .bool ((ps[i]).heard)], Rp (Shape.slice (Shape.int .i64)) [.slice a0C C.voters.length k0C] C.voters, Rp (Shape.slice (Shape.int .i64)) [.slice a1C C.learners.length k1C] C.learners, Rp (Shape.slice peerS) [.slice pa ps.length pc] ps] _ := H
      refine RW.appendW (d := some 69) (r := (sq 8 9)) (T := 22) (ty := 22) (e := 3) (m := 1) (by_ := 8) (v := .slice a9 mo.length c9) (a2 := (some ⟨b82, 0, none⟩)) (l2 := 1) (c2 := 1) (zs := mo ++ ([(ps[i]).id] : List Int)) (by as_aux_lemma => kernel_rfl) (by as_aux_lemma => kernel_rfl) rfl H 1 rfl 0 rfl (rfl) (by simp; omega) ?_
      intro a84 c85 w87 H hc86
      have H : Hp w S [] [(b1, .cells #[.slice a0C C.voters.length k0C, .slice a1C C.learners.length k1C] 24 (0, 0))] [⟨Shape.int .i64, 3, .slice a59 ((hv ++ ([(ps[i]).id] : List Int)).length) c60, hv ++ ([(ps[i]).id] : List Int)⟩, ⟨Shape.int .i64, 3, .slice a84 ((mo ++ ([(ps[i]).id] : List Int)).length) c85, mo ++ ([(ps[i]).id] : List Int)⟩] [Rp (Shape.slice (Shape.int .i64)) [.slice (some ⟨b82, 0, none⟩) 1 1] ([(ps[i]).id] : List Int), Fc b74 o75 [.I ((ps[i]).id), .int .u64 ((ps[i]).next), .int .u64 ((ps[i]).mat), .bool ((ps[i]).heard)], Fc b64 o65 [.I ((ps[i]).id), .int .u64 ((ps[i]).next), .int .u64 ((ps[i]).mat), .bool ((ps[i]).heard)], Rp (Shape.slice (Shape.int .i64)) [.slice (some ⟨b57, 0, none⟩) 1 1] ([(ps[i]).id] : List Int), Fc b49 o50 [.I ((ps[i]).id), .int .u64 ((ps[i]).next), .int .u64 ((ps[i]).mat), .bool ((ps[i]).heard)], Fc b39 o40 [.I ((ps[i]).id), .int .u64 ((ps[i]).next), .int .u64 ((ps[i]).mat), .bool ((ps[i]).heard)], Rp (Shape.slice (Shape.int .i64)) [.slice a0C C.voters.length k0C] C.voters, Rp (Shape.slice (Shape.int .i64)) [.slice a1C C.learners.length k1C] C.learners, Rp (Shape.slice peerS) [.slice pa ps.length pc] ps] _ := H
      refine qF 1 [(1, .slice pa ps.length pc), (2, .P b1 0), (5, .int .u64 m), (6, .slice a59 ((hv ++ ([(ps[i]).id] : List Int)).length) c60), (7, .slice a84 ((mo ++ ([(ps[i]).id] : List Int)).length) c85), (8, .I i)] ?_
      refine qR 1 [.c [5, 0, 1, 0, 0, 2], .l [5, 0, 1, 0, 0], .b 0, .c [6]] [(1, .slice pa ps.length pc), (2, .P b1 0), (5, .int .u64 m), (6, .slice a59 ((hv ++ ([(ps[i]).id] : List Int)).length) c60), (7, .slice a84 ((mo ++ ([(ps[i]).id] : List Int)).length) c85), (8, .I i)] ?_
      refine qG (sq 0 3) ?_
      refine qP 1 (sq 1 3) [(1, .slice pa ps.length pc), (2, .P b1 0), (5, .int .u64 m), (6, .slice a59 ((hv ++ ([(ps[i]).id] : List Int)).length) c60), (7, .slice a84 ((mo ++ ([(ps[i]).id] : List Int)).length) c85), (8, .I i), (21, .I i)] ?_
      refine qI .seq 22 (sq 2 3) ((i : Int) + 1) ?_
      refine qF 1 [(1, .slice pa ps.length pc), (2, .P b1 0), (5, .int .u64 m), (6, .slice a59 ((hv ++ ([(ps[i]).id] : List Int)).length) c60), (7, .slice a84 ((mo ++ ([(ps[i]).id] : List Int)).length) c85), (8, .I ((i : Int) + 1))] ?_
      have H := H.pick [6, 7, 8] rfl
      exact WK.back (hback10 (i + 1, hv ++ ([(ps[i]).id] : List Int), mo ++ ([(ps[i]).id] : List Int), a59, c60, a84, c85) _ ⟨H, by omega, by rw [hs1, ← hinv0.2.1], by rw [hs2, ← hinv0.2.2.1], unlike_step hinv0.2.2.2 (by omega) (fun j hj => hinv1.2 j (by omega) (by omega))⟩ (by first | omega | (simp only []; omega))) (by as_aux_lemma => kernel_rfl)
     ·
      have hs2 : moreL m (ps.take (i + 1)) = moreL m (ps.take i) := by rw [moreL_step (by omega), if_neg (by omega)]
      refine qR 2 [.c [5, 0, 1, 0, 0, 2], .l [5, 0, 1, 0, 0], .b 0, .c [6]] [(1, .slice pa ps.length pc), (2, .P b1 0), (5, .int .u64 m), (6, .slice a59 ((hv ++ ([(ps[i]).id] : List Int)).length) c60), (7, .slice a9 mo.length c9), (8, .I i)] ?_
      refine qG (sq 0 3) ?_
      refine qP 1 (sq 1 3) [(1, .slice pa ps.length pc), (2, .P b1 0), (5, .int .u64 m), (6, .slice a59 ((hv ++ ([(ps[i]).id] : List Int)).length) c60), (7, .slice a9 mo.length c9), (8, .I i), (21, .I i)] ?_
      refine qI .seq 22 (sq 2 3) ((i : Int) + 1) ?_
      refine qF 1 [(1, .slice pa ps.length pc), (2, .P b1 0), (5, .int .u64 m), (6, .slice a59 ((hv ++ ([(ps[i]).id] : List Int)).length) c60), (7, .slice a9 mo.length c9), (8, .I ((i : Int) + 1))] ?_
      have H := H.pick [4, 5, 6] rfl
      exact WK.back (hback10 (i + 1, hv ++ ([(ps[i]).id] : List Int), mo, a59, c60, a9, c9) _ ⟨H, by omega, by rw [hs1, ← hinv0.2.1], by rw [hs2, ← hinv0.2.2.1], unlike_step hinv0.2.2.2 (by omega) (fun j hj => hinv1.2 j (by omega) (by omega))⟩ (by first | omega | (simp only []; omega))) (by as_aux_lemma => kernel_rfl)
    ·
     have hs1 : haveL m (ps.take (i + 1)) = haveL m (ps.take i) := by rw [haveL_step (by omega), if_neg (by omega)]
     refine qR 2 [.c [5, 0, 1, 0, 0, 1, 0, 0, 2, 0], .c [5, 0, 1, 0, 0, 1, 0, 0, 3], .b 1, .c [5, 0, 1, 0, 0, 2], .l [5, 0, 1, 0, 0], .b 0, .c [6]] [(1, .slice pa ps.length pc), (2, .P b1 0), (5, .int .u64 m), (6, .slice a8 hv.length c8), (7, .slice a9 mo.length c9), (8, .I i)] ?_
     refine qG (sq 0 7) ?_
     refine qP 2 (sq 2 7) [(1, .slice pa ps.length pc), (2, .P b1 0), (5, .int .u64 m), (6, .slice a8 hv.length c8), (7, .slice a9 mo.length c9), (8, .I i), (55, .slice pa ps.length pc), (56, .I i)] ?_
     have hx88 : i < ps.length := by omega
     refine qX .seq 57 (sq 3 7) 43 47 (i : Int) peerS (ps[i]) H 3 rfl i (by omega) (List.getElem?_eq_getElem hx88) ?_
     intro b89 o90 es91 hr92 H
     obtain ⟨rfl, hf94, hf95, hf96⟩ := peer_open hr92
     refine qP 1 (sq 4 7) [(1, .slice pa ps.length pc), (2, .P b1 0), (5, .int .u64 m), (6, .slice a8 hv.length c8), (7, .slice a9 mo.length c9), (8, .I i), (58, .pointer (some ⟨b89, o90 + 2, none⟩))] ?_
     refine qL .seq 59 (sq 5 7) 44 b89 (o90 + 2) 2 (.int .u64 ((ps[i]).mat)) (H.fc 0 rfl) ?_
     refine qF 2 [(1, .slice pa ps.length pc), (2, .P b1 0), (5, .int .u64 m), (6, .slice a8 hv.length c8), (7, .slice a9 mo.length c9), (8, .I i), (61, .bool (decide (((ps[i]).mat : Int) > m)))] ?_
     refine qD (((ps[i]).mat : Int) > m) (fun h97 => ?_) (fun h97 => ?_)
     ·
      have hs2 : moreL m (ps.take (i + 1)) = moreL m (ps.take i) ++ [ps[i].id] := by rw [moreL_step (by omega), if_pos (by omega)]
      refine qG (sq 0 9) ?_
      refine qP 3 (sq 3 9) [(1, .slice pa ps.length pc), (2, .P b1 0), (5, .int .u64 m), (6, .slice a8 hv.length c8), (7, .slice a9 mo.length c9), (8, .I i), (62, .slice a9 mo.length c9), (63, .slice pa ps.length pc), (64, .I i)] ?_
      have hx98 : i < ps.length := by omega
      refine qX .seq 65 (sq 4 9) 43 47 (i : Int) peerS (ps[i]) H 4 rfl i (by omega) (List.getElem?_eq_getElem hx98) ?_
      intro b99 o100 es101 hr102 H
      obtain ⟨rfl, hf104, hf105, hf106⟩ := peer_open hr102
      refine qP 1 (sq 5 9) [(1, .slice pa ps.length pc), (2, .P b1 0), (5, .int .u64 m), (6, .slice a8 hv.length c8), (7, .slice a9 mo.length c9), (8, .I i), (62, .slice a9 mo.length c9), (66, .P b99 o100)] ?_
      refine qL .seq 67 (sq 6 9) 3 b99 o100 0 (.I ((ps[i]).id)) (H.fc 0 rfl) ?_
      refine RW.new (κ := .seq) (d := some 68) (r := (sq 7 9)) (o := .cells #[.I ((ps[i]).id)] 3 (0, 0)) (v := fun b => .slice (some ⟨b, 0, none⟩) 1 1) (fun b => by as_aux_lemma => kernel_rfl) (nofun) H ?_
      intro b107 w108 H
      have H := H.freeze 0 rfl (Shape.int .i64) ([(ps[i]).id] : List Int) 1 (by simp [maxLen]) (by first | exact Nat.le_refl _ | simp) (EsP.cons (c := [.I ((ps[i]).id)]) i64a EsP.nil)
      have H : Hp w S [] [(b1, .cells #[.slice a0C C.voters.length k0C, .slice a1C C.learners.length k1C] 24 (0, 0))] [⟨Shape.int .i64, 3, .slice a8 hv.length c8, hv⟩, ⟨Shape.int .i64, 3, .slice a9 mo.length c9, mo⟩] [Rp (Shape.slice (Shape.int .i64)) [.slice (some ⟨b107, 0, none⟩) 1 1] ([(ps[i]).id] : List Int), Fc b99 o100 [.I ((ps[i]).id), .int .u64 ((ps[i]).next), .int .u64 ((ps[i]).mat), .bool ((ps[i]).heard)], Fc b89 o90 [.I ((ps[i]).id), .int .u64 ((ps[i]).next), .int .u64 ((ps[i]).mat), .bool ((ps[i]).heard)], Fc b39 o40 [.I ((ps[i]).id), .int .u64 ((ps[i]).next), .int .u64 ((ps[i]).mat), .bool ((ps[i]).heard)], Rp (Shape.slice (Shape.int .i64)) [.slice a0C C.voters.length k0C] C.voters, Rp (Shape.slice (Shape.int .i64)) [.slice a1C C.learners.length k1C] C.learners, Rp (Shape.slice peerS) [.slice pa ps.length pc] ps] _ := H
      refine RW.appendW (d := some 69) (r := (sq 8 9)) (T := 22) (ty := 22) (e := 3) (m := 1) (by_ := 8) (v := .slice a9 mo.length c9) (a2 := (some ⟨b107, 0, none⟩)) (l2 := 1) (c2 := 1) (zs := mo ++ ([(ps[i]).id] : List Int)) (by as_aux_lemma => kernel_rfl) (by as_aux_lemma => kernel_rfl) rfl H 1 rfl 0 rfl (rfl) (by simp; omega) ?_
      intro a109 c110 w112 H hc111
      have H : Hp w S [] [(b1, .cells #[.slice a0C C.voters.length k0C, .slice a1C C.learners.length k1C] 24 (0, 0))] [⟨Shape.int .i64, 3, .slice a8 hv.length c8, hv⟩, ⟨Shape.int .i64, 3, .slice a109 ((mo ++ ([(ps[i]).id] : List Int)).length) c110, mo ++ ([(ps[i]).id] : List Int)⟩] [Rp (Shape.slice (Shape.int .i64)) [.slice (some ⟨b107, 0, none⟩) 1 1] ([(ps[i]).id] : List Int), Fc b99 o100 [.I ((ps[i]).id), .int .u64 ((ps[i]).next), .int .u64 ((ps[i]).mat), .bool ((ps[i]).heard)], Fc b89 o90 [.I ((ps[i]).id), .int .u64 ((ps[i]).next), .int .u64 ((ps[i]).mat), .bool ((ps[i]).heard)], Fc b39 o40 [.I ((ps[i]).id), .int .u64 ((ps[i]).next), .int .u64 ((ps[i]).mat), .bool ((ps[i]).heard)], Rp (Shape.slice (Shape.int .i64)) [.slice a0C C.voters.length k0C] C.voters, Rp (Shape.slice (Shape.int .i64)) [.slice a1C C.learners.length k1C] C.learners, Rp (Shape.slice peerS) [.slice pa ps.length pc] ps] _ := H
      refine qF 1 [(1, .slice pa ps.length pc), (2, .P b1 0), (5, .int .u64 m), (6, .slice a8 hv.length c8), (7, .slice a109 ((mo ++ ([(ps[i]).id] : List Int)).length) c110), (8, .I i)] ?_
      refine qR 1 [.c [5, 0, 1, 0, 0, 2], .l [5, 0, 1, 0, 0], .b 0, .c [6]] [(1, .slice pa ps.length pc), (2, .P b1 0), (5, .int .u64 m), (6, .slice a8 hv.length c8), (7, .slice a109 ((mo ++ ([(ps[i]).id] : List Int)).length) c110), (8, .I i)] ?_
      refine qG (sq 0 3) ?_
      refine qP 1 (sq 1 3) [(1, .slice pa ps.length pc), (2, .P b1 0), (5, .int .u64 m), (6, .slice a8 hv.length c8), (7, .slice a109 ((mo ++ ([(ps[i]).id] : List Int)).length) c110), (8, .I i), (21, .I i)] ?_
      refine qI .seq 22 (sq 2 3) ((i : Int) + 1) ?_
      refine qF 1 [(1, .slice pa ps.length pc), (2, .P b1 0), (5, .int .u64 m), (6, .slice a8 hv.length c8), (7, .slice a109 ((mo ++ ([(ps[i]).id] : List Int)).length) c110), (8, .I ((i : Int) + 1))] ?_
      have H := H.pick [4, 5, 6] rfl
      exact WK.back (hback10 (i + 1, hv, mo ++ ([(ps[i]).id] : List Int), a8, c8, a109, c110) _ ⟨H, by omega, by rw [hs1, ← hinv0.2.1], by rw [hs2, ← hinv0.2.2.1], unlike_step hinv0.2.2.2 (by omega) (fun j hj => hinv1.2 j (by omega) (by omega))⟩ (by first | omega | (simp only []; omega))) (by as_aux_lemma => kernel_rfl)
     ·
      have hs2 : moreL m (ps.take (i + 1)) = moreL m (ps.take i) := by rw [moreL_step (by omega), if_neg (by omega)]
      refine qR 2 [.c [5, 0, 1, 0, 0, 2], .l [5, 0, 1, 0, 0], .b 0, .c [6]] [(1, .slice pa ps.length pc), (2, .P b1 0), (5, .int .u64 m), (6, .slice a8 hv.length c8), (7, .slice a9 mo.length c9), (8, .I i)] ?_
      refine qG (sq 0 3) ?_
      refine qP 1 (sq 1 3) [(1, .slice pa ps.length pc), (2, .P b1 0), (5, .int .u64 m), (6, .slice a8 hv.length c8), (7, .slice a9 mo.length c9), (8, .I i), (21, .I i)] ?_
      refine qI .seq 22 (sq 2 3) ((i : Int) + 1) ?_
      refine qF 1 [(1, .slice pa ps.length pc), (2, .P b1 0), (5, .int .u64 m), (6, .slice a8 hv.length c8), (7, .slice a9 mo.length c9), (8, .I ((i : Int) + 1))] ?_
      have H := H.pick [2, 3, 4] rfl
      exact WK.back (hback10 (i + 1, hv, mo, a8, c8, a9, c9) _ ⟨H, by omega, by rw [hs1, ← hinv0.2.1], by rw [hs2, ← hinv0.2.2.1], unlike_step hinv0.2.2.2 (by omega) (fun j hj => hinv1.2 j (by omega) (by omega))⟩ (by first | omega | (simp only []; omega))) (by as_aux_lemma => kernel_rfl)
  ·
   refine qR 2 [.c [6, 0], .c [7]] [(2, .P b1 0), (5, .int .u64 m), (6, .slice a8 hv.length c8), (7, .slice a9 mo.length c9)] ?_
   refine qG (sq 0 17) ?_
   refine qP 3 (sq 3 17) [(2, .P b1 0), (6, .slice a8 hv.length c8), (7, .slice a9 mo.length c9), (72, .bool (m == 0))] ?_
   refine tE (fun b_ => [(2, .P b1 0), (6, .slice a8 hv.length c8), (7, .slice a9 mo.length c9), (72, .bool b_)]) m 0 (fun h113 => ?_) (fun h113 => ?_)
   ·
    refine qP 5 (sq 8 17) [(2, .P b1 0), (7, .slice a9 mo.length c9), (77, .bool true)] ?_
    refine qL .seq 78 (sq 9 17) 24 b1 0 0 (.agg #[.slice a0C C.voters.length k0C, .slice a1C C.learners.length k1C]) (H.cells 0 rfl) ?_
    refine qP 1 (sq 10 17) [(77, .bool true), (78, .agg #[.slice a0C C.voters.length k0C, .slice a1C C.learners.length k1C]), (79, .slice a9 mo.length c9)] ?_
    have H : Hp w S [] [(b1, .cells #[.slice a0C C.voters.length k0C, .slice a1C C.learners.length k1C] 24 (0, 0))] [⟨Shape.int .i64, 3, .slice a8 hv.length c8, hv⟩] [Rp (Shape.slice (Shape.int .i64)) [.slice a9 mo.length c9] mo, Rp (Shape.slice (Shape.int .i64)) [.slice a0C C.voters.length k0C] C.voters, Rp (Shape.slice (Shape.int .i64)) [.slice a1C C.learners.length k1C] C.learners, Rp (Shape.slice peerS) [.slice pa ps.length pc] ps] _ := H.freezeW 1 rfl
    refine qK .seq (some 80) (sq 11 17) 8 #[.agg #[.slice a0C C.voters.length k0C, .slice a1C C.learners.length k1C], .slice a9 mo.length c9] (majority_spec (xs := mo) (C := C) (conf_mk (H.rp 1 rfl) (H.rp 2 rfl)) (H.rp 0 rfl) (by first | omega | simp)) ?_
    rintro _ w114 hE115 rfl
    have H := H.ext hE115
    refine qP 3 (sq 14 17) [(83, .bool (!(majB C mo)))] ?_
    refine RW.test (fun b_ => [(83, .bool b_)]) (!(majB C mo)) (fun h116 => ?_) (fun h116 => ?_)
    ·
     replace h116 : (majB C mo) = false := by revert h116; cases (majB C mo) <;> simp
     refine qK .seq (some 84) (sq 15 17) 9 #[] (heads_spec (S := fun _ => True)) ?_
     rintro _ w117 hE118 rfl
     have H := H.ext hE118
     refine qF 2 [(4, .bool true)] ?_
     refine qT (.bool true) Try.func6 ?_
     have hF1 : hv = haveL m ps := by rw [hinv0.2.1, List.take_of_length_le (by omega)]
     have hF2 : mo = moreL m ps := by rw [hinv0.2.2.1, List.take_of_length_le (by omega)]
     have hpl : i = ps.length := by omega
     obtain ⟨m1, m2⟩ := matches_law (okC_ne hokC) (hpl ▸ hinv0.2.2.2) hmed (by omega)
     rw [← hF1] at m1
     rw [← hF2] at m2
     exact ⟨_, rfl, H.done, rfl⟩
    ·
     replace h116 : (majB C mo) = true := by revert h116; cases (majB C mo) <;> simp
     refine qF 3 [(4, .bool false)] ?_
     refine qT (.bool false) Try.func6 ?_
     have hF1 : hv = haveL m ps := by rw [hinv0.2.1, List.take_of_length_le (by omega)]
     have hF2 : mo = moreL m ps := by rw [hinv0.2.2.1, List.take_of_length_le (by omega)]
     have hpl : i = ps.length := by omega
     obtain ⟨m1, m2⟩ := matches_law (okC_ne hokC) (hpl ▸ hinv0.2.2.2) hmed (by omega)
     rw [← hF1] at m1
     rw [← hF2] at m2
     exfalso
     rcases m1 with m1 | m1 <;> simp_all
   ·
    refine qL .seq 73 (sq 4 17) 24 b1 0 0 (.agg #[.slice a0C C.voters.length k0C, .slice a1C C.learners.length k1C]) (H.cells 0 rfl) ?_
    refine qP 1 (sq 5 17) [(2, .P b1 0), (7, .slice a9 mo.length c9), (72, .bool false), (73, .agg #[.slice a0C C.voters.length k0C, .slice a1C C.learners.length k1C]), (74, .slice a8 hv.length c8)] ?_
    have H : Hp w S [] [(b1, .cells #[.slice a0C C.voters.length k0C, .slice a1C C.learners.length k1C] 24 (0, 0))] [⟨Shape.int .i64, 3, .slice a9 mo.length c9, mo⟩] [Rp (Shape.slice (Shape.int .i64)) [.slice a8 hv.length c8] hv, Rp (Shape.slice (Shape.int .i64)) [.slice a0C C.voters.length k0C] C.voters, Rp (Shape.slice (Shape.int .i64)) [.slice a1C C.learners.length k1C] C.learners, Rp (Shape.slice peerS) [.slice pa ps.length pc] ps] _ := H.freezeW 0 rfl
    refine qK .seq (some 75) (sq 6 17) 8 #[.agg #[.slice a0C C.voters.length k0C, .slice a1C C.learners.length k1C], .slice a8 hv.length c8] (majority_spec (xs := hv) (C := C) (conf_mk (H.rp 1 rfl) (H.rp 2 rfl)) (H.rp 0 rfl) (by first | omega | simp)) ?_
    rintro _ w119 hE120 rfl
    have H := H.ext hE120
    refine qP 2 (sq 8 17) [(2, .P b1 0), (7, .slice a9 mo.length c9), (77, .bool (majB C hv))] ?_
    refine RW.test (fun b_ => [(2, .P b1 0), (7, .slice a9 mo.length c9), (77, .bool b_)]) (majB C hv) (fun h121 => ?_) (fun h121 => ?_)
    ·
     refine qL .seq 78 (sq 9 17) 24 b1 0 0 (.agg #[.slice a0C C.voters.length k0C, .slice a1C C.learners.length k1C]) (H.cells 0 rfl) ?_
     refine qP 1 (sq 10 17) [(77, .bool true), (78, .agg #[.slice a0C C.voters.length k0C, .slice a1C C.learners.length k1C]), (79, .slice a9 mo.length c9)] ?_
     have H : Hp w S [] [(b1, .cells #[.slice a0C C.voters.length k0C, .slice a1C C.learners.length k1C] 24 (0, 0))] [] [Rp (Shape.slice (Shape.int .i64)) [.slice a9 mo.length c9] mo, Rp (Shape.slice (Shape.int .i64)) [.slice a8 hv.length c8] hv, Rp (Shape.slice (Shape.int .i64)) [.slice a0C C.voters.length k0C] C.voters, Rp (Shape.slice (Shape.int .i64)) [.slice a1C C.learners.length k1C] C.learners, Rp (Shape.slice peerS) [.slice pa ps.length pc] ps] _ := H.freezeW 0 rfl
     refine qK .seq (some 80) (sq 11 17) 8 #[.agg #[.slice a0C C.voters.length k0C, .slice a1C C.learners.length k1C], .slice a9 mo.length c9] (majority_spec (xs := mo) (C := C) (conf_mk (H.rp 2 rfl) (H.rp 3 rfl)) (H.rp 0 rfl) (by first | omega | simp)) ?_
     rintro _ w122 hE123 rfl
     have H := H.ext hE123
     refine qP 3 (sq 14 17) [(83, .bool (!(majB C mo)))] ?_
     refine RW.test (fun b_ => [(83, .bool b_)]) (!(majB C mo)) (fun h124 => ?_) (fun h124 => ?_)
     ·
      replace h124 : (majB C mo) = false := by revert h124; cases (majB C mo) <;> simp
      refine qK .seq (some 84) (sq 15 17) 9 #[] (heads_spec (S := fun _ => True)) ?_
      rintro _ w125 hE126 rfl
      have H := H.ext hE126
      refine qF 2 [(4, .bool true)] ?_
      refine qT (.bool true) Try.func6 ?_
      have hF1 : hv = haveL m ps := by rw [hinv0.2.1, List.take_of_length_le (by omega)]
      have hF2 : mo = moreL m ps := by rw [hinv0.2.2.1, List.take_of_length_le (by omega)]
      have hpl : i = ps.length := by omega
      obtain ⟨m1, m2⟩ := matches_law (okC_ne hokC) (hpl ▸ hinv0.2.2.2) hmed (by omega)
      rw [← hF1] at m1
      rw [← hF2] at m2
      exact ⟨_, rfl, H.done, rfl⟩
     ·
      replace h124 : (majB C mo) = true := by revert h124; cases (majB C mo) <;> simp
      refine qF 3 [(4, .bool false)] ?_
      refine qT (.bool false) Try.func6 ?_
      have hF1 : hv = haveL m ps := by rw [hinv0.2.1, List.take_of_length_le (by omega)]
      have hF2 : mo = moreL m ps := by rw [hinv0.2.2.1, List.take_of_length_le (by omega)]
      have hpl : i = ps.length := by omega
      obtain ⟨m1, m2⟩ := matches_law (okC_ne hokC) (hpl ▸ hinv0.2.2.2) hmed (by omega)
      rw [← hF1] at m1
      rw [← hF2] at m2
      exfalso
      rcases m1 with m1 | m1 <;> simp_all
    ·
     refine qF 9 [(4, .bool false)] ?_
     refine qT (.bool false) Try.func6 ?_
     have hF1 : hv = haveL m ps := by rw [hinv0.2.1, List.take_of_length_le (by omega)]
     have hF2 : mo = moreL m ps := by rw [hinv0.2.2.1, List.take_of_length_le (by omega)]
     have hpl : i = ps.length := by omega
     obtain ⟨m1, m2⟩ := matches_law (okC_ne hokC) (hpl ▸ hinv0.2.2.2) hmed (by omega)
     rw [← hF1] at m1
     rw [← hF2] at m2
     exfalso
     rcases m1 with m1 | m1 <;> simp_all
end Go.Proofs.Ythbegjaoifghlaa
