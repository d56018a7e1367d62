import Derived.Test.YthbegjaoifghlaaSUA
import Derived.Test.YthbegjaoifghlaaSU3
import Derived.Test.YthbegjaoifghlaaSU6
import Derived.Test.YthbegjaoifghlaaSU7
namespace Go.Proofs.Ythbegjaoifghlaa
open Go.BX
open Go.Sort (swp insInner insOuter insertionSort ltInt siftDown heapBuild heapPop heapSort reverseLoop reverseRange scanUp scanDown partLoop partition partEqLoop partitionEqual scanSorted shiftDown shiftUp partialIns partialInsertionSort)
open Go.Sort (bitsLen PermIn SortedIn Below)
def PdqAt (m : Nat) : Prop := ∀ (S : Nat → Prop) (w : World) (O : List Nat) (d : Array Int) (pb z q a b l : Nat) (aI bI lI : Int), aI = (a : Int) → bI = (b : Int) → lI = (l : Int) → a ≤ b → b ≤ d.size → b - a = m → l ≤ 64 → Below ltInt a b d →
 Hp w S O [] [⟨Shape.int .u64, 44, .slice (some ⟨pb, 0, none⟩) z q, d.toList⟩] [] w → d.size = z → z ≤ 1048576 → Calls Try.prog 41 #[.slice (some ⟨pb, 0, none⟩) z q, .I aI, .I bI, .I lI] w (Ret fun v w' => ∃ e : Array Int, v = .tuple #[] ∧ PermIn a b d e ∧ SortedIn ltInt a b e ∧ Hp w S O [] [⟨Shape.int .u64, 44, .slice (some ⟨pb, 0, none⟩) z q, e.toList⟩] [] w')
theorem swoI : Go.Sort.SWO ltInt := ⟨fun x => by simp [ltInt], fun x y z h1 h2 => by rw [ltI] at *; omega, fun x y z h1 h2 => by rw [ltI0] at *; omega⟩
set_option maxHeartbeats 4000000 in
theorem updq_step {S : Nat → Prop} {w : World} {O : List Nat} {d : Array Int} {pb z q : Nat} {a0 b0 l0 : Nat} (hrec : ∀ m, m < b0 - a0 → PdqAt m) (hab0 : a0 ≤ b0) (hb0 : b0 ≤ d.size) (hl0 : l0 ≤ 64) (hB0 : Below ltInt a0 b0 d) (H0 : Hp w S O [] [⟨Shape.int .u64, 44, .slice (some ⟨pb, 0, none⟩) z q, d.toList⟩] [] w) (hz : d.size = z) (hle : z ≤ 1048576) :
 Calls Try.prog 41 #[.slice (some ⟨pb, 0, none⟩) z q, .I a0, .I b0, .I l0] w (Ret fun v w' => ∃ e : Array Int, v = .tuple #[] ∧ PermIn a0 b0 d e ∧ SortedIn ltInt a0 b0 e ∧ Hp w S O [] [⟨Shape.int .u64, 44, .slice (some ⟨pb, 0, none⟩) z q, e.toList⟩] [] w') := by
 refine qS (fn := Try.f41) (n := 134) (σ := [(0, .slice (some ⟨pb, 0, none⟩) z q), (1, .I a0), (2, .I b0), (3, .I l0)]) Try.func41 ?_
 have H := H0
 refine qR 5 [.c [2, 0], .b 0] [(0, .slice (some ⟨pb, 0, none⟩) z q), (1, .I a0), (2, .I b0), (3, .I l0), (8, .bool true), (9, .bool true)] ?_
 refine WK.loop (α := Nat × Nat × Nat × Array Int × Bool × Bool) (b := cd Try.prog 41 [2, 0, 0]) (by as_aux_lemma => kernel_rfl) (fun st_ => match st_ with | (a, b, l, e, wb, wp) => [(0, .slice (some ⟨pb, 0, none⟩) z q), (1, .I a), (2, .I b), (3, .I l), (8, .bool wb), (9, .bool wp)]) (fun st_ w' => match st_ with | (a, b, l, e, wb, wp) => Hp w S O [] [⟨Shape.int .u64, 44, .slice (some ⟨pb, 0, none⟩) z q, e.toList⟩] [] w' ∧ a ≤ b ∧ b ≤ z ∧ e.size = z ∧ b - a ≤ b0 - a0 ∧ l ≤ 64 ∧ Below ltInt a b e ∧ ∀ R, PermIn a b e R → SortedIn ltInt a b R → PermIn a0 b0 d R ∧ SortedIn ltInt a0 b0 R) (fun st_ => match st_ with | (a, b, l, e, wb, wp) => b - a) (a0, b0, l0, d, true, true) ⟨H, hab0, by omega, hz, Nat.le_refl _, hl0, hB0, fun _ q1 q2 => ⟨q1, q2⟩⟩ (rfl) ?_
 rintro ⟨a, b, l, e, wb, wp⟩ w2 ⟨H, hinv0⟩ hback1
 have hez := hinv0.2.2.1
 have hB := hinv0.2.2.2.2.2.1
 have hfin := hinv0.2.2.2.2.2.2
 refine qR 2 [.c [2, 0, 0, 0, 0], .c [2, 0, 0, 0, 1], .b 1, .l [2, 0, 0], .b 0] [(0, .slice (some ⟨pb, 0, none⟩) z q), (1, .I a), (2, .I b), (3, .I l), (8, .bool wb), (9, .bool wp)] ?_
 refine qG (sq 0 4) ?_
 refine qP 2 (sq 2 4) [(0, .slice (some ⟨pb, 0, none⟩) z q), (1, .I a), (2, .I b), (3, .I l), (8, .bool wb), (9, .bool wp), (19, .I b), (20, .I a)] ?_
 refine qI .seq 21 (sq 3 4) ((b : Int) - (a : Int)) ?_
 refine qF 1 [(0, .slice (some ⟨pb, 0, none⟩) z q), (1, .I a), (2, .I b), (3, .I l), (8, .bool wb), (9, .bool wp), (10, .I ((b : Int) - (a : Int)))] ?_
 refine qR 3 [.c [2, 0, 0, 0, 1, 0, 1], .c [2, 0, 0, 0, 2], .b 1, .l [2, 0, 0], .b 0] [(0, .slice (some ⟨pb, 0, none⟩) z q), (1, .I a), (2, .I b), (3, .I l), (8, .bool wb), (9, .bool wp), (10, .I ((b : Int) - (a : Int))), (23, .bool (decide (((b : Int) - (a : Int) : Int) ≤ 12)))] ?_
 refine qD (((b : Int) - (a : Int) : Int) ≤ 12) (fun h3 => ?_) (fun h3 => ?_)
 ·
  refine qR 1 [.c [2, 0, 0, 0, 1, 0, 1, 0, 0], .c [2, 0, 0, 0, 1, 0, 1, 0, 1], .c [2, 0, 0, 0, 2], .b 1, .l [2, 0, 0], .b 0] [(0, .slice (some ⟨pb, 0, none⟩) z q), (1, .I a), (2, .I b)] ?_
  refine qG (sq 0 4) ?_
  refine qP 3 (sq 3 4) [(24, .slice (some ⟨pb, 0, none⟩) z q), (25, .I a), (26, .I b)] ?_
  refine RW.callS (d := some 27) (r := (sq 4 4)) (g := 49) (args := #[.slice (some ⟨pb, 0, none⟩) z q, .I a, .I b]) (by as_aux_lemma => kernel_rfl) (uins_spec (d := e) (pb := pb) (z := z) (O := _) (S := _) (a := a) (aI := (a : Int)) (b := b) (bI := (b : Int)) (by omega) (by omega) (by omega) (by omega) ((H.lend (M1 := []) (W1 := [⟨Shape.int .u64, 44, .slice (some ⟨pb, 0, none⟩) z q, e.toList⟩])).pick [] rfl) (by omega) (by omega)) ?_
  rintro _ w4 ⟨rfl, H'⟩
  have H := H.back (M1 := []) (W1 := [⟨Shape.int .u64, 44, .slice (some ⟨pb, 0, none⟩) z q, e.toList⟩]) H'
  have H : Hp w S O [] [⟨Shape.int .u64, 44, .slice (some ⟨pb, 0, none⟩) z q, (insertionSort ltInt e a b).toList⟩] [] _ := H
  refine qF 0 [] ?_
  refine qT (.tuple #[]) Try.func41 ?_
  have q9 := Go.Sort.insertionSort_holds swoI e a b (by omega) (by omega)
  obtain ⟨p1, p2⟩ := hfin _ q9.1 q9.2
  exact ⟨_, rfl, _, rfl, p1, p2, H.pick [] rfl⟩
 ·
  refine qR 4 [.c [2, 0, 0, 0, 2, 0, 1], .c [2, 0, 0, 0, 3], .b 1, .l [2, 0, 0], .b 0] [(0, .slice (some ⟨pb, 0, none⟩) z q), (1, .I a), (2, .I b), (3, .I l), (8, .bool wb), (9, .bool wp), (10, .I ((b : Int) - (a : Int))), (29, .bool ((l : Int) == 0))] ?_
  refine qE (l : Int) 0 (fun h5 => ?_) (fun h5 => ?_)
  ·
   refine qR 1 [.c [2, 0, 0, 0, 2, 0, 1, 0, 0], .c [2, 0, 0, 0, 2, 0, 1, 0, 1], .c [2, 0, 0, 0, 3], .b 1, .l [2, 0, 0], .b 0] [(0, .slice (some ⟨pb, 0, none⟩) z q), (1, .I a), (2, .I b)] ?_
   refine qG (sq 0 4) ?_
   refine qP 3 (sq 3 4) [(30, .slice (some ⟨pb, 0, none⟩) z q), (31, .I a), (32, .I b)] ?_
   refine RW.callS (d := some 33) (r := (sq 4 4)) (g := 50) (args := #[.slice (some ⟨pb, 0, none⟩) z q, .I a, .I b]) (by as_aux_lemma => kernel_rfl) (uheap_spec (d := e) (pb := pb) (z := z) (O := _) (S := _) (a := a) (aI := (a : Int)) (b := b) (bI := (b : Int)) (by omega) (by omega) (by omega) (by omega) ((H.lend (M1 := []) (W1 := [⟨Shape.int .u64, 44, .slice (some ⟨pb, 0, none⟩) z q, e.toList⟩])).pick [] rfl) (by omega) (by omega)) ?_
   rintro _ w6 ⟨rfl, H'⟩
   have H := H.back (M1 := []) (W1 := [⟨Shape.int .u64, 44, .slice (some ⟨pb, 0, none⟩) z q, e.toList⟩]) H'
   have H : Hp w S O [] [⟨Shape.int .u64, 44, .slice (some ⟨pb, 0, none⟩) z q, (heapSort ltInt e a b).toList⟩] [] _ := H
   refine qF 0 [] ?_
   refine qT (.tuple #[]) Try.func41 ?_
   have q9 := Go.Sort.heapSort_holds swoI e a b (by omega) (by omega)
   obtain ⟨p1, p2⟩ := hfin _ q9.1 q9.2
   exact ⟨_, rfl, _, rfl, p1, p2, H.pick [] rfl⟩
  ·
   refine qR 4 [.c [2, 0, 0, 0, 3, 0, 1], .c [2, 0, 0, 0, 4], .b 1, .l [2, 0, 0], .b 0] [(0, .slice (some ⟨pb, 0, none⟩) z q), (1, .I a), (2, .I b), (3, .I l), (8, .bool wb), (9, .bool wp), (10, .I ((b : Int) - (a : Int))), (35, .bool (!wb))] ?_
   refine WK.joinV (α := Array Int × Nat) (fun x_ w_ => match x_ with | (f1, lm) => Hp w S O [] [⟨Shape.int .u64, 44, .slice (some ⟨pb, 0, none⟩) z q, f1.toList⟩] [] w_ ∧ PermIn a b e f1 ∧ f1.size = z ∧ lm ≤ 64) (fun x_ => match x_ with | (f1, lm) => [(0, .slice (some ⟨pb, 0, none⟩) z q), (1, .I a), (2, .I b), (3, .I lm), (8, .bool wb), (9, .bool wp), (10, .I ((b : Int) - (a : Int)))]) [Cq Try.prog 41 [2, 0, 0, 0, 4], .inBlock 1, Lq Try.prog 41 [2, 0, 0], .inBlock 0] (fun hJ7 => ?_) ?_
   ·
    refine qC (!wb) (fun h9 => ?_) (fun h9 => ?_)
    ·
     replace h9 : (wb) = false := by revert h9; cases (wb) <;> simp
     refine qR 1 [.c [2, 0, 0, 0, 3, 0, 1, 0, 0], .c [2, 0, 0, 0, 3, 0, 1, 0, 1], .c [2, 0, 0, 0, 4], .b 1, .l [2, 0, 0], .b 0] [(0, .slice (some ⟨pb, 0, none⟩) z q), (1, .I a), (2, .I b), (3, .I l), (8, .bool wb), (9, .bool wp), (10, .I ((b : Int) - (a : Int)))] ?_
     refine qG (sq 0 4) ?_
     refine qP 3 (sq 3 4) [(0, .slice (some ⟨pb, 0, none⟩) z q), (1, .I a), (2, .I b), (3, .I l), (8, .bool wb), (9, .bool wp), (10, .I ((b : Int) - (a : Int))), (36, .slice (some ⟨pb, 0, none⟩) z q), (37, .I a), (38, .I b)] ?_
     refine RW.callS (d := some 39) (r := (sq 4 4)) (g := 51) (args := #[.slice (some ⟨pb, 0, none⟩) z q, .I a, .I b]) (by as_aux_lemma => kernel_rfl) (ubrk_spec (d := e) (pb := pb) (z := z) (a := a) (aI := (a : Int)) (b := b) (bI := (b : Int)) (by omega) (by omega) (by omega) (by omega) ((H.lend (M1 := []) (W1 := [⟨Shape.int .u64, 44, .slice (some ⟨pb, 0, none⟩) z q, e.toList⟩])).pick [] rfl) (by omega) (by omega)) ?_
     rintro _ w10 ⟨e1, rfl, hp1, H'⟩
     have H := H.back (M1 := []) (W1 := [⟨Shape.int .u64, 44, .slice (some ⟨pb, 0, none⟩) z q, e.toList⟩]) H'
     have hs1 : e1.size = z := by rw [hp1.1]; omega
     have H : Hp w S O [] [⟨Shape.int .u64, 44, .slice (some ⟨pb, 0, none⟩) z q, e1.toList⟩] [] _ := H
     refine qF 0 [(0, .slice (some ⟨pb, 0, none⟩) z q), (1, .I a), (2, .I b), (3, .I l), (8, .bool wb), (9, .bool wp), (10, .I ((b : Int) - (a : Int)))] ?_
     refine qG (sq 0 3) ?_
     refine qP 1 (sq 1 3) [(0, .slice (some ⟨pb, 0, none⟩) z q), (1, .I a), (2, .I b), (3, .I l), (8, .bool wb), (9, .bool wp), (10, .I ((b : Int) - (a : Int))), (40, .I l)] ?_
     refine qI .seq 41 (sq 2 3) ((l : Int) - 1) ?_
     refine qF 1 [(0, .slice (some ⟨pb, 0, none⟩) z q), (1, .I a), (2, .I b), (3, .I ((l : Int) - 1)), (8, .bool wb), (9, .bool wp), (10, .I ((b : Int) - (a : Int)))] ?_
     rw [show (l : Int) - 1 = ((l - 1 : Nat) : Int) by omega]
     exact hJ7 (e1, (l - 1)) _ ⟨H, hp1, hs1, by omega⟩
    ·
     replace h9 : (wb) = true := by revert h9; cases (wb) <;> simp
     refine qR 1 [.c [2, 0, 0, 0, 4], .b 1, .l [2, 0, 0], .b 0] [(0, .slice (some ⟨pb, 0, none⟩) z q), (1, .I a), (2, .I b), (3, .I l), (8, .bool wb), (9, .bool wp), (10, .I ((b : Int) - (a : Int)))] ?_
     exact hJ7 (e, l) _ ⟨H, Go.Sort.permIn_refl _ _ _, hez, by omega⟩
   ·
    rintro ⟨f1, lm⟩ w8 ⟨H, hj1⟩
    refine qR 1 [.c [2, 0, 0, 0, 4, 0], .c [2, 0, 0, 0, 5], .b 1, .l [2, 0, 0], .b 0] [(0, .slice (some ⟨pb, 0, none⟩) z q), (1, .I a), (2, .I b), (3, .I lm), (8, .bool wb), (9, .bool wp), (10, .I ((b : Int) - (a : Int)))] ?_
    refine qG (sq 0 9) ?_
    refine qP 3 (sq 3 9) [(0, .slice (some ⟨pb, 0, none⟩) z q), (1, .I a), (2, .I b), (3, .I lm), (8, .bool wb), (9, .bool wp), (10, .I ((b : Int) - (a : Int))), (43, .slice (some ⟨pb, 0, none⟩) z q), (44, .I a), (45, .I b)] ?_
    refine RW.callS (d := some 46) (r := (sq 4 9)) (g := 52) (args := #[.slice (some ⟨pb, 0, none⟩) z q, .I a, .I b]) (by as_aux_lemma => kernel_rfl) (upiv_spec (d := f1) (pb := pb) (z := z) (a := a) (aI := (a : Int)) (b := b) (bI := (b : Int)) (by omega) (by omega) (by omega) (by omega) ((H.lend (M1 := []) (W1 := [⟨Shape.int .u64, 44, .slice (some ⟨pb, 0, none⟩) z q, f1.toList⟩])).pick [] rfl) (by omega) (by omega)) ?_
    rintro _ w11 ⟨x, hx, rfl, hxb, hxh, H'⟩
    have H := H.back (M1 := []) (W1 := [⟨Shape.int .u64, 44, .slice (some ⟨pb, 0, none⟩) z q, f1.toList⟩]) H'
    have H : Hp w S O [] [⟨Shape.int .u64, 44, .slice (some ⟨pb, 0, none⟩) z q, f1.toList⟩] [] _ := H
    refine qF 5 [(0, .slice (some ⟨pb, 0, none⟩) z q), (1, .I a), (2, .I b), (3, .I lm), (8, .bool wb), (9, .bool wp), (10, .I ((b : Int) - (a : Int))), (11, .I x), (12, .I hx)] ?_
    refine qR 3 [.c [2, 0, 0, 0, 5, 0, 1], .c [2, 0, 0, 0, 6], .b 1, .l [2, 0, 0], .b 0] [(0, .slice (some ⟨pb, 0, none⟩) z q), (1, .I a), (2, .I b), (3, .I lm), (8, .bool wb), (9, .bool wp), (10, .I ((b : Int) - (a : Int))), (11, .I x), (12, .I hx), (50, .bool (hx == 2))] ?_
    refine WK.joinV (α := Array Int × Nat × Int) (fun x_ w_ => match x_ with | (f2, pv, hh) => Hp w S O [] [⟨Shape.int .u64, 44, .slice (some ⟨pb, 0, none⟩) z q, f2.toList⟩] [] w_ ∧ PermIn a b e f2 ∧ f2.size = z ∧ a ≤ pv ∧ pv < b) (fun x_ => match x_ with | (f2, pv, hh) => [(0, .slice (some ⟨pb, 0, none⟩) z q), (1, .I a), (2, .I b), (3, .I lm), (8, .bool wb), (9, .bool wp), (10, .I ((b : Int) - (a : Int))), (11, .I pv), (12, .I hh)]) [Cq Try.prog 41 [2, 0, 0, 0, 6], .inBlock 1, Lq Try.prog 41 [2, 0, 0], .inBlock 0] (fun hJ12 => ?_) ?_
    ·
     refine qE hx 2 (fun h14 => ?_) (fun h14 => ?_)
     ·
      refine qR 1 [.c [2, 0, 0, 0, 5, 0, 1, 0, 0], .c [2, 0, 0, 0, 5, 0, 1, 0, 1], .c [2, 0, 0, 0, 6], .b 1, .l [2, 0, 0], .b 0] [(0, .slice (some ⟨pb, 0, none⟩) z q), (1, .I a), (2, .I b), (3, .I lm), (8, .bool wb), (9, .bool wp), (10, .I ((b : Int) - (a : Int))), (11, .I x)] ?_
      refine qG (sq 0 4) ?_
      refine qP 3 (sq 3 4) [(0, .slice (some ⟨pb, 0, none⟩) z q), (1, .I a), (2, .I b), (3, .I lm), (8, .bool wb), (9, .bool wp), (10, .I ((b : Int) - (a : Int))), (11, .I x), (51, .slice (some ⟨pb, 0, none⟩) z q), (52, .I a), (53, .I b)] ?_
      refine RW.callS (d := some 54) (r := (sq 4 4)) (g := 53) (args := #[.slice (some ⟨pb, 0, none⟩) z q, .I a, .I b]) (by as_aux_lemma => kernel_rfl) (urev_spec (d := f1) (pb := pb) (z := z) (O := _) (S := _) (a := a) (aI := (a : Int)) (b := b) (bI := (b : Int)) (by omega) (by omega) (by omega) (by omega) ((H.lend (M1 := []) (W1 := [⟨Shape.int .u64, 44, .slice (some ⟨pb, 0, none⟩) z q, f1.toList⟩])).pick [] rfl) (by omega) (by omega)) ?_
      rintro _ w15 ⟨rfl, H'⟩
      have H := H.back (M1 := []) (W1 := [⟨Shape.int .u64, 44, .slice (some ⟨pb, 0, none⟩) z q, f1.toList⟩]) H'
      have H : Hp w S O [] [⟨Shape.int .u64, 44, .slice (some ⟨pb, 0, none⟩) z q, (reverseRange f1 a b).toList⟩] [] _ := H
      refine qF 0 [(0, .slice (some ⟨pb, 0, none⟩) z q), (1, .I a), (2, .I b), (3, .I lm), (8, .bool wb), (9, .bool wp), (10, .I ((b : Int) - (a : Int))), (11, .I x)] ?_
      refine qR 1 [.c [2, 0, 0, 0, 5, 0, 1, 0, 1, 0], .c [2, 0, 0, 0, 5, 0, 1, 0, 2], .c [2, 0, 0, 0, 6], .b 1, .l [2, 0, 0], .b 0] [(0, .slice (some ⟨pb, 0, none⟩) z q), (1, .I a), (2, .I b), (3, .I lm), (8, .bool wb), (9, .bool wp), (10, .I ((b : Int) - (a : Int))), (11, .I x)] ?_
      refine qG (sq 0 7) ?_
      refine qP 1 (sq 1 7) [(0, .slice (some ⟨pb, 0, none⟩) z q), (1, .I a), (2, .I b), (3, .I lm), (8, .bool wb), (9, .bool wp), (10, .I ((b : Int) - (a : Int))), (11, .I x), (55, .I b)] ?_
      refine qI .seq 56 (sq 2 7) ((b : Int) - 1) ?_
      refine qP 2 (sq 4 7) [(0, .slice (some ⟨pb, 0, none⟩) z q), (1, .I a), (2, .I b), (3, .I lm), (8, .bool wb), (9, .bool wp), (10, .I ((b : Int) - (a : Int))), (11, .I x), (56, .I ((b : Int) - 1)), (57, .I x), (58, .I a)] ?_
      refine qI .seq 59 (sq 5 7) ((x : Int) - (a : Int)) ?_
      refine qI .seq 60 (sq 6 7) (((b : Int) - 1) - ((x : Int) - (a : Int))) ?_
      refine qF 1 [(0, .slice (some ⟨pb, 0, none⟩) z q), (1, .I a), (2, .I b), (3, .I lm), (8, .bool wb), (9, .bool wp), (10, .I ((b : Int) - (a : Int))), (11, .I (((b : Int) - 1) - ((x : Int) - (a : Int))))] ?_
      refine qR 1 [.c [2, 0, 0, 0, 6], .b 1, .l [2, 0, 0], .b 0] [(0, .slice (some ⟨pb, 0, none⟩) z q), (1, .I a), (2, .I b), (3, .I lm), (8, .bool wb), (9, .bool wp), (10, .I ((b : Int) - (a : Int))), (11, .I (((b : Int) - 1) - ((x : Int) - (a : Int)))), (12, .I 1)] ?_
      rw [show ((b : Int) - 1) - ((x : Int) - (a : Int)) = ((b - 1 - (x - a) : Nat) : Int) by omega]
      exact hJ12 ((reverseRange f1 a b), (b - 1 - (x - a)), 1) _ ⟨H, Go.Sort.permIn_trans _ _ _ _ _ hj1.1 (Go.Sort.reverseRange_holds f1 a b (by omega) (by omega)), by rw [(Go.Sort.reverseRange_holds f1 a b (by omega) (by omega)).1]; exact hj1.2.1, by omega, by omega⟩
     ·
      refine qR 1 [.c [2, 0, 0, 0, 6], .b 1, .l [2, 0, 0], .b 0] [(0, .slice (some ⟨pb, 0, none⟩) z q), (1, .I a), (2, .I b), (3, .I lm), (8, .bool wb), (9, .bool wp), (10, .I ((b : Int) - (a : Int))), (11, .I x), (12, .I hx)] ?_
      exact hJ12 (f1, x, hx) _ ⟨H, hj1.1, hj1.2.1, by omega, by omega⟩
    ·
     rintro ⟨f2, pv, hh⟩ w13 ⟨H, hj2⟩
     refine qR 2 [.c [2, 0, 0, 0, 6, 0, 0], .c [2, 0, 0, 0, 6, 0, 1], .c [2, 0, 0, 0, 7], .b 1, .l [2, 0, 0], .b 0] [(0, .slice (some ⟨pb, 0, none⟩) z q), (1, .I a), (2, .I b), (3, .I lm), (8, .bool wb), (9, .bool wp), (10, .I ((b : Int) - (a : Int))), (11, .I pv), (12, .I hh)] ?_
     refine WK.joinV (α := Bool) (fun x_ w_ => match x_ with | gp => Hp w S O [] [⟨Shape.int .u64, 44, .slice (some ⟨pb, 0, none⟩) z q, f2.toList⟩] [] w_ ∧ True) (fun x_ => match x_ with | gp => [(0, .slice (some ⟨pb, 0, none⟩) z q), (1, .I a), (2, .I b), (3, .I lm), (8, .bool wb), (9, .bool wp), (10, .I ((b : Int) - (a : Int))), (11, .I pv), (68, .bool gp)]) [Cq Try.prog 41 [2, 0, 0, 0, 6, 0, 1], Cq Try.prog 41 [2, 0, 0, 0, 7], .inBlock 1, Lq Try.prog 41 [2, 0, 0], .inBlock 0] (fun hJ16 => ?_) ?_
     ·
      refine qG (sq 0 8) ?_
      refine qP 2 (sq 2 8) [(0, .slice (some ⟨pb, 0, none⟩) z q), (1, .I a), (2, .I b), (3, .I lm), (8, .bool wb), (9, .bool wp), (10, .I ((b : Int) - (a : Int))), (11, .I pv), (12, .I hh), (62, .bool wb)] ?_
      refine RW.test (fun b_ => [(0, .slice (some ⟨pb, 0, none⟩) z q), (1, .I a), (2, .I b), (3, .I lm), (8, .bool wb), (9, .bool wp), (10, .I ((b : Int) - (a : Int))), (11, .I pv), (12, .I hh), (62, .bool b_)]) wb (fun h18 => ?_) (fun h18 => ?_)
      ·
       refine qP 3 (sq 5 8) [(0, .slice (some ⟨pb, 0, none⟩) z q), (1, .I a), (2, .I b), (3, .I lm), (8, .bool wb), (9, .bool wp), (10, .I ((b : Int) - (a : Int))), (11, .I pv), (12, .I hh), (65, .bool wp)] ?_
       refine RW.test (fun b_ => [(0, .slice (some ⟨pb, 0, none⟩) z q), (1, .I a), (2, .I b), (3, .I lm), (8, .bool wb), (9, .bool wp), (10, .I ((b : Int) - (a : Int))), (11, .I pv), (12, .I hh), (65, .bool b_)]) wp (fun h19 => ?_) (fun h19 => ?_)
       ·
        refine qF 3 [(0, .slice (some ⟨pb, 0, none⟩) z q), (1, .I a), (2, .I b), (3, .I lm), (8, .bool wb), (9, .bool wp), (10, .I ((b : Int) - (a : Int))), (11, .I pv), (68, .bool (hh == 1))] ?_
        exact hJ16 (hh == 1) _ ⟨H, trivial⟩
       ·
        refine qF 3 [(0, .slice (some ⟨pb, 0, none⟩) z q), (1, .I a), (2, .I b), (3, .I lm), (8, .bool wb), (9, .bool wp), (10, .I ((b : Int) - (a : Int))), (11, .I pv), (68, .bool false)] ?_
        exact hJ16 (false) _ ⟨H, trivial⟩
      ·
       refine qF 6 [(0, .slice (some ⟨pb, 0, none⟩) z q), (1, .I a), (2, .I b), (3, .I lm), (8, .bool wb), (9, .bool wp), (10, .I ((b : Int) - (a : Int))), (11, .I pv), (68, .bool false)] ?_
       exact hJ16 (false) _ ⟨H, trivial⟩
     ·
      rintro gp w17 ⟨H, hgp⟩
      refine WK.joinV (α := Array Int) (fun x_ w_ => match x_ with | f3 => Hp w S O [] [⟨Shape.int .u64, 44, .slice (some ⟨pb, 0, none⟩) z q, f3.toList⟩] [] w_ ∧ PermIn a b e f3 ∧ f3.size = z) (fun x_ => match x_ with | f3 => [(0, .slice (some ⟨pb, 0, none⟩) z q), (1, .I a), (2, .I b), (3, .I lm), (8, .bool wb), (9, .bool wp), (10, .I ((b : Int) - (a : Int))), (11, .I pv)]) [Cq Try.prog 41 [2, 0, 0, 0, 7], .inBlock 1, Lq Try.prog 41 [2, 0, 0], .inBlock 0] (fun hJ20 => ?_) ?_
      ·
       refine qC gp (fun h22 => ?_) (fun h22 => ?_)
       ·
        have hpi := Go.Sort.partialInsertionSort_holds swoI f2 a b (by omega) (by omega) (hB.perm (by omega) hj2.1)
        refine qR 1 [.c [2, 0, 0, 0, 6, 0, 1, 0, 0], .c [2, 0, 0, 0, 6, 0, 1, 0, 1], .c [2, 0, 0, 0, 7], .b 1, .l [2, 0, 0], .b 0] [(0, .slice (some ⟨pb, 0, none⟩) z q), (1, .I a), (2, .I b), (3, .I lm), (8, .bool wb), (9, .bool wp), (10, .I ((b : Int) - (a : Int))), (11, .I pv)] ?_
        refine qG (sq 0 4) ?_
        refine qP 3 (sq 3 4) [(0, .slice (some ⟨pb, 0, none⟩) z q), (1, .I a), (2, .I b), (3, .I lm), (8, .bool wb), (9, .bool wp), (10, .I ((b : Int) - (a : Int))), (11, .I pv), (69, .slice (some ⟨pb, 0, none⟩) z q), (70, .I a), (71, .I b)] ?_
        refine RW.callS (d := some 72) (r := (sq 4 4)) (g := 54) (args := #[.slice (some ⟨pb, 0, none⟩) z q, .I a, .I b]) (by as_aux_lemma => kernel_rfl) (upins_spec (d := f2) (pb := pb) (z := z) (a := a) (aI := (a : Int)) (b := b) (bI := (b : Int)) (by omega) (by omega) (by omega) (by omega) ((H.lend (M1 := []) (W1 := [⟨Shape.int .u64, 44, .slice (some ⟨pb, 0, none⟩) z q, f2.toList⟩])).pick [] rfl) (by omega) (by omega)) ?_
        rintro _ w23 ⟨rfl, H'⟩
        have H := H.back (M1 := []) (W1 := [⟨Shape.int .u64, 44, .slice (some ⟨pb, 0, none⟩) z q, f2.toList⟩]) H'
        have H : Hp w S O [] [⟨Shape.int .u64, 44, .slice (some ⟨pb, 0, none⟩) z q, (partialInsertionSort ltInt f2 a b).1.toList⟩] [] _ := H
        refine qF 0 [(0, .slice (some ⟨pb, 0, none⟩) z q), (1, .I a), (2, .I b), (3, .I lm), (8, .bool wb), (9, .bool wp), (10, .I ((b : Int) - (a : Int))), (11, .I pv), (72, .bool ((partialInsertionSort ltInt f2 a b).2))] ?_
        refine qC ((partialInsertionSort ltInt f2 a b).2) (fun h24 => ?_) (fun h24 => ?_)
        ·
         refine qT (.tuple #[]) Try.func41 ?_
         obtain ⟨p1, p2⟩ := hfin _ (Go.Sort.permIn_trans _ _ _ _ _ hj2.1 hpi.1) (hpi.2 (by assumption))
         exact ⟨_, rfl, _, rfl, p1, p2, H.pick [] rfl⟩
        ·
         refine qR 1 [.c [2, 0, 0, 0, 7], .b 1, .l [2, 0, 0], .b 0] [(0, .slice (some ⟨pb, 0, none⟩) z q), (1, .I a), (2, .I b), (3, .I lm), (8, .bool wb), (9, .bool wp), (10, .I ((b : Int) - (a : Int))), (11, .I pv)] ?_
         exact hJ20 ((partialInsertionSort ltInt f2 a b).1) _ ⟨H, Go.Sort.permIn_trans _ _ _ _ _ hj2.1 hpi.1, by rw [hpi.1.1]; exact hj2.2.1⟩
       ·
        refine qR 1 [.c [2, 0, 0, 0, 7], .b 1, .l [2, 0, 0], .b 0] [(0, .slice (some ⟨pb, 0, none⟩) z q), (1, .I a), (2, .I b), (3, .I lm), (8, .bool wb), (9, .bool wp), (10, .I ((b : Int) - (a : Int))), (11, .I pv)] ?_
        exact hJ20 (f2) _ ⟨H, hj2.1, hj2.2.1⟩
      ·
       rintro f3 w21 ⟨H, hj3⟩
       have hB3 : Below ltInt a b f3 := hB.perm (by omega) hj3.1
       refine qR 2 [.c [2, 0, 0, 0, 7, 0, 0], .c [2, 0, 0, 0, 7, 0, 1], .c [2, 0, 0, 0, 8], .b 1, .l [2, 0, 0], .b 0] [(0, .slice (some ⟨pb, 0, none⟩) z q), (1, .I a), (2, .I b), (3, .I lm), (8, .bool wb), (9, .bool wp), (10, .I ((b : Int) - (a : Int))), (11, .I pv)] ?_
       refine WK.joinV (α := Bool) (fun x_ w_ => match x_ with | gb => Hp w S O [] [⟨Shape.int .u64, 44, .slice (some ⟨pb, 0, none⟩) z q, f3.toList⟩] [] w_ ∧ gb = decide (0 < a ∧ ¬ f3[a - 1]! < f3[pv]!)) (fun x_ => match x_ with | gb => [(0, .slice (some ⟨pb, 0, none⟩) z q), (1, .I a), (2, .I b), (3, .I lm), (8, .bool wb), (9, .bool wp), (10, .I ((b : Int) - (a : Int))), (11, .I pv), (87, .bool gb)]) [Cq Try.prog 41 [2, 0, 0, 0, 7, 0, 1], Cq Try.prog 41 [2, 0, 0, 0, 8], .inBlock 1, Lq Try.prog 41 [2, 0, 0], .inBlock 0] (fun hJ25 => ?_) ?_
       ·
        refine WK.draw1 15 [(0, .qui), (1, .qui), (2, .qui), (3, .qui), (4, .qui), (5, .qui), (6, .qui), (7, .qui), (8, .qui), (9, .qui), (10, .qui), (11, .qui), (12, .chn), (13, .qui), (14, .qui)] [(0, .qui), (1, .qui), (2, .qui), (3, .qui), (4, .qui), (5, .qui), (6, .qui), (7, .qui), (8, .qui), (9, .qui), (10, .qui), (11, .qui), (12, .chn), (13, .qui), (14, .qui)] Try_mixed (by as_aux_lemma => kernel_rfl) (by as_aux_lemma => kernel_rfl) (by as_aux_lemma => kernel_rfl) ?_
        have H := H.draw
        generalize ({ w21 with drawn := w21.drawn + 1 } : World) = w27 at H ⊢
        refine qP 3 [(3, .qui), (4, .qui), (5, .qui), (6, .qui), (7, .qui), (8, .qui), (9, .qui), (10, .qui), (11, .qui), (12, .chn), (13, .qui), (14, .qui)] [(0, .slice (some ⟨pb, 0, none⟩) z q), (1, .I a), (2, .I b), (3, .I lm), (8, .bool wb), (9, .bool wp), (10, .I ((b : Int) - (a : Int))), (11, .I pv), (75, .bool (decide (((a : Int) : Int) > 0)))] ?_
        refine tD (fun b_ => [(0, .slice (some ⟨pb, 0, none⟩) z q), (1, .I a), (2, .I b), (3, .I lm), (8, .bool wb), (9, .bool wp), (10, .I ((b : Int) - (a : Int))), (11, .I pv), (75, .bool b_)]) (((a : Int) : Int) > 0) (fun h28 => ?_) (fun h28 => ?_)
        ·
         refine qP 2 [(5, .qui), (6, .qui), (7, .qui), (8, .qui), (9, .qui), (10, .qui), (11, .qui), (12, .chn), (13, .qui), (14, .qui)] [(0, .slice (some ⟨pb, 0, none⟩) z q), (1, .I a), (2, .I b), (3, .I lm), (8, .bool wb), (9, .bool wp), (10, .I ((b : Int) - (a : Int))), (11, .I pv), (75, .bool true), (76, .slice (some ⟨pb, 0, none⟩) z q), (77, .I a)] ?_
         refine qI .qui 78 [(6, .qui), (7, .qui), (8, .qui), (9, .qui), (10, .qui), (11, .qui), (12, .chn), (13, .qui), (14, .qui)] ((a : Int) - 1) ?_
         have hn30 : z = f3.toList.length := by rw [tl_len (d := f3)]; omega
         have hx29 : (a - 1) < f3.toList.length := by rw [tl_len (d := f3)]; omega
         refine RW.indexW (κ := .qui) (d := some 79) (r := [(7, .qui), (8, .qui), (9, .qui), (10, .qui), (11, .qui), (12, .chn), (13, .qui), (14, .qui)]) (T := 58) (e := 44) (m := 1) (ik := .i64) (ix := (a : Int) - 1) (sh := (Shape.int .u64)) (xs := f3.toList) (a := (some ⟨pb, 0, none⟩)) (len := z) (cap := q) (by as_aux_lemma => kernel_rfl) (by as_aux_lemma => kernel_rfl) rfl H (a - 1) (by omega) hx29 hn30 ?_
         intro b31 es32 ha33 hcell34 hr35
         cases ha33
         rw [tl_at (d := f3) (k := (a - 1)) _] at hr35
         have hb36 := Shape.u64_bd hr35
         obtain ⟨rfl, -⟩ := hr35
         refine qL .qui 80 [(8, .qui), (9, .qui), (10, .qui), (11, .qui), (12, .chn), (13, .qui), (14, .qui)] 44 pb ((a - 1) * 1) 0 (.int .u64 (f3[(a - 1)]!)) hcell34 ?_
         refine qP 2 [(10, .qui), (11, .qui), (12, .chn), (13, .qui), (14, .qui)] [(0, .slice (some ⟨pb, 0, none⟩) z q), (1, .I a), (2, .I b), (3, .I lm), (8, .bool wb), (9, .bool wp), (10, .I ((b : Int) - (a : Int))), (11, .I pv), (75, .bool true), (80, .int .u64 (f3[(a - 1)]!)), (81, .slice (some ⟨pb, 0, none⟩) z q), (82, .I pv)] ?_
         have hn38 : z = f3.toList.length := by rw [tl_len (d := f3)]; omega
         have hx37 : pv < f3.toList.length := by rw [tl_len (d := f3)]; omega
         refine RW.indexW (κ := .qui) (d := some 83) (r := [(11, .qui), (12, .chn), (13, .qui), (14, .qui)]) (T := 58) (e := 44) (m := 1) (ik := .i64) (ix := (pv : Int)) (sh := (Shape.int .u64)) (xs := f3.toList) (a := (some ⟨pb, 0, none⟩)) (len := z) (cap := q) (by as_aux_lemma => kernel_rfl) (by as_aux_lemma => kernel_rfl) rfl H pv (by omega) hx37 hn38 ?_
         intro b39 es40 ha41 hcell42 hr43
         cases ha41
         rw [tl_at (d := f3) (k := pv) _] at hr43
         have hb44 := Shape.u64_bd hr43
         obtain ⟨rfl, -⟩ := hr43
         refine qL .qui 84 [(12, .chn), (13, .qui), (14, .qui)] 44 pb (pv * 1) 0 (.int .u64 (f3[pv]!)) hcell42 ?_
         refine qK .chn (some 85) (qs [13, 14]) 55 #[.int .u64 (f3[(a - 1)]!), .int .u64 (f3[pv]!)] (uless_spec (S := fun _ => True) (f3[(a - 1)]!) (f3[pv]!)) ?_
         rintro _ w45 hE46 rfl
         have H := H.ext hE46
         refine qF 2 [(0, .slice (some ⟨pb, 0, none⟩) z q), (1, .I a), (2, .I b), (3, .I lm), (8, .bool wb), (9, .bool wp), (10, .I ((b : Int) - (a : Int))), (11, .I pv), (87, .bool (!(decide (f3[(a - 1)]! < f3[pv]!))))] ?_
         exact hJ25 (!(decide (f3[(a - 1)]! < f3[pv]!))) _ ⟨H, by
          rw [Bool.eq_iff_iff]
          simp only [decide_eq_true_iff, Bool.not_eq_true', decide_eq_false_iff_not]
          exact ⟨fun hq => ⟨by omega, hq⟩, fun hq => hq.2⟩⟩
        ·
         refine qF 12 [(0, .slice (some ⟨pb, 0, none⟩) z q), (1, .I a), (2, .I b), (3, .I lm), (8, .bool wb), (9, .bool wp), (10, .I ((b : Int) - (a : Int))), (11, .I pv), (87, .bool false)] ?_
         exact hJ25 (false) _ ⟨H, (decide_eq_false (fun q => absurd q.1 (by omega))).symm⟩
       ·
        rintro gb w26 ⟨H, hgb⟩
        refine qC gb (fun h47 => ?_) (fun h47 => ?_)
        ·
         rw [hgb] at h47
         replace h47 := of_decide_eq_true h47
         have hgt9 := h47
         refine qR 1 [.c [2, 0, 0, 0, 7, 0, 1, 0, 0], .c [2, 0, 0, 0, 7, 0, 1, 0, 1], .c [2, 0, 0, 0, 8], .b 1, .l [2, 0, 0], .b 0] [(0, .slice (some ⟨pb, 0, none⟩) z q), (1, .I a), (2, .I b), (3, .I lm), (8, .bool wb), (9, .bool wp), (11, .I pv)] ?_
         refine qG (sq 0 6) ?_
         refine qP 4 (sq 4 6) [(0, .slice (some ⟨pb, 0, none⟩) z q), (2, .I b), (3, .I lm), (8, .bool wb), (9, .bool wp), (88, .slice (some ⟨pb, 0, none⟩) z q), (89, .I a), (90, .I b), (91, .I pv)] ?_
         refine RW.callS (d := some 92) (r := (sq 5 6)) (g := 56) (args := #[.slice (some ⟨pb, 0, none⟩) z q, .I a, .I b, .I pv]) (by as_aux_lemma => kernel_rfl) (upeq_spec (d := f3) (pb := pb) (z := z) (a := a) (aI := (a : Int)) (b := b) (bI := (b : Int)) (pv := pv) (pvI := (pv : Int)) (by omega) (by omega) (by omega) (by omega) (by omega) (by omega) (by omega) ((H.lend (M1 := []) (W1 := [⟨Shape.int .u64, 44, .slice (some ⟨pb, 0, none⟩) z q, f3.toList⟩])).pick [] rfl) (by omega) (by omega)) ?_
         rintro _ w48 ⟨rfl, H'⟩
         have H := H.back (M1 := []) (W1 := [⟨Shape.int .u64, 44, .slice (some ⟨pb, 0, none⟩) z q, f3.toList⟩]) H'
         obtain ⟨md, e4, hx4⟩ : ∃ md e4, partitionEqual ltInt f3 a b pv = (md, e4) := ⟨_, _, rfl⟩
         rw [hx4] at H ⊢
         obtain ⟨g1, g2, hs4, hB4, hfin4⟩ := Go.Sort.round_eq swoI (Go.Sort.partitionEqual_holds ltInt) (by omega) (by omega) (by omega) (by omega) hB3 (ltI0.2 hgt9.2) hx4
         have H : Hp w S O [] [⟨Shape.int .u64, 44, .slice (some ⟨pb, 0, none⟩) z q, e4.toList⟩] [] _ := H
         refine qF 1 [(0, .slice (some ⟨pb, 0, none⟩) z q), (2, .I b), (3, .I lm), (8, .bool wb), (9, .bool wp), (13, .I md)] ?_
         refine qR 3 [.l [2, 0, 0], .b 0] [(0, .slice (some ⟨pb, 0, none⟩) z q), (1, .I md), (2, .I b), (3, .I lm), (8, .bool wb), (9, .bool wp)] ?_
         exact WK.back (hback1 (md, b, lm, e4, wb, wp) _ ⟨H, by omega, by omega, by rw [hs4]; exact hj3.2, by omega, by omega, hB4, fun R q1 q2 => hfin R (Go.Sort.permIn_trans _ _ _ _ _ hj3.1 (hfin4 R q1 q2).1) (hfin4 R q1 q2).2⟩ (by first | omega | (simp only []; omega))) (by as_aux_lemma => kernel_rfl)
        ·
         rw [hgb] at h47
         replace h47 := of_decide_eq_false h47
         refine qR 2 [.c [2, 0, 0, 0, 8, 0], .c [2, 0, 0, 0, 9], .b 1, .l [2, 0, 0], .b 0] [(0, .slice (some ⟨pb, 0, none⟩) z q), (1, .I a), (2, .I b), (3, .I lm), (10, .I ((b : Int) - (a : Int))), (11, .I pv)] ?_
         refine qG (sq 0 10) ?_
         refine qP 4 (sq 4 10) [(0, .slice (some ⟨pb, 0, none⟩) z q), (1, .I a), (2, .I b), (3, .I lm), (10, .I ((b : Int) - (a : Int))), (95, .slice (some ⟨pb, 0, none⟩) z q), (96, .I a), (97, .I b), (98, .I pv)] ?_
         refine RW.callS (d := some 99) (r := (sq 5 10)) (g := 57) (args := #[.slice (some ⟨pb, 0, none⟩) z q, .I a, .I b, .I pv]) (by as_aux_lemma => kernel_rfl) (upart_spec (d := f3) (pb := pb) (z := z) (a := a) (aI := (a : Int)) (b := b) (bI := (b : Int)) (pv := pv) (pvI := (pv : Int)) (by omega) (by omega) (by omega) (by omega) (by omega) (by omega) (by omega) ((H.lend (M1 := []) (W1 := [⟨Shape.int .u64, 44, .slice (some ⟨pb, 0, none⟩) z q, f3.toList⟩])).pick [] rfl) (by omega) (by omega)) ?_
         rintro _ w49 ⟨rfl, H'⟩
         have H := H.back (M1 := []) (W1 := [⟨Shape.int .u64, 44, .slice (some ⟨pb, 0, none⟩) z q, f3.toList⟩]) H'
         obtain ⟨md, ap, e4, hx4⟩ : ∃ md ap e4, partition ltInt f3 a b pv = (md, ap, e4) := ⟨_, _, _, rfl⟩
         rw [hx4] at H ⊢
         obtain ⟨g1, g2, hs4, hBa, hBr, hleft, hright⟩ := Go.Sort.round_part swoI (Go.Sort.partition_holds ltInt) (by omega) (by omega) (by omega) hB3 hx4
         have H : Hp w S O [] [⟨Shape.int .u64, 44, .slice (some ⟨pb, 0, none⟩) z q, e4.toList⟩] [] _ := H
         refine qF 5 [(0, .slice (some ⟨pb, 0, none⟩) z q), (1, .I a), (2, .I b), (3, .I lm), (10, .I ((b : Int) - (a : Int))), (14, .I md), (15, .bool ap)] ?_
         refine qR 3 [.c [2, 0, 0, 0, 10, 0], .c [2, 0, 0, 0, 11], .b 1, .l [2, 0, 0], .b 0] [(0, .slice (some ⟨pb, 0, none⟩) z q), (1, .I a), (2, .I b), (3, .I lm), (9, .bool ap), (10, .I ((b : Int) - (a : Int))), (14, .I md)] ?_
         refine qG (sq 0 8) ?_
         refine qP 2 (sq 2 8) [(0, .slice (some ⟨pb, 0, none⟩) z q), (1, .I a), (2, .I b), (3, .I lm), (9, .bool ap), (10, .I ((b : Int) - (a : Int))), (14, .I md), (103, .I md), (104, .I a)] ?_
         refine qI .seq 105 (sq 3 8) ((md : Int) - (a : Int)) ?_
         refine qP 2 (sq 5 8) [(0, .slice (some ⟨pb, 0, none⟩) z q), (1, .I a), (2, .I b), (3, .I lm), (9, .bool ap), (10, .I ((b : Int) - (a : Int))), (14, .I md), (105, .I ((md : Int) - (a : Int))), (106, .I b), (107, .I md)] ?_
         refine qI .seq 108 (sq 6 8) ((b : Int) - (md : Int)) ?_
         refine qF 2 [(0, .slice (some ⟨pb, 0, none⟩) z q), (1, .I a), (2, .I b), (3, .I lm), (9, .bool ap), (10, .I ((b : Int) - (a : Int))), (14, .I md), (16, .I ((md : Int) - (a : Int))), (17, .I ((b : Int) - (md : Int)))] ?_
         refine qR 1 [.c [2, 0, 0, 0, 11, 0], .c [2, 0, 0, 0, 12], .b 1, .l [2, 0, 0], .b 0] [(0, .slice (some ⟨pb, 0, none⟩) z q), (1, .I a), (2, .I b), (3, .I lm), (9, .bool ap), (10, .I ((b : Int) - (a : Int))), (14, .I md), (16, .I ((md : Int) - (a : Int))), (17, .I ((b : Int) - (md : Int)))] ?_
         refine qG (sq 0 3) ?_
         refine qP 1 (sq 1 3) [(0, .slice (some ⟨pb, 0, none⟩) z q), (1, .I a), (2, .I b), (3, .I lm), (9, .bool ap), (14, .I md), (16, .I ((md : Int) - (a : Int))), (17, .I ((b : Int) - (md : Int))), (109, .I ((b : Int) - (a : Int)))] ?_
         refine RW.pv (κ := .seq) (d := some 110) (r := (sq 2 3)) (v := .I (IntKind.i64.wrap (((b : Int) - (a : Int)).tdiv 8))) (v' := .I (((b : Int) - (a : Int)) / 8)) (by as_aux_lemma => kernel_rfl) (quo_i64 (by decide) (by omega)) ?_
         refine qF 1 [(0, .slice (some ⟨pb, 0, none⟩) z q), (1, .I a), (2, .I b), (3, .I lm), (9, .bool ap), (14, .I md), (16, .I ((md : Int) - (a : Int))), (17, .I ((b : Int) - (md : Int))), (18, .I (((b : Int) - (a : Int)) / 8))] ?_
         refine qR 2 [.c [2, 0, 0, 0, 13], .b 1, .l [2, 0, 0], .b 0] [(0, .slice (some ⟨pb, 0, none⟩) z q), (1, .I a), (2, .I b), (3, .I lm), (9, .bool ap), (14, .I md), (16, .I ((md : Int) - (a : Int))), (17, .I ((b : Int) - (md : Int))), (18, .I (((b : Int) - (a : Int)) / 8)), (113, .bool (decide (((md : Int) - (a : Int) : Int) < (b : Int) - (md : Int))))] ?_
         refine qD (((md : Int) - (a : Int) : Int) < (b : Int) - (md : Int)) (fun h50 => ?_) (fun h50 => ?_)
         ·
          refine qR 3 [.c [2, 0, 0, 0, 13, 0, 1, 0], .c [2, 0, 0, 0, 13, 0, 2], .b 1, .l [2, 0, 0], .b 0] [(0, .slice (some ⟨pb, 0, none⟩) z q), (1, .I a), (2, .I b), (3, .I lm), (8, .bool (decide (((md : Int) - (a : Int) : Int) ≥ ((b : Int) - (a : Int)) / 8))), (9, .bool ap), (14, .I md)] ?_
          refine qG (sq 0 5) ?_
          refine qP 4 (sq 4 5) [(0, .slice (some ⟨pb, 0, none⟩) z q), (2, .I b), (3, .I lm), (8, .bool (decide (((md : Int) - (a : Int) : Int) ≥ ((b : Int) - (a : Int)) / 8))), (9, .bool ap), (14, .I md), (117, .slice (some ⟨pb, 0, none⟩) z q), (118, .I a), (119, .I md), (120, .I lm)] ?_
          refine RW.callS (d := some 121) (r := (sq 5 5)) (g := 41) (args := #[.slice (some ⟨pb, 0, none⟩) z q, .I a, .I md, .I lm]) (by as_aux_lemma => kernel_rfl) (hrec (md - a) (by omega) _ _ _ e4 pb z q a md lm (a : Int) (md : Int) (lm : Int) (by omega) (by omega) (by omega) (by omega) (by omega) rfl (by omega) hBa ((H.lend (M1 := []) (W1 := [⟨Shape.int .u64, 44, .slice (some ⟨pb, 0, none⟩) z q, e4.toList⟩])).pick [] rfl) (by omega) (by omega)) ?_
          rintro _ w51 ⟨e5, rfl, l1, l2, H'⟩
          have H := H.back (M1 := []) (W1 := [⟨Shape.int .u64, 44, .slice (some ⟨pb, 0, none⟩) z q, e4.toList⟩]) H'
          have hs5 : e5.size = z := by rw [l1.1, hs4]; omega
          obtain ⟨hBL, hfin5⟩ := hleft _ l1 l2
          have H : Hp w S O [] [⟨Shape.int .u64, 44, .slice (some ⟨pb, 0, none⟩) z q, e5.toList⟩] [] _ := H
          refine qF 0 [(0, .slice (some ⟨pb, 0, none⟩) z q), (2, .I b), (3, .I lm), (8, .bool (decide (((md : Int) - (a : Int) : Int) ≥ ((b : Int) - (a : Int)) / 8))), (9, .bool ap), (14, .I md)] ?_
          refine qG (sq 0 3) ?_
          refine qP 1 (sq 1 3) [(0, .slice (some ⟨pb, 0, none⟩) z q), (2, .I b), (3, .I lm), (8, .bool (decide (((md : Int) - (a : Int) : Int) ≥ ((b : Int) - (a : Int)) / 8))), (9, .bool ap), (122, .I md)] ?_
          refine qI .seq 123 (sq 2 3) ((md : Int) + 1) ?_
          refine qF 1 [(0, .slice (some ⟨pb, 0, none⟩) z q), (1, .I ((md : Int) + 1)), (2, .I b), (3, .I lm), (8, .bool (decide (((md : Int) - (a : Int) : Int) ≥ ((b : Int) - (a : Int)) / 8))), (9, .bool ap)] ?_
          refine qR 1 [.l [2, 0, 0], .b 0] [(0, .slice (some ⟨pb, 0, none⟩) z q), (1, .I ((md : Int) + 1)), (2, .I b), (3, .I lm), (8, .bool (decide (((md : Int) - (a : Int) : Int) ≥ ((b : Int) - (a : Int)) / 8))), (9, .bool ap)] ?_
          exact WK.back (hback1 ((md + 1), b, lm, e5, decide (((md : Int) - (a : Int) : Int) ≥ ((b : Int) - (a : Int)) / 8), ap) _ ⟨H, by omega, by omega, hs5, by omega, by omega, hBL, fun R q1 q2 => hfin R (Go.Sort.permIn_trans _ _ _ _ _ hj3.1 (hfin5 R q1 q2).1) (hfin5 R q1 q2).2⟩ (by first | omega | (simp only []; omega))) (by as_aux_lemma => kernel_rfl)
         ·
          refine qR 3 [.c [2, 0, 0, 0, 13, 1, 1, 0], .c [2, 0, 0, 0, 13, 1, 2], .b 1, .l [2, 0, 0], .b 0] [(0, .slice (some ⟨pb, 0, none⟩) z q), (1, .I a), (2, .I b), (3, .I lm), (8, .bool (decide (((b : Int) - (md : Int) : Int) ≥ ((b : Int) - (a : Int)) / 8))), (9, .bool ap), (14, .I md)] ?_
          refine qG (sq 0 6) ?_
          refine qP 2 (sq 2 6) [(0, .slice (some ⟨pb, 0, none⟩) z q), (1, .I a), (2, .I b), (3, .I lm), (8, .bool (decide (((b : Int) - (md : Int) : Int) ≥ ((b : Int) - (a : Int)) / 8))), (9, .bool ap), (14, .I md), (127, .slice (some ⟨pb, 0, none⟩) z q), (128, .I md)] ?_
          refine qI .seq 129 (sq 3 6) ((md : Int) + 1) ?_
          refine qP 2 (sq 5 6) [(0, .slice (some ⟨pb, 0, none⟩) z q), (1, .I a), (3, .I lm), (8, .bool (decide (((b : Int) - (md : Int) : Int) ≥ ((b : Int) - (a : Int)) / 8))), (9, .bool ap), (14, .I md), (127, .slice (some ⟨pb, 0, none⟩) z q), (129, .I ((md : Int) + 1)), (130, .I b), (131, .I lm)] ?_
          refine RW.callS (d := some 132) (r := (sq 6 6)) (g := 41) (args := #[.slice (some ⟨pb, 0, none⟩) z q, .I ((md : Int) + 1), .I b, .I lm]) (by as_aux_lemma => kernel_rfl) (hrec (b - (md + 1)) (by omega) _ _ _ e4 pb z q (md + 1) b lm ((md : Int) + 1) (b : Int) (lm : Int) (by omega) (by omega) (by omega) (by omega) (by omega) rfl (by omega) hBr ((H.lend (M1 := []) (W1 := [⟨Shape.int .u64, 44, .slice (some ⟨pb, 0, none⟩) z q, e4.toList⟩])).pick [] rfl) (by omega) (by omega)) ?_
          rintro _ w52 ⟨e5, rfl, l1, l2, H'⟩
          have H := H.back (M1 := []) (W1 := [⟨Shape.int .u64, 44, .slice (some ⟨pb, 0, none⟩) z q, e4.toList⟩]) H'
          have hs5 : e5.size = z := by rw [l1.1, hs4]; omega
          obtain ⟨hBL, hfin5⟩ := hright _ l1 l2
          have H : Hp w S O [] [⟨Shape.int .u64, 44, .slice (some ⟨pb, 0, none⟩) z q, e5.toList⟩] [] _ := H
          refine qF 0 [(0, .slice (some ⟨pb, 0, none⟩) z q), (1, .I a), (3, .I lm), (8, .bool (decide (((b : Int) - (md : Int) : Int) ≥ ((b : Int) - (a : Int)) / 8))), (9, .bool ap), (14, .I md)] ?_
          refine qR 2 [.l [2, 0, 0], .b 0] [(0, .slice (some ⟨pb, 0, none⟩) z q), (1, .I a), (2, .I md), (3, .I lm), (8, .bool (decide (((b : Int) - (md : Int) : Int) ≥ ((b : Int) - (a : Int)) / 8))), (9, .bool ap)] ?_
          exact WK.back (hback1 (a, md, lm, e5, decide (((b : Int) - (md : Int) : Int) ≥ ((b : Int) - (a : Int)) / 8), ap) _ ⟨H, by omega, by omega, hs5, by omega, by omega, hBL, fun R q1 q2 => hfin R (Go.Sort.permIn_trans _ _ _ _ _ hj3.1 (hfin5 R q1 q2).1) (hfin5 R q1 q2).2⟩ (by first | omega | (simp only []; omega))) (by as_aux_lemma => kernel_rfl)
theorem updq_all : ∀ m, PdqAt m := fun m => by
 induction m using Nat.strongRecOn with
 | _ m ih =>
  intro S w O d pb z q a b l aI bI lI ha hb hl hab hbd hm hl64 hB H0 hz hle
  subst ha hb hl hm
  exact updq_step ih hab hbd hl64 hB H0 hz hle
end Go.Proofs.Ythbegjaoifghlaa
