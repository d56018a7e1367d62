import Derived.Test.YthbegjaoifghlaaSU1
import Derived.Test.YthbegjaoifghlaaSBxA
namespace Go.Proofs.Ythbegjaoifghlaa
open Go.BX
open Go.Sort (swp insInner insOuter insertionSort ltInt siftDown heapBuild heapPop heapSort reverseLoop reverseRange scanUp scanDown partLoop partition partEqLoop partitionEqual scanSorted shiftDown shiftUp partialIns partialInsertionSort)
theorem uxor_spec {S : Nat → Prop} {w : World} {O : List Nat} {rb : Nat} (x : BitVec 64) (H0 : Hp w S O [(rb, .cells #[.int .u64 ((x.toNat : Nat) : Int)] 91 (0, 0))] [] [] w) :
 Calls Try.prog 66 #[.P rb 0] w (Ret fun v w' => ∃ y : BitVec 64, v = .int .u64 ((y.toNat : Nat) : Int) ∧ Hp w S O [(rb, .cells #[.int .u64 ((y.toNat : Nat) : Int)] 91 (0, 0))] [] [] w') := by
 refine qS (fn := Try.f66) (n := 33) (σ := [(0, .P rb 0)]) Try.func66 ?_
 have H := H0
 refine qR 3 [.c [1, 0], .c [2]] [(0, .P rb 0)] ?_
 refine WK.draw1 9 (qs [0, 1, 2, 3, 4, 5, 6, 7, 8]) [(0, .qui), (1, .qui), (2, .qui), (3, .qui), (4, .qui), (5, .qui), (6, .qui), (7, .qui), (8, .qui), (9, .seq)] Try_mixed (by as_aux_lemma => kernel_rfl) (by as_aux_lemma => kernel_rfl) (by as_aux_lemma => kernel_rfl) ?_
 have H := H.draw
 generalize ({ w with drawn := w.drawn + 1 } : World) = w1 at H ⊢
 refine qP 2 [(2, .qui), (3, .qui), (4, .qui), (5, .qui), (6, .qui), (7, .qui), (8, .qui), (9, .seq)] [(0, .P rb 0), (3, .P rb 0), (4, .P rb 0)] ?_
 refine qL .qui 5 [(3, .qui), (4, .qui), (5, .qui), (6, .qui), (7, .qui), (8, .qui), (9, .seq)] 91 rb 0 0 (.int .u64 ((x.toNat : Nat) : Int)) (H.cells 0 rfl) ?_
 refine qP 2 [(5, .qui), (6, .qui), (7, .qui), (8, .qui), (9, .seq)] [(0, .P rb 0), (3, .P rb 0), (5, .int .u64 ((x.toNat : Nat) : Int)), (7, .P rb 0)] ?_
 refine qL .qui 8 [(6, .qui), (7, .qui), (8, .qui), (9, .seq)] 91 rb 0 0 (.int .u64 ((x.toNat : Nat) : Int)) (H.cells 0 rfl) ?_
 refine RW.pv (κ := .qui) (d := some 9) (r := [(7, .qui), (8, .qui), (9, .seq)]) (v := .int .u64 (IntKind.u64.wrap (((x.toNat : Nat) : Int) * 2 ^ 13))) (v' := .int .u64 ((((x <<< 13).toNat : Nat) : Int))) (by as_aux_lemma => kernel_rfl) (bv_shl64 13 (bvi _)) ?_
 refine RW.pv (κ := .qui) (d := some 10) (r := [(8, .qui), (9, .seq)]) (v := .int .u64 (IntKind.u64.wrap ((BitVec.ofInt 64 ((x.toNat : Nat) : Int) ^^^ BitVec.ofInt 64 (((x <<< 13).toNat : Nat) : Int)).toNat : Nat))) (v' := .int .u64 ((((x ^^^ (x <<< 13)).toNat : Nat) : Int))) (by as_aux_lemma => kernel_rfl) (bv_xor64 (bvi _) (bvi _)) ?_
 refine qP 1 [(9, .seq)] [(0, .P rb 0), (10, .int .u64 (((x ^^^ (x <<< 13)).toNat : Nat) : Int)), (11, .P rb 0)] ?_
 refine qW 91 rb 0 [] (.int .u64 (((x ^^^ (x <<< 13)).toNat : Nat) : Int)) [(rb, .cells #[.int .u64 (((x ^^^ (x <<< 13)).toNat : Nat) : Int)] 91 (0, 0))] H 0 rfl rfl ?_
 intro w2 H
 refine qF 0 [(0, .P rb 0)] ?_
 refine qR 1 [.c [2, 0], .c [3]] [(0, .P rb 0)] ?_
 refine WK.draw1 9 (qs [0, 1, 2, 3, 4, 5, 6, 7, 8]) [(0, .qui), (1, .qui), (2, .qui), (3, .qui), (4, .qui), (5, .qui), (6, .qui), (7, .qui), (8, .qui), (9, .seq)] Try_mixed (by as_aux_lemma => kernel_rfl) (by as_aux_lemma => kernel_rfl) (by as_aux_lemma => kernel_rfl) ?_
 have H := H.draw
 generalize ({ w2 with drawn := w2.drawn + 1 } : World) = w3 at H ⊢
 refine qP 2 [(2, .qui), (3, .qui), (4, .qui), (5, .qui), (6, .qui), (7, .qui), (8, .qui), (9, .seq)] [(0, .P rb 0), (12, .P rb 0), (13, .P rb 0)] ?_
 refine qL .qui 14 [(3, .qui), (4, .qui), (5, .qui), (6, .qui), (7, .qui), (8, .qui), (9, .seq)] 91 rb 0 0 (.int .u64 (((x ^^^ (x <<< 13)).toNat : Nat) : Int)) (H.cells 0 rfl) ?_
 refine qP 2 [(5, .qui), (6, .qui), (7, .qui), (8, .qui), (9, .seq)] [(0, .P rb 0), (12, .P rb 0), (14, .int .u64 (((x ^^^ (x <<< 13)).toNat : Nat) : Int)), (16, .P rb 0)] ?_
 refine qL .qui 17 [(6, .qui), (7, .qui), (8, .qui), (9, .seq)] 91 rb 0 0 (.int .u64 (((x ^^^ (x <<< 13)).toNat : Nat) : Int)) (H.cells 0 rfl) ?_
 refine RW.pv (κ := .qui) (d := some 18) (r := [(7, .qui), (8, .qui), (9, .seq)]) (v := .int .u64 ((((x ^^^ (x <<< 13)).toNat : Nat) : Int).fdiv (2 ^ 7))) (v' := .int .u64 (((((x ^^^ (x <<< 13)) >>> 7).toNat : Nat) : Int))) (by as_aux_lemma => kernel_rfl) (bv_shr64 _ 7) ?_
 refine RW.pv (κ := .qui) (d := some 19) (r := [(8, .qui), (9, .seq)]) (v := .int .u64 (IntKind.u64.wrap ((BitVec.ofInt 64 (((x ^^^ (x <<< 13)).toNat : Nat) : Int) ^^^ BitVec.ofInt 64 ((((x ^^^ (x <<< 13)) >>> 7).toNat : Nat) : Int)).toNat : Nat))) (v' := .int .u64 (((((x ^^^ (x <<< 13)) ^^^ ((x ^^^ (x <<< 13)) >>> 7)).toNat : Nat) : Int))) (by as_aux_lemma => kernel_rfl) (bv_xor64 (bvi _) (bvi _)) ?_
 refine qP 1 [(9, .seq)] [(0, .P rb 0), (19, .int .u64 ((((x ^^^ (x <<< 13)) ^^^ ((x ^^^ (x <<< 13)) >>> 7)).toNat : Nat) : Int)), (20, .P rb 0)] ?_
 refine qW 91 rb 0 [] (.int .u64 ((((x ^^^ (x <<< 13)) ^^^ ((x ^^^ (x <<< 13)) >>> 7)).toNat : Nat) : Int)) [(rb, .cells #[.int .u64 ((((x ^^^ (x <<< 13)) ^^^ ((x ^^^ (x <<< 13)) >>> 7)).toNat : Nat) : Int)] 91 (0, 0))] H 0 rfl rfl ?_
 intro w4 H
 refine qF 0 [(0, .P rb 0)] ?_
 refine qR 1 [.c [3, 0], .c [4]] [(0, .P rb 0)] ?_
 refine WK.draw1 9 (qs [0, 1, 2, 3, 4, 5, 6, 7, 8]) [(0, .qui), (1, .qui), (2, .qui), (3, .qui), (4, .qui), (5, .qui), (6, .qui), (7, .qui), (8, .qui), (9, .seq)] Try_mixed (by as_aux_lemma => kernel_rfl) (by as_aux_lemma => kernel_rfl) (by as_aux_lemma => kernel_rfl) ?_
 have H := H.draw
 generalize ({ w4 with drawn := w4.drawn + 1 } : World) = w5 at H ⊢
 refine qP 2 [(2, .qui), (3, .qui), (4, .qui), (5, .qui), (6, .qui), (7, .qui), (8, .qui), (9, .seq)] [(0, .P rb 0), (21, .P rb 0), (22, .P rb 0)] ?_
 refine qL .qui 23 [(3, .qui), (4, .qui), (5, .qui), (6, .qui), (7, .qui), (8, .qui), (9, .seq)] 91 rb 0 0 (.int .u64 ((((x ^^^ (x <<< 13)) ^^^ ((x ^^^ (x <<< 13)) >>> 7)).toNat : Nat) : Int)) (H.cells 0 rfl) ?_
 refine qP 2 [(5, .qui), (6, .qui), (7, .qui), (8, .qui), (9, .seq)] [(0, .P rb 0), (21, .P rb 0), (23, .int .u64 ((((x ^^^ (x <<< 13)) ^^^ ((x ^^^ (x <<< 13)) >>> 7)).toNat : Nat) : Int)), (25, .P rb 0)] ?_
 refine qL .qui 26 [(6, .qui), (7, .qui), (8, .qui), (9, .seq)] 91 rb 0 0 (.int .u64 ((((x ^^^ (x <<< 13)) ^^^ ((x ^^^ (x <<< 13)) >>> 7)).toNat : Nat) : Int)) (H.cells 0 rfl) ?_
 refine RW.pv (κ := .qui) (d := some 27) (r := [(7, .qui), (8, .qui), (9, .seq)]) (v := .int .u64 (IntKind.u64.wrap (((((x ^^^ (x <<< 13)) ^^^ ((x ^^^ (x <<< 13)) >>> 7)).toNat : Nat) : Int) * 2 ^ 17))) (v' := .int .u64 ((((((x ^^^ (x <<< 13)) ^^^ ((x ^^^ (x <<< 13)) >>> 7)) <<< 17).toNat : Nat) : Int))) (by as_aux_lemma => kernel_rfl) (bv_shl64 17 (bvi _)) ?_
 refine RW.pv (κ := .qui) (d := some 28) (r := [(8, .qui), (9, .seq)]) (v := .int .u64 (IntKind.u64.wrap ((BitVec.ofInt 64 ((((x ^^^ (x <<< 13)) ^^^ ((x ^^^ (x <<< 13)) >>> 7)).toNat : Nat) : Int) ^^^ BitVec.ofInt 64 (((((x ^^^ (x <<< 13)) ^^^ ((x ^^^ (x <<< 13)) >>> 7)) <<< 17).toNat : Nat) : Int)).toNat : Nat))) (v' := .int .u64 ((((((x ^^^ (x <<< 13)) ^^^ ((x ^^^ (x <<< 13)) >>> 7)) ^^^ (((x ^^^ (x <<< 13)) ^^^ ((x ^^^ (x <<< 13)) >>> 7)) <<< 17)).toNat : Nat) : Int))) (by as_aux_lemma => kernel_rfl) (bv_xor64 (bvi _) (bvi _)) ?_
 refine qP 1 [(9, .seq)] [(0, .P rb 0), (28, .int .u64 (((((x ^^^ (x <<< 13)) ^^^ ((x ^^^ (x <<< 13)) >>> 7)) ^^^ (((x ^^^ (x <<< 13)) ^^^ ((x ^^^ (x <<< 13)) >>> 7)) <<< 17)).toNat : Nat) : Int)), (29, .P rb 0)] ?_
 refine qW 91 rb 0 [] (.int .u64 (((((x ^^^ (x <<< 13)) ^^^ ((x ^^^ (x <<< 13)) >>> 7)) ^^^ (((x ^^^ (x <<< 13)) ^^^ ((x ^^^ (x <<< 13)) >>> 7)) <<< 17)).toNat : Nat) : Int)) [(rb, .cells #[.int .u64 (((((x ^^^ (x <<< 13)) ^^^ ((x ^^^ (x <<< 13)) >>> 7)) ^^^ (((x ^^^ (x <<< 13)) ^^^ ((x ^^^ (x <<< 13)) >>> 7)) <<< 17)).toNat : Nat) : Int)] 91 (0, 0))] H 0 rfl rfl ?_
 intro w6 H
 refine qF 0 [(0, .P rb 0)] ?_
 refine qR 1 [.c [4, 0], .c [5]] [(0, .P rb 0)] ?_
 refine qG (sq 0 4) ?_
 refine qP 2 (sq 2 4) [(31, .P rb 0)] ?_
 refine qL .seq 32 (sq 3 4) 91 rb 0 0 (.int .u64 (((((x ^^^ (x <<< 13)) ^^^ ((x ^^^ (x <<< 13)) >>> 7)) ^^^ (((x ^^^ (x <<< 13)) ^^^ ((x ^^^ (x <<< 13)) >>> 7)) <<< 17)).toNat : Nat) : Int)) (H.cells 0 rfl) ?_
 refine qF 1 [(2, .int .u64 (((((x ^^^ (x <<< 13)) ^^^ ((x ^^^ (x <<< 13)) >>> 7)) ^^^ (((x ^^^ (x <<< 13)) ^^^ ((x ^^^ (x <<< 13)) >>> 7)) <<< 17)).toNat : Nat) : Int))] ?_
 refine qT (.int .u64 (((((x ^^^ (x <<< 13)) ^^^ ((x ^^^ (x <<< 13)) >>> 7)) ^^^ (((x ^^^ (x <<< 13)) ^^^ ((x ^^^ (x <<< 13)) >>> 7)) <<< 17)).toNat : Nat) : Int)) Try.func66 ?_
 exact ⟨_, rfl, _, rfl, H.pick [] rfl⟩
end Go.Proofs.Ythbegjaoifghlaa
