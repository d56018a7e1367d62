import Derived.Test.YthbegjaoifghlaaSU8
import Derived.Test.YthbegjaoifghlaaSBxA
namespace Go.Proofs.Ythbegjaoifghlaa
open Go.BX
open Go.Sort (swp insInner insOuter insertionSort ltInt siftDown heapBuild heapPop heapSort reverseLoop reverseRange scanUp scanDown partLoop partition partEqLoop partitionEqual scanSorted shiftDown shiftUp partialIns partialInsertionSort)
def lenTab : ByteArray := ⟨#[0, 1, 2, 2, 3, 3, 3, 3, 4, 4, 4, 4, 4, 4, 4, 4, 5, 5, 5, 5, 5, 5, 5, 5, 5, 5, 5, 5, 5, 5, 5, 5, 6, 6, 6, 6, 6, 6, 6, 6, 6, 6, 6, 6, 6, 6, 6, 6, 6, 6, 6, 6, 6, 6, 6, 6, 6, 6, 6, 6, 6, 6, 6, 6, 7, 7, 7, 7, 7, 7, 7, 7, 7, 7, 7, 7, 7, 7, 7, 7, 7, 7, 7, 7, 7, 7, 7, 7, 7, 7, 7, 7, 7, 7, 7, 7, 7, 7, 7, 7, 7, 7, 7, 7, 7, 7, 7, 7, 7, 7, 7, 7, 7, 7, 7, 7, 7, 7, 7, 7, 7, 7, 7, 7, 7, 7, 7, 7, 8, 8, 8, 8, 8, 8, 8, 8, 8, 8, 8, 8, 8, 8, 8, 8, 8, 8, 8, 8, 8, 8, 8, 8, 8, 8, 8, 8, 8, 8, 8, 8, 8, 8, 8, 8, 8, 8, 8, 8, 8, 8, 8, 8, 8, 8, 8, 8, 8, 8, 8, 8, 8, 8, 8, 8, 8, 8, 8, 8, 8, 8, 8, 8, 8, 8, 8, 8, 8, 8, 8, 8, 8, 8, 8, 8, 8, 8, 8, 8, 8, 8, 8, 8, 8, 8, 8, 8, 8, 8, 8, 8, 8, 8, 8, 8, 8, 8, 8, 8, 8, 8, 8, 8, 8, 8, 8, 8, 8, 8, 8, 8, 8, 8, 8, 8, 8, 8, 8, 8, 8, 8, 8, 8, 8, 8, 8, 8]⟩
open Go.Sort (bitsLen PermIn SortedIn Below)
theorem lenTab_all : ((List.range 256).all fun y => (lenTab[y]?.map UInt8.toNat) == some (bitsLen y)) = true := by decide +kernel
theorem lenTab_at {y : Nat} (h : y < 256) : ∃ b, lenTab[y]? = some b ∧ b.toNat = bitsLen y := by
 have e := List.all_eq_true.1 lenTab_all y (List.mem_range.2 h)
 have e := eq_of_beq e
 cases hb : lenTab[y]? with
 | none => rw [hb] at e; cases e
 | some b => rw [hb] at e; exact ⟨b, rfl, Option.some.inj e⟩
theorem idxLen_run {P : Program} {w : World} {T : TypeId} {x : Int} {y : Nat} (hT : P.underlying T = some .string) (hx : x = (y : Int)) (h : y < 256) : (Instr.index T (.string lenTab) (.int .u8 x)).run P w = .ok (.int .u8 ((bitsLen y : Nat) : Int)) w := by
 obtain ⟨b, hb, he⟩ := lenTab_at h
 subst hx
 simp [Instr.index, asIntOf, run_underlying hT, hb, he]
theorem shrN_run {P : Program} {w : World} {yk : IntKind} {x : Nat} (j : Nat) (hj : j ≤ 64) (q : Nat) (hq : x / 2 ^ j = q) : (Op.shift .shr .u64 (x : Int) yk (j : Int)).run P w = .ok (.int .u64 ((q : Nat) : Int)) w := by
 rw [(shift_run (k := .u64) rfl (show j ≤ IntKind.bits .u64 from hj)).2, ← hq]
 rw [show ((2 : Int) ^ j) = ((2 ^ j : Nat) : Int) by simp, ← Int.ofNat_fdiv]
theorem pow_run {P : Program} {w : World} {yk : IntKind} {y : Int} {j : Nat} (hy : y = (j : Int)) (hj : j ≤ 40) : (Op.shift .shl .u64 1 yk y).run P w = .ok (.int .u64 ((2 ^ j : Nat) : Int)) w := by
 rw [(shift_run (k := .u64) hy (show j ≤ IntKind.bits .u64 from Nat.le_trans hj (by decide))).1]
 have h1 : 2 ^ j ≤ 2 ^ 40 := Nat.pow_le_pow_right (by decide) hj
 have e : (1 : Int) * 2 ^ j = ((2 ^ j : Nat) : Int) := by simp
 rw [e]
 generalize 2 ^ j = q at h1 ⊢
 have := wr_u64 (x := ((q : Nat) : Int)) (by omega)
 rw [this]
theorem len_shift (j : Nat) {n : Nat} (h : 2 ^ j ≤ n) : bitsLen n = bitsLen (n / 2 ^ j) + j := by
 have h1 : n < 2 ^ (bitsLen (n / 2 ^ j) + j) := by
  have := Go.Sort.lt_two_pow_bitsLen (n / 2 ^ j)
  rw [Nat.pow_add]
  exact (Nat.div_lt_iff_lt_mul (Nat.two_pow_pos _)).1 this
 have h2 := (Go.Sort.bitsLen_le_iff n _).2 h1
 have hp : 0 < n / 2 ^ j := Nat.div_pos h (Nat.two_pow_pos _)
 rcases Nat.lt_or_ge (bitsLen n) (bitsLen (n / 2 ^ j) + j) with h3 | h3
 · exfalso
   have hm : 1 ≤ bitsLen (n / 2 ^ j) := by
    rcases Nat.eq_zero_or_pos (bitsLen (n / 2 ^ j)) with h0 | h0
    · have := (Go.Sort.bitsLen_le_iff (n / 2 ^ j) 0).1 (by omega); omega
    · exact h0
   have h4 := (Go.Sort.bitsLen_le_iff n (bitsLen (n / 2 ^ j) - 1 + j)).1 (by omega)
   rw [Nat.pow_add] at h4
   have h5 := (Nat.div_lt_iff_lt_mul (Nat.two_pow_pos _)).2 h4
   have h6 := (Go.Sort.bitsLen_le_iff _ _).2 h5
   omega
 · omega
theorem len_le {n j : Nat} (h : n < 2 ^ j) : bitsLen n ≤ j := (Go.Sort.bitsLen_le_iff n j).2 h
theorem wr_bvn {x : Int} {n : Nat} (hx : x = (n : Int)) (hn : n ≤ 1048576) : Value.int .u64 (IntKind.u64.wrap x) = .int .u64 (((BitVec.ofNat 64 n).toNat : Nat) : Int) := by
 subst hx
 rw [wr_u64 (by omega), BitVec.toNat_ofNat, Nat.mod_eq_of_lt (by omega)]
theorem andm (y : BitVec 64) {m : Nat} (h1 : 1 ≤ m) (h2 : m ≤ 4194304) {k : Int} (hk : k = (m : Int) - 1) : ∃ r : Nat, Value.int .u64 (IntKind.u64.wrap (((BitVec.ofInt 64 ((y.toNat : Nat) : Int) &&& BitVec.ofInt 64 k).toNat : Nat) : Int)) = .int .u64 (r : Int) ∧ r < m := by
 refine ⟨(y &&& BitVec.ofNat 64 (m - 1)).toNat, ?_, ?_⟩
 · exact bv_and64 (bvi y) (by rw [hk, show (m : Int) - 1 = ((m - 1 : Nat) : Int) by omega]; exact bv_nat _ _)
 · rw [BitVec.toNat_and, BitVec.toNat_ofNat]
   have := Nat.and_le_right (n := y.toNat) (m := (m - 1) % 2 ^ 64)
   have e : (m - 1) % 2 ^ 64 = m - 1 := Nat.mod_eq_of_lt (by omega)
   omega
theorem ulen_spec {S : Nat → Prop} {w : World} {n : Nat} (hn : n ≤ 1048576) :
 Calls Try.prog 59 #[.int .u64 (n : Int)] w (Ret fun v w' => Ext w w' ∧ v = .I ((bitsLen n : Nat) : Int)) := by
 refine qS (fn := Try.f59) (n := 25) (σ := [(0, .int .u64 (n : Int))]) Try.func59 ?_
 have H := Hp.startF (w := w) (S := S) (G := []) .nil
 refine qR 5 [.c [1, 0, 1], .c [2]] [(0, .int .u64 (n : Int)), (2, .I 0), (4, .bool (decide (((n : Int) : Int) ≥ 4294967296)))] ?_
 refine qD (((n : Int) : Int) ≥ 4294967296) (fun h1 => ?_) (fun h1 => ?_)
 ·
  omega
 ·
  refine qR 4 [.c [2, 0, 1], .c [3]] [(0, .int .u64 (n : Int)), (2, .I 0), (8, .bool (decide (((n : Int) : Int) ≥ 65536)))] ?_
  refine qD (((n : Int) : Int) ≥ 65536) (fun h2 => ?_) (fun h2 => ?_)
  ·
   have hs9 : bitsLen n = bitsLen (n / 65536) + 16 := len_shift 16 (by omega)
   refine qR 1 [.c [2, 0, 1, 0, 0], .c [2, 0, 1, 0, 1], .c [3]] [(0, .int .u64 (n : Int)), (2, .I 0)] ?_
   refine qG (sq 0 3) ?_
   refine qP 1 (sq 1 3) [(0, .int .u64 (n : Int)), (2, .I 0), (9, .int .u64 (n : Int))] ?_
   refine RW.readS (κ := .seq) (d := some 10) (r := (sq 2 3)) (s := semV (Op.shift .shr .u64 (n : Int) .u64 16)) (v := .int .u64 ((n / 65536 : Nat) : Int)) (by as_aux_lemma => kernel_rfl) (fun w' _ => semV_run (shrN_run 16 (by decide) _ (by omega))) ?_
   refine qF 1 [(0, .int .u64 ((n / 65536 : Nat) : Int)), (2, .I 0)] ?_
   refine qR 4 [.c [3, 0, 1], .c [4]] [(0, .int .u64 ((n / 65536 : Nat) : Int)), (2, .I 16), (14, .bool (decide ((((n / 65536 : Nat) : Int) : Int) ≥ 256)))] ?_
   refine qD ((((n / 65536 : Nat) : Int) : Int) ≥ 256) (fun h3 => ?_) (fun h3 => ?_)
   ·
    omega
   ·
    refine qR 2 [.c [4, 0], .c [5]] [(0, .int .u64 ((n / 65536 : Nat) : Int)), (2, .I 16)] ?_
    refine qG (sq 0 7) ?_
    refine qP 2 (sq 2 7) [(2, .I 16), (19, .I 16), (20, .int .u64 ((n / 65536 : Nat) : Int))] ?_
    refine RW.pv (κ := .seq) (d := some 21) (r := (sq 3 7)) (v' := .int .u8 ((n / 65536 : Nat) : Int)) (v := .int .u8 (IntKind.u8.wrap (((n / 65536 : Nat) : Int)))) (by as_aux_lemma => kernel_rfl) (wr_u8 (by omega)) ?_
    have hl9 : bitsLen (n / 65536) ≤ 8 := len_le (by omega)
    refine RW.readS (κ := .seq) (d := some 22) (r := (sq 4 7)) (s := semV (Instr.index 9 (.string lenTab) (.int .u8 ((n / 65536 : Nat) : Int)))) (v := .int .u8 ((bitsLen (n / 65536) : Nat) : Int)) (by as_aux_lemma => kernel_rfl) (fun w' _ => semV_run (idxLen_run (by as_aux_lemma => kernel_rfl) rfl (by omega))) ?_
    refine RW.pv (κ := .seq) (d := some 23) (r := (sq 5 7)) (v' := .I ((bitsLen (n / 65536) : Nat) : Int)) (v := .I (IntKind.i64.wrap (((bitsLen (n / 65536) : Nat) : Int)))) (by as_aux_lemma => kernel_rfl) (wr_i64 (by omega)) ?_
    refine qI .seq 24 (sq 6 7) (16 + ((bitsLen (n / 65536) : Nat) : Int)) ?_
    refine qF 1 [(2, .I (16 + ((bitsLen (n / 65536) : Nat) : Int)))] ?_
    refine qT (.I (16 + ((bitsLen (n / 65536) : Nat) : Int))) Try.func59 ?_
    refine ⟨_, rfl, H.done, ?_⟩
    show Value.int .i64 _ = .I _
    congr 1
    omega
  ·
   refine qR 4 [.c [3, 0, 1], .c [4]] [(0, .int .u64 (n : Int)), (2, .I 0), (14, .bool (decide (((n : Int) : Int) ≥ 256)))] ?_
   refine qD (((n : Int) : Int) ≥ 256) (fun h4 => ?_) (fun h4 => ?_)
   ·
    have hs9 : bitsLen n = bitsLen (n / 256) + 8 := len_shift 8 (by omega)
    refine qR 1 [.c [3, 0, 1, 0, 0], .c [3, 0, 1, 0, 1], .c [4]] [(0, .int .u64 (n : Int)), (2, .I 0)] ?_
    refine qG (sq 0 3) ?_
    refine qP 1 (sq 1 3) [(0, .int .u64 (n : Int)), (2, .I 0), (15, .int .u64 (n : Int))] ?_
    refine RW.readS (κ := .seq) (d := some 16) (r := (sq 2 3)) (s := semV (Op.shift .shr .u64 (n : Int) .u64 8)) (v := .int .u64 ((n / 256 : Nat) : Int)) (by as_aux_lemma => kernel_rfl) (fun w' _ => semV_run (shrN_run 8 (by decide) _ (by omega))) ?_
    refine qF 1 [(0, .int .u64 ((n / 256 : Nat) : Int)), (2, .I 0)] ?_
    refine qR 2 [.c [4, 0], .c [5]] [(0, .int .u64 ((n / 256 : Nat) : Int)), (2, .I 8)] ?_
    refine qG (sq 0 7) ?_
    refine qP 2 (sq 2 7) [(2, .I 8), (19, .I 8), (20, .int .u64 ((n / 256 : Nat) : Int))] ?_
    refine RW.pv (κ := .seq) (d := some 21) (r := (sq 3 7)) (v' := .int .u8 ((n / 256 : Nat) : Int)) (v := .int .u8 (IntKind.u8.wrap (((n / 256 : Nat) : Int)))) (by as_aux_lemma => kernel_rfl) (wr_u8 (by omega)) ?_
    have hl9 : bitsLen (n / 256) ≤ 8 := len_le (by omega)
    refine RW.readS (κ := .seq) (d := some 22) (r := (sq 4 7)) (s := semV (Instr.index 9 (.string lenTab) (.int .u8 ((n / 256 : Nat) : Int)))) (v := .int .u8 ((bitsLen (n / 256) : Nat) : Int)) (by as_aux_lemma => kernel_rfl) (fun w' _ => semV_run (idxLen_run (by as_aux_lemma => kernel_rfl) rfl (by omega))) ?_
    refine RW.pv (κ := .seq) (d := some 23) (r := (sq 5 7)) (v' := .I ((bitsLen (n / 256) : Nat) : Int)) (v := .I (IntKind.i64.wrap (((bitsLen (n / 256) : Nat) : Int)))) (by as_aux_lemma => kernel_rfl) (wr_i64 (by omega)) ?_
    refine qI .seq 24 (sq 6 7) (8 + ((bitsLen (n / 256) : Nat) : Int)) ?_
    refine qF 1 [(2, .I (8 + ((bitsLen (n / 256) : Nat) : Int)))] ?_
    refine qT (.I (8 + ((bitsLen (n / 256) : Nat) : Int))) Try.func59 ?_
    refine ⟨_, rfl, H.done, ?_⟩
    show Value.int .i64 _ = .I _
    congr 1
    omega
   ·
    refine qR 2 [.c [4, 0], .c [5]] [(0, .int .u64 (n : Int)), (2, .I 0)] ?_
    refine qG (sq 0 7) ?_
    refine qP 2 (sq 2 7) [(2, .I 0), (19, .I 0), (20, .int .u64 (n : Int))] ?_
    refine RW.pv (κ := .seq) (d := some 21) (r := (sq 3 7)) (v' := .int .u8 (n : Int)) (v := .int .u8 (IntKind.u8.wrap ((n : Int)))) (by as_aux_lemma => kernel_rfl) (wr_u8 (by omega)) ?_
    have hl9 : bitsLen n ≤ 8 := len_le (by omega)
    refine RW.readS (κ := .seq) (d := some 22) (r := (sq 4 7)) (s := semV (Instr.index 9 (.string lenTab) (.int .u8 (n : Int)))) (v := .int .u8 ((bitsLen n : Nat) : Int)) (by as_aux_lemma => kernel_rfl) (fun w' _ => semV_run (idxLen_run (by as_aux_lemma => kernel_rfl) rfl (by omega))) ?_
    refine RW.pv (κ := .seq) (d := some 23) (r := (sq 5 7)) (v' := .I ((bitsLen n : Nat) : Int)) (v := .I (IntKind.i64.wrap (((bitsLen n : Nat) : Int)))) (by as_aux_lemma => kernel_rfl) (wr_i64 (by omega)) ?_
    refine qI .seq 24 (sq 6 7) (0 + ((bitsLen n : Nat) : Int)) ?_
    refine qF 1 [(2, .I (0 + ((bitsLen n : Nat) : Int)))] ?_
    refine qT (.I (0 + ((bitsLen n : Nat) : Int))) Try.func59 ?_
    refine ⟨_, rfl, H.done, ?_⟩
    show Value.int .i64 _ = .I _
    congr 1
    omega
theorem ulen0_spec {S : Nat → Prop} {w : World} {n : Nat} (hn : n ≤ 1048576) :
 Calls Try.prog 42 #[.int .u64 (n : Int)] w (Ret fun v w' => Ext w w' ∧ v = .I ((bitsLen n : Nat) : Int)) := by
 refine qS (fn := Try.f42) (n := 8) (σ := [(0, .int .u64 (n : Int))]) Try.func42 ?_
 have H := Hp.startF (w := w) (S := S) (G := []) .nil
 refine qR 6 [.c [2, 0], .c [3]] [(0, .int .u64 (n : Int))] ?_
 refine qG (sq 0 3) ?_
 refine qP 1 (sq 1 3) [(6, .int .u64 (n : Int))] ?_
 refine qK .seq (some 7) (sq 2 3) 59 #[.int .u64 (n : Int)] (ulen_spec (S := fun _ => True) (n := n) (by omega)) ?_
 rintro _ w1 hE2 rfl
 have H := H.ext hE2
 refine qF 1 [(2, .I ((bitsLen n : Nat) : Int))] ?_
 refine qT (.I ((bitsLen n : Nat) : Int)) Try.func42 ?_
 exact ⟨_, rfl, H.done, rfl⟩
theorem unext_spec {S : Nat → Prop} {w : World} {n : Nat} {nI : Int} (hnI : nI = (n : Int)) (h0 : 0 < n) (hn : n ≤ 1048576) :
 Calls Try.prog 65 #[.I nI] w (Ret fun v w' => Ext w w' ∧ ∃ m : Nat, v = .int .u64 (m : Int) ∧ 1 ≤ m ∧ m ≤ 2 * n) := by
 subst hnI
 refine qS (fn := Try.f65) (n := 7) (σ := [(0, .I n)]) Try.func65 ?_
 have H := Hp.startF (w := w) (S := S) (G := []) .nil
 refine qR 3 [.c [1, 0], .c [2]] [(0, .I n)] ?_
 refine qG (sq 0 5) ?_
 refine qP 1 (sq 1 5) [(3, .I n)] ?_
 refine RW.pv (κ := .seq) (d := some 4) (r := (sq 2 5)) (v' := .int .u64 (n : Int)) (v := .int .u64 (IntKind.u64.wrap ((n : Int)))) (by as_aux_lemma => kernel_rfl) (wr_u64 (by omega)) ?_
 refine qK .seq (some 5) (sq 3 5) 42 #[.int .u64 (n : Int)] (ulen0_spec (S := fun _ => True) (n := n) (by omega)) ?_
 rintro _ w1 hE2 rfl
 have H := H.ext hE2
 refine RW.readS (κ := .seq) (d := some 6) (r := (sq 4 5)) (s := semV (Op.shift .shl .u64 1 .i64 ((bitsLen n : Nat) : Int))) (v := .int .u64 ((2 ^ bitsLen n : Nat) : Int)) (by as_aux_lemma => kernel_rfl) (fun w' _ => semV_run (pow_run rfl (Nat.le_trans (len_le (j := 21) (by omega)) (by decide)))) ?_
 refine qF 1 [(2, .int .u64 ((2 ^ bitsLen n : Nat) : Int))] ?_
 refine qT (.int .u64 ((2 ^ bitsLen n : Nat) : Int)) Try.func65 ?_
 exact ⟨_, rfl, H.done, _, rfl, Nat.two_pow_pos _, Go.Sort.two_pow_bitsLen_le h0⟩
end Go.Proofs.Ythbegjaoifghlaa
