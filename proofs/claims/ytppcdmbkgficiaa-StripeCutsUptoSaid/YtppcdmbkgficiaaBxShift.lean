/-
  THE ENGINE: shifts by an amount that is known at run time only.
  No condition.
-/
import Derived.Test.YtppcdmbkgficiaaBxBv
namespace Go.BX
theorem shift_run {P : Program} {w : World} {k yk : IntKind} {a y : Int} {j : Nat} (hy : y = (j : Int)) (hj : j ≤ k.bits) : (Op.shift .shl k a yk y).run P w = .ok (.int k (k.wrap (a * 2 ^ j))) w ∧ (Op.shift .shr k a yk y).run P w = .ok (.int k (a.fdiv (2 ^ j))) w := by
  subst hy
  have e : min (Int.toNat (j : Int)) k.bits = j := by
    rw [Int.toNat_natCast]; exact Nat.min_eq_left hj
  constructor
  · unfold Op.shift
    rw [if_neg (by omega)]
    simp only [e]
    rfl
  · unfold Op.shift
    rw [if_neg (by omega)]
    simp only [e]
    rfl
theorem shl_run8 {P : Program} {w : World} {yk : IntKind} {a y : Int} {x : BitVec 8} {j : Nat} (hx : BitVec.ofInt 8 a = x) (hy : y = (j : Int)) (hj : j ≤ 8) : (Op.shift .shl .u8 a yk y).run P w = .ok (.int .u8 (((x <<< j).toNat : Nat) : Int)) w := by
  rw [(shift_run (k := .u8) hy (show j ≤ IntKind.bits .u8 from hj)).1, bv_shl8 j hx]
theorem shl_run32 {P : Program} {w : World} {yk : IntKind} {a y : Int} {x : BitVec 32} {j : Nat} (hx : BitVec.ofInt 32 a = x) (hy : y = (j : Int)) (hj : j ≤ 32) : (Op.shift .shl .u32 a yk y).run P w = .ok (.int .u32 (((x <<< j).toNat : Nat) : Int)) w := by
  rw [(shift_run (k := .u32) hy (show j ≤ IntKind.bits .u32 from hj)).1, bv_shl32 j hx]
theorem shr_run8 {P : Program} {w : World} {yk : IntKind} (x : BitVec 8) {y : Int} {j : Nat} (hy : y = (j : Int)) (hj : j ≤ 8) : (Op.shift .shr .u8 ((x.toNat : Nat) : Int) yk y).run P w = .ok (.int .u8 (((x >>> j).toNat : Nat) : Int)) w := by
  rw [(shift_run (k := .u8) hy (show j ≤ IntKind.bits .u8 from hj)).2, bv_shr8 x j]
theorem shr_run32 {P : Program} {w : World} {yk : IntKind} (x : BitVec 32) {y : Int} {j : Nat} (hy : y = (j : Int)) (hj : j ≤ 32) : (Op.shift .shr .u32 ((x.toNat : Nat) : Int) yk y).run P w = .ok (.int .u32 (((x >>> j).toNat : Nat) : Int)) w := by
  rw [(shift_run (k := .u32) hy (show j ≤ IntKind.bits .u32 from hj)).2, bv_shr32 x j]
/-- the bit of a number -/
theorem shr_bit {m : BitVec 32} {i : Nat} : ((((m >>> i) &&& 1#32).toNat : Nat) : Int) = 1 ↔ m.getLsbD i = true := by
  have e : ((m >>> i) &&& 1#32).toNat = m.toNat / 2 ^ i % 2 := by
    rw [BitVec.toNat_and, BitVec.toNat_ushiftRight, Nat.shiftRight_eq_div_pow]
    exact Nat.and_one_is_mod _
  rw [e, BitVec.getLsbD, Nat.testBit_eq_decide_div_mod_eq, decide_eq_true_eq]
  omega
theorem rem_nat {P : Program} {w : World} {x y : Int} {r : Nat} (hy : 0 < y) (hx : 0 ≤ x) (h : x % y = (r : Int)) : (Op.intDiv .rem .i64 x y).run P w = .ok (.int .i64 (r : Int)) w := by
  rw [rem_run_i64 hy hx, h]
theorem quo_nat {P : Program} {w : World} {x y : Int} {r : Nat} (hy : 0 < y) (hx : 0 ≤ x ∧ x ≤ 9223372036854775807) (h : x / y = (r : Int)) : (Op.intDiv .quo .i64 x y).run P w = .ok (.int .i64 (r : Int)) w := by
  rw [quo_run_i64 hy hx, h]
theorem remU_run {P : Program} {w : World} {x y : Int} (hy : 0 < y) (hx : 0 ≤ x) : (Op.intDiv .rem .u64 x y).run P w = .ok (.int .u64 (x % y)) w := by
  have h0 : ¬ y = 0 := by omega
  simp only [Op.intDiv, if_neg h0]
  rw [Int.tmod_eq_emod_of_nonneg hx]; rfl
end Go.BX
