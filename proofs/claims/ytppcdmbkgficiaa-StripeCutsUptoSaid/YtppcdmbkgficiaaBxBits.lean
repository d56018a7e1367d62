/-
  THE ENGINE: bits of numbers: a mask, a bit set above.
  No condition.
-/
import Derived.Test.YtppcdmbkgficiaaBxOps
namespace Go.BX

theorem and_u64 {x m : Int} {j : Nat} (hj : (2 : Int) ^ j = m + 1) (hj2 : j ≤ 63) (hx : 0 ≤ x ∧ x ≤ 18446744073709551615) :
    Value.int .u64 (IntKind.u64.wrap ((BitVec.ofInt 64 x &&& BitVec.ofInt 64 m).toNat : Nat)) = .int .u64 (x % (m + 1)) := by
  obtain ⟨n, rfl⟩ := Int.eq_ofNat_of_zero_le hx.1
  have hm : m = ((2 ^ j - 1 : Nat) : Int) := by
    have h1 : ((2 ^ j : Nat) : Int) = m + 1 := by rw [← hj]; simp
    have h2 : 0 < 2 ^ j := Nat.pow_pos (by decide)
    omega
  have hlt : 2 ^ j ≤ 2 ^ 63 := Nat.pow_le_pow_right (by decide) hj2
  have hpos : 0 < 2 ^ j := Nat.pow_pos (by decide)
  subst hm
  have e : (BitVec.ofInt 64 ((n : Nat) : Int) &&& BitVec.ofInt 64 ((2 ^ j - 1 : Nat) : Int)).toNat = n % 2 ^ j := by
    rw [BitVec.ofInt_natCast, BitVec.ofInt_natCast, BitVec.toNat_and, BitVec.toNat_ofNat, BitVec.toNat_ofNat, Nat.mod_eq_of_lt (a := n) (by omega), Nat.mod_eq_of_lt (a := 2 ^ j - 1) (by omega), Nat.and_two_pow_sub_one_eq_mod]
  have h3 : ((2 ^ j - 1 : Nat) : Int) + 1 = ((2 ^ j : Nat) : Int) := by omega
  rw [e, h3]
  have h4 : ((n % 2 ^ j : Nat) : Int) = (n : Int) % ((2 ^ j : Nat) : Int) := by simp
  have h5 : n % 2 ^ j < 2 ^ j := Nat.mod_lt _ hpos
  rw [wr_u64 (by omega), h4]
theorem and_i64 {x m : Int} {j : Nat} (hj : (2 : Int) ^ j = m + 1) (hj2 : j ≤ 62) :
    Value.int .i64 (IntKind.i64.wrap ((BitVec.ofInt 64 x &&& BitVec.ofInt 64 m).toNat : Nat)) = .int .i64 (x % (m + 1)) := by
  have hm : m = ((2 ^ j - 1 : Nat) : Int) := by
    have h1 : ((2 ^ j : Nat) : Int) = m + 1 := by rw [← hj]; simp
    have h2 : 0 < 2 ^ j := Nat.pow_pos (by decide)
    omega
  have hlt : 2 ^ j ≤ 2 ^ 62 := Nat.pow_le_pow_right (by decide) hj2
  have hpos : 0 < 2 ^ j := Nat.pow_pos (by decide)
  subst hm
  have e0 : (BitVec.ofInt 64 x).toNat = (x % (2 ^ 64 : Int)).toNat := by
    rw [BitVec.toNat_ofInt]; rfl
  have e : (BitVec.ofInt 64 x &&& BitVec.ofInt 64 ((2 ^ j - 1 : Nat) : Int)).toNat = (x % (2 ^ 64 : Int)).toNat % 2 ^ j := by
    rw [BitVec.toNat_and, e0, BitVec.ofInt_natCast, BitVec.toNat_ofNat, Nat.mod_eq_of_lt (a := 2 ^ j - 1) (by omega), Nat.and_two_pow_sub_one_eq_mod]
  have h3 : ((2 ^ j - 1 : Nat) : Int) + 1 = ((2 ^ j : Nat) : Int) := by omega
  rw [e, h3]
  have h5 : (x % (2 ^ 64 : Int)).toNat % 2 ^ j < 2 ^ j := Nat.mod_lt _ hpos
  have h6 : (((x % (2 ^ 64 : Int)).toNat % 2 ^ j : Nat) : Int) = x % ((2 ^ j : Nat) : Int) := by
    rw [Int.natCast_emod, Int.toNat_of_nonneg (Int.emod_nonneg _ (by decide))]
    exact Int.emod_emod_of_dvd _ (by
      have : (2 : Int) ^ 64 = ((2 ^ j : Nat) : Int) * (2 ^ (64 - j) : Int) := by
        have h7 : (2 : Nat) ^ 64 = 2 ^ j * 2 ^ (64 - j) := by rw [← Nat.pow_add]; congr 1; omega
        exact_mod_cast h7
      rw [this]
      exact Int.dvd_mul_right _ _)
  rw [wr_i64 (by omega), h6]
theorem or_u8 {x m : Int} {j : Nat} (hj : (2 : Int) ^ j = m) (hj2 : j ≤ 7) (hx : 0 ≤ x ∧ x < m) :
    Value.int .u8 (IntKind.u8.wrap ((BitVec.ofInt 8 x ||| BitVec.ofInt 8 m).toNat : Nat)) = .int .u8 (x + m) := by
  obtain ⟨n, rfl⟩ := Int.eq_ofNat_of_zero_le hx.1
  have hm : m = ((2 ^ j : Nat) : Int) := by rw [← hj]; simp
  have hlt : 2 ^ j ≤ 2 ^ 7 := Nat.pow_le_pow_right (by decide) hj2
  subst hm
  have hn : n < 2 ^ j := by omega
  have e : (BitVec.ofInt 8 ((n : Nat) : Int) ||| BitVec.ofInt 8 ((2 ^ j : Nat) : Int)).toNat = n + 2 ^ j := by
    rw [BitVec.ofInt_natCast, BitVec.ofInt_natCast, BitVec.toNat_or, BitVec.toNat_ofNat, BitVec.toNat_ofNat, Nat.mod_eq_of_lt (a := n) (by omega), Nat.mod_eq_of_lt (a := 2 ^ j) (by omega), Nat.or_comm]
    have := Nat.two_pow_add_eq_or_of_lt (i := j) hn 1
    rw [Nat.mul_one] at this
    rw [← this, Nat.add_comm]
  rw [e, wr_u8 (by omega)]
  congr 1
end Go.BX
