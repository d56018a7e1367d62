/-
 THE ENGINE: bits of numbers: a mask, a bit set above.
 No condition.
-/
import Derived.Test.YtppcdmbkgficiaaGreatSBxOps
namespace Go.BX
theorem and_u64 {x m : Int} {j : Nat} (hj : (2 : Int) ^ j = m + 1) (hj2 : j ≤ 63) (hx : 0 ≤ x ∧ x ≤ 18446744073709551615) :
 Value.int .u64 (IntKind.u64.wrap ((BitVec.ofInt 64 x &&& BitVec.ofInt 64 m).toNat : Nat)) = .int .u64 (x % (m + 1)) := by
 obtain ⟨n, rfl⟩ := Int.eq_ofNat_of_zero_le hx.1
 have hm : m = ((2 ^ j - 1 : Nat) : Int) := by
  have h1 : ((2 ^ j : Nat) : Int) = m + 1 := by rw [← hj]; simp
  have h2 : 0 < 2 ^ j := Nat.pow_pos (by decide)
  omega
 have hlt : 2 ^ j ≤ 2 ^ 63 := Nat.pow_le_pow_right (by decide) hj2
 have hpos : 0 < 2 ^ j := Nat.pow_pos (by decide)
 subst hm
 have e : (BitVec.ofInt 64 ((n : Nat) : Int) &&& BitVec.ofInt 64 ((2 ^ j - 1 : Nat) : Int)).toNat = n % 2 ^ j := by
  rw [BitVec.ofInt_natCast, BitVec.ofInt_natCast, BitVec.toNat_and, BitVec.toNat_ofNat, BitVec.toNat_ofNat, Nat.mod_eq_of_lt (a := n) (by omega), Nat.mod_eq_of_lt (a := 2 ^ j - 1) (by omega), Nat.and_two_pow_sub_one_eq_mod]
 have h3 : ((2 ^ j - 1 : Nat) : Int) + 1 = ((2 ^ j : Nat) : Int) := by omega
 rw [e, h3]
 have h4 : ((n % 2 ^ j : Nat) : Int) = (n : Int) % ((2 ^ j : Nat) : Int) := by simp
 have h5 : n % 2 ^ j < 2 ^ j := Nat.mod_lt _ hpos
 rw [wr_u64 (by omega), h4]
end Go.BX
