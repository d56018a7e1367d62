/-
  THE ENGINE: unsigned numbers as bit vectors.
  No condition.
-/
import Derived.Test.YtppcdmbkgficiaaBxOps
namespace Go.BX

theorem bvi {n : Nat} (x : BitVec n) : BitVec.ofInt n ((x.toNat : Nat) : Int) = x := by
  rw [BitVec.ofInt_natCast]
  apply BitVec.eq_of_toNat_eq
  rw [BitVec.toNat_ofNat, Nat.mod_eq_of_lt x.isLt]


theorem bv8_bd (x : BitVec 8) : 0 ≤ ((x.toNat : Nat) : Int) ∧ ((x.toNat : Nat) : Int) ≤ 255 := by
  have := x.isLt
  omega
theorem wr_bv8 (x : BitVec 8) : Value.int .u8 (IntKind.u8.wrap ((x.toNat : Nat) : Int)) = .int .u8 ((x.toNat : Nat) : Int) := wr_u8 (bv8_bd x)
theorem wrap_bv8 (t : Int) : Value.int .u8 (IntKind.u8.wrap t) = .int .u8 (((BitVec.ofInt 8 t).toNat : Nat) : Int) := by
  congr 1
  have e : IntKind.u8.wrap t = t % 256 := by simp [IntKind.wrap, IntKind.signed, IntKind.bits]
  rw [e, BitVec.toNat_ofInt, Int.toNat_of_nonneg (Int.emod_nonneg _ (by decide))]
  rfl
theorem bv_xor8 {a b : Int} {x y : BitVec 8} (hx : BitVec.ofInt 8 a = x) (hy : BitVec.ofInt 8 b = y) : Value.int .u8 (IntKind.u8.wrap ((BitVec.ofInt 8 a ^^^ BitVec.ofInt 8 b).toNat : Nat)) = .int .u8 (((x ^^^ y).toNat : Nat) : Int) := by
  rw [hx, hy]; exact wr_bv8 _
theorem bv_and8 {a b : Int} {x y : BitVec 8} (hx : BitVec.ofInt 8 a = x) (hy : BitVec.ofInt 8 b = y) : Value.int .u8 (IntKind.u8.wrap ((BitVec.ofInt 8 a &&& BitVec.ofInt 8 b).toNat : Nat)) = .int .u8 (((x &&& y).toNat : Nat) : Int) := by
  rw [hx, hy]; exact wr_bv8 _
theorem bv_or8 {a b : Int} {x y : BitVec 8} (hx : BitVec.ofInt 8 a = x) (hy : BitVec.ofInt 8 b = y) : Value.int .u8 (IntKind.u8.wrap ((BitVec.ofInt 8 a ||| BitVec.ofInt 8 b).toNat : Nat)) = .int .u8 (((x ||| y).toNat : Nat) : Int) := by
  rw [hx, hy]; exact wr_bv8 _
theorem bv_add8 {a b : Int} {x y : BitVec 8} (hx : BitVec.ofInt 8 a = x) (hy : BitVec.ofInt 8 b = y) : Value.int .u8 (IntKind.u8.wrap (a + b)) = .int .u8 (((x + y).toNat : Nat) : Int) := by
  rw [wrap_bv8, BitVec.ofInt_add, hx, hy]
theorem bv_mul8 {a b : Int} {x y : BitVec 8} (hx : BitVec.ofInt 8 a = x) (hy : BitVec.ofInt 8 b = y) : Value.int .u8 (IntKind.u8.wrap (a * b)) = .int .u8 (((x * y).toNat : Nat) : Int) := by
  rw [wrap_bv8, BitVec.ofInt_mul, hx, hy]
theorem bv_sub8 {a b : Int} {x y : BitVec 8} (hx : BitVec.ofInt 8 a = x) (hy : BitVec.ofInt 8 b = y) : Value.int .u8 (IntKind.u8.wrap (a - b)) = .int .u8 (((x - y).toNat : Nat) : Int) := by
  rw [wrap_bv8, Int.sub_eq_add_neg, BitVec.ofInt_add, BitVec.ofInt_neg, hx, hy, BitVec.sub_eq_add_neg]
theorem bv_neg8 {a : Int} {x : BitVec 8} (hx : BitVec.ofInt 8 a = x) : Value.int .u8 (IntKind.u8.wrap (0 - a)) = .int .u8 (((-x).toNat : Nat) : Int) := by
  rw [wrap_bv8, Int.zero_sub, BitVec.ofInt_neg, hx]
theorem bv_not8 {a : Int} {x : BitVec 8} (hx : BitVec.ofInt 8 a = x) : Value.int .u8 (IntKind.u8.wrap ((BitVec.ofInt 8 255 ^^^ BitVec.ofInt 8 a).toNat : Nat)) = .int .u8 (((~~~x).toNat : Nat) : Int) := by
  rw [hx]
  have e : BitVec.ofInt 8 255 ^^^ x = ~~~x := by
    rw [show BitVec.ofInt 8 255 = BitVec.allOnes 8 by decide, BitVec.allOnes_xor]
  rw [e]; exact wr_bv8 _
theorem bv_shl8 {a : Int} {x : BitVec 8} (j : Nat) (hx : BitVec.ofInt 8 a = x) : Value.int .u8 (IntKind.u8.wrap (a * 2 ^ j)) = .int .u8 (((x <<< j).toNat : Nat) : Int) := by
  rw [wrap_bv8, BitVec.ofInt_mul, hx]
  congr 3
  apply BitVec.eq_of_toNat_eq
  have e : ((2 : Int) ^ j) = ((2 ^ j : Nat) : Int) := by simp
  rw [e, BitVec.ofInt_natCast, BitVec.toNat_mul, BitVec.toNat_ofNat, BitVec.toNat_shiftLeft, Nat.shiftLeft_eq, Nat.mul_mod, Nat.mod_mod, ← Nat.mul_mod]
theorem bv_shr8 (x : BitVec 8) (j : Nat) : Value.int .u8 (((x.toNat : Nat) : Int).fdiv (2 ^ j)) = .int .u8 (((x >>> j).toNat : Nat) : Int) := by
  congr 1
  have e : ((2 : Int) ^ j) = ((2 ^ j : Nat) : Int) := by simp
  rw [e, BitVec.toNat_ushiftRight, Nat.shiftRight_eq_div_pow, Int.fdiv_eq_ediv_of_nonneg _ (Int.natCast_nonneg _), Int.natCast_ediv]
theorem bv_i648 (x : BitVec 8) (h : ((x.toNat : Nat) : Int) ≤ 9223372036854775807) : Value.int .i64 (IntKind.i64.wrap ((x.toNat : Nat) : Int)) = .int .i64 ((x.toNat : Nat) : Int) := wr_i64 (by omega)


theorem bv32_bd (x : BitVec 32) : 0 ≤ ((x.toNat : Nat) : Int) ∧ ((x.toNat : Nat) : Int) ≤ 4294967295 := by
  have := x.isLt
  omega
theorem wr_bv32 (x : BitVec 32) : Value.int .u32 (IntKind.u32.wrap ((x.toNat : Nat) : Int)) = .int .u32 ((x.toNat : Nat) : Int) := wr_u32 (bv32_bd x)
theorem wrap_bv32 (t : Int) : Value.int .u32 (IntKind.u32.wrap t) = .int .u32 (((BitVec.ofInt 32 t).toNat : Nat) : Int) := by
  congr 1
  have e : IntKind.u32.wrap t = t % 4294967296 := by simp [IntKind.wrap, IntKind.signed, IntKind.bits]
  rw [e, BitVec.toNat_ofInt, Int.toNat_of_nonneg (Int.emod_nonneg _ (by decide))]
  rfl
theorem bv_xor32 {a b : Int} {x y : BitVec 32} (hx : BitVec.ofInt 32 a = x) (hy : BitVec.ofInt 32 b = y) : Value.int .u32 (IntKind.u32.wrap ((BitVec.ofInt 32 a ^^^ BitVec.ofInt 32 b).toNat : Nat)) = .int .u32 (((x ^^^ y).toNat : Nat) : Int) := by
  rw [hx, hy]; exact wr_bv32 _
theorem bv_and32 {a b : Int} {x y : BitVec 32} (hx : BitVec.ofInt 32 a = x) (hy : BitVec.ofInt 32 b = y) : Value.int .u32 (IntKind.u32.wrap ((BitVec.ofInt 32 a &&& BitVec.ofInt 32 b).toNat : Nat)) = .int .u32 (((x &&& y).toNat : Nat) : Int) := by
  rw [hx, hy]; exact wr_bv32 _
theorem bv_or32 {a b : Int} {x y : BitVec 32} (hx : BitVec.ofInt 32 a = x) (hy : BitVec.ofInt 32 b = y) : Value.int .u32 (IntKind.u32.wrap ((BitVec.ofInt 32 a ||| BitVec.ofInt 32 b).toNat : Nat)) = .int .u32 (((x ||| y).toNat : Nat) : Int) := by
  rw [hx, hy]; exact wr_bv32 _
theorem bv_add32 {a b : Int} {x y : BitVec 32} (hx : BitVec.ofInt 32 a = x) (hy : BitVec.ofInt 32 b = y) : Value.int .u32 (IntKind.u32.wrap (a + b)) = .int .u32 (((x + y).toNat : Nat) : Int) := by
  rw [wrap_bv32, BitVec.ofInt_add, hx, hy]
theorem bv_mul32 {a b : Int} {x y : BitVec 32} (hx : BitVec.ofInt 32 a = x) (hy : BitVec.ofInt 32 b = y) : Value.int .u32 (IntKind.u32.wrap (a * b)) = .int .u32 (((x * y).toNat : Nat) : Int) := by
  rw [wrap_bv32, BitVec.ofInt_mul, hx, hy]
theorem bv_sub32 {a b : Int} {x y : BitVec 32} (hx : BitVec.ofInt 32 a = x) (hy : BitVec.ofInt 32 b = y) : Value.int .u32 (IntKind.u32.wrap (a - b)) = .int .u32 (((x - y).toNat : Nat) : Int) := by
  rw [wrap_bv32, Int.sub_eq_add_neg, BitVec.ofInt_add, BitVec.ofInt_neg, hx, hy, BitVec.sub_eq_add_neg]
theorem bv_neg32 {a : Int} {x : BitVec 32} (hx : BitVec.ofInt 32 a = x) : Value.int .u32 (IntKind.u32.wrap (0 - a)) = .int .u32 (((-x).toNat : Nat) : Int) := by
  rw [wrap_bv32, Int.zero_sub, BitVec.ofInt_neg, hx]
theorem bv_not32 {a : Int} {x : BitVec 32} (hx : BitVec.ofInt 32 a = x) : Value.int .u32 (IntKind.u32.wrap ((BitVec.ofInt 32 4294967295 ^^^ BitVec.ofInt 32 a).toNat : Nat)) = .int .u32 (((~~~x).toNat : Nat) : Int) := by
  rw [hx]
  have e : BitVec.ofInt 32 4294967295 ^^^ x = ~~~x := by
    rw [show BitVec.ofInt 32 4294967295 = BitVec.allOnes 32 by decide, BitVec.allOnes_xor]
  rw [e]; exact wr_bv32 _
theorem bv_shl32 {a : Int} {x : BitVec 32} (j : Nat) (hx : BitVec.ofInt 32 a = x) : Value.int .u32 (IntKind.u32.wrap (a * 2 ^ j)) = .int .u32 (((x <<< j).toNat : Nat) : Int) := by
  rw [wrap_bv32, BitVec.ofInt_mul, hx]
  congr 3
  apply BitVec.eq_of_toNat_eq
  have e : ((2 : Int) ^ j) = ((2 ^ j : Nat) : Int) := by simp
  rw [e, BitVec.ofInt_natCast, BitVec.toNat_mul, BitVec.toNat_ofNat, BitVec.toNat_shiftLeft, Nat.shiftLeft_eq, Nat.mul_mod, Nat.mod_mod, ← Nat.mul_mod]
theorem bv_shr32 (x : BitVec 32) (j : Nat) : Value.int .u32 (((x.toNat : Nat) : Int).fdiv (2 ^ j)) = .int .u32 (((x >>> j).toNat : Nat) : Int) := by
  congr 1
  have e : ((2 : Int) ^ j) = ((2 ^ j : Nat) : Int) := by simp
  rw [e, BitVec.toNat_ushiftRight, Nat.shiftRight_eq_div_pow, Int.fdiv_eq_ediv_of_nonneg _ (Int.natCast_nonneg _), Int.natCast_ediv]
theorem bv_i6432 (x : BitVec 32) (h : ((x.toNat : Nat) : Int) ≤ 9223372036854775807) : Value.int .i64 (IntKind.i64.wrap ((x.toNat : Nat) : Int)) = .int .i64 ((x.toNat : Nat) : Int) := wr_i64 (by omega)


theorem bv64_bd (x : BitVec 64) : 0 ≤ ((x.toNat : Nat) : Int) ∧ ((x.toNat : Nat) : Int) ≤ 18446744073709551615 := by
  have := x.isLt
  omega
theorem wr_bv64 (x : BitVec 64) : Value.int .u64 (IntKind.u64.wrap ((x.toNat : Nat) : Int)) = .int .u64 ((x.toNat : Nat) : Int) := wr_u64 (bv64_bd x)
theorem wrap_bv64 (t : Int) : Value.int .u64 (IntKind.u64.wrap t) = .int .u64 (((BitVec.ofInt 64 t).toNat : Nat) : Int) := by
  congr 1
  have e : IntKind.u64.wrap t = t % 18446744073709551616 := by simp [IntKind.wrap, IntKind.signed, IntKind.bits]
  rw [e, BitVec.toNat_ofInt, Int.toNat_of_nonneg (Int.emod_nonneg _ (by decide))]
  rfl
theorem bv_xor64 {a b : Int} {x y : BitVec 64} (hx : BitVec.ofInt 64 a = x) (hy : BitVec.ofInt 64 b = y) : Value.int .u64 (IntKind.u64.wrap ((BitVec.ofInt 64 a ^^^ BitVec.ofInt 64 b).toNat : Nat)) = .int .u64 (((x ^^^ y).toNat : Nat) : Int) := by
  rw [hx, hy]; exact wr_bv64 _
theorem bv_and64 {a b : Int} {x y : BitVec 64} (hx : BitVec.ofInt 64 a = x) (hy : BitVec.ofInt 64 b = y) : Value.int .u64 (IntKind.u64.wrap ((BitVec.ofInt 64 a &&& BitVec.ofInt 64 b).toNat : Nat)) = .int .u64 (((x &&& y).toNat : Nat) : Int) := by
  rw [hx, hy]; exact wr_bv64 _
theorem bv_or64 {a b : Int} {x y : BitVec 64} (hx : BitVec.ofInt 64 a = x) (hy : BitVec.ofInt 64 b = y) : Value.int .u64 (IntKind.u64.wrap ((BitVec.ofInt 64 a ||| BitVec.ofInt 64 b).toNat : Nat)) = .int .u64 (((x ||| y).toNat : Nat) : Int) := by
  rw [hx, hy]; exact wr_bv64 _
theorem bv_add64 {a b : Int} {x y : BitVec 64} (hx : BitVec.ofInt 64 a = x) (hy : BitVec.ofInt 64 b = y) : Value.int .u64 (IntKind.u64.wrap (a + b)) = .int .u64 (((x + y).toNat : Nat) : Int) := by
  rw [wrap_bv64, BitVec.ofInt_add, hx, hy]
theorem bv_mul64 {a b : Int} {x y : BitVec 64} (hx : BitVec.ofInt 64 a = x) (hy : BitVec.ofInt 64 b = y) : Value.int .u64 (IntKind.u64.wrap (a * b)) = .int .u64 (((x * y).toNat : Nat) : Int) := by
  rw [wrap_bv64, BitVec.ofInt_mul, hx, hy]
theorem bv_sub64 {a b : Int} {x y : BitVec 64} (hx : BitVec.ofInt 64 a = x) (hy : BitVec.ofInt 64 b = y) : Value.int .u64 (IntKind.u64.wrap (a - b)) = .int .u64 (((x - y).toNat : Nat) : Int) := by
  rw [wrap_bv64, Int.sub_eq_add_neg, BitVec.ofInt_add, BitVec.ofInt_neg, hx, hy, BitVec.sub_eq_add_neg]
theorem bv_neg64 {a : Int} {x : BitVec 64} (hx : BitVec.ofInt 64 a = x) : Value.int .u64 (IntKind.u64.wrap (0 - a)) = .int .u64 (((-x).toNat : Nat) : Int) := by
  rw [wrap_bv64, Int.zero_sub, BitVec.ofInt_neg, hx]
theorem bv_not64 {a : Int} {x : BitVec 64} (hx : BitVec.ofInt 64 a = x) : Value.int .u64 (IntKind.u64.wrap ((BitVec.ofInt 64 18446744073709551615 ^^^ BitVec.ofInt 64 a).toNat : Nat)) = .int .u64 (((~~~x).toNat : Nat) : Int) := by
  rw [hx]
  have e : BitVec.ofInt 64 18446744073709551615 ^^^ x = ~~~x := by
    rw [show BitVec.ofInt 64 18446744073709551615 = BitVec.allOnes 64 by decide, BitVec.allOnes_xor]
  rw [e]; exact wr_bv64 _
theorem bv_shl64 {a : Int} {x : BitVec 64} (j : Nat) (hx : BitVec.ofInt 64 a = x) : Value.int .u64 (IntKind.u64.wrap (a * 2 ^ j)) = .int .u64 (((x <<< j).toNat : Nat) : Int) := by
  rw [wrap_bv64, BitVec.ofInt_mul, hx]
  congr 3
  apply BitVec.eq_of_toNat_eq
  have e : ((2 : Int) ^ j) = ((2 ^ j : Nat) : Int) := by simp
  rw [e, BitVec.ofInt_natCast, BitVec.toNat_mul, BitVec.toNat_ofNat, BitVec.toNat_shiftLeft, Nat.shiftLeft_eq, Nat.mul_mod, Nat.mod_mod, ← Nat.mul_mod]
theorem bv_shr64 (x : BitVec 64) (j : Nat) : Value.int .u64 (((x.toNat : Nat) : Int).fdiv (2 ^ j)) = .int .u64 (((x >>> j).toNat : Nat) : Int) := by
  congr 1
  have e : ((2 : Int) ^ j) = ((2 ^ j : Nat) : Int) := by simp
  rw [e, BitVec.toNat_ushiftRight, Nat.shiftRight_eq_div_pow, Int.fdiv_eq_ediv_of_nonneg _ (Int.natCast_nonneg _), Int.natCast_ediv]
theorem bv_i6464 (x : BitVec 64) (h : ((x.toNat : Nat) : Int) ≤ 9223372036854775807) : Value.int .i64 (IntKind.i64.wrap ((x.toNat : Nat) : Int)) = .int .i64 ((x.toNat : Nat) : Int) := wr_i64 (by omega)

theorem bv_cv8_32 (x : BitVec 8) : Value.int .u32 (IntKind.u32.wrap ((x.toNat : Nat) : Int)) = .int .u32 ((((x.setWidth 32)).toNat : Nat) : Int) := by
  have e : BitVec.ofInt 32 ((x.toNat : Nat) : Int) = x.setWidth 32 := by
    rw [BitVec.ofInt_natCast]
    apply BitVec.eq_of_toNat_eq
    rw [BitVec.toNat_ofNat, BitVec.toNat_setWidth]
  rw [wrap_bv32, e]

theorem bv_cv8_64 (x : BitVec 8) : Value.int .u64 (IntKind.u64.wrap ((x.toNat : Nat) : Int)) = .int .u64 ((((x.setWidth 64)).toNat : Nat) : Int) := by
  have e : BitVec.ofInt 64 ((x.toNat : Nat) : Int) = x.setWidth 64 := by
    rw [BitVec.ofInt_natCast]
    apply BitVec.eq_of_toNat_eq
    rw [BitVec.toNat_ofNat, BitVec.toNat_setWidth]
  rw [wrap_bv64, e]

theorem bv_cv32_8 (x : BitVec 32) : Value.int .u8 (IntKind.u8.wrap ((x.toNat : Nat) : Int)) = .int .u8 ((((x.setWidth 8)).toNat : Nat) : Int) := by
  have e : BitVec.ofInt 8 ((x.toNat : Nat) : Int) = x.setWidth 8 := by
    rw [BitVec.ofInt_natCast]
    apply BitVec.eq_of_toNat_eq
    rw [BitVec.toNat_ofNat, BitVec.toNat_setWidth]
  rw [wrap_bv8, e]

theorem bv_cv32_64 (x : BitVec 32) : Value.int .u64 (IntKind.u64.wrap ((x.toNat : Nat) : Int)) = .int .u64 ((((x.setWidth 64)).toNat : Nat) : Int) := by
  have e : BitVec.ofInt 64 ((x.toNat : Nat) : Int) = x.setWidth 64 := by
    rw [BitVec.ofInt_natCast]
    apply BitVec.eq_of_toNat_eq
    rw [BitVec.toNat_ofNat, BitVec.toNat_setWidth]
  rw [wrap_bv64, e]

theorem bv_cv64_8 (x : BitVec 64) : Value.int .u8 (IntKind.u8.wrap ((x.toNat : Nat) : Int)) = .int .u8 ((((x.setWidth 8)).toNat : Nat) : Int) := by
  have e : BitVec.ofInt 8 ((x.toNat : Nat) : Int) = x.setWidth 8 := by
    rw [BitVec.ofInt_natCast]
    apply BitVec.eq_of_toNat_eq
    rw [BitVec.toNat_ofNat, BitVec.toNat_setWidth]
  rw [wrap_bv8, e]

theorem bv_cv64_32 (x : BitVec 64) : Value.int .u32 (IntKind.u32.wrap ((x.toNat : Nat) : Int)) = .int .u32 ((((x.setWidth 32)).toNat : Nat) : Int) := by
  have e : BitVec.ofInt 32 ((x.toNat : Nat) : Int) = x.setWidth 32 := by
    rw [BitVec.ofInt_natCast]
    apply BitVec.eq_of_toNat_eq
    rw [BitVec.toNat_ofNat, BitVec.toNat_setWidth]
  rw [wrap_bv32, e]


theorem quo_run_i64 {P : Program} {w : World} {x y : Int} (hy : 0 < y) (hx : 0 ≤ x ∧ x ≤ 9223372036854775807) : (Op.intDiv .quo .i64 x y).run P w = .ok (.int .i64 (x / y)) w := by
  have h0 : ¬ y = 0 := by omega
  simp only [Op.intDiv, if_neg h0]
  have h1 : 0 ≤ x / y := Int.ediv_nonneg hx.1 (by omega)
  have h2 : x / y ≤ x := Int.ediv_le_self _ hx.1
  rw [Int.tdiv_eq_ediv_of_nonneg hx.1]
  have := wr_i64 (x := x / y) (by omega)
  simp only [Value.int.injEq, true_and] at this
  rw [this]; rfl
theorem rem_run_i64 {P : Program} {w : World} {x y : Int} (hy : 0 < y) (hx : 0 ≤ x) : (Op.intDiv .rem .i64 x y).run P w = .ok (.int .i64 (x % y)) w := by
  have h0 : ¬ y = 0 := by omega
  simp only [Op.intDiv, if_neg h0]
  rw [Int.tmod_eq_emod_of_nonneg hx]; rfl
theorem rem_id {k : IntKind} {x n : Int} (h : 0 ≤ x) : Value.int k (x.tmod n) = .int k (x % n) := by
  rw [Int.tmod_eq_emod_of_nonneg h]
theorem shl_i64 {x m : Int} {n : Nat} (hm : (2 : Int) ^ n = m) (h : -9223372036854775808 ≤ x * m ∧ x * m ≤ 9223372036854775807) : Value.int .i64 (IntKind.i64.wrap (x * 2 ^ n)) = .int .i64 (x * m) := by
  rw [hm]; exact wr_i64 h
theorem shl_u64 {x m : Int} {n : Nat} (hm : (2 : Int) ^ n = m) (h : 0 ≤ x * m ∧ x * m ≤ 18446744073709551615) : Value.int .u64 (IntKind.u64.wrap (x * 2 ^ n)) = .int .u64 (x * m) := by
  rw [hm]; exact wr_u64 h
theorem bv_nat (n p : Nat) : BitVec.ofInt p ((n : Nat) : Int) = BitVec.ofNat p n := BitVec.ofInt_natCast ..

/-- a number of so many bits -/
def Shape.bv (k : IntKind) (n : Nat) : Shape (BitVec n) where
  size := 1
  rep _ _ cs x := cs = [.int k ((x.toNat : Nat) : Int)]
  pos := by decide
  len h := by rw [h]; rfl
  ones h v hv := by rw [h] at hv; simp at hv; subst hv; rfl
  step h _ := h
theorem Shape.bv_mk {k : IntKind} {n : Nat} {S : Nat → Prop} {w : World} {x : BitVec n} : (Shape.bv k n).rep S w [.int k ((x.toNat : Nat) : Int)] x := rfl
theorem Shape.bv_lit {k : IntKind} {n : Nat} {S : Nat → Prop} {w : World} {x : BitVec n} {a : Int} (h : a = ((x.toNat : Nat) : Int)) : (Shape.bv k n).rep S w [.int k a] x := by rw [h]; rfl
end Go.BX
