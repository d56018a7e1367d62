/-
  THE ENGINE's BRIDGE: numbers of 8 and 32 bits.
  No condition.
-/
import Derived.Test.YtppcdmbkgficiaaBxBridge
import Derived.Test.YtppcdmbkgficiaaBxBv
namespace Go.BX

theorem Reads.bv8 {P : Program} {t : TypeId} (ht : P.underlying t = some (.int .u8)) : Reads P t (Shape.bv .u8 8) := by
  intro H enc w spare held fuel cs x h
  obtain ⟨n, rfl, h0, h1⟩ := Reads.int ht H enc w spare held fuel cs x h
  have h0' : 0 ≤ n := h0
  have h1' : n ≤ 255 := h1
  refine ⟨BitVec.ofInt 8 n, ?_⟩
  show [Value.int .u8 n] = [.int .u8 _]
  rw [BitVec.toNat_ofInt, Int.toNat_of_nonneg (Int.emod_nonneg _ (by decide))]
  congr 2
  simp only [Nat.reducePow]
  omega
theorem Reads.bv32 {P : Program} {t : TypeId} (ht : P.underlying t = some (.int .u32)) : Reads P t (Shape.bv .u32 32) := by
  intro H enc w spare held fuel cs x h
  obtain ⟨n, rfl, h0, h1⟩ := Reads.int ht H enc w spare held fuel cs x h
  have h0' : 0 ≤ n := h0
  have h1' : n ≤ 4294967295 := h1
  refine ⟨BitVec.ofInt 32 n, ?_⟩
  show [Value.int .u32 n] = [.int .u32 _]
  rw [BitVec.toNat_ofInt, Int.toNat_of_nonneg (Int.emod_nonneg _ (by decide))]
  congr 2
  simp only [Nat.reducePow]
  omega
end Go.BX
