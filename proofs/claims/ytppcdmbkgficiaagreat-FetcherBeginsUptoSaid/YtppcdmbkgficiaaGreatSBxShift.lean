/-
 THE ENGINE: shifts by an amount that is known at run time only.
 No condition.
-/
import Derived.Test.YtppcdmbkgficiaaGreatSBxBv
namespace Go.BX
theorem quo_nat {P : Program} {w : World} {x y : Int} {r : Nat} (hy : 0 < y) (hx : 0 ≤ x ∧ x ≤ 9223372036854775807) (h : x / y = (r : Int)) : (Op.intDiv .quo .i64 x y).run P w = .ok (.int .i64 (r : Int)) w := by
 rw [quo_run_i64 hy hx, h]
end Go.BX
