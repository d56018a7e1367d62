/-
 THE ENGINE: shifts by an amount that is known at run time only.
 No condition.
-/
import Derived.Test.YtppcdmbkgficiaaSBxBv
namespace Go.BX
theorem rem_nat {P : Program} {w : World} {x y : Int} {r : Nat} (hy : 0 < y) (hx : 0 ≤ x) (h : x % y = (r : Int)) : (Op.intDiv .rem .i64 x y).run P w = .ok (.int .i64 (r : Int)) w := by
 rw [rem_run_i64 hy hx, h]
end Go.BX
