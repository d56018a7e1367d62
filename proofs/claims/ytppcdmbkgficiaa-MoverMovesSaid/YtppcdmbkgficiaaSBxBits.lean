/-
 THE ENGINE: bits of numbers: a mask, a bit set above.
 No condition.
-/
import Derived.Test.YtppcdmbkgficiaaSBxOps
namespace Go.BX
end Go.BX
