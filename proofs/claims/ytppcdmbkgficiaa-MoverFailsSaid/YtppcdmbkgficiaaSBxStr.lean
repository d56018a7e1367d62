/-
  THE ENGINE's STRINGS: bytes made a string.
  No condition.
-/
import Derived.Test.YtppcdmbkgficiaaSBxArr
import Derived.Laws.BytesString
import Derived.Laws.IdiomStrings
namespace Go.BX

section
variable {P : Program} {n : Nat} {ds : List Deferred} {ops : Array Oper} {K : Env → World → Prop} {l r : List (Nat × Kd)} {σ : Env} {w : World} {κ : Kd} {d : Option Tmp}

theorem Shape.i64_in {S : Nat → Prop} {w : World} {x : Int} (h1 : -9223372036854775808 ≤ x) (h2 : x ≤ 9223372036854775807) : (Shape.int .i64).rep S w [.int .i64 x] x := ⟨rfl, h1, h2⟩
theorem Shape.u64_in {S : Nat → Prop} {w : World} {x : Int} (h1 : 0 ≤ x) (h2 : x ≤ 18446744073709551615) : (Shape.int .u64).rep S w [.int .u64 x] x := ⟨rfl, h1, h2⟩
end
end Go.BX
