import Derived.Test.YtppcdmbkgficiaaSBxA
import Derived.Test.YtppcdmbkgficiaaSG5
import Derived.Test.YtppcdmbkgficiaaSBxB
namespace Go.Proofs.Ytppcdmbkgficiaa
open Go.BX
def rowAt (L : List (List (BitVec 8))) (i : Nat) : List (BitVec 8) := (L[i]?).getD []
def entAt (L : List (List (BitVec 8))) (i j : Nat) : BitVec 8 := ((rowAt L i)[j]?).getD 0#8
theorem rowAt_eq {L : List (List (BitVec 8))} {i : Nat} (h : i < L.length) : rowAt L i = L[i] := by
 unfold rowAt
 rw [List.getElem?_eq_getElem h]
 rfl
end Go.Proofs.Ytppcdmbkgficiaa
