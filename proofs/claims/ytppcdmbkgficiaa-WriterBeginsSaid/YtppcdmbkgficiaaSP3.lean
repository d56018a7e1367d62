import Derived.Test.YtppcdmbkgficiaaSBxA
import Derived.Test.YtppcdmbkgficiaaSM4
import Derived.Test.YtppcdmbkgficiaaSBxB
import Derived.Shelf.SlSortCmp.WholeK
import Derived.Shelf.SlGeneric
namespace Go.Proofs.Ytppcdmbkgficiaa
open Go.BX Go.Shelf
abbrev OneV : Type := {v : Value // v.oneCell' = true}
instance : Inhabited (Pc × OneV) := ⟨⟨⟨0, []⟩, ⟨.bool false, rfl⟩⟩⟩
end Go.Proofs.Ytppcdmbkgficiaa
