import Derived.Test.YtcodkepdolmmbaaDoorSWA
namespace Go.Proofs.YtcodkepdolmmbaaDoor
open Go.BX
theorem szH_sub {h m : List Wop} (hs : ∀ x ∈ m, x ∈ h) (hz : szH h) : szH m := fun x hx => hz x (hs x hx)
end Go.Proofs.YtcodkepdolmmbaaDoor
