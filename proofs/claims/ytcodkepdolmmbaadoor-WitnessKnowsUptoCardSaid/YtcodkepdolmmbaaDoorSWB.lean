import Derived.Test.YtcodkepdolmmbaaDoorSWA
namespace Go.Proofs.YtcodkepdolmmbaaDoor
open Go.BX
end Go.Proofs.YtcodkepdolmmbaaDoor
