import Derived.Test.YtppcdmbkgficiaaSBxA
import Derived.Test.YtppcdmbkgficiaaSG4
namespace Go.Proofs.Ytppcdmbkgficiaa
open Go.BX
end Go.Proofs.Ytppcdmbkgficiaa
