import Derived.Test.YtppcdmbkgficiaaSBxA
import Derived.Test.YtppcdmbkgficiaaSM1
namespace Go.Proofs.Ytppcdmbkgficiaa
open Go.BX
end Go.Proofs.Ytppcdmbkgficiaa
