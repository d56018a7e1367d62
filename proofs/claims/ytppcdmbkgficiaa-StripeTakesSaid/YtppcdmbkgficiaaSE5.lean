import Derived.Test.YtppcdmbkgficiaaSBxA
import Derived.Test.YtppcdmbkgficiaaSE4
namespace Go.Proofs.Ytppcdmbkgficiaa
open Go.BX
end Go.Proofs.Ytppcdmbkgficiaa
