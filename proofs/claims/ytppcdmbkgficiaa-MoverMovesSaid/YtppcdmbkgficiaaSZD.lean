import Derived.Test.YtppcdmbkgficiaaSZC
import Derived.ProofKit
import Derived.OpenShut
import Derived.JoinedCond
import Derived.WalkKit
namespace Go.Proofs.Ytppcdmbkgficiaa
open Go.BX Go.ChangeShapes Go.WideShapes Go.ChangeAt Go.RowKit
theorem moverMoves_holds : Rows.MoverMovesSaid :=
  OpenClaim.holds_of_wide 16 Try.f16 rfl rfl rfl rfl rfl rfl rfl ⟨rfl, rfl, rfl, rfl, rfl⟩ rfl rfl rfl rfl rfl (by kernel_rfl) Try.func16 (by kernel_rfl)
    (of_decide_eq_true (by kernel_rfl)) (by unfold Func.isWrapper; rw [if_neg (by decide +kernel)]; exact ⟨rfl, rfl⟩)
    (fun os started H enc _ => moverMoves_lifted os started H enc)
end Go.Proofs.Ytppcdmbkgficiaa
