import Derived.Test.YtppcdmbkgficiaaSZK
import Derived.ProofKit
import Derived.OpenShut
import Derived.JoinedCond
import Derived.WalkKit
namespace Go.Proofs.Ytppcdmbkgficiaa
open Go.BX Go.ChangeShapes Go.WideShapes Go.ChangeAt Go.RowKit
theorem stripeTakes_j1 : laidOutB Try.pinned.checked.prog = true := by kernel_rfl
theorem stripeTakes_j2 : mapsRowed Try.pinned.checked.prog = true := by kernel_rfl
theorem stripeTakes_j3 : (Rows.stripeTakesRow.inPlace == Try.pinned.checked.prog.inPlace 10) = true := by kernel_rfl
theorem stripeTakes_j4 : (Rows.stripeTakesRow.unfollowed == Try.pinned.checked.prog.unfollowed 10) = true := by kernel_rfl
theorem stripeTakes_j5 : (Rows.stripeTakesRow.recurses == Try.pinned.checked.prog.recurses 10) = true := by kernel_rfl
theorem stripeTakes_j6 : (Rows.stripeTakesRow.named == Try.pinned.checked.prog.varsNamed 10) = true := by kernel_rfl
theorem stripeTakes_closed : joinedFacts Try.pinned.checked.prog 10 Try.f10 Rows.stripeTakesSpec Rows.stripeTakesRow = true := by
 unfold joinedFacts
 rw [stripeTakes_j1, stripeTakes_j2, stripeTakes_j3, stripeTakes_j4, stripeTakes_j5, stripeTakes_j6]
 kernel_rfl
theorem stripeTakes_holds : Rows.StripeTakesSaid :=
 OpenClaim.holds_of_wide 10 Try.f10 rfl rfl rfl rfl rfl rfl rfl ⟨rfl, rfl, rfl, rfl, rfl⟩ rfl rfl rfl rfl rfl (by kernel_rfl) Try.func10 stripeTakes_closed
  (of_decide_eq_true (by kernel_rfl)) (by unfold Func.isWrapper; rw [if_neg (by decide +kernel)]; exact ⟨rfl, rfl⟩)
  (fun os started H enc _ => stripeTakes_lifted os started H enc)
end Go.Proofs.Ytppcdmbkgficiaa
