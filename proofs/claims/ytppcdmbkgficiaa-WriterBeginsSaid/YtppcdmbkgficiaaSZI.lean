import Derived.Test.YtppcdmbkgficiaaSZH
import Derived.ProofKit
import Derived.OpenShut
import Derived.JoinedCond
import Derived.WalkKit
namespace Go.Proofs.Ytppcdmbkgficiaa
open Go.BX Go.ChangeShapes Go.WideShapes Go.ChangeAt Go.RowKit
theorem writerBegins_j1 : laidOutB Try.pinned.checked.prog = true := by kernel_rfl
theorem writerBegins_j2 : mapsRowed Try.pinned.checked.prog = true := by kernel_rfl
theorem writerBegins_j3 : (Rows.writerBeginsRow.inPlace == Try.pinned.checked.prog.inPlace 3) = true := by kernel_rfl
theorem writerBegins_j4 : (Rows.writerBeginsRow.unfollowed == Try.pinned.checked.prog.unfollowed 3) = true := by kernel_rfl
theorem writerBegins_j5 : (Rows.writerBeginsRow.recurses == Try.pinned.checked.prog.recurses 3) = true := by kernel_rfl
theorem writerBegins_j6 : (Rows.writerBeginsRow.named == Try.pinned.checked.prog.varsNamed 3) = true := by kernel_rfl
theorem writerBegins_closed : joinedFacts Try.pinned.checked.prog 3 Try.f3 Rows.writerBeginsSpec Rows.writerBeginsRow = true := by
 unfold joinedFacts
 rw [writerBegins_j1, writerBegins_j2, writerBegins_j3, writerBegins_j4, writerBegins_j5, writerBegins_j6]
 kernel_rfl
theorem writerBegins_holds : Rows.WriterBeginsSaid :=
 OpenClaim.holds_of_wide 3 Try.f3 rfl rfl rfl rfl rfl rfl rfl ⟨rfl, rfl, rfl, rfl, rfl⟩ rfl rfl rfl rfl rfl (by kernel_rfl) Try.func3 writerBegins_closed
  (of_decide_eq_true (by kernel_rfl)) (by unfold Func.isWrapper; rw [if_neg (by decide +kernel)]; exact ⟨rfl, rfl⟩)
  (fun os started H enc _ => writerBegins_lifted os started H enc)
end Go.Proofs.Ytppcdmbkgficiaa
