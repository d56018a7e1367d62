import Derived.Test.YtcodkepdolmmbaaDoorSZO
import Derived.Test.YtcodkepdolmmbaaDoorCards
import Derived.Test.YtcodkepdolmmbaaDoorTie
namespace Go.Proofs.YtcodkepdolmmbaaDoor
open Go.BX Go.ChangeShapes Go.WideShapes Go.ChangeAt Go.RowKit
theorem witnessOpens_plain (f : FuncId) (fn : Func) (hf : Tryd.pinned.checked.prog.funcNamed "buttress/buttresslaw24.WitnessOpens" = some f) (hfn : Tryd.pinned.checked.prog.funcs[f]? = some fn) :
 true = Tryd.pinned.checked.prog.looks [] ∧ ∀ (j : Nat) t, fn.params[j]? = some t → Tryd.pinned.checked.prog.wantsStandIn t = false := by
 obtain rfl : f = 3 := Option.some.inj ((show Tryd.prog.funcNamed "buttress/buttresslaw24.WitnessOpens" = some 3 by kernel_rfl).symm.trans hf) |>.symm
 obtain rfl : fn = Tryd.f3 := (Option.some.inj (Tryd.func3.symm.trans hfn)).symm
 refine ⟨by kernel_rfl, fun j t ht => ?_⟩
 rw [Tryd.params3] at ht
 have hm := Array.mem_of_getElem? ht
 simp only [List.mem_toArray, List.mem_cons, List.not_mem_nil, or_false] at hm
 rcases hm with rfl | rfl
 · exact (show Tryd.prog.wantsStandIn 22 = false by kernel_rfl)
 · exact (show Tryd.prog.wantsStandIn 3 = false by kernel_rfl)
theorem witnessOpens_card : Rows.WitnessOpensUptoCardSaid :=
 Claim7.holds_tied_plain_at .later [] _ _ _ _ witnessOpens_holds (fun _ h => by cases h) (by kernel_rfl) (fun _ h => by cases h) witnessOpensUpto_row_tie rfl ⟨rfl, rfl⟩ (by kernel_rfl) rfl witnessOpens_plain (by kernel_rfl)
end Go.Proofs.YtcodkepdolmmbaaDoor
