import Derived.Test.YtdnibpclkhenmaaGreatDoorSZG
import Derived.Test.YtdnibpclkhenmaaGreatDoorCards
import Derived.Test.YtdnibpclkhenmaaGreatDoorTie
import Derived.SevenTiedAt
namespace Go.Proofs.YtdnibpclkhenmaaGreatDoor
theorem vaultTells_plain (f : FuncId) (fn : Func) (hf : Tryz.pinned.checked.prog.funcNamed "buttress/buttresslaw09.VaultTells" = some f) (hfn : Tryz.pinned.checked.prog.funcs[f]? = some fn) :
 true = Tryz.pinned.checked.prog.looks [] ∧ ∀ (j : Nat) t, fn.params[j]? = some t → Tryz.pinned.checked.prog.wantsStandIn t = false := by
 obtain rfl : f = 9 := Option.some.inj ((show Tryz.prog.funcNamed "buttress/buttresslaw09.VaultTells" = some 9 by kernel_rfl).symm.trans hf) |>.symm
 obtain rfl : fn = Tryz.f9 := (Option.some.inj (Tryz.func9.symm.trans hfn)).symm
 refine ⟨by kernel_rfl, fun j t ht => ?_⟩
 rw [Tryz.params9] at ht
 have hm := Array.mem_of_getElem? ht
 simp only [List.mem_toArray, List.mem_cons, List.not_mem_nil, or_false] at hm
 rcases hm with rfl | rfl
 · exact (show Tryz.prog.wantsStandIn 102 = false by kernel_rfl)
 · exact (show Tryz.prog.wantsStandIn 3 = false by kernel_rfl)
theorem vaultTells_card : Rows.VaultTellsCardSaid :=
 Claim7.holds_tied_plain_at .later [] _ _ _ _ vaultTells_holds (fun _ h => by cases h) (by kernel_rfl) (fun _ h => by cases h) vaultTells_row_tie rfl ⟨rfl, rfl⟩ (by kernel_rfl) rfl vaultTells_plain (by kernel_rfl)
end Go.Proofs.YtdnibpclkhenmaaGreatDoor
