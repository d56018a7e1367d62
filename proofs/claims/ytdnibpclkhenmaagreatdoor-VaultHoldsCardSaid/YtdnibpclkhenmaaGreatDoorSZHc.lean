import Derived.Test.YtdnibpclkhenmaaGreatDoorSZH
import Derived.Test.YtdnibpclkhenmaaGreatDoorCards
import Derived.Test.YtdnibpclkhenmaaGreatDoorTie
import Derived.SevenTiedAt
namespace Go.Proofs.YtdnibpclkhenmaaGreatDoor
theorem vaultHolds_plain (f : FuncId) (fn : Func) (hf : Tryz.pinned.checked.prog.funcNamed "buttress/buttresslaw09.VaultHolds" = some f) (hfn : Tryz.pinned.checked.prog.funcs[f]? = some fn) :
 true = Tryz.pinned.checked.prog.looks [] ∧ ∀ (j : Nat) t, fn.params[j]? = some t → Tryz.pinned.checked.prog.wantsStandIn t = false := by
 obtain rfl : f = 10 := Option.some.inj ((show Tryz.prog.funcNamed "buttress/buttresslaw09.VaultHolds" = some 10 by kernel_rfl).symm.trans hf) |>.symm
 obtain rfl : fn = Tryz.f10 := (Option.some.inj (Tryz.func10.symm.trans hfn)).symm
 refine ⟨by kernel_rfl, fun j t ht => ?_⟩
 rw [Tryz.params10] at ht
 have hm := Array.mem_of_getElem? ht
 simp only [List.mem_toArray, List.mem_cons, List.not_mem_nil, or_false] at hm
 rcases hm with rfl | rfl
 · exact (show Tryz.prog.wantsStandIn 3 = false by kernel_rfl)
 · exact (show Tryz.prog.wantsStandIn 114 = false by kernel_rfl)
theorem vaultHolds_card : Rows.VaultHoldsCardSaid :=
 Claim7.holds_tied_plain_at .later [] _ _ _ _ vaultHolds_holds (fun _ h => by cases h) (by kernel_rfl) (fun _ h => by cases h) vaultHolds_row_tie rfl ⟨rfl, rfl⟩ (by kernel_rfl) rfl vaultHolds_plain (by kernel_rfl)
end Go.Proofs.YtdnibpclkhenmaaGreatDoor
