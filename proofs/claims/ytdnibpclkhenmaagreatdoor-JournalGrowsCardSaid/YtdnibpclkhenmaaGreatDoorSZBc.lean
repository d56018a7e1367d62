import Derived.Test.YtdnibpclkhenmaaGreatDoorSZB
import Derived.Test.YtdnibpclkhenmaaGreatDoorCards
import Derived.Test.YtdnibpclkhenmaaGreatDoorTie
import Derived.SevenTiedAt
namespace Go.Proofs.YtdnibpclkhenmaaGreatDoor
theorem journalGrows_plain (f : FuncId) (fn : Func) (hf : Tryz.pinned.checked.prog.funcNamed "buttress/buttresslaw08.JournalGrows" = some f) (hfn : Tryz.pinned.checked.prog.funcs[f]? = some fn) :
 true = Tryz.pinned.checked.prog.looks [] ∧ ∀ (j : Nat) t, fn.params[j]? = some t → Tryz.pinned.checked.prog.wantsStandIn t = false := by
 obtain rfl : f = 3 := Option.some.inj ((show Tryz.prog.funcNamed "buttress/buttresslaw08.JournalGrows" = some 3 by kernel_rfl).symm.trans hf) |>.symm
 obtain rfl : fn = Tryz.f3 := (Option.some.inj (Tryz.func3.symm.trans hfn)).symm
 refine ⟨by kernel_rfl, fun j t ht => ?_⟩
 rw [Tryz.params3] at ht
 have hm := Array.mem_of_getElem? ht
 simp only [List.mem_toArray, List.mem_cons, List.not_mem_nil, or_false] at hm
 rcases hm with rfl | rfl
 · exact (show Tryz.prog.wantsStandIn 22 = false by kernel_rfl)
 · exact (show Tryz.prog.wantsStandIn 3 = false by kernel_rfl)
theorem journalGrows_card : Rows.JournalGrowsCardSaid :=
 Claim7.holds_tied_plain_at .later [] _ _ _ _ journalGrows_holds (fun _ h => by cases h) (by kernel_rfl) (fun _ h => by cases h) journalGrows_row_tie rfl ⟨rfl, rfl⟩ (by kernel_rfl) rfl journalGrows_plain (by kernel_rfl)
end Go.Proofs.YtdnibpclkhenmaaGreatDoor
