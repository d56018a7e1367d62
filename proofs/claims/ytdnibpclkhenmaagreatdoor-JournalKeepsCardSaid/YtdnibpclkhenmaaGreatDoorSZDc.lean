import Derived.Test.YtdnibpclkhenmaaGreatDoorSZD
import Derived.Test.YtdnibpclkhenmaaGreatDoorCards
import Derived.Test.YtdnibpclkhenmaaGreatDoorTie
import Derived.SevenTiedAt
namespace Go.Proofs.YtdnibpclkhenmaaGreatDoor
theorem journalKeeps_plain (f : FuncId) (fn : Func) (hf : Tryz.pinned.checked.prog.funcNamed "buttress/buttresslaw08.JournalKeeps" = some f) (hfn : Tryz.pinned.checked.prog.funcs[f]? = some fn) :
 true=Tryz.pinned.checked.prog.looks []∧∀(j:Nat)t,fn.params[j]?=some t→Tryz.pinned.checked.prog.wantsStandIn t=false:=by
 obtain rfl : f = 7 := Option.some.inj ((show Tryz.prog.funcNamed "buttress/buttresslaw08.JournalKeeps" = some 7 by kernel_rfl).symm.trans hf) |>.symm
 obtain rfl:fn=Tryz.f7:=(Option.some.inj (Tryz.func7.symm.trans hfn)).symm
 refine⟨by kernel_rfl,fun j t ht=>?_⟩
 rw[Tryz.params7]at ht
 have hm:=Array.mem_of_getElem? ht
 simp only[List.mem_toArray,List.mem_cons,List.not_mem_nil,or_false]at hm
 rcases hm with rfl
 ·exact(show Tryz.prog.wantsStandIn 46=false by kernel_rfl)
theorem journalKeeps_card:Rows.JournalKeepsCardSaid:=
 Claim7.holds_tied_plain_at .later [] _ _ _ _ journalKeeps_holds (fun _ h=>by cases h) (by kernel_rfl) (fun _ h=>by cases h) journalKeeps_row_tie rfl ⟨rfl,rfl⟩ (by kernel_rfl) rfl journalKeeps_plain (by kernel_rfl)
end Go.Proofs.YtdnibpclkhenmaaGreatDoor
