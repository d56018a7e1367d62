import Derived.Test.YtcafjhnjhhicdaaGreatDoorSZB
import Derived.Test.YtcafjhnjhhicdaaGreatDoorCards
import Derived.Test.YtcafjhnjhhicdaaGreatDoorTie
import Derived.SevenTiedAt
namespace Go.Proofs.YtcafjhnjhhicdaaGreatDoor
theorem consoleCodes_plain (f : FuncId) (fn : Func) (hf : Tryz.pinned.checked.prog.funcNamed "buttress/buttresslaw27.ConsoleCodes" = some f) (hfn : Tryz.pinned.checked.prog.funcs[f]? = some fn) :
 true=Tryz.pinned.checked.prog.looks []∧∀(j:Nat)t,fn.params[j]?=some t→Tryz.pinned.checked.prog.wantsStandIn t=false:=by
 obtain rfl : f = 4 := Option.some.inj ((show Tryz.prog.funcNamed "buttress/buttresslaw27.ConsoleCodes" = some 4 by kernel_rfl).symm.trans hf) |>.symm
 obtain rfl:fn=Tryz.f4:=(Option.some.inj (Tryz.func4.symm.trans hfn)).symm
 refine⟨by kernel_rfl,fun j t ht=>?_⟩
 rw[Tryz.params4]at ht
 have hm:=Array.mem_of_getElem? ht
 simp only[List.mem_toArray,List.mem_cons,List.not_mem_nil,or_false]at hm
 rcases hm with rfl|rfl|rfl
 ·exact(show Tryz.prog.wantsStandIn 28=false by kernel_rfl)
 ·exact(show Tryz.prog.wantsStandIn 3=false by kernel_rfl)
 ·exact(show Tryz.prog.wantsStandIn 3=false by kernel_rfl)
theorem consoleCodes_card:Rows.ConsoleCodesCardSaid:=
 Claim7.holds_tied_plain_at .later [] _ _ _ _ consoleCodes_holds (fun _ h=>by cases h) (by kernel_rfl) (fun _ h=>by cases h) consoleCodes_row_tie rfl ⟨rfl,rfl⟩ (by kernel_rfl) rfl consoleCodes_plain (by kernel_rfl)
end Go.Proofs.YtcafjhnjhhicdaaGreatDoor
