import Derived.Test.YtdnibpclkhenmaaGreatDoorSJW
import Derived.Test.YtdnibpclkhenmaaGreatDoorSBxB
import Derived.Test.YtdnibpclkhenmaaGreatDoorSL4
import Derived.ProofKit
import Derived.OpenShut
import Derived.JoinedCond
import Derived.WalkKit
namespace Go.Proofs.YtdnibpclkhenmaaGreatDoor
open Go.BX Go.ChangeShapes Go.WideShapes Go.ChangeAt Go.RowKit
theorem journalKeeps_own:ownKnob Tryz.prog.godebug=none:=by kernel_rfl
theorem journalKeeps_laid:laidOutB Tryz.prog=true:=by kernel_rfl
theorem reads_bytes:Reads Tryz.prog 23 (Shape.slice (Shape.bv .u8 8)):=Reads.slice Tryz.underlying23 (by kernel_rfl) (Reads.bv8 Tryz.underlying5)
theorem reads_act:Reads Tryz.prog 53 actS:=Reads.map (Reads.struct Tryz.underlying53 (by kernel_rfl) (.cons (by kernel_rfl) (by kernel_rfl) (Reads.int Tryz.underlying3) (.cons (by kernel_rfl) (by kernel_rfl) reads_bytes (.one (by kernel_rfl) (by kernel_rfl) (Reads.int Tryz.underlying3))))) fun a=>⟨⟨a.1,a.2.1,a.2.2⟩,rfl⟩
theorem reads_acts:Reads Tryz.prog 46 (Shape.slice actS):=Reads.slice Tryz.underlying46 (by kernel_rfl) reads_act
set_option maxRecDepth 100000 in
theorem journalKeeps_contract(H:Type)(enc:TypeId×Value→H)(W:World)(base:Nat)(args:Array Value)(ds gs:List (DataW H))(before:List MemPlace)
 (hval:∀(j:Nat)t v,Tryz.f7.params[j]?=some t→args[j]?=some v→Value.okWide Tryz.prog W .any base t v)
 (hW:DataW.Whole enc Tryz.prog Tryz.f7.params.toList Rows.journalKeepsSpec.vars false W args.toList ds gs before)(hL:laidMetH Tryz.prog Rows.journalKeepsRow.laid W):
 Calls Tryz.prog 7 args W fun e W'=>∃v,e=.returned v∧Rows.journalKeepsSpec.post enc Tryz.prog Tryz.f7 false true false false W args v W':=by
 have hW':=hW
 obtain⟨p,q,a,hV,rfl,-,-⟩:=hW
 have hA:DataW.TrodAll enc Tryz.prog W 0 (fun _=>true) true Tryz.f7.params.toList args.toList ds p:=a
 rw[Tryz.params7]at hA hval
 obtain⟨b,_,_,_,_,_,hargs,rfl,rfl,c,d⟩:=trodAll_cons hA
 obtain⟨rfl,rfl,rfl⟩:=trodAll_nil d
 obtain rfl:args=#[b]:=by cases args;simp_all
 obtain⟨rfl,rfl⟩:=trodVars_none hV
 obtain⟨al,l,cl,rfl,hl⟩:=reads_acts.sliceArg Tryz.underlying46 (hval 0 46 b rfl rfl) c
 have hq:=jQ_laid (show laidMetH Tryz.prog Rows.journalRefusesRow.laid W from hL)
 refine(keeps_spec hl hq).mono fun e W'⟨v,he,hE,hv⟩=>?_
 subst hv
 exact⟨_,he,post_true journalKeeps_laid (params_ok (by kernel_rfl)) rfl hW' hE rfl (by kernel_rfl) Tryz.underlying4⟩
theorem journalKeeps_j1:laidOutB Tryz.pinned.checked.prog=true:=by kernel_rfl
theorem journalKeeps_j2:mapsRowed Tryz.pinned.checked.prog=true:=by kernel_rfl
theorem journalKeeps_j3:(Rows.journalKeepsRow.inPlace==Tryz.pinned.checked.prog.inPlace 7)=true:=by kernel_rfl
theorem journalKeeps_j4:(Rows.journalKeepsRow.unfollowed==Tryz.pinned.checked.prog.unfollowed 7)=true:=by kernel_rfl
theorem journalKeeps_j5:(Rows.journalKeepsRow.recurses==Tryz.pinned.checked.prog.recurses 7)=true:=by kernel_rfl
theorem journalKeeps_j6:(Rows.journalKeepsRow.named==Tryz.pinned.checked.prog.varsNamed 7)=true:=by kernel_rfl
theorem journalKeeps_closed:joinedFacts Tryz.pinned.checked.prog 7 Tryz.f7 (OpenSpec.ofChange Rows.journalKeepsSpec).bare Rows.journalKeepsRow=true:=by
 unfold joinedFacts
 rw[journalKeeps_j1,journalKeeps_j2,journalKeeps_j3,journalKeeps_j4,journalKeeps_j5,journalKeeps_j6]
 kernel_rfl
theorem journalKeeps_wit(os:Os){H:Type}(enc:TypeId×Value→H):
 (OpenSpec.ofChange Rows.journalKeepsSpec).preRow enc Tryz.prog Tryz.f7 Rows.journalKeepsRow.domain false Rows.journalKeepsRow.laid (laidMem os #[.slice none 0 0]) #[.slice none 0 0]:=by
 have hw:(DataW.whole enc Tryz.prog (laidMem os #[.slice none 0 0]) Tryz.f7.params.toList Rows.journalKeepsSpec.vars false (#[.slice none 0 0]:Array Value).toList 8).map (fun x=>(x.1,x.2.1))=
  some ([.nil],[]):=by kernel_rfl
 obtain⟨⟨_,_,_⟩,hx,a⟩:=Option.map_eq_some_iff.1 hw
 simp only[Prod.mk.injEq]at a
 obtain⟨rfl,rfl⟩:=a
 exact OpenSpec.preRow_of_cond 8 hx (by kernel_rfl) (fun k hk=>by cases hk) (by kernel_rfl) (show laidMetH Tryz.prog Rows.journalKeepsRow.laid _ from laid_met0 os _)
set_option maxRecDepth 100000 in
theorem journalKeeps_lifted(os:Os)(started:os.Started)(H:Type)(enc:TypeId×Value→H)(F:Stop.Interp):
 ReturnsInHanded {} Tryz.checked os 7 .any ((OpenSpec.ofChange Rows.journalKeepsSpec).preRow enc Tryz.prog Tryz.f7 Rows.journalKeepsRow.domain false Rows.journalKeepsRow.laid) (((OpenSpec.ofChange Rows.journalKeepsSpec).at F).post enc Tryz.prog Tryz.f7 false true false false):=by
 refine returnsInHanded_of_row (C:=Tryz.checked) (s:=(OpenSpec.ofChange Rows.journalKeepsSpec)) journalKeeps_own started (by kernel_rfl) Tryz.func7
  (witness_row_atRef (enc:=enc) (C:=Tryz.checked) false (laidWorld os) #[.slice none 0 0] rfl (by kernel_rfl) (by kernel_rfl) (by kernel_rfl) (journalKeeps_wit os enc)) ?_
 intro W base args ds gs before hval hW _ hc hz hL _ _
 exact journalKeeps_contract H enc W base args ds gs before hval hW hL
theorem journalKeeps_holds:Rows.JournalKeepsSaid:=
 OpenClaim.holds_of_cond 7 Tryz.f7 rfl rfl rfl rfl rfl rfl rfl ⟨rfl,rfl,rfl,rfl,rfl⟩ rfl rfl rfl rfl rfl (by kernel_rfl) Tryz.func7 journalKeeps_closed
  (of_decide_eq_true (by kernel_rfl)) (by unfold Func.isWrapper;rw[if_neg (by decide+kernel)];exact⟨rfl,rfl⟩)
  (fun os started H enc _ F=>by rw[OpenClaim.pre_eq_preRow];exact journalKeeps_lifted os started H enc F)
end Go.Proofs.YtdnibpclkhenmaaGreatDoor
