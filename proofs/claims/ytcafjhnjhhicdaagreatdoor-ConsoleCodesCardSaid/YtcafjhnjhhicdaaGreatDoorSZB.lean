import Derived.Test.YtcafjhnjhhicdaaGreatDoorSC6
import Derived.Test.YtcafjhnjhhicdaaGreatDoorSBxB
import Derived.Test.YtcafjhnjhhicdaaGreatDoorSL4
import Derived.ProofKit
import Derived.OpenShut
import Derived.JoinedCond
import Derived.WalkKit
namespace Go.Proofs.YtcafjhnjhhicdaaGreatDoor
open Go.BX Go.ChangeShapes Go.WideShapes Go.ChangeAt Go.RowKit
theorem consoleCodes_own:ownKnob Tryz.prog.godebug=none:=by kernel_rfl
theorem consoleCodes_laid:laidOutB Tryz.prog=true:=by kernel_rfl
theorem reads_bytes:Reads Tryz.prog 28 (Shape.slice (Shape.bv .u8 8)):=Reads.slice Tryz.underlying28 (by kernel_rfl) (Reads.bv8 Tryz.underlying5)
set_option maxRecDepth 100000 in
theorem consoleCodes_contract(H:Type)(enc:TypeId×Value→H)(W:World)(base:Nat)(args:Array Value)(ds gs:List (DataW H))(before:List MemPlace)
 (hval:∀(j:Nat)t v,Tryz.f4.params[j]?=some t→args[j]?=some v→Value.okWide Tryz.prog W .any base t v)
 (hW:DataW.Whole enc Tryz.prog Tryz.f4.params.toList Rows.consoleCodesSpec.vars false W args.toList ds gs before)(hL:laidMetH Tryz.prog Rows.consoleCodesRow.laid W)(hsh:W.ShapedOpen Tryz.prog):
 Calls Tryz.prog 4 args W fun e W'=>∃v,e=.returned v∧Rows.consoleCodesSpec.post enc Tryz.prog Tryz.f4 false true false false W args v W':=by
 have hW':=hW
 obtain⟨p,q,hA0,hV,rfl,-,-⟩:=hW
 have hA:DataW.TrodAll enc Tryz.prog W 0 (fun _=>true) true Tryz.f4.params.toList args.toList ds p:=hA0
 rw[Tryz.params4]at hA hval
 obtain⟨v0,vs0,d0,ds0,p0,q0,hargs,rfl,rfl,h0,r0⟩:=trodAll_cons hA
 obtain⟨v1,vs1,d1,ds1,p1,q1,rfl,rfl,rfl,h1,r1⟩:=trodAll_cons r0
 obtain⟨v2,vs2,d2,ds2,p2,q2,rfl,rfl,rfl,h2,r2⟩:=trodAll_cons r1
 obtain⟨rfl,rfl,rfl⟩:=trodAll_nil r2
 obtain rfl:args=#[v0,v1,v2]:=by cases args;simp_all
 obtain⟨rfl,rfl⟩:=trodVars_none hV
 obtain⟨ax,r,cx,rfl,hr⟩:=reads_bytes.sliceArg Tryz.underlying28 (hval 0 28 v0 rfl rfl) h0
 obtain⟨x1,rfl,rfl,rfl,hx1⟩:=open_int Tryz.underlying3 (hval 1 3 v1 rfl rfl) h1
 obtain⟨x2,rfl,rfl,rfl,hx2⟩:=open_int Tryz.underlying3 (hval 2 3 v2 rfl rfl) h2
 have hq:=cQ_laid (show laidMetH Tryz.prog Rows.consoleNobodyRow.laid W from hL) hsh
 refine(codes_spec x1 x2 hr hq).mono fun e W'⟨v,he,hE,hv⟩=>?_
 subst hv
 exact⟨_,he,post_true consoleCodes_laid (params_ok (by kernel_rfl)) rfl hW' hE rfl (by kernel_rfl) Tryz.underlying4⟩
theorem consoleCodes_j1:laidOutB Tryz.pinned.checked.prog=true:=by kernel_rfl
theorem consoleCodes_j2:mapsRowed Tryz.pinned.checked.prog=true:=by kernel_rfl
theorem consoleCodes_j3:(Rows.consoleCodesRow.inPlace==Tryz.pinned.checked.prog.inPlace 4)=true:=by kernel_rfl
theorem consoleCodes_j4:(Rows.consoleCodesRow.unfollowed==Tryz.pinned.checked.prog.unfollowed 4)=true:=by kernel_rfl
theorem consoleCodes_j5:(Rows.consoleCodesRow.recurses==Tryz.pinned.checked.prog.recurses 4)=true:=by kernel_rfl
theorem consoleCodes_j6:(Rows.consoleCodesRow.named==Tryz.pinned.checked.prog.varsNamed 4)=true:=by kernel_rfl
theorem consoleCodes_closed:joinedFacts Tryz.pinned.checked.prog 4 Tryz.f4 (OpenSpec.ofChange Rows.consoleCodesSpec).bare Rows.consoleCodesRow=true:=by
 unfold joinedFacts
 rw[consoleCodes_j1,consoleCodes_j2,consoleCodes_j3,consoleCodes_j4,consoleCodes_j5,consoleCodes_j6]
 kernel_rfl
theorem consoleCodes_wit(os:Os){H:Type}(enc:TypeId×Value→H):
 (OpenSpec.ofChange Rows.consoleCodesSpec).preRow enc Tryz.prog Tryz.f4 Rows.consoleCodesRow.domain false Rows.consoleCodesRow.laid (laidMem os #[.slice none 0 0,.int .i64 0,.int .i64 0]) #[.slice none 0 0,.int .i64 0,.int .i64 0]:=by
 have hw:(DataW.whole enc Tryz.prog (laidMem os #[.slice none 0 0,.int .i64 0,.int .i64 0]) Tryz.f4.params.toList Rows.consoleCodesSpec.vars false (#[.slice none 0 0,.int .i64 0,.int .i64 0]:Array Value).toList 8).map (fun x=>(x.1,x.2.1))=
  some ([.nil,.lit (.int .i64 0),.lit (.int .i64 0)],[]):=by kernel_rfl
 obtain⟨⟨x1,x2,x3⟩,hx,hx1⟩:=Option.map_eq_some_iff.1 hw
 simp only[Prod.mk.injEq]at hx1
 obtain⟨rfl,rfl⟩:=hx1
 exact OpenSpec.preRow_of_cond 8 hx (by kernel_rfl) (fun k hk=>by cases hk) (by kernel_rfl) (show laidMetH Tryz.prog Rows.consoleCodesRow.laid _ from laid_met0 os _)
set_option maxRecDepth 100000 in
theorem consoleCodes_lifted(os:Os)(started:os.Started)(H:Type)(enc:TypeId×Value→H)(F:Stop.Interp):
 ReturnsInHanded {} Tryz.checked os 4 .any ((OpenSpec.ofChange Rows.consoleCodesSpec).preRow enc Tryz.prog Tryz.f4 Rows.consoleCodesRow.domain false Rows.consoleCodesRow.laid) (((OpenSpec.ofChange Rows.consoleCodesSpec).at F).post enc Tryz.prog Tryz.f4 false true false false):=by
 refine returnsInHanded_of_row (C:=Tryz.checked) (s:=(OpenSpec.ofChange Rows.consoleCodesSpec)) consoleCodes_own started (by kernel_rfl) Tryz.func4
  (witness_row_atRef (enc:=enc) (C:=Tryz.checked) false (laidWorld os) #[.slice none 0 0,.int .i64 0,.int .i64 0] rfl (by kernel_rfl) (by kernel_rfl) (by kernel_rfl) (consoleCodes_wit os enc)) ?_
 intro W base args ds gs before hval hW _ hc hz hL hsh _
 exact consoleCodes_contract H enc W base args ds gs before hval hW hL hsh
theorem consoleCodes_holds:Rows.ConsoleCodesSaid:=
 OpenClaim.holds_of_cond 4 Tryz.f4 rfl rfl rfl rfl rfl rfl rfl ⟨rfl,rfl,rfl,rfl,rfl⟩ rfl rfl rfl rfl rfl (by kernel_rfl) Tryz.func4 consoleCodes_closed
  (of_decide_eq_true (by kernel_rfl)) (by unfold Func.isWrapper;rw[if_neg (by decide+kernel)];exact⟨rfl,rfl⟩)
  (fun os started H enc _ F=>by rw[OpenClaim.pre_eq_preRow];exact consoleCodes_lifted os started H enc F)
end Go.Proofs.YtcafjhnjhhicdaaGreatDoor
