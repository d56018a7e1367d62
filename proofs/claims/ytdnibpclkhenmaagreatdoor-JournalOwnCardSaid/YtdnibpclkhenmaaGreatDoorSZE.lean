import Derived.Test.YtdnibpclkhenmaaGreatDoorSJY
import Derived.Test.YtdnibpclkhenmaaGreatDoorSBxB
import Derived.Test.YtdnibpclkhenmaaGreatDoorSL4
import Derived.ProofKit
import Derived.OpenShut
import Derived.JoinedCond
import Derived.WalkKit
namespace Go.Proofs.YtdnibpclkhenmaaGreatDoor
open Go.BX Go.ChangeShapes Go.WideShapes Go.ChangeAt Go.RowKit
theorem journalOwn_own : ownKnob Tryz.prog.godebug = none := by kernel_rfl
theorem journalOwn_laid : laidOutB Tryz.prog = true := by kernel_rfl
theorem reads_bytes : Reads Tryz.prog 23 (Shape.slice (Shape.bv .u8 8)) := Reads.slice Tryz.underlying23 (by kernel_rfl) (Reads.bv8 Tryz.underlying5)
set_option maxRecDepth 100000 in
theorem journalOwn_contract (H : Type) (enc : TypeId × Value → H) (W : World) (base : Nat) (args : Array Value) (ds gs : List (DataW H)) (before : List MemPlace)
 (hval : ∀ (j : Nat) t v, Tryz.f5.params[j]? = some t → args[j]? = some v → Value.okWide Tryz.prog W .any base t v)
 (hW : DataW.Whole enc Tryz.prog Tryz.f5.params.toList Rows.journalOwnSpec.vars false W args.toList ds gs before) (hL : laidMetH Tryz.prog Rows.journalOwnRow.laid W) :
 Calls Tryz.prog 5 args W fun e W' => ∃ v, e = .returned v ∧ Rows.journalOwnSpec.post enc Tryz.prog Tryz.f5 false true false false W args v W' := by
 have hW' := hW
 obtain ⟨p, q, a, hV, rfl, -, -⟩ := hW
 have hA : DataW.TrodAll enc Tryz.prog W 0 (fun _ => true) true Tryz.f5.params.toList args.toList ds p := a
 rw [Tryz.params5] at hA hval
 obtain ⟨b, _, _, _, _, _, hargs, rfl, rfl, c, d⟩ := trodAll_cons hA
 obtain ⟨rfl, rfl, rfl⟩ := trodAll_nil d
 obtain rfl : args = #[b] := by cases args; simp_all
 obtain ⟨rfl, rfl⟩ := trodVars_none hV
 obtain ⟨ax, r, cx, rfl, hr⟩ := reads_bytes.sliceArg Tryz.underlying23 (hval 0 23 b rfl rfl) c
 have hq := jQ_laid (show laidMetH Tryz.prog Rows.journalRefusesRow.laid W from hL)
 refine (own_spec hr hq).mono fun e W' ⟨v, he, hE, hv⟩ => ?_
 subst hv
 exact ⟨_, he, post_true journalOwn_laid (params_ok (by kernel_rfl)) rfl hW' hE rfl (by kernel_rfl) Tryz.underlying4⟩
theorem journalOwn_j1 : laidOutB Tryz.pinned.checked.prog = true := by kernel_rfl
theorem journalOwn_j2 : mapsRowed Tryz.pinned.checked.prog = true := by kernel_rfl
theorem journalOwn_j3 : (Rows.journalOwnRow.inPlace == Tryz.pinned.checked.prog.inPlace 5) = true := by kernel_rfl
theorem journalOwn_j4 : (Rows.journalOwnRow.unfollowed == Tryz.pinned.checked.prog.unfollowed 5) = true := by kernel_rfl
theorem journalOwn_j5 : (Rows.journalOwnRow.recurses == Tryz.pinned.checked.prog.recurses 5) = true := by kernel_rfl
theorem journalOwn_j6 : (Rows.journalOwnRow.named == Tryz.pinned.checked.prog.varsNamed 5) = true := by kernel_rfl
theorem journalOwn_closed : joinedFacts Tryz.pinned.checked.prog 5 Tryz.f5 (OpenSpec.ofChange Rows.journalOwnSpec).bare Rows.journalOwnRow = true := by
 unfold joinedFacts
 rw [journalOwn_j1, journalOwn_j2, journalOwn_j3, journalOwn_j4, journalOwn_j5, journalOwn_j6]
 kernel_rfl
theorem journalOwn_wit (os : Os) {H : Type} (enc : TypeId × Value → H) :
 (OpenSpec.ofChange Rows.journalOwnSpec).preRow enc Tryz.prog Tryz.f5 Rows.journalOwnRow.domain false Rows.journalOwnRow.laid (laidMem os #[.slice none 0 0]) #[.slice none 0 0] := by
 have hw : (DataW.whole enc Tryz.prog (laidMem os #[.slice none 0 0]) Tryz.f5.params.toList Rows.journalOwnSpec.vars false (#[.slice none 0 0] : Array Value).toList 8).map (fun x => (x.1, x.2.1)) =
  some ([.nil], []) := by kernel_rfl
 obtain ⟨⟨_, _, _⟩, hx, a⟩ := Option.map_eq_some_iff.1 hw
 simp only [Prod.mk.injEq] at a
 obtain ⟨rfl, rfl⟩ := a
 exact OpenSpec.preRow_of_cond 8 hx (by kernel_rfl) (fun k hk => by cases hk) (by kernel_rfl) (show laidMetH Tryz.prog Rows.journalOwnRow.laid _ from laid_met0 os _)
set_option maxRecDepth 100000 in
theorem journalOwn_lifted (os : Os) (started : os.Started) (H : Type) (enc : TypeId × Value → H) (F : Stop.Interp) :
 ReturnsInHanded {} Tryz.checked os 5 .any ((OpenSpec.ofChange Rows.journalOwnSpec).preRow enc Tryz.prog Tryz.f5 Rows.journalOwnRow.domain false Rows.journalOwnRow.laid) (((OpenSpec.ofChange Rows.journalOwnSpec).at F).post enc Tryz.prog Tryz.f5 false true false false) := by
 refine returnsInHanded_of_row (C := Tryz.checked) (s := (OpenSpec.ofChange Rows.journalOwnSpec)) journalOwn_own started (by kernel_rfl) Tryz.func5
  (witness_row_atRef (enc := enc) (C := Tryz.checked) false (laidWorld os) #[.slice none 0 0] rfl (by kernel_rfl) (by kernel_rfl) (by kernel_rfl) (journalOwn_wit os enc)) ?_
 intro W base args ds gs before hval hW _ hc hz hL _ _
 exact journalOwn_contract H enc W base args ds gs before hval hW hL
theorem journalOwn_holds : Rows.JournalOwnSaid :=
 OpenClaim.holds_of_cond 5 Tryz.f5 rfl rfl rfl rfl rfl rfl rfl ⟨rfl, rfl, rfl, rfl, rfl⟩ rfl rfl rfl rfl rfl (by kernel_rfl) Tryz.func5 journalOwn_closed
  (of_decide_eq_true (by kernel_rfl)) (by unfold Func.isWrapper; rw [if_neg (by decide +kernel)]; exact ⟨rfl, rfl⟩)
  (fun os started H enc _ F => by rw [OpenClaim.pre_eq_preRow]; exact journalOwn_lifted os started H enc F)
end Go.Proofs.YtdnibpclkhenmaaGreatDoor
