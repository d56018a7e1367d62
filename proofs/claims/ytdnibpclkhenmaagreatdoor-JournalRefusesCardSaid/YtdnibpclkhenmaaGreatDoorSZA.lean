import Derived.Test.YtdnibpclkhenmaaGreatDoorSJN
import Derived.Test.YtdnibpclkhenmaaGreatDoorSBxB
import Derived.Test.YtdnibpclkhenmaaGreatDoorSL4
import Derived.ProofKit
import Derived.OpenShut
import Derived.JoinedCond
import Derived.WalkKit
import Derived.ChangeMaps5
namespace Go.Proofs.YtdnibpclkhenmaaGreatDoor
open Go.BX Go.ChangeShapes Go.WideShapes Go.ChangeAt Go.RowKit
theorem journalRefuses_own : ownKnob Tryz.prog.godebug = none := by kernel_rfl
theorem journalRefuses_laid : laidOutB Tryz.prog = true := by kernel_rfl
theorem reads_bytes : Reads Tryz.prog 23 (Shape.slice (Shape.bv .u8 8)) := Reads.slice Tryz.underlying23 (by kernel_rfl) (Reads.bv8 Tryz.underlying5)
set_option maxRecDepth 100000 in
theorem journalRefuses_contract (H : Type) (enc : TypeId × Value → H) (W : World) (base : Nat) (args : Array Value) (ds gs : List (DataW H)) (before : List MemPlace)
 (hval : ∀ (j : Nat) t v, Tryz.f4.params[j]? = some t → args[j]? = some v → Value.okWide Tryz.prog W .any base t v)
 (hW : DataW.Whole enc Tryz.prog Tryz.f4.params.toList Rows.journalRefusesSpec.vars false W args.toList ds gs before) (hz : ((DataW.weightsEach Tryz.prog (Tryz.f4.params.toList ++ (OpenSpec.ofChange Rows.journalRefusesSpec).bare.plain.varTypes Tryz.prog) (ds ++ gs)).all (· ≤ reachBytes)) = true) (hL : laidMetH Tryz.prog Rows.journalRefusesRow.laid W) :
 Calls Tryz.prog 4 args W fun e W' => ∃ v, e = .returned v ∧ Rows.journalRefusesSpec.post enc Tryz.prog Tryz.f4 false true false false W args v W' := by
 have hW' := hW
 obtain ⟨p, q, hA0, hV, rfl, -, -⟩ := hW
 have hA : DataW.TrodAll enc Tryz.prog W 0 (fun _ => true) true Tryz.f4.params.toList args.toList ds p := hA0
 rw [Tryz.params4] at hA hval
 obtain ⟨v0, vs0, d0, ds0, p0, q0, hargs, rfl, rfl, h0, r0⟩ := trodAll_cons hA
 obtain ⟨v1, vs1, d1, ds1, p1, q1, rfl, rfl, rfl, h1, r1⟩ := trodAll_cons r0
 obtain ⟨rfl, rfl, rfl⟩ := trodAll_nil r1
 obtain rfl : args = #[v0, v1] := by cases args; simp_all
 obtain ⟨rfl, rfl⟩ := trodVars_none hV
 obtain ⟨x, rfl, rfl, rfl, hx⟩ := Go.ChangeMaps.open_string Tryz.underlying9 (hval 0 9 v0 rfl rfl) h0
 obtain ⟨ax, r, cx, rfl, hr⟩ := reads_bytes.sliceArg Tryz.underlying23 (hval 1 23 v1 rfl rfl) h1
 have hx2 := hz
 rw [Tryz.params4] at hx2
 simp only [List.cons_append, List.nil_append, DataW.weightsEach, DataW.weights, List.all_cons, Bool.and_eq_true, decide_eq_true_eq] at hx2
 have hx3 : x.size ≤ 140737488355328 := by
  have h9 := hx2.1
  have h8 : x.data.toList.length = x.size := Array.length_toList
  unfold reachBytes at h9
  omega
 have hq := jQ_laid (show laidMetH Tryz.prog Rows.journalRefusesRow.laid W from hL)
 refine (refuses_spec hx3 hr hq).mono fun e W' ⟨v, he, hE, hv⟩ => ?_
 subst hv
 exact ⟨_, he, post_true journalRefuses_laid (params_ok (by kernel_rfl)) rfl hW' hE rfl (by kernel_rfl) Tryz.underlying4⟩
theorem journalRefuses_j1 : laidOutB Tryz.pinned.checked.prog = true := by kernel_rfl
theorem journalRefuses_j2 : mapsRowed Tryz.pinned.checked.prog = true := by kernel_rfl
theorem journalRefuses_j3 : (Rows.journalRefusesRow.inPlace == Tryz.pinned.checked.prog.inPlace 4) = true := by kernel_rfl
theorem journalRefuses_j4 : (Rows.journalRefusesRow.unfollowed == Tryz.pinned.checked.prog.unfollowed 4) = true := by kernel_rfl
theorem journalRefuses_j5 : (Rows.journalRefusesRow.recurses == Tryz.pinned.checked.prog.recurses 4) = true := by kernel_rfl
theorem journalRefuses_j6 : (Rows.journalRefusesRow.named == Tryz.pinned.checked.prog.varsNamed 4) = true := by kernel_rfl
theorem journalRefuses_closed : joinedFacts Tryz.pinned.checked.prog 4 Tryz.f4 (OpenSpec.ofChange Rows.journalRefusesSpec).bare Rows.journalRefusesRow = true := by
 unfold joinedFacts
 rw [journalRefuses_j1, journalRefuses_j2, journalRefuses_j3, journalRefuses_j4, journalRefuses_j5, journalRefuses_j6]
 kernel_rfl
theorem journalRefuses_wit (os : Os) {H : Type} (enc : TypeId × Value → H) :
 (OpenSpec.ofChange Rows.journalRefusesSpec).preRow enc Tryz.prog Tryz.f4 Rows.journalRefusesRow.domain false Rows.journalRefusesRow.laid (laidMem os #[.string ⟨#[]⟩, .slice none 0 0]) #[.string ⟨#[]⟩, .slice none 0 0] := by
 have hw : (DataW.whole enc Tryz.prog (laidMem os #[.string ⟨#[]⟩, .slice none 0 0]) Tryz.f4.params.toList Rows.journalRefusesSpec.vars false (#[.string ⟨#[]⟩, .slice none 0 0] : Array Value).toList 8).map (fun x => (x.1, x.2.1)) =
  some ([.lit (.string []), .nil], []) := by kernel_rfl
 obtain ⟨⟨x1, x2, x3⟩, hx, hx1⟩ := Option.map_eq_some_iff.1 hw
 simp only [Prod.mk.injEq] at hx1
 obtain ⟨rfl, rfl⟩ := hx1
 exact OpenSpec.preRow_of_cond 8 hx (by kernel_rfl) (fun k hk => by cases hk) (by kernel_rfl) (show laidMetH Tryz.prog Rows.journalRefusesRow.laid _ from laid_met0 os _)
set_option maxRecDepth 100000 in
theorem journalRefuses_lifted (os : Os) (started : os.Started) (H : Type) (enc : TypeId × Value → H) (F : Stop.Interp) :
 ReturnsInHanded {} Tryz.checked os 4 .any ((OpenSpec.ofChange Rows.journalRefusesSpec).preRow enc Tryz.prog Tryz.f4 Rows.journalRefusesRow.domain false Rows.journalRefusesRow.laid) (((OpenSpec.ofChange Rows.journalRefusesSpec).at F).post enc Tryz.prog Tryz.f4 false true false false) := by
 refine returnsInHanded_of_row (C := Tryz.checked) (s := (OpenSpec.ofChange Rows.journalRefusesSpec)) journalRefuses_own started (by kernel_rfl) Tryz.func4
  (witness_row_atRef (enc := enc) (C := Tryz.checked) false (laidWorld os) #[.string ⟨#[]⟩, .slice none 0 0] rfl (by kernel_rfl) (by kernel_rfl) (by kernel_rfl) (journalRefuses_wit os enc)) ?_
 intro W base args ds gs before hval hW _ hc hz hL _ _
 exact journalRefuses_contract H enc W base args ds gs before hval hW hz hL
theorem journalRefuses_holds : Rows.JournalRefusesSaid :=
 OpenClaim.holds_of_cond 4 Tryz.f4 rfl rfl rfl rfl rfl rfl rfl ⟨rfl, rfl, rfl, rfl, rfl⟩ rfl rfl rfl rfl rfl (by kernel_rfl) Tryz.func4 journalRefuses_closed
  (of_decide_eq_true (by kernel_rfl)) (by unfold Func.isWrapper; rw [if_neg (by decide +kernel)]; exact ⟨rfl, rfl⟩)
  (fun os started H enc _ F => by rw [OpenClaim.pre_eq_preRow]; exact journalRefuses_lifted os started H enc F)
end Go.Proofs.YtdnibpclkhenmaaGreatDoor
