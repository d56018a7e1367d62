import Derived.Test.YtdnibpclkhenmaaGreatDoorSJO
import Derived.Test.YtdnibpclkhenmaaGreatDoorSJV
import Derived.Test.YtdnibpclkhenmaaGreatDoorSBxB
import Derived.Test.YtdnibpclkhenmaaGreatDoorSL4
import Derived.ProofKit
import Derived.OpenShut
import Derived.JoinedCond
import Derived.WalkKit
namespace Go.Proofs.YtdnibpclkhenmaaGreatDoor
open Go.BX Go.ChangeShapes Go.WideShapes Go.ChangeAt Go.RowKit
theorem journalGrows_own : ownKnob Tryz.prog.godebug = none := by kernel_rfl
theorem journalGrows_laid : laidOutB Tryz.prog = true := by kernel_rfl
theorem reads_bytes : Reads Tryz.prog 23 (Shape.slice (Shape.bv .u8 8)) := Reads.slice Tryz.underlying23 (by kernel_rfl) (Reads.bv8 Tryz.underlying5)
theorem reads_rows : Reads Tryz.prog 22 (Shape.slice (Shape.slice (Shape.bv .u8 8))) := Reads.slice Tryz.underlying22 (by kernel_rfl) reads_bytes
set_option maxRecDepth 100000 in
theorem journalGrows_contract (H : Type) (enc : TypeId × Value → H) (W : World) (base : Nat) (args : Array Value) (ds gs : List (DataW H)) (before : List MemPlace)
 (hval : ∀ (j : Nat) t v, Tryz.f3.params[j]? = some t → args[j]? = some v → Value.okWide Tryz.prog W .any base t v)
 (hW : DataW.Whole enc Tryz.prog Tryz.f3.params.toList Rows.journalGrowsSpec.vars false W args.toList ds gs before) (hz : ((DataW.weightsEach Tryz.prog (Tryz.f3.params.toList ++ (OpenSpec.ofChange Rows.journalGrowsSpec).bare.plain.varTypes Tryz.prog) (ds ++ gs)).all (· ≤ reachBytes)) = true) (hL : laidMetH Tryz.prog Rows.journalGrowsRow.laid W) :
 Calls Tryz.prog 3 args W fun e W' => ∃ v, e = .returned v ∧ Rows.journalGrowsSpec.post enc Tryz.prog Tryz.f3 false true false false W args v W' := by
 have hW' := hW
 obtain ⟨p, q, hA0, hV, rfl, -, -⟩ := hW
 have hA : DataW.TrodAll enc Tryz.prog W 0 (fun _ => true) true Tryz.f3.params.toList args.toList ds p := hA0
 rw [Tryz.params3] at hA hval
 obtain ⟨v0, vs0, d0, ds0, p0, q0, hargs, rfl, rfl, h0, r0⟩ := trodAll_cons hA
 obtain ⟨v1, vs1, d1, ds1, p1, q1, rfl, rfl, rfl, h1, r1⟩ := trodAll_cons r0
 obtain ⟨rfl, rfl, rfl⟩ := trodAll_nil r1
 obtain rfl : args = #[v0, v1] := by cases args; simp_all
 obtain ⟨rfl, rfl⟩ := trodVars_none hV
 obtain ⟨ax, l, cx, rfl, hr⟩ := reads_rows.sliceArg Tryz.underlying22 (hval 0 22 v0 rfl rfl) h0
 obtain ⟨x1, rfl, rfl, rfl, hx1⟩ := open_int Tryz.underlying3 (hval 1 3 v1 rfl rfl) h1
 obtain ⟨fu, hfu⟩ := h0
 have hzz : ∀ q ∈ d0.weights Tryz.prog 22, q ≤ 140737488355328 := fun q hq => by
  have h9 := List.all_eq_true.1 hz q (by rw [Tryz.params3]; exact List.mem_append_left _ hq)
  have h8 := of_decide_eq_true h9
  unfold reachBytes at h8
  omega
 have hbb := weigh_rows Tryz.underlying22 Tryz.underlying23 (by kernel_rfl) (by kernel_rfl) hfu hr hzz
 have hq := jQ_laid (show laidMetH Tryz.prog Rows.journalRefusesRow.laid W from hL)
 refine (grows_spec x1 hbb hr hq).mono fun e W' ⟨v, he, hE, hv⟩ => ?_
 subst hv
 exact ⟨_, he, post_true journalGrows_laid (params_ok (by kernel_rfl)) rfl hW' hE rfl (by kernel_rfl) Tryz.underlying4⟩
theorem journalGrows_j1 : laidOutB Tryz.pinned.checked.prog = true := by kernel_rfl
theorem journalGrows_j2 : mapsRowed Tryz.pinned.checked.prog = true := by kernel_rfl
theorem journalGrows_j3 : (Rows.journalGrowsRow.inPlace == Tryz.pinned.checked.prog.inPlace 3) = true := by kernel_rfl
theorem journalGrows_j4 : (Rows.journalGrowsRow.unfollowed == Tryz.pinned.checked.prog.unfollowed 3) = true := by kernel_rfl
theorem journalGrows_j5 : (Rows.journalGrowsRow.recurses == Tryz.pinned.checked.prog.recurses 3) = true := by kernel_rfl
theorem journalGrows_j6 : (Rows.journalGrowsRow.named == Tryz.pinned.checked.prog.varsNamed 3) = true := by kernel_rfl
theorem journalGrows_closed : joinedFacts Tryz.pinned.checked.prog 3 Tryz.f3 (OpenSpec.ofChange Rows.journalGrowsSpec).bare Rows.journalGrowsRow = true := by
 unfold joinedFacts
 rw [journalGrows_j1, journalGrows_j2, journalGrows_j3, journalGrows_j4, journalGrows_j5, journalGrows_j6]
 kernel_rfl
theorem journalGrows_wit (os : Os) {H : Type} (enc : TypeId × Value → H) :
 (OpenSpec.ofChange Rows.journalGrowsSpec).preRow enc Tryz.prog Tryz.f3 Rows.journalGrowsRow.domain false Rows.journalGrowsRow.laid (laidMem os #[.slice none 0 0, .int .i64 0]) #[.slice none 0 0, .int .i64 0] := by
 have hw : (DataW.whole enc Tryz.prog (laidMem os #[.slice none 0 0, .int .i64 0]) Tryz.f3.params.toList Rows.journalGrowsSpec.vars false (#[.slice none 0 0, .int .i64 0] : Array Value).toList 8).map (fun x => (x.1, x.2.1)) =
  some ([.nil, .lit (.int .i64 0)], []) := by kernel_rfl
 obtain ⟨⟨x1, x2, x3⟩, hx, hx1⟩ := Option.map_eq_some_iff.1 hw
 simp only [Prod.mk.injEq] at hx1
 obtain ⟨rfl, rfl⟩ := hx1
 exact OpenSpec.preRow_of_cond 8 hx (by kernel_rfl) (fun k hk => by cases hk) (by kernel_rfl) (show laidMetH Tryz.prog Rows.journalGrowsRow.laid _ from laid_met0 os _)
set_option maxRecDepth 100000 in
theorem journalGrows_lifted (os : Os) (started : os.Started) (H : Type) (enc : TypeId × Value → H) (F : Stop.Interp) :
 ReturnsInHanded {} Tryz.checked os 3 .any ((OpenSpec.ofChange Rows.journalGrowsSpec).preRow enc Tryz.prog Tryz.f3 Rows.journalGrowsRow.domain false Rows.journalGrowsRow.laid) (((OpenSpec.ofChange Rows.journalGrowsSpec).at F).post enc Tryz.prog Tryz.f3 false true false false) := by
 refine returnsInHanded_of_row (C := Tryz.checked) (s := (OpenSpec.ofChange Rows.journalGrowsSpec)) journalGrows_own started (by kernel_rfl) Tryz.func3
  (witness_row_atRef (enc := enc) (C := Tryz.checked) false (laidWorld os) #[.slice none 0 0, .int .i64 0] rfl (by kernel_rfl) (by kernel_rfl) (by kernel_rfl) (journalGrows_wit os enc)) ?_
 intro W base args ds gs before hval hW _ hc hz hL _ _
 exact journalGrows_contract H enc W base args ds gs before hval hW hz hL
theorem journalGrows_holds : Rows.JournalGrowsSaid :=
 OpenClaim.holds_of_cond 3 Tryz.f3 rfl rfl rfl rfl rfl rfl rfl ⟨rfl, rfl, rfl, rfl, rfl⟩ rfl rfl rfl rfl rfl (by kernel_rfl) Tryz.func3 journalGrows_closed
  (of_decide_eq_true (by kernel_rfl)) (by unfold Func.isWrapper; rw [if_neg (by decide +kernel)]; exact ⟨rfl, rfl⟩)
  (fun os started H enc _ F => by rw [OpenClaim.pre_eq_preRow]; exact journalGrows_lifted os started H enc F)
end Go.Proofs.YtdnibpclkhenmaaGreatDoor
