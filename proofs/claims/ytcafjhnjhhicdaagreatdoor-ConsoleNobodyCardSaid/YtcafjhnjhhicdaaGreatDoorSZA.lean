import Derived.Test.YtcafjhnjhhicdaaGreatDoorSK6
import Derived.Test.YtcafjhnjhhicdaaGreatDoorSBxA
import Derived.Test.YtcafjhnjhhicdaaGreatDoorSL4
import Derived.ProofKit
import Derived.OpenShut
import Derived.JoinedCond
import Derived.WalkKit
import Derived.ChangeMaps5
namespace Go.Proofs.YtcafjhnjhhicdaaGreatDoor
open Go.BX Go.ChangeShapes Go.WideShapes Go.ChangeAt Go.RowKit
theorem consoleNobody_own : ownKnob Tryz.prog.godebug = none := by kernel_rfl
theorem consoleNobody_laid : laidOutB Tryz.prog = true := by kernel_rfl
set_option maxRecDepth 100000 in
theorem consoleNobody_contract (H : Type) (enc : TypeId × Value → H) (W : World) (base : Nat) (args : Array Value) (ds gs : List (DataW H)) (before : List MemPlace)
 (hval : ∀ (j : Nat) t v, Tryz.f5.params[j]? = some t → args[j]? = some v → Value.okWide Tryz.prog W .any base t v)
 (hW : DataW.Whole enc Tryz.prog Tryz.f5.params.toList Rows.consoleNobodySpec.vars false W args.toList ds gs before) (hL : laidMetH Tryz.prog Rows.consoleNobodyRow.laid W) (hsh : W.ShapedOpen Tryz.prog) :
 Calls Tryz.prog 5 args W fun e W' => ∃ v, e = .returned v ∧ Rows.consoleNobodySpec.post enc Tryz.prog Tryz.f5 false true false false W args v W' := by
 have hW' := hW
 obtain ⟨p, q, hA0, hV, rfl, -, -⟩ := hW
 have hA : DataW.TrodAll enc Tryz.prog W 0 (fun _ => true) true Tryz.f5.params.toList args.toList ds p := hA0
 rw [Tryz.params5] at hA hval
 obtain ⟨v0, vs0, d0, ds0, p0, q0, hargs, rfl, rfl, h0, r0⟩ := trodAll_cons hA
 obtain ⟨rfl, rfl, rfl⟩ := trodAll_nil r0
 obtain rfl : args = #[v0] := by cases args; simp_all
 obtain ⟨rfl, rfl⟩ := trodVars_none hV
 obtain ⟨x, rfl, rfl, rfl, hx⟩ := Go.ChangeMaps.open_string Tryz.underlying9 (hval 0 9 v0 rfl rfl) h0
 have hq := cQ_laid (show laidMetH Tryz.prog Rows.consoleNobodyRow.laid W from hL) hsh
 refine (nobody_spec (s := x) hq).mono fun e W' ⟨v, he, hE, hv⟩ => ?_
 subst hv
 exact ⟨_, he, post_true consoleNobody_laid (params_ok (by kernel_rfl)) rfl hW' hE rfl (by kernel_rfl) Tryz.underlying4⟩
theorem consoleNobody_j1 : laidOutB Tryz.pinned.checked.prog = true := by kernel_rfl
theorem consoleNobody_j2 : mapsRowed Tryz.pinned.checked.prog = true := by kernel_rfl
theorem consoleNobody_j3 : (Rows.consoleNobodyRow.inPlace == Tryz.pinned.checked.prog.inPlace 5) = true := by kernel_rfl
theorem consoleNobody_j4 : (Rows.consoleNobodyRow.unfollowed == Tryz.pinned.checked.prog.unfollowed 5) = true := by kernel_rfl
theorem consoleNobody_j5 : (Rows.consoleNobodyRow.recurses == Tryz.pinned.checked.prog.recurses 5) = true := by kernel_rfl
theorem consoleNobody_j6 : (Rows.consoleNobodyRow.named == Tryz.pinned.checked.prog.varsNamed 5) = true := by kernel_rfl
theorem consoleNobody_closed : joinedFacts Tryz.pinned.checked.prog 5 Tryz.f5 (OpenSpec.ofChange Rows.consoleNobodySpec).bare Rows.consoleNobodyRow = true := by
 unfold joinedFacts
 rw [consoleNobody_j1, consoleNobody_j2, consoleNobody_j3, consoleNobody_j4, consoleNobody_j5, consoleNobody_j6]
 kernel_rfl
theorem consoleNobody_wit (os : Os) {H : Type} (enc : TypeId × Value → H) :
 (OpenSpec.ofChange Rows.consoleNobodySpec).preRow enc Tryz.prog Tryz.f5 Rows.consoleNobodyRow.domain false Rows.consoleNobodyRow.laid (laidMem os #[.string ⟨#[]⟩]) #[.string ⟨#[]⟩] := by
 have hw : (DataW.whole enc Tryz.prog (laidMem os #[.string ⟨#[]⟩]) Tryz.f5.params.toList Rows.consoleNobodySpec.vars false (#[.string ⟨#[]⟩] : Array Value).toList 8).map (fun x => (x.1, x.2.1)) =
  some ([.lit (.string [])], []) := by kernel_rfl
 obtain ⟨⟨x1, x2, x3⟩, hx, hx1⟩ := Option.map_eq_some_iff.1 hw
 simp only [Prod.mk.injEq] at hx1
 obtain ⟨rfl, rfl⟩ := hx1
 exact OpenSpec.preRow_of_cond 8 hx (by kernel_rfl) (fun k hk => by cases hk) (by kernel_rfl) (show laidMetH Tryz.prog Rows.consoleNobodyRow.laid _ from laid_met0 os _)
set_option maxRecDepth 100000 in
theorem consoleNobody_lifted (os : Os) (started : os.Started) (H : Type) (enc : TypeId × Value → H) (F : Stop.Interp) :
 ReturnsInHanded {} Tryz.checked os 5 .any ((OpenSpec.ofChange Rows.consoleNobodySpec).preRow enc Tryz.prog Tryz.f5 Rows.consoleNobodyRow.domain false Rows.consoleNobodyRow.laid) (((OpenSpec.ofChange Rows.consoleNobodySpec).at F).post enc Tryz.prog Tryz.f5 false true false false) := by
 refine returnsInHanded_of_row (C := Tryz.checked) (s := (OpenSpec.ofChange Rows.consoleNobodySpec)) consoleNobody_own started (by kernel_rfl) Tryz.func5
  (witness_row_atRef (enc := enc) (C := Tryz.checked) false (laidWorld os) #[.string ⟨#[]⟩] rfl (by kernel_rfl) (by kernel_rfl) (by kernel_rfl) (consoleNobody_wit os enc)) ?_
 intro W base args ds gs before hval hW _ hc hz hL hsh _
 exact consoleNobody_contract H enc W base args ds gs before hval hW hL hsh
theorem consoleNobody_holds : Rows.ConsoleNobodySaid :=
 OpenClaim.holds_of_cond 5 Tryz.f5 rfl rfl rfl rfl rfl rfl rfl ⟨rfl, rfl, rfl, rfl, rfl⟩ rfl rfl rfl rfl rfl (by kernel_rfl) Tryz.func5 consoleNobody_closed
  (of_decide_eq_true (by kernel_rfl)) (by unfold Func.isWrapper; rw [if_neg (by decide +kernel)]; exact ⟨rfl, rfl⟩)
  (fun os started H enc _ F => by rw [OpenClaim.pre_eq_preRow]; exact consoleNobody_lifted os started H enc F)
end Go.Proofs.YtcafjhnjhhicdaaGreatDoor
