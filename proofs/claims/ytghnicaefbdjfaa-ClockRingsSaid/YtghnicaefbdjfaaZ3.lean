import Derived.Test.YtghnicaefbdjfaaE1
import Derived.Test.YtghnicaefbdjfaaBxBridge
import Derived.ProofKit
import Derived.OpenShut
import Derived.JoinedCond
import Derived.WalkKit
namespace Go.Proofs.Ytghnicaefbdjfaa
open Go.BX Go.ChangeShapes Go.WideShapes Go.ChangeAt Go.RowKit

theorem clockRings_own : ownKnob Try.prog.godebug = none := by kernel_rfl
theorem clockRings_laid : laidOutB Try.prog = true := by kernel_rfl
theorem reads_ints : Reads Try.prog 22 (Shape.slice (Shape.int .i64)) := Reads.slice Try.underlying22 (by kernel_rfl) (Reads.int Try.underlying3)
theorem rings_spec {S : Nat → Prop} {w : World} (ticks : Int) {xs : List Int} {a : Option Addr} {c : Nat} (h : (Shape.slice (Shape.int .i64)).rep S w [.slice a xs.length c] xs) :
    Calls Try.prog 4 #[.slice a xs.length c, .int .i64 ticks] w (Ret fun v w' => Ext w w' ∧ v = .bool true) := by
  by_cases hok : 100 < xs.length ∨ ticks < 0 ∨ 300 < ticks
  · exact rings_bad h hok
  · obtain ⟨m, rfl⟩ : ∃ m : Nat, ticks = (m : Int) := ⟨ticks.toNat, by omega⟩
    exact rings_ok h (by omega) (by omega)

set_option maxRecDepth 100000 in
theorem clockRings_contract (H : Type) (enc : TypeId × Value → H) (W : World) (base : Nat) (args : Array Value) (ds gs : List (DataW H)) (before : List MemPlace)
    (hval : ∀ (j : Nat) t v, Try.f4.params[j]? = some t → args[j]? = some v → Value.okWide Try.prog W .any base t v)
    (hW : DataW.Whole enc Try.prog Try.f4.params.toList Rows.clockRingsSpec.vars false W args.toList ds gs before) :
    Calls Try.prog 4 args W fun e W' => ∃ v, e = .returned v ∧ Rows.clockRingsSpec.post enc Try.prog Try.f4 false true false false W args v W' := by
  have hW' := hW
  obtain ⟨p, q, hA0, hV, rfl, -, -⟩ := hW
  have hA : DataW.TrodAll enc Try.prog W 0 (fun _ => true) true Try.f4.params.toList args.toList ds p := hA0
  rw [Try.params4] at hA hval
  obtain ⟨v0, vs0, d0, ds0, p0, q0, hargs, rfl, rfl, h0, r0⟩ := trodAll_cons hA
  obtain ⟨v1, vs1, d1, ds1, p1, q1, rfl, rfl, rfl, h1, r1⟩ := trodAll_cons r0
  obtain ⟨rfl, rfl, rfl⟩ := trodAll_nil r1
  obtain rfl : args = #[v0, v1] := by cases args; simp_all
  obtain ⟨rfl, rfl⟩ := trodVars_none hV
  obtain ⟨a, xs, c, rfl, ha⟩ := reads_ints.sliceArg Try.underlying22 (hval 0 22 v0 rfl rfl) h0
  obtain ⟨x1, rfl, rfl, rfl, hx1⟩ := open_int Try.underlying3 (hval 1 3 v1 rfl rfl) h1
  refine (rings_spec x1 ha).mono fun e W' ⟨v, he, hE, hv⟩ => ?_
  subst hv
  exact ⟨_, he, post_true clockRings_laid (params_ok (by kernel_rfl)) rfl hW' hE rfl (by kernel_rfl) Try.underlying4⟩

set_option maxRecDepth 100000 in
theorem clockRings_lifted (os : Os) (started : os.Started) (H : Type) (enc : TypeId × Value → H) :
    ReturnsInHanded {} Try.checked os 4 .any (Rows.clockRingsSpec.pre6 enc Try.prog Try.f4 Rows.clockRingsRow.domain false) (Rows.clockRingsSpec.post enc Try.prog Try.f4 false true false false) := by
  refine returnsInHanded_of_change (C := Try.checked) clockRings_own started (by kernel_rfl) Try.func4
    (ChangeSpec.witness6 (enc := enc) (C := Try.checked) false ⟨#[], #[.slice none 0 0, .int .i64 0], []⟩ 8 (by kernel_rfl) (by kernel_rfl) (by kernel_rfl) (by kernel_rfl)) ?_
  intro W base args ds gs before hval hW _ _
  exact clockRings_contract H enc W base args ds gs before hval hW

theorem clockRings_holds : Rows.ClockRingsSaid :=
  OpenClaim.holds_of_wide 4 Try.f4 rfl rfl rfl rfl rfl rfl rfl ⟨rfl, rfl, rfl, rfl, rfl⟩ rfl rfl rfl rfl rfl (by kernel_rfl) Try.func4 (by kernel_rfl)
    (of_decide_eq_true (by kernel_rfl)) (by unfold Func.isWrapper; rw [if_neg (by decide +kernel)]; exact ⟨rfl, rfl⟩)
    (fun os started H enc _ => clockRings_lifted os started H enc)

end Go.Proofs.Ytghnicaefbdjfaa
