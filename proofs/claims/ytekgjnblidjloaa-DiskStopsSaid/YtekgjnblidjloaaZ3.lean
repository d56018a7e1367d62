import Derived.Test.YtekgjnblidjloaaS1
import Derived.Test.YtekgjnblidjloaaBxReads
import Derived.Test.YtekgjnblidjloaaBxBridge
import Derived.ProofKit
import Derived.OpenShut
import Derived.JoinedCond
import Derived.WalkKit
namespace Go.Proofs.Ytekgjnblidjloaa
open Go.BX Go.ChangeShapes Go.WideShapes Go.ChangeAt Go.RowKit

theorem diskStops_own : ownKnob Try.prog.godebug = none := by kernel_rfl
theorem diskStops_laid : laidOutB Try.prog = true := by kernel_rfl
theorem reads_bytes : Reads Try.prog 24 (Shape.slice (Shape.bv .u8 8)) := Reads.slice Try.underlying24 (by kernel_rfl) (Reads.bv8 Try.underlying5)
theorem reads_act : Reads Try.prog 40 actS := Reads.map (Reads.struct Try.underlying40 (by kernel_rfl) (.cons (by kernel_rfl) (by kernel_rfl) (Reads.int Try.underlying3) (.cons (by kernel_rfl) (by kernel_rfl) (Reads.str Try.underlying9) (.cons (by kernel_rfl) (by kernel_rfl) (Reads.str Try.underlying9) (.cons (by kernel_rfl) (by kernel_rfl) (Reads.int Try.underlying3) (.one (by kernel_rfl) (by kernel_rfl) reads_bytes)))))) fun a => ⟨⟨a.1, a.2.1, a.2.2.1, a.2.2.2.1, a.2.2.2.2⟩, rfl⟩
theorem reads_acts : Reads Try.prog 38 (Shape.slice actS) := Reads.slice Try.underlying38 (by kernel_rfl) reads_act


set_option maxRecDepth 100000 in
theorem diskStops_contract (H : Type) (enc : TypeId × Value → H) (W : World) (base : Nat) (args : Array Value) (ds gs : List (DataW H)) (before : List MemPlace)
    (hval : ∀ (j : Nat) t v, Try.f5.params[j]? = some t → args[j]? = some v → Value.okWide Try.prog W .any base t v)
    (hW : DataW.Whole enc Try.prog Try.f5.params.toList Rows.diskStopsSpec.vars false W args.toList ds gs before) :
    Calls Try.prog 5 args W fun e W' => ∃ v, e = .returned v ∧ Rows.diskStopsSpec.post enc Try.prog Try.f5 false true false false W args v W' := by
  have hW' := hW
  obtain ⟨p, q, hA0, hV, rfl, -, -⟩ := hW
  have hA : DataW.TrodAll enc Try.prog W 0 (fun _ => true) true Try.f5.params.toList args.toList ds p := hA0
  rw [Try.params5] at hA hval
  obtain ⟨v0, vs0, d0, ds0, p0, q0, hargs, rfl, rfl, h0, r0⟩ := trodAll_cons hA
  obtain ⟨v1, vs1, d1, ds1, p1, q1, rfl, rfl, rfl, h1, r1⟩ := trodAll_cons r0
  obtain ⟨rfl, rfl, rfl⟩ := trodAll_nil r1
  obtain rfl : args = #[v0, v1] := by cases args; simp_all
  obtain ⟨rfl, rfl⟩ := trodVars_none hV
  obtain ⟨b, ls, d, rfl, hb⟩ := reads_acts.sliceArg Try.underlying38 (hval 0 38 v0 rfl rfl) h0
  obtain ⟨x1, rfl, rfl, rfl, hx1⟩ := open_int Try.underlying3 (hval 1 3 v1 rfl rfl) h1
  refine (stops_spec x1 hb).mono fun e W' ⟨v, he, hE, hv⟩ => ?_
  subst hv
  exact ⟨_, he, post_true diskStops_laid (params_ok (by kernel_rfl)) rfl hW' hE rfl (by kernel_rfl) Try.underlying4⟩

set_option maxRecDepth 100000 in
theorem diskStops_lifted (os : Os) (started : os.Started) (H : Type) (enc : TypeId × Value → H) :
    ReturnsInHanded {} Try.checked os 5 .any (Rows.diskStopsSpec.pre6 enc Try.prog Try.f5 Rows.diskStopsRow.domain false) (Rows.diskStopsSpec.post enc Try.prog Try.f5 false true false false) := by
  refine returnsInHanded_of_change (C := Try.checked) diskStops_own started (by kernel_rfl) Try.func5
    (ChangeSpec.witness6 (enc := enc) (C := Try.checked) false ⟨#[], #[.slice none 0 0, .int .i64 0], []⟩ 8 (by kernel_rfl) (by kernel_rfl) (by kernel_rfl) (by kernel_rfl)) ?_
  intro W base args ds gs before hval hW _ _
  exact diskStops_contract H enc W base args ds gs before hval hW

theorem diskStops_holds : Rows.DiskStopsSaid :=
  OpenClaim.holds_of_wide 5 Try.f5 rfl rfl rfl rfl rfl rfl rfl ⟨rfl, rfl, rfl, rfl, rfl⟩ rfl rfl rfl rfl rfl (by kernel_rfl) Try.func5 (by kernel_rfl)
    (of_decide_eq_true (by kernel_rfl)) (by unfold Func.isWrapper; rw [if_neg (by decide +kernel)]; exact ⟨rfl, rfl⟩)
    (fun os started H enc _ => diskStops_lifted os started H enc)

end Go.Proofs.Ytekgjnblidjloaa
