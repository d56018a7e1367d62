import Derived.Test.YtekgjnblidjloaaN1
import Derived.Test.YtekgjnblidjloaaBxReads
import Derived.Test.YtekgjnblidjloaaBxBridge
import Derived.ProofKit
import Derived.OpenShut
import Derived.JoinedCond
import Derived.WalkKit
namespace Go.Proofs.Ytekgjnblidjloaa
open Go.BX Go.ChangeShapes Go.WideShapes Go.ChangeAt Go.RowKit

theorem diskNobody_own : ownKnob Try.prog.godebug = none := by kernel_rfl
theorem diskNobody_laid : laidOutB Try.prog = true := by kernel_rfl
theorem reads_bytes : Reads Try.prog 24 (Shape.slice (Shape.bv .u8 8)) := Reads.slice Try.underlying24 (by kernel_rfl) (Reads.bv8 Try.underlying5)
theorem reads_act : Reads Try.prog 40 actS := Reads.map (Reads.struct Try.underlying40 (by kernel_rfl) (.cons (by kernel_rfl) (by kernel_rfl) (Reads.int Try.underlying3) (.cons (by kernel_rfl) (by kernel_rfl) (Reads.str Try.underlying9) (.cons (by kernel_rfl) (by kernel_rfl) (Reads.str Try.underlying9) (.cons (by kernel_rfl) (by kernel_rfl) (Reads.int Try.underlying3) (.one (by kernel_rfl) (by kernel_rfl) reads_bytes)))))) fun a => ⟨⟨a.1, a.2.1, a.2.2.1, a.2.2.2.1, a.2.2.2.2⟩, rfl⟩


set_option maxRecDepth 100000 in
theorem diskNobody_contract (H : Type) (enc : TypeId × Value → H) (W : World) (base : Nat) (args : Array Value) (ds gs : List (DataW H)) (before : List MemPlace)
    (hval : ∀ (j : Nat) t v, Try.f6.params[j]? = some t → args[j]? = some v → Value.okWide Try.prog W .any base t v)
    (hW : DataW.Whole enc Try.prog Try.f6.params.toList Rows.diskNobodySpec.vars false W args.toList ds gs before) :
    Calls Try.prog 6 args W fun e W' => ∃ v, e = .returned v ∧ Rows.diskNobodySpec.post enc Try.prog Try.f6 false true false false W args v W' := by
  have hW' := hW
  obtain ⟨p, q, hA0, hV, rfl, -, -⟩ := hW
  have hA : DataW.TrodAll enc Try.prog W 0 (fun _ => true) true Try.f6.params.toList args.toList ds p := hA0
  rw [Try.params6] at hA hval
  obtain ⟨v0, vs0, d0, ds0, p0, q0, hargs, rfl, rfl, h0, r0⟩ := trodAll_cons hA
  obtain ⟨rfl, rfl, rfl⟩ := trodAll_nil r0
  obtain rfl : args = #[v0] := by cases args; simp_all
  obtain ⟨rfl, rfl⟩ := trodVars_none hV
  obtain ⟨cs, x, rfl, hx⟩ := reads_act.structArg Try.underlying40 (hval 0 40 v0 rfl rfl) h0
  refine (nobody_spec hx).mono fun e W' ⟨v, he, hE, hv⟩ => ?_
  subst hv
  exact ⟨_, he, post_true diskNobody_laid (params_ok (by kernel_rfl)) rfl hW' hE rfl (by kernel_rfl) Try.underlying4⟩

set_option maxRecDepth 100000 in
theorem diskNobody_lifted (os : Os) (started : os.Started) (H : Type) (enc : TypeId × Value → H) :
    ReturnsInHanded {} Try.checked os 6 .any (Rows.diskNobodySpec.pre6 enc Try.prog Try.f6 Rows.diskNobodyRow.domain false) (Rows.diskNobodySpec.post enc Try.prog Try.f6 false true false false) := by
  refine returnsInHanded_of_change (C := Try.checked) diskNobody_own started (by kernel_rfl) Try.func6
    (ChangeSpec.witness6 (enc := enc) (C := Try.checked) false ⟨#[], #[.agg #[.int .i64 0, .string (⟨#[]⟩ : ByteArray), .string (⟨#[]⟩ : ByteArray), .int .i64 0, .slice none 0 0]], []⟩ 8 (by kernel_rfl) (by kernel_rfl) (by kernel_rfl) (by kernel_rfl)) ?_
  intro W base args ds gs before hval hW _ _
  exact diskNobody_contract H enc W base args ds gs before hval hW

theorem diskNobody_holds : Rows.DiskNobodySaid :=
  OpenClaim.holds_of_wide 6 Try.f6 rfl rfl rfl rfl rfl rfl rfl ⟨rfl, rfl, rfl, rfl, rfl⟩ rfl rfl rfl rfl rfl (by kernel_rfl) Try.func6 (by kernel_rfl)
    (of_decide_eq_true (by kernel_rfl)) (by unfold Func.isWrapper; rw [if_neg (by decide +kernel)]; exact ⟨rfl, rfl⟩)
    (fun os started H enc _ => diskNobody_lifted os started H enc)

end Go.Proofs.Ytekgjnblidjloaa
