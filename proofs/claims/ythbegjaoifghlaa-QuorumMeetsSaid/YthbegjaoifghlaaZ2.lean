import Derived.Test.YthbegjaoifghlaaQ7
import Derived.Test.YthbegjaoifghlaaBxBridge
import Derived.ProofKit
import Derived.OpenShut
import Derived.JoinedCond
import Derived.WalkKit
namespace Go.Proofs.Ythbegjaoifghlaa
open Go.BX Go.ChangeShapes Go.WideShapes Go.ChangeAt Go.RowKit

theorem quorumMeets_own : ownKnob Try.prog.godebug = none := by kernel_rfl
theorem quorumMeets_laid : laidOutB Try.prog = true := by kernel_rfl
theorem reads_ints : Reads Try.prog 22 (Shape.slice (Shape.int .i64)) := Reads.slice Try.underlying22 (by kernel_rfl) (Reads.int Try.underlying3)
theorem reads_conf : Reads Try.prog 24 confS :=
  (Reads.struct (sh := Shape.pair (Shape.slice (Shape.int .i64)) (Shape.slice (Shape.int .i64))) Try.underlying24 (by kernel_rfl) (.cons (by kernel_rfl) (by kernel_rfl) reads_ints (.one (by kernel_rfl) (by kernel_rfl) reads_ints))).map fun a => ⟨⟨a.1, a.2⟩, rfl⟩
theorem reads_cstep : Reads Try.prog 34 cstepS :=
  (Reads.struct (sh := Shape.pair (Shape.int .i64) (Shape.int .i64)) Try.underlying34 (by kernel_rfl) (.cons (by kernel_rfl) (by kernel_rfl) (Reads.int Try.underlying32) (.one (by kernel_rfl) (by kernel_rfl) (Reads.int Try.underlying3)))).map fun a => ⟨⟨a.1, a.2⟩, rfl⟩

set_option maxRecDepth 100000 in
theorem quorumMeets_contract (H : Type) (enc : TypeId × Value → H) (W : World) (base : Nat) (args : Array Value) (ds gs : List (DataW H)) (before : List MemPlace)
    (hval : ∀ (j : Nat) t v, Try.f5.params[j]? = some t → args[j]? = some v → Value.okWide Try.prog W .any base t v)
    (hW : DataW.Whole enc Try.prog Try.f5.params.toList Rows.quorumMeetsSpec.vars false W args.toList ds gs before) :
    Calls Try.prog 5 args W fun e W' => ∃ v, e = .returned v ∧ Rows.quorumMeetsSpec.post enc Try.prog Try.f5 false true false false W args v W' := by
  have hW' := hW
  obtain ⟨p, q, hA0, hV, rfl, -, -⟩ := hW
  have hA : DataW.TrodAll enc Try.prog W 0 (fun _ => true) true Try.f5.params.toList args.toList ds p := hA0
  rw [Try.params5] at hA hval
  obtain ⟨v0, vs0, d0, ds0, p0, q0, hargs, rfl, rfl, h0, r0⟩ := trodAll_cons hA
  obtain ⟨v1, vs1, d1, ds1, p1, q1, rfl, rfl, rfl, h1, r1⟩ := trodAll_cons r0
  obtain ⟨v2, vs2, d2, ds2, p2, q2, rfl, rfl, rfl, h2, r2⟩ := trodAll_cons r1
  obtain ⟨v3, vs3, d3, ds3, p3, q3, rfl, rfl, rfl, h3, r3⟩ := trodAll_cons r2
  obtain ⟨rfl, rfl, rfl⟩ := trodAll_nil r3
  obtain rfl : args = #[v0, v1, v2, v3] := by cases args; simp_all
  obtain ⟨rfl, rfl⟩ := trodVars_none hV
  obtain ⟨cs, C, rfl, hC⟩ := reads_conf.structArg Try.underlying24 (hval 0 24 v0 rfl rfl) h0
  obtain ⟨zs, Z, rfl, hZ⟩ := reads_cstep.structArg Try.underlying34 (hval 1 34 v1 rfl rfl) h1
  obtain ⟨a, xs, c, rfl, ha⟩ := reads_ints.sliceArg Try.underlying22 (hval 2 22 v2 rfl rfl) h2
  obtain ⟨b, ys, c2, rfl, hb⟩ := reads_ints.sliceArg Try.underlying22 (hval 3 22 v3 rfl rfl) h3
  refine (meetslaw_spec hC hZ ha hb).mono fun e W' ⟨v, he, hE, hv⟩ => ?_
  subst hv
  exact ⟨_, he, post_true quorumMeets_laid (params_ok (by kernel_rfl)) rfl hW' hE rfl (by kernel_rfl) Try.underlying4⟩

set_option maxRecDepth 100000 in
theorem quorumMeets_lifted (os : Os) (started : os.Started) (H : Type) (enc : TypeId × Value → H) :
    ReturnsInHanded {} Try.checked os 5 .any (Rows.quorumMeetsSpec.pre6 enc Try.prog Try.f5 Rows.quorumMeetsRow.domain false) (Rows.quorumMeetsSpec.post enc Try.prog Try.f5 false true false false) := by
  refine returnsInHanded_of_change (C := Try.checked) quorumMeets_own started (by kernel_rfl) Try.func5
    (ChangeSpec.witness6 (enc := enc) (C := Try.checked) false ⟨#[], #[.agg #[.slice none 0 0, .slice none 0 0], .agg #[.int .i64 0, .int .i64 0], .slice none 0 0, .slice none 0 0], []⟩ 8 (by kernel_rfl) (by kernel_rfl) (by kernel_rfl) (by kernel_rfl)) ?_
  intro W base args ds gs before hval hW _ _
  exact quorumMeets_contract H enc W base args ds gs before hval hW

theorem quorumMeets_holds : Rows.QuorumMeetsSaid :=
  OpenClaim.holds_of_wide 5 Try.f5 rfl rfl rfl rfl rfl rfl rfl ⟨rfl, rfl, rfl, rfl, rfl⟩ rfl rfl rfl rfl rfl (by kernel_rfl) Try.func5 (by kernel_rfl)
    (of_decide_eq_true (by kernel_rfl)) (by unfold Func.isWrapper; rw [if_neg (by decide +kernel)]; exact ⟨rfl, rfl⟩)
    (fun os started H enc _ => quorumMeets_lifted os started H enc)

end Go.Proofs.Ythbegjaoifghlaa
