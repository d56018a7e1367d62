import Derived.Test.YthbegjaoifghlaaQ6
import Derived.Test.YthbegjaoifghlaaBxBridge
import Derived.ProofKit
import Derived.OpenShut
import Derived.JoinedCond
import Derived.WalkKit
namespace Go.Proofs.Ythbegjaoifghlaa
open Go.BX Go.ChangeShapes Go.WideShapes Go.ChangeAt Go.RowKit

theorem quorumPairs_own : ownKnob Try.prog.godebug = none := by kernel_rfl
theorem quorumPairs_laid : laidOutB Try.prog = true := by kernel_rfl
theorem reads_ints : Reads Try.prog 22 (Shape.slice (Shape.int .i64)) := Reads.slice Try.underlying22 (by kernel_rfl) (Reads.int Try.underlying3)
theorem reads_conf : Reads Try.prog 24 confS :=
  (Reads.struct (sh := Shape.pair (Shape.slice (Shape.int .i64)) (Shape.slice (Shape.int .i64))) Try.underlying24 (by kernel_rfl) (.cons (by kernel_rfl) (by kernel_rfl) reads_ints (.one (by kernel_rfl) (by kernel_rfl) reads_ints))).map fun a => ⟨⟨a.1, a.2⟩, rfl⟩

set_option maxRecDepth 100000 in
theorem quorumPairs_contract (H : Type) (enc : TypeId × Value → H) (W : World) (base : Nat) (args : Array Value) (ds gs : List (DataW H)) (before : List MemPlace)
    (hval : ∀ (j : Nat) t v, Try.f3.params[j]? = some t → args[j]? = some v → Value.okWide Try.prog W .any base t v)
    (hW : DataW.Whole enc Try.prog Try.f3.params.toList Rows.quorumPairsSpec.vars false W args.toList ds gs before) :
    Calls Try.prog 3 args W fun e W' => ∃ v, e = .returned v ∧ Rows.quorumPairsSpec.post enc Try.prog Try.f3 false true false false W args v W' := by
  have hW' := hW
  obtain ⟨p, q, hA0, hV, rfl, -, -⟩ := hW
  have hA : DataW.TrodAll enc Try.prog W 0 (fun _ => true) true Try.f3.params.toList args.toList ds p := hA0
  rw [Try.params3] at hA hval
  obtain ⟨v0, vs0, d0, ds0, p0, q0, hargs, rfl, rfl, h0, r0⟩ := trodAll_cons hA
  obtain ⟨v1, vs1, d1, ds1, p1, q1, rfl, rfl, rfl, h1, r1⟩ := trodAll_cons r0
  obtain ⟨v2, vs2, d2, ds2, p2, q2, rfl, rfl, rfl, h2, r2⟩ := trodAll_cons r1
  obtain ⟨rfl, rfl, rfl⟩ := trodAll_nil r2
  obtain rfl : args = #[v0, v1, v2] := by cases args; simp_all
  obtain ⟨rfl, rfl⟩ := trodVars_none hV
  obtain ⟨cs, C, rfl, hC⟩ := reads_conf.structArg Try.underlying24 (hval 0 24 v0 rfl rfl) h0
  obtain ⟨a, xs, c, rfl, ha⟩ := reads_ints.sliceArg Try.underlying22 (hval 1 22 v1 rfl rfl) h1
  obtain ⟨b, ys, c2, rfl, hb⟩ := reads_ints.sliceArg Try.underlying22 (hval 2 22 v2 rfl rfl) h2
  refine (pairs_spec hC ha hb).mono fun e W' ⟨v, he, hE, hv⟩ => ?_
  subst hv
  exact ⟨_, he, post_true quorumPairs_laid (params_ok (by kernel_rfl)) rfl hW' hE rfl (by kernel_rfl) Try.underlying4⟩

set_option maxRecDepth 100000 in
theorem quorumPairs_lifted (os : Os) (started : os.Started) (H : Type) (enc : TypeId × Value → H) :
    ReturnsInHanded {} Try.checked os 3 .any (Rows.quorumPairsSpec.pre6 enc Try.prog Try.f3 Rows.quorumPairsRow.domain false) (Rows.quorumPairsSpec.post enc Try.prog Try.f3 false true false false) := by
  refine returnsInHanded_of_change (C := Try.checked) quorumPairs_own started (by kernel_rfl) Try.func3
    (ChangeSpec.witness6 (enc := enc) (C := Try.checked) false ⟨#[], #[.agg #[.slice none 0 0, .slice none 0 0], .slice none 0 0, .slice none 0 0], []⟩ 8 (by kernel_rfl) (by kernel_rfl) (by kernel_rfl) (by kernel_rfl)) ?_
  intro W base args ds gs before hval hW _ _
  exact quorumPairs_contract H enc W base args ds gs before hval hW

theorem quorumPairs_holds : Rows.QuorumPairsSaid :=
  OpenClaim.holds_of_wide 3 Try.f3 rfl rfl rfl rfl rfl rfl rfl ⟨rfl, rfl, rfl, rfl, rfl⟩ rfl rfl rfl rfl rfl (by kernel_rfl) Try.func3 (by kernel_rfl)
    (of_decide_eq_true (by kernel_rfl)) (by unfold Func.isWrapper; rw [if_neg (by decide +kernel)]; exact ⟨rfl, rfl⟩)
    (fun os started H enc _ => quorumPairs_lifted os started H enc)

end Go.Proofs.Ythbegjaoifghlaa
