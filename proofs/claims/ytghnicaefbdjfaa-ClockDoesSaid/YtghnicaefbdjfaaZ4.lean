import Derived.Test.YtghnicaefbdjfaaF6
import Derived.Test.YtghnicaefbdjfaaBxBridge
import Derived.ProofKit
import Derived.OpenShut
import Derived.JoinedCond
import Derived.WalkKit
namespace Go.Proofs.Ytghnicaefbdjfaa
open Go.BX Go.ChangeShapes Go.WideShapes Go.ChangeAt Go.RowKit

theorem clockDoes_own : ownKnob Try.prog.godebug = none := by kernel_rfl
theorem clockDoes_laid : laidOutB Try.prog = true := by kernel_rfl
theorem reads_act : Reads Try.prog 40 (Shape.pair (Shape.int .i64) (Shape.pair (Shape.int .i64) (Shape.pair (Shape.int .i64) (Shape.int .i64)))) := Reads.struct Try.underlying40 (by kernel_rfl) (.cons (by kernel_rfl) (by kernel_rfl) (Reads.int Try.underlying3) (.cons (by kernel_rfl) (by kernel_rfl) (Reads.int Try.underlying3) (.cons (by kernel_rfl) (by kernel_rfl) (Reads.int Try.underlying3) (.one (by kernel_rfl) (by kernel_rfl) (Reads.int Try.underlying3)))))
theorem reads_acts : Reads Try.prog 35 (Shape.slice actS) := Reads.slice Try.underlying35 (by kernel_rfl) (Reads.map reads_act fun a => ⟨⟨a.1, a.2.1, a.2.2.1, a.2.2.2⟩, rfl⟩)
theorem does_spec {S : Nat → Prop} {w : World} (nodes num den slack : Int) {xs : List Act} {a : Option Addr} {c : Nat} (h : (Shape.slice actS).rep S w [.slice a xs.length c] xs) :
    Calls Try.prog 5 #[.int .i64 nodes, .int .i64 num, .int .i64 den, .int .i64 slack, .slice a xs.length c] w (Ret fun v w' => Ext w w' ∧ v = .bool true) := by
  by_cases hok : 1 ≤ nodes ∧ nodes ≤ 32 ∧ 1 ≤ den ∧ den ≤ num ∧ num ≤ 1000 ∧ 0 ≤ slack ∧ slack ≤ 1000
  · obtain ⟨h1, h2, h3, h4, h5, h6, h7⟩ := hok
    obtain ⟨n, rfl⟩ : ∃ n : Nat, nodes = (n : Int) := ⟨nodes.toNat, by omega⟩
    exact does_ok ⟨by omega, by omega⟩ h3 ⟨h4, h5⟩ ⟨h6, h7⟩ h
  · exact does_bad nodes num den slack hok h

set_option maxRecDepth 100000 in
theorem clockDoes_contract (H : Type) (enc : TypeId × Value → H) (W : World) (base : Nat) (args : Array Value) (ds gs : List (DataW H)) (before : List MemPlace)
    (hval : ∀ (j : Nat) t v, Try.f5.params[j]? = some t → args[j]? = some v → Value.okWide Try.prog W .any base t v)
    (hW : DataW.Whole enc Try.prog Try.f5.params.toList Rows.clockDoesSpec.vars false W args.toList ds gs before) :
    Calls Try.prog 5 args W fun e W' => ∃ v, e = .returned v ∧ Rows.clockDoesSpec.post enc Try.prog Try.f5 false true false false W args v W' := by
  have hW' := hW
  obtain ⟨p, q, hA0, hV, rfl, -, -⟩ := hW
  have hA : DataW.TrodAll enc Try.prog W 0 (fun _ => true) true Try.f5.params.toList args.toList ds p := hA0
  rw [Try.params5] at hA hval
  obtain ⟨v0, vs0, d0, ds0, p0, q0, hargs, rfl, rfl, h0, r0⟩ := trodAll_cons hA
  obtain ⟨v1, vs1, d1, ds1, p1, q1, rfl, rfl, rfl, h1, r1⟩ := trodAll_cons r0
  obtain ⟨v2, vs2, d2, ds2, p2, q2, rfl, rfl, rfl, h2, r2⟩ := trodAll_cons r1
  obtain ⟨v3, vs3, d3, ds3, p3, q3, rfl, rfl, rfl, h3, r3⟩ := trodAll_cons r2
  obtain ⟨v4, vs4, d4, ds4, p4, q4, rfl, rfl, rfl, h4, r4⟩ := trodAll_cons r3
  obtain ⟨rfl, rfl, rfl⟩ := trodAll_nil r4
  obtain rfl : args = #[v0, v1, v2, v3, v4] := by cases args; simp_all
  obtain ⟨rfl, rfl⟩ := trodVars_none hV
  obtain ⟨x1, rfl, rfl, rfl, hx1⟩ := open_int Try.underlying3 (hval 0 3 v0 rfl rfl) h0
  obtain ⟨x2, rfl, rfl, rfl, hx2⟩ := open_int Try.underlying3 (hval 1 3 v1 rfl rfl) h1
  obtain ⟨x3, rfl, rfl, rfl, hx3⟩ := open_int Try.underlying3 (hval 2 3 v2 rfl rfl) h2
  obtain ⟨x4, rfl, rfl, rfl, hx4⟩ := open_int Try.underlying3 (hval 3 3 v3 rfl rfl) h3
  obtain ⟨a, xs, c, rfl, ha⟩ := reads_acts.sliceArg Try.underlying35 (hval 4 35 v4 rfl rfl) h4
  refine (does_spec x1 x2 x3 x4 ha).mono fun e W' ⟨v, he, hE, hv⟩ => ?_
  subst hv
  exact ⟨_, he, post_true clockDoes_laid (params_ok (by kernel_rfl)) rfl hW' hE rfl (by kernel_rfl) Try.underlying4⟩

set_option maxRecDepth 100000 in
theorem clockDoes_lifted (os : Os) (started : os.Started) (H : Type) (enc : TypeId × Value → H) :
    ReturnsInHanded {} Try.checked os 5 .any (Rows.clockDoesSpec.pre6 enc Try.prog Try.f5 Rows.clockDoesRow.domain false) (Rows.clockDoesSpec.post enc Try.prog Try.f5 false true false false) := by
  refine returnsInHanded_of_change (C := Try.checked) clockDoes_own started (by kernel_rfl) Try.func5
    (ChangeSpec.witness6 (enc := enc) (C := Try.checked) false ⟨#[], #[.int .i64 0, .int .i64 0, .int .i64 0, .int .i64 0, .slice none 0 0], []⟩ 8 (by kernel_rfl) (by kernel_rfl) (by kernel_rfl) (by kernel_rfl)) ?_
  intro W base args ds gs before hval hW _ _
  exact clockDoes_contract H enc W base args ds gs before hval hW

theorem clockDoes_holds : Rows.ClockDoesSaid :=
  OpenClaim.holds_of_wide 5 Try.f5 rfl rfl rfl rfl rfl rfl rfl ⟨rfl, rfl, rfl, rfl, rfl⟩ rfl rfl rfl rfl rfl (by kernel_rfl) Try.func5 (by kernel_rfl)
    (of_decide_eq_true (by kernel_rfl)) (by unfold Func.isWrapper; rw [if_neg (by decide +kernel)]; exact ⟨rfl, rfl⟩)
    (fun os started H enc _ => clockDoes_lifted os started H enc)

end Go.Proofs.Ytghnicaefbdjfaa
