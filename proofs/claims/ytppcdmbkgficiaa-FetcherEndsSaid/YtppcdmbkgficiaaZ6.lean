import Derived.Test.YtppcdmbkgficiaaF8
import Derived.Test.YtppcdmbkgficiaaBxReads
import Derived.ProofKit
import Derived.OpenShut
import Derived.JoinedCond
import Derived.WalkKit
namespace Go.Proofs.Ytppcdmbkgficiaa
open Go.BX Go.ChangeShapes Go.WideShapes Go.ChangeAt Go.RowKit

theorem fetcherEnds_own : ownKnob Try.prog.godebug = none := by kernel_rfl
theorem fetcherEnds_laid : laidOutB Try.prog = true := by kernel_rfl
theorem reads_bytes : Reads Try.prog 23 (Shape.slice (Shape.bv .u8 8)) := Reads.slice Try.underlying23 (by kernel_rfl) (Reads.bv8 Try.underlying5)
theorem wf_i64 {x : Int} (h : (Lit.int .i64 x).wf = true) : -9223372036854775808 ≤ x ∧ x ≤ 9223372036854775807 := by
  simp only [Lit.wf, Bool.and_eq_true, decide_eq_true_eq] at h
  exact h
theorem fends_spec {S : Nat → Prop} {w : World} {xs : List (BitVec 8)} {a : Option Addr} {c : Nat} (limit : Int) (hli : -9223372036854775808 ≤ limit ∧ limit ≤ 9223372036854775807) (h : (Shape.slice (Shape.bv .u8 8)).rep S w [.slice a xs.length c] xs) :
    Calls Try.prog 15 #[.slice a xs.length c, .int .i64 limit] w (Ret fun v w' => Ext w w' ∧ v = .bool true) := by
  by_cases hs : xs.length ≤ 2000
  · by_cases hb : 1 ≤ limit ∧ limit ≤ 100000
    · exact fends_ok limit hli h hs hb
    · exact fends_bad limit hli h hs hb
  · exact fends_big limit hli h hs

set_option maxRecDepth 100000 in
theorem fetcherEnds_contract (H : Type) (enc : TypeId × Value → H) (W : World) (base : Nat) (args : Array Value) (ds gs : List (DataW H)) (before : List MemPlace)
    (hval : ∀ (j : Nat) t v, Try.f15.params[j]? = some t → args[j]? = some v → Value.okWide Try.prog W .any base t v)
    (hW : DataW.Whole enc Try.prog Try.f15.params.toList Rows.fetcherEndsSpec.vars false W args.toList ds gs before) :
    Calls Try.prog 15 args W fun e W' => ∃ v, e = .returned v ∧ Rows.fetcherEndsSpec.post enc Try.prog Try.f15 false true false false W args v W' := by
  have hW' := hW
  obtain ⟨p, q, hA0, hV, rfl, -, -⟩ := hW
  have hA : DataW.TrodAll enc Try.prog W 0 (fun _ => true) true Try.f15.params.toList args.toList ds p := hA0
  rw [Try.params15] at hA hval
  obtain ⟨v0, vs0, d0, ds0, p0, q0, hargs, rfl, rfl, h0, r0⟩ := trodAll_cons hA
  obtain ⟨v1, vs1, d1, ds1, p1, q1, rfl, rfl, rfl, h1, r1⟩ := trodAll_cons r0
  obtain ⟨rfl, rfl, rfl⟩ := trodAll_nil r1
  obtain rfl : args = #[v0, v1] := by cases args; simp_all
  obtain ⟨rfl, rfl⟩ := trodVars_none hV
  obtain ⟨a, xs, c, rfl, ha⟩ := reads_bytes.sliceArg Try.underlying23 (hval 0 23 v0 rfl rfl) h0
  obtain ⟨lim, rfl, rfl, rfl, hlim⟩ := open_int Try.underlying3 (hval 1 3 v1 rfl rfl) h1
  refine (fends_spec lim (wf_i64 hlim) ha).mono fun e W' ⟨v, he, hE, hv⟩ => ?_
  subst hv
  exact ⟨_, he, post_true fetcherEnds_laid (params_ok (by kernel_rfl)) rfl hW' hE rfl (by kernel_rfl) Try.underlying4⟩

set_option maxRecDepth 100000 in
theorem fetcherEnds_lifted (os : Os) (started : os.Started) (H : Type) (enc : TypeId × Value → H) :
    ReturnsInHanded {} Try.checked os 15 .any (Rows.fetcherEndsSpec.pre6 enc Try.prog Try.f15 Rows.fetcherEndsRow.domain false) (Rows.fetcherEndsSpec.post enc Try.prog Try.f15 false true false false) := by
  refine returnsInHanded_of_change (C := Try.checked) fetcherEnds_own started (by kernel_rfl) Try.func15
    (ChangeSpec.witness6 (enc := enc) (C := Try.checked) false ⟨#[], #[.slice none 0 0, .int .i64 0], []⟩ 8 (by kernel_rfl) (by kernel_rfl) (by kernel_rfl) (by kernel_rfl)) ?_
  intro W base args ds gs before hval hW _ _
  exact fetcherEnds_contract H enc W base args ds gs before hval hW

theorem fetcherEnds_holds : Rows.FetcherEndsSaid :=
  OpenClaim.holds_of_wide 15 Try.f15 rfl rfl rfl rfl rfl rfl rfl ⟨rfl, rfl, rfl, rfl, rfl⟩ rfl rfl rfl rfl rfl (by kernel_rfl) Try.func15 (by kernel_rfl)
    (of_decide_eq_true (by kernel_rfl)) (by unfold Func.isWrapper; rw [if_neg (by decide +kernel)]; exact ⟨rfl, rfl⟩)
    (fun os started H enc _ => fetcherEnds_lifted os started H enc)

end Go.Proofs.Ytppcdmbkgficiaa
