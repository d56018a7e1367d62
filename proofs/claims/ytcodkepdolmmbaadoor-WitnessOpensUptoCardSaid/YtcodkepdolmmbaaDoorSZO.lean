import Derived.Test.YtcodkepdolmmbaaDoorSWD
import Derived.Test.YtcodkepdolmmbaaDoorSL4
import Derived.Test.YtcodkepdolmmbaaDoorSZR
import Derived.ProofKit
import Derived.OpenShut
import Derived.JoinedCond
import Derived.WalkKit
namespace Go.Proofs.YtcodkepdolmmbaaDoor
open Go.BX Go.ChangeShapes Go.WideShapes Go.ChangeAt Go.RowKit
theorem witnessOpens_own : ownKnob Tryd.prog.godebug = none := by kernel_rfl
theorem witnessOpens_laid : laidOutB Tryd.prog = true := by kernel_rfl
set_option maxRecDepth 100000 in
theorem witnessOpens_contract (H : Type) (enc : TypeId × Value → H) (W : World) (base : Nat) (args : Array Value) (ds gs : List (DataW H)) (before : List MemPlace)
 (hval : ∀ (j : Nat) t v, Tryd.f3.params[j]? = some t → args[j]? = some v → Value.okWide Tryd.prog W .any base t v)
 (hW : DataW.Whole enc Tryd.prog Tryd.f3.params.toList Rows.witnessOpensSpec.vars false W args.toList ds gs before) (hk : Rows.uptoSmall H (ds ++ gs) = true) (hL : laidMetH Tryd.prog Rows.witnessOpensUptoRow.laid W) :
 Calls Tryd.prog 3 args W fun e W' => ∃ v, e = .returned v ∧ Rows.witnessOpensSpec.post enc Tryd.prog Tryd.f3 false true false false W args v W' := by
 have hW' := hW
 obtain ⟨p, q, hA0, hV, rfl, -, -⟩ := hW
 have hA : DataW.TrodAll enc Tryd.prog W 0 (fun _ => true) true Tryd.f3.params.toList args.toList ds p := hA0
 rw [Tryd.params3] at hA hval
 obtain ⟨v0, vs0, d0, ds0, p0, q0, hargs, rfl, rfl, h0, r0⟩ := trodAll_cons hA
 obtain ⟨v1, vs1, d1, ds1, p1, q1, rfl, rfl, rfl, h1, r1⟩ := trodAll_cons r0
 obtain ⟨rfl, rfl, rfl⟩ := trodAll_nil r1
 obtain rfl : args = #[v0, v1] := by cases args; simp_all
 obtain ⟨rfl, rfl⟩ := trodVars_none hV
 obtain ⟨a1, hs, c1, rfl, hR⟩ := reads_t22.sliceArg Tryd.underlying22 (hval 0 22 v0 rfl rfl) h0
 obtain ⟨x1, rfl, rfl, rfl, hx1⟩ := open_int Tryd.underlying3 (hval 1 3 v1 rfl rfl) h1
 have hk1 : Rows.uptoBulk d0 ≤ 1048576 := by
  have hk2 : Rows.uptoBulkAll ([d0, .lit (.int .i64 x1)] : List (DataW H)) ≤ 1048576 := of_decide_eq_true hk
  have := bk.cons d0 ([.lit (.int .i64 x1)] : List (DataW H))
  change Rows.uptoBulkAll _ = Rows.uptoBulk d0 + _ at this
  omega
 have hq := tabsQ_laid (show laidMet Tryd.prog Rows.witnessFewerUptoRow.laid W from hL)
 obtain ⟨hsz, hhb⟩ := wop_szH hR h0 hk1
 refine (opens_spec hR x1 hhb hsz hq).mono fun e W' ⟨v, he, hE, hv⟩ => ?_
 subst hv
 exact ⟨_, he, post_true witnessOpens_laid (params_ok (by kernel_rfl)) rfl hW' hE rfl (by kernel_rfl) Tryd.underlying4⟩
theorem witnessOpens_j1 : laidOutB Tryd.pinned.checked.prog = true := by kernel_rfl
theorem witnessOpens_j2 : mapsRowed Tryd.pinned.checked.prog = true := by kernel_rfl
theorem witnessOpens_j3 : (Rows.witnessOpensUptoRow.inPlace == Tryd.pinned.checked.prog.inPlace 3) = true := by kernel_rfl
theorem witnessOpens_j4 : (Rows.witnessOpensUptoRow.unfollowed == Tryd.pinned.checked.prog.unfollowed 3) = true := by kernel_rfl
theorem witnessOpens_j5 : (Rows.witnessOpensUptoRow.recurses == Tryd.pinned.checked.prog.recurses 3) = true := by kernel_rfl
theorem witnessOpens_j6 : (Rows.witnessOpensUptoRow.named == Tryd.pinned.checked.prog.varsNamed 3) = true := by kernel_rfl
theorem witnessOpens_closed : joinedFacts Tryd.pinned.checked.prog 3 Tryd.f3 (Rows.OpenSpec.upto Rows.witnessOpensSpec).bare Rows.witnessOpensUptoRow = true := by
 unfold joinedFacts
 rw [witnessOpens_j1, witnessOpens_j2, witnessOpens_j3, witnessOpens_j4, witnessOpens_j5, witnessOpens_j6]
 kernel_rfl
theorem witnessOpens_wit (os : Os) {H : Type} (enc : TypeId × Value → H) :
 (Rows.OpenSpec.upto Rows.witnessOpensSpec).preRow enc Tryd.prog Tryd.f3 Rows.witnessOpensUptoRow.domain false Rows.witnessOpensUptoRow.laid (laidMem os #[.slice none 0 0, .int .i64 0]) #[.slice none 0 0, .int .i64 0] := by
 have hw : (DataW.whole enc Tryd.prog (laidMem os #[.slice none 0 0, .int .i64 0]) Tryd.f3.params.toList Rows.witnessOpensSpec.vars false (#[.slice none 0 0, .int .i64 0] : Array Value).toList 8).map (fun x => (x.1, x.2.1)) =
  some ([.nil, .lit (.int .i64 0)], []) := by kernel_rfl
 obtain ⟨⟨x1, x2, x3⟩, hx, hx1⟩ := Option.map_eq_some_iff.1 hw
 simp only [Prod.mk.injEq] at hx1
 obtain ⟨rfl, rfl⟩ := hx1
 exact OpenSpec.preRow_of_cond 8 hx (by kernel_rfl) (fun k hk => by cases hk; kernel_rfl) (by kernel_rfl) (show laidMet Tryd.prog Rows.witnessOpensUptoRow.laid _ from laid_met0 os _)
set_option maxRecDepth 100000 in
theorem witnessOpens_lifted (os : Os) (started : os.Started) (H : Type) (enc : TypeId × Value → H) (F : Stop.Interp) :
 ReturnsInHanded {} Tryd.checked os 3 .any ((Rows.OpenSpec.upto Rows.witnessOpensSpec).preRow enc Tryd.prog Tryd.f3 Rows.witnessOpensUptoRow.domain false Rows.witnessOpensUptoRow.laid) (((Rows.OpenSpec.upto Rows.witnessOpensSpec).at F).post enc Tryd.prog Tryd.f3 false true false false) := by
 refine returnsInHanded_of_row (C := Tryd.checked) (s := Rows.OpenSpec.upto Rows.witnessOpensSpec) witnessOpens_own started (by kernel_rfl) Tryd.func3
  (witness_row_atRef (enc := enc) (C := Tryd.checked) false (laidWorld os) #[.slice none 0 0, .int .i64 0] rfl (by kernel_rfl) (by kernel_rfl) (by kernel_rfl) (witnessOpens_wit os enc)) ?_
 intro W base args ds gs before hval hW _ hc _ hL _ _
 exact witnessOpens_contract H enc W base args ds gs before hval hW (hc _ rfl) hL
theorem witnessOpens_holds : Rows.WitnessOpensUptoSaid :=
 OpenClaim.holds_of_cond 3 Tryd.f3 rfl rfl rfl rfl rfl rfl rfl ⟨rfl, rfl, rfl, rfl, rfl⟩ rfl rfl rfl rfl rfl (by kernel_rfl) Tryd.func3 witnessOpens_closed
  (of_decide_eq_true (by kernel_rfl)) (by unfold Func.isWrapper; rw [if_neg (by decide +kernel)]; exact ⟨rfl, rfl⟩)
  (fun os started H enc _ F => by rw [OpenClaim.pre_eq_preRow]; exact witnessOpens_lifted os started H enc F)
end Go.Proofs.YtcodkepdolmmbaaDoor
