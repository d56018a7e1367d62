import Derived.Test.YtcodkepdolmmbaaDoorSWE
import Derived.Test.YtcodkepdolmmbaaDoorSL4
import Derived.Test.YtcodkepdolmmbaaDoorSZR
import Derived.ProofKit
import Derived.OpenShut
import Derived.JoinedCond
import Derived.WalkKit
namespace Go.Proofs.YtcodkepdolmmbaaDoor
open Go.BX Go.ChangeShapes Go.WideShapes Go.ChangeAt Go.RowKit
theorem witnessKnows_own : ownKnob Tryd.prog.godebug = none := by kernel_rfl
theorem witnessKnows_laid : laidOutB Tryd.prog = true := by kernel_rfl
set_option maxRecDepth 100000 in
theorem witnessKnows_contract (H : Type) (enc : TypeId × Value → H) (W : World) (base : Nat) (args : Array Value) (ds gs : List (DataW H)) (before : List MemPlace)
 (hval : ∀ (j : Nat) t v, Tryd.f5.params[j]? = some t → args[j]? = some v → Value.okWide Tryd.prog W .any base t v)
 (hW : DataW.Whole enc Tryd.prog Tryd.f5.params.toList Rows.witnessKnowsSpec.vars false W args.toList ds gs before) (hk : Rows.uptoSmall H (ds ++ gs) = true) (hL : laidMetH Tryd.prog Rows.witnessKnowsUptoRow.laid W) :
 Calls Tryd.prog 5 args W fun e W' => ∃ v, e = .returned v ∧ Rows.witnessKnowsSpec.post enc Tryd.prog Tryd.f5 false true false false W args v W' := by
 have hW' := hW
 obtain ⟨p, q, hA0, hV, rfl, -, -⟩ := hW
 have hA : DataW.TrodAll enc Tryd.prog W 0 (fun _ => true) true Tryd.f5.params.toList args.toList ds p := hA0
 rw [Tryd.params5] at hA hval
 obtain ⟨v0, vs0, d0, ds0, p0, q0, hargs, rfl, rfl, h0, r0⟩ := trodAll_cons hA
 obtain ⟨v1, vs1, d1, ds1, p1, q1, rfl, rfl, rfl, h1, r1⟩ := trodAll_cons r0
 obtain ⟨v2, vs2, d2, ds2, p2, q2, rfl, rfl, rfl, h2, r2⟩ := trodAll_cons r1
 obtain ⟨v3, vs3, d3, ds3, p3, q3, rfl, rfl, rfl, h3, r3⟩ := trodAll_cons r2
 obtain ⟨rfl, rfl, rfl⟩ := trodAll_nil r3
 obtain rfl : args = #[v0, v1, v2, v3] := by cases args; simp_all
 obtain ⟨rfl, rfl⟩ := trodVars_none hV
 obtain ⟨a1, xs, c1, rfl, hK⟩ := reads_t31.sliceArg Tryd.underlying31 (hval 0 31 v0 rfl rfl) h0
 obtain ⟨a2, ys, c2, rfl, hD⟩ := reads_t35.sliceArg Tryd.underlying35 (hval 1 35 v1 rfl rfl) h1
 obtain ⟨a3, zs, c3, rfl, hV⟩ := reads_t36.sliceArg Tryd.underlying36 (hval 2 36 v2 rfl rfl) h2
 obtain ⟨x1, rfl, rfl, rfl, hx1⟩ := open_int Tryd.underlying3 (hval 3 3 v3 rfl rfl) h3
 have hk2 : Rows.uptoBulkAll ([d0, d1, d2, .lit (.int .i64 x1)] : List (DataW H)) ≤ 1048576 := of_decide_eq_true hk
 have hc0 := bk.cons d0 ([d1, d2, .lit (.int .i64 x1)] : List (DataW H))
 change Rows.uptoBulkAll _ = Rows.uptoBulk d0 + Rows.uptoBulkAll _ at hc0
 have hc1 := bk.cons d1 ([d2, .lit (.int .i64 x1)] : List (DataW H))
 change Rows.uptoBulkAll _ = Rows.uptoBulk d1 + _ at hc1
 have hq := tabsQ_laid (show laidMet Tryd.prog Rows.witnessFewerUptoRow.laid W from hL)
 have hKz := keys_sz hK h0 (by omega)
 have hDz := datas_sz hD h1 (by omega)
 refine (knows_spec hK hD hV x1 hKz hDz hq).mono fun e W' ⟨v, he, hE, hv⟩ => ?_
 subst hv
 exact ⟨_, he, post_true witnessKnows_laid (params_ok (by kernel_rfl)) rfl hW' hE rfl (by kernel_rfl) Tryd.underlying4⟩
theorem witnessKnows_j1 : laidOutB Tryd.pinned.checked.prog = true := by kernel_rfl
theorem witnessKnows_j2 : mapsRowed Tryd.pinned.checked.prog = true := by kernel_rfl
theorem witnessKnows_j3 : (Rows.witnessKnowsUptoRow.inPlace == Tryd.pinned.checked.prog.inPlace 5) = true := by kernel_rfl
theorem witnessKnows_j4 : (Rows.witnessKnowsUptoRow.unfollowed == Tryd.pinned.checked.prog.unfollowed 5) = true := by kernel_rfl
theorem witnessKnows_j5 : (Rows.witnessKnowsUptoRow.recurses == Tryd.pinned.checked.prog.recurses 5) = true := by kernel_rfl
theorem witnessKnows_j6 : (Rows.witnessKnowsUptoRow.named == Tryd.pinned.checked.prog.varsNamed 5) = true := by kernel_rfl
theorem witnessKnows_closed : joinedFacts Tryd.pinned.checked.prog 5 Tryd.f5 (Rows.OpenSpec.upto Rows.witnessKnowsSpec).bare Rows.witnessKnowsUptoRow = true := by
 unfold joinedFacts
 rw [witnessKnows_j1, witnessKnows_j2, witnessKnows_j3, witnessKnows_j4, witnessKnows_j5, witnessKnows_j6]
 kernel_rfl
theorem witnessKnows_wit (os : Os) {H : Type} (enc : TypeId × Value → H) :
 (Rows.OpenSpec.upto Rows.witnessKnowsSpec).preRow enc Tryd.prog Tryd.f5 Rows.witnessKnowsUptoRow.domain false Rows.witnessKnowsUptoRow.laid (laidMem os #[.slice none 0 0, .slice none 0 0, .slice none 0 0, .int .i64 0]) #[.slice none 0 0, .slice none 0 0, .slice none 0 0, .int .i64 0] := by
 have hw : (DataW.whole enc Tryd.prog (laidMem os #[.slice none 0 0, .slice none 0 0, .slice none 0 0, .int .i64 0]) Tryd.f5.params.toList Rows.witnessKnowsSpec.vars false (#[.slice none 0 0, .slice none 0 0, .slice none 0 0, .int .i64 0] : Array Value).toList 8).map (fun x => (x.1, x.2.1)) =
  some ([.nil, .nil, .nil, .lit (.int .i64 0)], []) := by kernel_rfl
 obtain ⟨⟨x1, x2, x3⟩, hx, hx1⟩ := Option.map_eq_some_iff.1 hw
 simp only [Prod.mk.injEq] at hx1
 obtain ⟨rfl, rfl⟩ := hx1
 exact OpenSpec.preRow_of_cond 8 hx (by kernel_rfl) (fun k hk => by cases hk; kernel_rfl) (by kernel_rfl) (show laidMet Tryd.prog Rows.witnessKnowsUptoRow.laid _ from laid_met0 os _)
set_option maxRecDepth 100000 in
theorem witnessKnows_lifted (os : Os) (started : os.Started) (H : Type) (enc : TypeId × Value → H) (F : Stop.Interp) :
 ReturnsInHanded {} Tryd.checked os 5 .any ((Rows.OpenSpec.upto Rows.witnessKnowsSpec).preRow enc Tryd.prog Tryd.f5 Rows.witnessKnowsUptoRow.domain false Rows.witnessKnowsUptoRow.laid) (((Rows.OpenSpec.upto Rows.witnessKnowsSpec).at F).post enc Tryd.prog Tryd.f5 false true false false) := by
 refine returnsInHanded_of_row (C := Tryd.checked) (s := Rows.OpenSpec.upto Rows.witnessKnowsSpec) witnessKnows_own started (by kernel_rfl) Tryd.func5
  (witness_row_atRef (enc := enc) (C := Tryd.checked) false (laidWorld os) #[.slice none 0 0, .slice none 0 0, .slice none 0 0, .int .i64 0] rfl (by kernel_rfl) (by kernel_rfl) (by kernel_rfl) (witnessKnows_wit os enc)) ?_
 intro W base args ds gs before hval hW _ hc _ hL _ _
 exact witnessKnows_contract H enc W base args ds gs before hval hW (hc _ rfl) hL
theorem witnessKnows_holds : Rows.WitnessKnowsUptoSaid :=
 OpenClaim.holds_of_cond 5 Tryd.f5 rfl rfl rfl rfl rfl rfl rfl ⟨rfl, rfl, rfl, rfl, rfl⟩ rfl rfl rfl rfl rfl (by kernel_rfl) Tryd.func5 witnessKnows_closed
  (of_decide_eq_true (by kernel_rfl)) (by unfold Func.isWrapper; rw [if_neg (by decide +kernel)]; exact ⟨rfl, rfl⟩)
  (fun os started H enc _ F => by rw [OpenClaim.pre_eq_preRow]; exact witnessKnows_lifted os started H enc F)
end Go.Proofs.YtcodkepdolmmbaaDoor
