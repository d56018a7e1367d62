import Derived.Test.YtdnibpclkhenmaaGreatDoorSVH
import Derived.Test.YtdnibpclkhenmaaGreatDoorSBxB
import Derived.Test.YtdnibpclkhenmaaGreatDoorSL4
import Derived.ProofKit
import Derived.OpenShut
import Derived.JoinedCond
import Derived.WalkKit
import Derived.ChangeMaps5
namespace Go.Proofs.YtdnibpclkhenmaaGreatDoor
open Go.BX Go.ChangeShapes Go.WideShapes Go.ChangeAt Go.RowKit
theorem vaultRefuses_own : ownKnob Tryz.prog.godebug = none := by kernel_rfl
theorem vaultRefuses_laid : laidOutB Tryz.prog = true := by kernel_rfl
theorem reads_bytes : Reads Tryz.prog 23 (Shape.slice (Shape.bv .u8 8)) := Reads.slice Tryz.underlying23 (by kernel_rfl) (Reads.bv8 Tryz.underlying5)
theorem reads_cid : Reads Tryz.prog 82 cidS :=
 (Reads.struct (sh := Shape.pair (Shape.int .u64) (Shape.pair (Shape.int .i64) (Shape.int .u64))) Tryz.underlying82 (by kernel_rfl) (.cons (by kernel_rfl) (by kernel_rfl) (Reads.int Tryz.underlying58) (.cons (by kernel_rfl) (by kernel_rfl) (Reads.int Tryz.underlying3) (.one (by kernel_rfl) (by kernel_rfl) (Reads.int Tryz.underlying58))))).map fun a => ⟨⟨a.1, a.2.1, a.2.2⟩, rfl⟩
theorem reads_hdr : Reads Tryz.prog 100 hdrS :=
 (Reads.struct (sh := Shape.pair cidS (Shape.pair (Shape.int .i64) (Shape.pair (Shape.int .i64) (Shape.pair (Shape.int .i64) (Shape.bv .u32 32))))) Tryz.underlying100 (by kernel_rfl) (.cons (by kernel_rfl) (by kernel_rfl) reads_cid (.cons (by kernel_rfl) (by kernel_rfl) (Reads.int Tryz.underlying3) (.cons (by kernel_rfl) (by kernel_rfl) (Reads.int Tryz.underlying3) (.cons (by kernel_rfl) (by kernel_rfl) (Reads.int Tryz.underlying3) (.one (by kernel_rfl) (by kernel_rfl) (Reads.bv32 Tryz.underlying80))))))).map fun a => ⟨⟨a.1, a.2.1, a.2.2.1, a.2.2.2.1, a.2.2.2.2⟩, rfl⟩
theorem reads_chk : Reads Tryz.prog 102 chkS :=
 (Reads.struct (sh := Shape.pair hdrS (Shape.pair (Shape.slice (Shape.bv .u8 8)) Shape.bool)) Tryz.underlying102 (by kernel_rfl) (.cons (by kernel_rfl) (by kernel_rfl) reads_hdr (.cons (by kernel_rfl) (by kernel_rfl) reads_bytes (.one (by kernel_rfl) (by kernel_rfl) (Reads.bool Tryz.underlying4))))).map fun a => ⟨⟨a.1, a.2.1, a.2.2⟩, rfl⟩
set_option maxRecDepth 100000 in
theorem vaultRefuses_contract (H : Type) (enc : TypeId × Value → H) (W : World) (base : Nat) (args : Array Value) (ds gs : List (DataW H)) (before : List MemPlace)
 (hval : ∀ (j : Nat) t v, Tryz.f11.params[j]? = some t → args[j]? = some v → Value.okWide Tryz.prog W .any base t v)
 (hW : DataW.Whole enc Tryz.prog Tryz.f11.params.toList Rows.vaultRefusesSpec.vars false W args.toList ds gs before) (hz : ((DataW.weightsEach Tryz.prog (Tryz.f11.params.toList ++ (OpenSpec.ofChange Rows.vaultRefusesSpec).bare.plain.varTypes Tryz.prog) (ds ++ gs)).all (· ≤ reachBytes)) = true) (hL : laidMetH Tryz.prog Rows.vaultRefusesRow.laid W) :
 Calls Tryz.prog 11 args W fun e W' => ∃ v, e = .returned v ∧ Rows.vaultRefusesSpec.post enc Tryz.prog Tryz.f11 false true false false W args v W' := by
 have hW' := hW
 obtain ⟨p, q, b, hV, rfl, -, -⟩ := hW
 have hA : DataW.TrodAll enc Tryz.prog W 0 (fun _ => true) true Tryz.f11.params.toList args.toList ds p := b
 rw [Tryz.params11] at hA hval
 obtain ⟨c, _, _, _, _, _, hargs, rfl, rfl, h, i⟩ := trodAll_cons hA
 obtain ⟨d, _, _, _, _, _, rfl, rfl, rfl, k, l⟩ := trodAll_cons i
 obtain ⟨f, _, _, _, _, _, rfl, rfl, rfl, m, n⟩ := trodAll_cons l
 obtain ⟨rfl, rfl, rfl⟩ := trodAll_nil n
 obtain rfl : args = #[c, d, f] := by cases args; simp_all
 obtain ⟨rfl, rfl⟩ := trodVars_none hV
 obtain ⟨x, rfl, rfl, rfl, hx⟩ := Go.ChangeMaps.open_string Tryz.underlying9 (hval 0 9 c rfl rfl) h
 obtain ⟨o, rfl, rfl, rfl, _⟩ := open_int Tryz.underlying3 (hval 1 3 d rfl rfl) k
 obtain ⟨cs, C, rfl, hC⟩ := reads_chk.structArg Tryz.underlying102 (hval 2 102 f rfl rfl) m
 have a := hz
 rw [Tryz.params11] at a
 simp only [List.cons_append, List.nil_append, DataW.weightsEach, DataW.weights, List.all_cons, Bool.and_eq_true, decide_eq_true_eq] at a
 have g : x.size ≤ 140737488355328 := by
  have r := a.1
  have s : x.data.toList.length = x.size := Array.length_toList
  unfold reachBytes at r
  omega
 have hq := jQ_laid (show laidMetH Tryz.prog Rows.journalRefusesRow.laid W from hL)
 refine (refuses9_spec g o hC hq).mono fun e W' ⟨v, he, hE, hv⟩ => ?_
 subst hv
 exact ⟨_, he, post_true vaultRefuses_laid (params_ok (by kernel_rfl)) rfl hW' hE rfl (by kernel_rfl) Tryz.underlying4⟩
theorem vaultRefuses_j1 : laidOutB Tryz.pinned.checked.prog = true := by kernel_rfl
theorem vaultRefuses_j2 : mapsRowed Tryz.pinned.checked.prog = true := by kernel_rfl
theorem vaultRefuses_j3 : (Rows.vaultRefusesRow.inPlace == Tryz.pinned.checked.prog.inPlace 11) = true := by kernel_rfl
theorem vaultRefuses_j4 : (Rows.vaultRefusesRow.unfollowed == Tryz.pinned.checked.prog.unfollowed 11) = true := by kernel_rfl
theorem vaultRefuses_j5 : (Rows.vaultRefusesRow.recurses == Tryz.pinned.checked.prog.recurses 11) = true := by kernel_rfl
theorem vaultRefuses_j6 : (Rows.vaultRefusesRow.named == Tryz.pinned.checked.prog.varsNamed 11) = true := by kernel_rfl
theorem vaultRefuses_closed : joinedFacts Tryz.pinned.checked.prog 11 Tryz.f11 (OpenSpec.ofChange Rows.vaultRefusesSpec).bare Rows.vaultRefusesRow = true := by
 unfold joinedFacts
 rw [vaultRefuses_j1, vaultRefuses_j2, vaultRefuses_j3, vaultRefuses_j4, vaultRefuses_j5, vaultRefuses_j6]
 kernel_rfl
theorem vaultRefuses_wit (os : Os) {H : Type} (enc : TypeId × Value → H) :
 (OpenSpec.ofChange Rows.vaultRefusesSpec).preRow enc Tryz.prog Tryz.f11 Rows.vaultRefusesRow.domain false Rows.vaultRefusesRow.laid (laidMem os #[.string ⟨#[]⟩, .int .i64 0, .agg #[.int .u64 0, .int .i64 0, .int .u64 0, .int .i64 0, .int .i64 0, .int .i64 0, .int .u32 0, .slice none 0 0, .bool false]]) #[.string ⟨#[]⟩, .int .i64 0, .agg #[.int .u64 0, .int .i64 0, .int .u64 0, .int .i64 0, .int .i64 0, .int .i64 0, .int .u32 0, .slice none 0 0, .bool false]] := by
 have hw : (DataW.whole enc Tryz.prog (laidMem os #[.string ⟨#[]⟩, .int .i64 0, .agg #[.int .u64 0, .int .i64 0, .int .u64 0, .int .i64 0, .int .i64 0, .int .i64 0, .int .u32 0, .slice none 0 0, .bool false]]) Tryz.f11.params.toList Rows.vaultRefusesSpec.vars false (#[.string ⟨#[]⟩, .int .i64 0, .agg #[.int .u64 0, .int .i64 0, .int .u64 0, .int .i64 0, .int .i64 0, .int .i64 0, .int .u32 0, .slice none 0 0, .bool false]] : Array Value).toList 8).map (fun x => (x.1, x.2.1)) =
  some ([.lit (.string []), .lit (.int .i64 0), .agg [.agg [.agg [.lit (.int .u64 0), .lit (.int .i64 0), .lit (.int .u64 0)], .lit (.int .i64 0), .lit (.int .i64 0), .lit (.int .i64 0), .lit (.int .u32 0)], .nil, .lit (.bool false)]], []) := by kernel_rfl
 obtain ⟨⟨_, _, _⟩, hx, a⟩ := Option.map_eq_some_iff.1 hw
 simp only [Prod.mk.injEq] at a
 obtain ⟨rfl, rfl⟩ := a
 exact OpenSpec.preRow_of_cond 8 hx (by kernel_rfl) (fun k hk => by cases hk) (by kernel_rfl) (show laidMetH Tryz.prog Rows.vaultRefusesRow.laid _ from laid_met0 os _)
set_option maxRecDepth 100000 in
theorem vaultRefuses_lifted (os : Os) (started : os.Started) (H : Type) (enc : TypeId × Value → H) (F : Stop.Interp) :
 ReturnsInHanded {} Tryz.checked os 11 .any ((OpenSpec.ofChange Rows.vaultRefusesSpec).preRow enc Tryz.prog Tryz.f11 Rows.vaultRefusesRow.domain false Rows.vaultRefusesRow.laid) (((OpenSpec.ofChange Rows.vaultRefusesSpec).at F).post enc Tryz.prog Tryz.f11 false true false false) := by
 refine returnsInHanded_of_row (C := Tryz.checked) (s := (OpenSpec.ofChange Rows.vaultRefusesSpec)) vaultRefuses_own started (by kernel_rfl) Tryz.func11
  (witness_row_atRef (enc := enc) (C := Tryz.checked) false (laidWorld os) #[.string ⟨#[]⟩, .int .i64 0, .agg #[.int .u64 0, .int .i64 0, .int .u64 0, .int .i64 0, .int .i64 0, .int .i64 0, .int .u32 0, .slice none 0 0, .bool false]] rfl (by kernel_rfl) (by kernel_rfl) (by kernel_rfl) (vaultRefuses_wit os enc)) ?_
 intro W base args ds gs before hval hW _ hc hz hL _ _
 exact vaultRefuses_contract H enc W base args ds gs before hval hW hz hL
theorem vaultRefuses_holds : Rows.VaultRefusesSaid :=
 OpenClaim.holds_of_cond 11 Tryz.f11 rfl rfl rfl rfl rfl rfl rfl ⟨rfl, rfl, rfl, rfl, rfl⟩ rfl rfl rfl rfl rfl (by kernel_rfl) Tryz.func11 vaultRefuses_closed
  (of_decide_eq_true (by kernel_rfl)) (by unfold Func.isWrapper; rw [if_neg (by decide +kernel)]; exact ⟨rfl, rfl⟩)
  (fun os started H enc _ F => by rw [OpenClaim.pre_eq_preRow]; exact vaultRefuses_lifted os started H enc F)
end Go.Proofs.YtdnibpclkhenmaaGreatDoor
