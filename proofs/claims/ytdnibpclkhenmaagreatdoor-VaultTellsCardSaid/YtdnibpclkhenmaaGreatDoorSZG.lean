import Derived.Test.YtdnibpclkhenmaaGreatDoorSVJ
import Derived.Test.YtdnibpclkhenmaaGreatDoorSBxB
import Derived.Test.YtdnibpclkhenmaaGreatDoorSL4
import Derived.ProofKit
import Derived.OpenShut
import Derived.JoinedCond
import Derived.WalkKit
namespace Go.Proofs.YtdnibpclkhenmaaGreatDoor
open Go.BX Go.ChangeShapes Go.WideShapes Go.ChangeAt Go.RowKit
theorem vaultTells_own : ownKnob Tryz.prog.godebug = none := by kernel_rfl
theorem vaultTells_laid : laidOutB Tryz.prog = true := by kernel_rfl
theorem reads_bytes : Reads Tryz.prog 23 (Shape.slice (Shape.bv .u8 8)) := Reads.slice Tryz.underlying23 (by kernel_rfl) (Reads.bv8 Tryz.underlying5)
theorem reads_cid : Reads Tryz.prog 82 cidS :=
 (Reads.struct (sh := Shape.pair (Shape.int .u64) (Shape.pair (Shape.int .i64) (Shape.int .u64))) Tryz.underlying82 (by kernel_rfl) (.cons (by kernel_rfl) (by kernel_rfl) (Reads.int Tryz.underlying58) (.cons (by kernel_rfl) (by kernel_rfl) (Reads.int Tryz.underlying3) (.one (by kernel_rfl) (by kernel_rfl) (Reads.int Tryz.underlying58))))).map fun a => ⟨⟨a.1, a.2.1, a.2.2⟩, rfl⟩
theorem reads_hdr : Reads Tryz.prog 100 hdrS :=
 (Reads.struct (sh := Shape.pair cidS (Shape.pair (Shape.int .i64) (Shape.pair (Shape.int .i64) (Shape.pair (Shape.int .i64) (Shape.bv .u32 32))))) Tryz.underlying100 (by kernel_rfl) (.cons (by kernel_rfl) (by kernel_rfl) reads_cid (.cons (by kernel_rfl) (by kernel_rfl) (Reads.int Tryz.underlying3) (.cons (by kernel_rfl) (by kernel_rfl) (Reads.int Tryz.underlying3) (.cons (by kernel_rfl) (by kernel_rfl) (Reads.int Tryz.underlying3) (.one (by kernel_rfl) (by kernel_rfl) (Reads.bv32 Tryz.underlying80))))))).map fun a => ⟨⟨a.1, a.2.1, a.2.2.1, a.2.2.2.1, a.2.2.2.2⟩, rfl⟩
theorem reads_chk : Reads Tryz.prog 102 chkS :=
 (Reads.struct (sh := Shape.pair hdrS (Shape.pair (Shape.slice (Shape.bv .u8 8)) Shape.bool)) Tryz.underlying102 (by kernel_rfl) (.cons (by kernel_rfl) (by kernel_rfl) reads_hdr (.cons (by kernel_rfl) (by kernel_rfl) reads_bytes (.one (by kernel_rfl) (by kernel_rfl) (Reads.bool Tryz.underlying4))))).map fun a => ⟨⟨a.1, a.2.1, a.2.2⟩, rfl⟩
set_option maxRecDepth 100000 in
theorem vaultTells_contract (H : Type) (enc : TypeId × Value → H) (W : World) (base : Nat) (args : Array Value) (ds gs : List (DataW H)) (before : List MemPlace)
 (hval : ∀ (j : Nat) t v, Tryz.f9.params[j]? = some t → args[j]? = some v → Value.okWide Tryz.prog W .any base t v)
 (hW : DataW.Whole enc Tryz.prog Tryz.f9.params.toList Rows.vaultTellsSpec.vars false W args.toList ds gs before) (hL : laidMetH Tryz.prog Rows.vaultTellsRow.laid W) :
 Calls Tryz.prog 9 args W fun e W' => ∃ v, e = .returned v ∧ Rows.vaultTellsSpec.post enc Tryz.prog Tryz.f9 false true false false W args v W' := by
 have hW' := hW
 obtain ⟨p, q, a, hV, rfl, -, -⟩ := hW
 have hA : DataW.TrodAll enc Tryz.prog W 0 (fun _ => true) true Tryz.f9.params.toList args.toList ds p := a
 rw [Tryz.params9] at hA hval
 obtain ⟨b, _, _, _, _, _, hargs, rfl, rfl, d, f⟩ := trodAll_cons hA
 obtain ⟨c, _, _, _, _, _, rfl, rfl, rfl, g, h⟩ := trodAll_cons f
 obtain ⟨rfl, rfl, rfl⟩ := trodAll_nil h
 obtain rfl : args = #[b, c] := by cases args; simp_all
 obtain ⟨rfl, rfl⟩ := trodVars_none hV
 obtain ⟨cs, C, rfl, hC⟩ := reads_chk.structArg Tryz.underlying102 (hval 0 102 b rfl rfl) d
 obtain ⟨i, rfl, rfl, rfl, _⟩ := open_int Tryz.underlying3 (hval 1 3 c rfl rfl) g
 have hq := jQ_laid (show laidMetH Tryz.prog Rows.journalRefusesRow.laid W from hL)
 refine (tells_spec i hC hq).mono fun e W' ⟨v, he, hE, hv⟩ => ?_
 subst hv
 exact ⟨_, he, post_true vaultTells_laid (params_ok (by kernel_rfl)) rfl hW' hE rfl (by kernel_rfl) Tryz.underlying4⟩
theorem vaultTells_j1 : laidOutB Tryz.pinned.checked.prog = true := by kernel_rfl
theorem vaultTells_j2 : mapsRowed Tryz.pinned.checked.prog = true := by kernel_rfl
theorem vaultTells_j3 : (Rows.vaultTellsRow.inPlace == Tryz.pinned.checked.prog.inPlace 9) = true := by kernel_rfl
theorem vaultTells_j4 : (Rows.vaultTellsRow.unfollowed == Tryz.pinned.checked.prog.unfollowed 9) = true := by kernel_rfl
theorem vaultTells_j5 : (Rows.vaultTellsRow.recurses == Tryz.pinned.checked.prog.recurses 9) = true := by kernel_rfl
theorem vaultTells_j6 : (Rows.vaultTellsRow.named == Tryz.pinned.checked.prog.varsNamed 9) = true := by kernel_rfl
theorem vaultTells_closed : joinedFacts Tryz.pinned.checked.prog 9 Tryz.f9 (OpenSpec.ofChange Rows.vaultTellsSpec).bare Rows.vaultTellsRow = true := by
 unfold joinedFacts
 rw [vaultTells_j1, vaultTells_j2, vaultTells_j3, vaultTells_j4, vaultTells_j5, vaultTells_j6]
 kernel_rfl
theorem vaultTells_wit (os : Os) {H : Type} (enc : TypeId × Value → H) :
 (OpenSpec.ofChange Rows.vaultTellsSpec).preRow enc Tryz.prog Tryz.f9 Rows.vaultTellsRow.domain false Rows.vaultTellsRow.laid (laidMem os #[.agg #[.int .u64 0, .int .i64 0, .int .u64 0, .int .i64 0, .int .i64 0, .int .i64 0, .int .u32 0, .slice none 0 0, .bool false], .int .i64 0]) #[.agg #[.int .u64 0, .int .i64 0, .int .u64 0, .int .i64 0, .int .i64 0, .int .i64 0, .int .u32 0, .slice none 0 0, .bool false], .int .i64 0] := by
 have hw : (DataW.whole enc Tryz.prog (laidMem os #[.agg #[.int .u64 0, .int .i64 0, .int .u64 0, .int .i64 0, .int .i64 0, .int .i64 0, .int .u32 0, .slice none 0 0, .bool false], .int .i64 0]) Tryz.f9.params.toList Rows.vaultTellsSpec.vars false (#[.agg #[.int .u64 0, .int .i64 0, .int .u64 0, .int .i64 0, .int .i64 0, .int .i64 0, .int .u32 0, .slice none 0 0, .bool false], .int .i64 0] : Array Value).toList 8).map (fun x => (x.1, x.2.1)) =
  some ([.agg [.agg [.agg [.lit (.int .u64 0), .lit (.int .i64 0), .lit (.int .u64 0)], .lit (.int .i64 0), .lit (.int .i64 0), .lit (.int .i64 0), .lit (.int .u32 0)], .nil, .lit (.bool false)], .lit (.int .i64 0)], []) := by kernel_rfl
 obtain ⟨⟨_, _, _⟩, hx, a⟩ := Option.map_eq_some_iff.1 hw
 simp only [Prod.mk.injEq] at a
 obtain ⟨rfl, rfl⟩ := a
 exact OpenSpec.preRow_of_cond 8 hx (by kernel_rfl) (fun k hk => by cases hk) (by kernel_rfl) (show laidMetH Tryz.prog Rows.vaultTellsRow.laid _ from laid_met0 os _)
set_option maxRecDepth 100000 in
theorem vaultTells_lifted (os : Os) (started : os.Started) (H : Type) (enc : TypeId × Value → H) (F : Stop.Interp) :
 ReturnsInHanded {} Tryz.checked os 9 .any ((OpenSpec.ofChange Rows.vaultTellsSpec).preRow enc Tryz.prog Tryz.f9 Rows.vaultTellsRow.domain false Rows.vaultTellsRow.laid) (((OpenSpec.ofChange Rows.vaultTellsSpec).at F).post enc Tryz.prog Tryz.f9 false true false false) := by
 refine returnsInHanded_of_row (C := Tryz.checked) (s := (OpenSpec.ofChange Rows.vaultTellsSpec)) vaultTells_own started (by kernel_rfl) Tryz.func9
  (witness_row_atRef (enc := enc) (C := Tryz.checked) false (laidWorld os) #[.agg #[.int .u64 0, .int .i64 0, .int .u64 0, .int .i64 0, .int .i64 0, .int .i64 0, .int .u32 0, .slice none 0 0, .bool false], .int .i64 0] rfl (by kernel_rfl) (by kernel_rfl) (by kernel_rfl) (vaultTells_wit os enc)) ?_
 intro W base args ds gs before hval hW _ hc hz hL _ _
 exact vaultTells_contract H enc W base args ds gs before hval hW hL
theorem vaultTells_holds : Rows.VaultTellsSaid :=
 OpenClaim.holds_of_cond 9 Tryz.f9 rfl rfl rfl rfl rfl rfl rfl ⟨rfl, rfl, rfl, rfl, rfl⟩ rfl rfl rfl rfl rfl (by kernel_rfl) Tryz.func9 vaultTells_closed
  (of_decide_eq_true (by kernel_rfl)) (by unfold Func.isWrapper; rw [if_neg (by decide +kernel)]; exact ⟨rfl, rfl⟩)
  (fun os started H enc _ F => by rw [OpenClaim.pre_eq_preRow]; exact vaultTells_lifted os started H enc F)
end Go.Proofs.YtdnibpclkhenmaaGreatDoor
