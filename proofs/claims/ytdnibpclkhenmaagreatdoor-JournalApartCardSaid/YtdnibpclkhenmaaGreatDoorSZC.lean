import Derived.Test.YtdnibpclkhenmaaGreatDoorSJS
import Derived.Test.YtdnibpclkhenmaaGreatDoorSBxB
import Derived.Test.YtdnibpclkhenmaaGreatDoorSL4
import Derived.ProofKit
import Derived.OpenShut
import Derived.JoinedCond
import Derived.WalkKit
namespace Go.Proofs.YtdnibpclkhenmaaGreatDoor
open Go.BX Go.ChangeShapes Go.WideShapes Go.ChangeAt Go.RowKit
theorem journalApart_own : ownKnob Tryz.prog.godebug = none := by kernel_rfl
theorem journalApart_laid : laidOutB Tryz.prog = true := by kernel_rfl
theorem reads_bytes : Reads Tryz.prog 23 (Shape.slice (Shape.bv .u8 8)) := Reads.slice Tryz.underlying23 (by kernel_rfl) (Reads.bv8 Tryz.underlying5)
theorem reads_act : Reads Tryz.prog 53 actS := Reads.map (Reads.struct Tryz.underlying53 (by kernel_rfl) (.cons (by kernel_rfl) (by kernel_rfl) (Reads.int Tryz.underlying3) (.cons (by kernel_rfl) (by kernel_rfl) reads_bytes (.one (by kernel_rfl) (by kernel_rfl) (Reads.int Tryz.underlying3))))) fun a => ⟨⟨a.1, a.2.1, a.2.2⟩, rfl⟩
theorem reads_acts : Reads Tryz.prog 46 (Shape.slice actS) := Reads.slice Tryz.underlying46 (by kernel_rfl) reads_act
set_option maxRecDepth 100000 in
theorem journalApart_contract (H : Type) (enc : TypeId × Value → H) (W : World) (base : Nat) (args : Array Value) (ds gs : List (DataW H)) (before : List MemPlace)
 (hval : ∀ (j : Nat) t v, Tryz.f6.params[j]? = some t → args[j]? = some v → Value.okWide Tryz.prog W .any base t v)
 (hW : DataW.Whole enc Tryz.prog Tryz.f6.params.toList Rows.journalApartSpec.vars false W args.toList ds gs before) (hL : laidMetH Tryz.prog Rows.journalApartRow.laid W) :
 Calls Tryz.prog 6 args W fun e W' => ∃ v, e = .returned v ∧ Rows.journalApartSpec.post enc Tryz.prog Tryz.f6 false true false false W args v W' := by
 have hW' := hW
 obtain ⟨p, q, a, hV, rfl, -, -⟩ := hW
 have hA : DataW.TrodAll enc Tryz.prog W 0 (fun _ => true) true Tryz.f6.params.toList args.toList ds p := a
 rw [Tryz.params6] at hA hval
 obtain ⟨b, _, _, _, _, _, hargs, rfl, rfl, f, g⟩ := trodAll_cons hA
 obtain ⟨c, _, _, _, _, _, rfl, rfl, rfl, h, i⟩ := trodAll_cons g
 obtain ⟨d, _, _, _, _, _, rfl, rfl, rfl, k, n⟩ := trodAll_cons i
 obtain ⟨rfl, rfl, rfl⟩ := trodAll_nil n
 obtain rfl : args = #[b, c, d] := by cases args; simp_all
 obtain ⟨rfl, rfl⟩ := trodVars_none hV
 obtain ⟨al, l, cl, rfl, hl⟩ := reads_acts.sliceArg Tryz.underlying46 (hval 0 46 b rfl rfl) f
 obtain ⟨am, m, cm, rfl, hm⟩ := reads_acts.sliceArg Tryz.underlying46 (hval 1 46 c rfl rfl) h
 obtain ⟨ak, kp, ck, rfl, hk⟩ := reads_bytes.sliceArg Tryz.underlying23 (hval 2 23 d rfl rfl) k
 have hq := jQ_laid (show laidMetH Tryz.prog Rows.journalRefusesRow.laid W from hL)
 refine (apart_spec hl hm hk hq).mono fun e W' ⟨v, he, hE, hv⟩ => ?_
 subst hv
 exact ⟨_, he, post_true journalApart_laid (params_ok (by kernel_rfl)) rfl hW' hE rfl (by kernel_rfl) Tryz.underlying4⟩
theorem journalApart_j1 : laidOutB Tryz.pinned.checked.prog = true := by kernel_rfl
theorem journalApart_j2 : mapsRowed Tryz.pinned.checked.prog = true := by kernel_rfl
theorem journalApart_j3 : (Rows.journalApartRow.inPlace == Tryz.pinned.checked.prog.inPlace 6) = true := by kernel_rfl
theorem journalApart_j4 : (Rows.journalApartRow.unfollowed == Tryz.pinned.checked.prog.unfollowed 6) = true := by kernel_rfl
theorem journalApart_j5 : (Rows.journalApartRow.recurses == Tryz.pinned.checked.prog.recurses 6) = true := by kernel_rfl
theorem journalApart_j6 : (Rows.journalApartRow.named == Tryz.pinned.checked.prog.varsNamed 6) = true := by kernel_rfl
theorem journalApart_closed : joinedFacts Tryz.pinned.checked.prog 6 Tryz.f6 (OpenSpec.ofChange Rows.journalApartSpec).bare Rows.journalApartRow = true := by
 unfold joinedFacts
 rw [journalApart_j1, journalApart_j2, journalApart_j3, journalApart_j4, journalApart_j5, journalApart_j6]
 kernel_rfl
theorem journalApart_wit (os : Os) {H : Type} (enc : TypeId × Value → H) :
 (OpenSpec.ofChange Rows.journalApartSpec).preRow enc Tryz.prog Tryz.f6 Rows.journalApartRow.domain false Rows.journalApartRow.laid (laidMem os #[.slice none 0 0, .slice none 0 0, .slice none 0 0]) #[.slice none 0 0, .slice none 0 0, .slice none 0 0] := by
 have hw : (DataW.whole enc Tryz.prog (laidMem os #[.slice none 0 0, .slice none 0 0, .slice none 0 0]) Tryz.f6.params.toList Rows.journalApartSpec.vars false (#[.slice none 0 0, .slice none 0 0, .slice none 0 0] : Array Value).toList 8).map (fun x => (x.1, x.2.1)) =
  some ([.nil, .nil, .nil], []) := by kernel_rfl
 obtain ⟨⟨_, _, _⟩, hx, a⟩ := Option.map_eq_some_iff.1 hw
 simp only [Prod.mk.injEq] at a
 obtain ⟨rfl, rfl⟩ := a
 exact OpenSpec.preRow_of_cond 8 hx (by kernel_rfl) (fun k hk => by cases hk) (by kernel_rfl) (show laidMetH Tryz.prog Rows.journalApartRow.laid _ from laid_met0 os _)
set_option maxRecDepth 100000 in
theorem journalApart_lifted (os : Os) (started : os.Started) (H : Type) (enc : TypeId × Value → H) (F : Stop.Interp) :
 ReturnsInHanded {} Tryz.checked os 6 .any ((OpenSpec.ofChange Rows.journalApartSpec).preRow enc Tryz.prog Tryz.f6 Rows.journalApartRow.domain false Rows.journalApartRow.laid) (((OpenSpec.ofChange Rows.journalApartSpec).at F).post enc Tryz.prog Tryz.f6 false true false false) := by
 refine returnsInHanded_of_row (C := Tryz.checked) (s := (OpenSpec.ofChange Rows.journalApartSpec)) journalApart_own started (by kernel_rfl) Tryz.func6
  (witness_row_atRef (enc := enc) (C := Tryz.checked) false (laidWorld os) #[.slice none 0 0, .slice none 0 0, .slice none 0 0] rfl (by kernel_rfl) (by kernel_rfl) (by kernel_rfl) (journalApart_wit os enc)) ?_
 intro W base args ds gs before hval hW _ hc hz hL _ _
 exact journalApart_contract H enc W base args ds gs before hval hW hL
theorem journalApart_holds : Rows.JournalApartSaid :=
 OpenClaim.holds_of_cond 6 Tryz.f6 rfl rfl rfl rfl rfl rfl rfl ⟨rfl, rfl, rfl, rfl, rfl⟩ rfl rfl rfl rfl rfl (by kernel_rfl) Tryz.func6 journalApart_closed
  (of_decide_eq_true (by kernel_rfl)) (by unfold Func.isWrapper; rw [if_neg (by decide +kernel)]; exact ⟨rfl, rfl⟩)
  (fun os started H enc _ F => by rw [OpenClaim.pre_eq_preRow]; exact journalApart_lifted os started H enc F)
end Go.Proofs.YtdnibpclkhenmaaGreatDoor
