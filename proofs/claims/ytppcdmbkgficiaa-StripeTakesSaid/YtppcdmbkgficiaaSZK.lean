import Derived.Test.YtppcdmbkgficiaaSKA
import Derived.Test.YtppcdmbkgficiaaSBxB
import Derived.ProofKit
import Derived.OpenShut
import Derived.JoinedCond
import Derived.WalkKit
namespace Go.Proofs.Ytppcdmbkgficiaa
open Go.BX Go.ChangeShapes Go.WideShapes Go.ChangeAt Go.RowKit
theorem stripeTakes_own : ownKnob Try.prog.godebug = none := by kernel_rfl
theorem stripeTakes_laid : laidOutB Try.prog = true := by kernel_rfl
theorem reads_bytes : Reads Try.prog 23 (Shape.slice (Shape.bv .u8 8)) := Reads.slice Try.underlying23 (by kernel_rfl) (Reads.bv8 Try.underlying5)
theorem reads_cid : Reads Try.prog 50 cidS :=
 (Reads.struct (sh := Shape.pair (Shape.int .u64) (Shape.pair (Shape.int .i64) (Shape.int .u64))) Try.underlying50 (by kernel_rfl) (.cons (by kernel_rfl) (by kernel_rfl) (Reads.int Try.underlying22) (.cons (by kernel_rfl) (by kernel_rfl) (Reads.int Try.underlying3) (.one (by kernel_rfl) (by kernel_rfl) (Reads.int Try.underlying22))))).map fun a => ⟨⟨a.1, a.2.1, a.2.2⟩, rfl⟩
theorem reads_pc : Reads Try.prog 72 pcS :=
 (Reads.struct (sh := Shape.pair (Shape.int .i64) (Shape.slice (Shape.bv .u8 8))) Try.underlying72 (by kernel_rfl) (.cons (by kernel_rfl) (by kernel_rfl) (Reads.int Try.underlying3) (.one (by kernel_rfl) (by kernel_rfl) reads_bytes))).map fun a => ⟨⟨a.1, a.2⟩, rfl⟩
theorem reads_pcs : Reads Try.prog 70 (Shape.slice pcS) := Reads.slice Try.underlying70 (by kernel_rfl) reads_pc
theorem reads_hdr : Reads Try.prog 53 hdrS :=
 (Reads.struct (sh := Shape.pair cidS (Shape.pair (Shape.int .i64) (Shape.pair (Shape.int .i64) (Shape.pair (Shape.int .i64) (Shape.bv .u32 32))))) Try.underlying53 (by kernel_rfl) (.cons (by kernel_rfl) (by kernel_rfl) reads_cid (.cons (by kernel_rfl) (by kernel_rfl) (Reads.int Try.underlying3) (.cons (by kernel_rfl) (by kernel_rfl) (Reads.int Try.underlying3) (.cons (by kernel_rfl) (by kernel_rfl) (Reads.int Try.underlying3) (.one (by kernel_rfl) (by kernel_rfl) (Reads.bv32 Try.underlying51))))))).map fun a => ⟨⟨a.1, a.2.1, a.2.2.1, a.2.2.2.1, a.2.2.2.2⟩, rfl⟩
theorem reads_chk : Reads Try.prog 92 chkS :=
 (Reads.struct (sh := Shape.pair hdrS (Shape.pair (Shape.slice (Shape.bv .u8 8)) Shape.bool)) Try.underlying92 (by kernel_rfl) (.cons (by kernel_rfl) (by kernel_rfl) reads_hdr (.cons (by kernel_rfl) (by kernel_rfl) reads_bytes (.one (by kernel_rfl) (by kernel_rfl) (Reads.bool Try.underlying4))))).map fun a => ⟨⟨a.1, a.2.1, a.2.2⟩, rfl⟩
set_option maxRecDepth 100000 in
theorem stripeTakes_contract (H : Type) (enc : TypeId × Value → H) (W : World) (base : Nat) (args : Array Value) (ds gs : List (DataW H)) (before : List MemPlace)
 (hval : ∀ (j : Nat) t v, Try.f10.params[j]? = some t → args[j]? = some v → Value.okWide Try.prog W .any base t v)
 (hW : DataW.Whole enc Try.prog Try.f10.params.toList Rows.stripeTakesSpec.vars false W args.toList ds gs before) :
 Calls Try.prog 10 args W fun e W' => ∃ v, e = .returned v ∧ Rows.stripeTakesSpec.post enc Try.prog Try.f10 false true false false W args v W' := by
 have hW' := hW
 obtain ⟨p, q, b, hV, rfl, -, -⟩ := hW
 have hA : DataW.TrodAll enc Try.prog W 0 (fun _ => true) true Try.f10.params.toList args.toList ds p := b
 rw [Try.params10] at hA hval
 obtain ⟨d, _, _, _, _, _, hargs, rfl, rfl, l, m⟩ := trodAll_cons hA
 obtain ⟨f, _, _, _, _, _, rfl, rfl, rfl, n, o⟩ := trodAll_cons m
 obtain ⟨g, _, _, _, _, _, rfl, rfl, rfl, r, s⟩ := trodAll_cons o
 obtain ⟨h, _, _, _, _, _, rfl, rfl, rfl, u, w⟩ := trodAll_cons s
 obtain ⟨i, _, _, _, _, _, rfl, rfl, rfl, x, y⟩ := trodAll_cons w
 obtain ⟨k, _, _, _, _, _, rfl, rfl, rfl, z, A⟩ := trodAll_cons y
 obtain ⟨rfl, rfl, rfl⟩ := trodAll_nil A
 obtain rfl : args = #[d, f, g, h, i, k] := by cases args; simp_all
 obtain ⟨rfl, rfl⟩ := trodVars_none hV
 obtain ⟨a, ps, c, rfl, ha⟩ := reads_pcs.sliceArg Try.underlying70 (hval 0 70 d rfl rfl) l
 obtain ⟨B, rfl, rfl, rfl, _⟩ := open_int Try.underlying3 (hval 1 3 f rfl rfl) n
 obtain ⟨D, rfl, rfl, rfl, _⟩ := open_int Try.underlying3 (hval 2 3 g rfl rfl) r
 obtain ⟨E, rfl, rfl, rfl, _⟩ := open_int Try.underlying3 (hval 3 3 h rfl rfl) u
 obtain ⟨F, rfl, rfl, rfl, _⟩ := open_int Try.underlying3 (hval 4 3 i rfl rfl) x
 obtain ⟨cs, C, rfl, hC⟩ := reads_chk.structArg Try.underlying92 (hval 5 92 k rfl rfl) z
 refine (takes_spec ha B D E F hC).mono fun e W' ⟨v, he, hE, hv⟩ => ?_
 subst hv
 exact ⟨_, he, post_true stripeTakes_laid (params_ok (by kernel_rfl)) rfl hW' hE rfl (by kernel_rfl) Try.underlying4⟩
set_option maxRecDepth 100000 in
theorem stripeTakes_lifted (os : Os) (started : os.Started) (H : Type) (enc : TypeId × Value → H) :
 ReturnsInHanded {} Try.checked os 10 .any (Rows.stripeTakesSpec.pre6 enc Try.prog Try.f10 Rows.stripeTakesRow.domain false) (Rows.stripeTakesSpec.post enc Try.prog Try.f10 false true false false) := by
 refine returnsInHanded_of_change (C := Try.checked) stripeTakes_own started (by kernel_rfl) Try.func10
  (ChangeSpec.witness6 (enc := enc) (C := Try.checked) false ⟨#[], #[.slice none 0 0, .int .i64 0, .int .i64 0, .int .i64 0, .int .i64 0, .agg #[.int .u64 0, .int .i64 0, .int .u64 0, .int .i64 0, .int .i64 0, .int .i64 0, .int .u32 0, .slice none 0 0, .bool false]], []⟩ 8 (by kernel_rfl) (by kernel_rfl) (by kernel_rfl) (by kernel_rfl)) ?_
 intro W base args ds gs before hval hW _ _
 exact stripeTakes_contract H enc W base args ds gs before hval hW
end Go.Proofs.Ytppcdmbkgficiaa
