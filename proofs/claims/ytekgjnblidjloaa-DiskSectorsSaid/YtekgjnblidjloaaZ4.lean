import Derived.Test.YtekgjnblidjloaaC2
import Derived.Test.YtekgjnblidjloaaBxReads
import Derived.Test.YtekgjnblidjloaaBxBridge
import Derived.ProofKit
import Derived.OpenShut
import Derived.JoinedCond
import Derived.WalkKit
namespace Go.Proofs.Ytekgjnblidjloaa
open Go.BX Go.ChangeShapes Go.WideShapes Go.ChangeAt Go.RowKit

theorem diskSectors_own : ownKnob Try.prog.godebug = none := by kernel_rfl
theorem diskSectors_laid : laidOutB Try.prog = true := by kernel_rfl
theorem reads_bytes : Reads Try.prog 24 (Shape.slice (Shape.bv .u8 8)) := Reads.slice Try.underlying24 (by kernel_rfl) (Reads.bv8 Try.underlying5)
theorem reads_rows : Reads Try.prog 22 (Shape.slice (Shape.slice (Shape.bv .u8 8))) := Reads.slice Try.underlying22 (by kernel_rfl) reads_bytes
theorem reads_ints : Reads Try.prog 23 (Shape.slice (Shape.int .i64)) := Reads.slice Try.underlying23 (by kernel_rfl) (Reads.int Try.underlying3)


set_option maxRecDepth 100000 in
theorem diskSectors_contract (H : Type) (enc : TypeId × Value → H) (W : World) (base : Nat) (args : Array Value) (ds gs : List (DataW H)) (before : List MemPlace)
    (hval : ∀ (j : Nat) t v, Try.f3.params[j]? = some t → args[j]? = some v → Value.okWide Try.prog W .any base t v)
    (hW : DataW.Whole enc Try.prog Try.f3.params.toList Rows.diskSectorsSpec.vars false W args.toList ds gs before) :
    Calls Try.prog 3 args W fun e W' => ∃ v, e = .returned v ∧ Rows.diskSectorsSpec.post enc Try.prog Try.f3 false true false false W args v W' := by
  have hW' := hW
  obtain ⟨p, q, hA0, hV, rfl, -, -⟩ := hW
  have hA : DataW.TrodAll enc Try.prog W 0 (fun _ => true) true Try.f3.params.toList args.toList ds p := hA0
  rw [Try.params3] at hA hval
  obtain ⟨v0, vs0, d0, ds0, p0, q0, hargs, rfl, rfl, h0, r0⟩ := trodAll_cons hA
  obtain ⟨v1, vs1, d1, ds1, p1, q1, rfl, rfl, rfl, h1, r1⟩ := trodAll_cons r0
  obtain ⟨v2, vs2, d2, ds2, p2, q2, rfl, rfl, rfl, h2, r2⟩ := trodAll_cons r1
  obtain ⟨v3, vs3, d3, ds3, p3, q3, rfl, rfl, rfl, h3, r3⟩ := trodAll_cons r2
  obtain ⟨rfl, rfl, rfl⟩ := trodAll_nil r3
  obtain rfl : args = #[v0, v1, v2, v3] := by cases args; simp_all
  obtain ⟨rfl, rfl⟩ := trodVars_none hV
  obtain ⟨a, ws, c, rfl, ha⟩ := reads_rows.sliceArg Try.underlying22 (hval 0 22 v0 rfl rfl) h0
  obtain ⟨b, ys, d, rfl, hb⟩ := reads_ints.sliceArg Try.underlying23 (hval 1 23 v1 rfl rfl) h1
  obtain ⟨x1, rfl, rfl, rfl, hx1⟩ := open_int Try.underlying3 (hval 2 3 v2 rfl rfl) h2
  obtain ⟨k, ks, kc, rfl, hk⟩ := reads_bytes.sliceArg Try.underlying24 (hval 3 24 v3 rfl rfl) h3
  refine (sectors_spec x1 ha hb hk).mono fun e W' ⟨v, he, hE, hv⟩ => ?_
  subst hv
  exact ⟨_, he, post_true diskSectors_laid (params_ok (by kernel_rfl)) rfl hW' hE rfl (by kernel_rfl) Try.underlying4⟩

set_option maxRecDepth 100000 in
theorem diskSectors_lifted (os : Os) (started : os.Started) (H : Type) (enc : TypeId × Value → H) :
    ReturnsInHanded {} Try.checked os 3 .any (Rows.diskSectorsSpec.pre6 enc Try.prog Try.f3 Rows.diskSectorsRow.domain false) (Rows.diskSectorsSpec.post enc Try.prog Try.f3 false true false false) := by
  refine returnsInHanded_of_change (C := Try.checked) diskSectors_own started (by kernel_rfl) Try.func3
    (ChangeSpec.witness6 (enc := enc) (C := Try.checked) false ⟨#[], #[.slice none 0 0, .slice none 0 0, .int .i64 0, .slice none 0 0], []⟩ 8 (by kernel_rfl) (by kernel_rfl) (by kernel_rfl) (by kernel_rfl)) ?_
  intro W base args ds gs before hval hW _ _
  exact diskSectors_contract H enc W base args ds gs before hval hW

theorem diskSectors_holds : Rows.DiskSectorsSaid :=
  OpenClaim.holds_of_wide 3 Try.f3 rfl rfl rfl rfl rfl rfl rfl ⟨rfl, rfl, rfl, rfl, rfl⟩ rfl rfl rfl rfl rfl (by kernel_rfl) Try.func3 (by kernel_rfl)
    (of_decide_eq_true (by kernel_rfl)) (by unfold Func.isWrapper; rw [if_neg (by decide +kernel)]; exact ⟨rfl, rfl⟩)
    (fun os started H enc _ => diskSectors_lifted os started H enc)

end Go.Proofs.Ytekgjnblidjloaa
