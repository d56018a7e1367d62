import Derived.Test.YthbegjaoifghlaaR4
import Derived.Test.YthbegjaoifghlaaBxBulk
import Derived.ProofKit
import Derived.OpenShut
import Derived.JoinedCond
import Derived.WalkKit
namespace Go.Proofs.Ythbegjaoifghlaa
open Go.BX Go.ChangeShapes Go.WideShapes Go.ChangeAt Go.RowKit

theorem quorumSteps_own : ownKnob Try.prog.godebug = none := by kernel_rfl
theorem quorumSteps_laid : laidOutB Try.prog = true := by kernel_rfl
theorem reads_ints : Reads Try.prog 22 (Shape.slice (Shape.int .i64)) := Reads.slice Try.underlying22 (by kernel_rfl) (Reads.int Try.underlying3)
theorem reads_conf : Reads Try.prog 24 confS :=
  (Reads.struct (sh := Shape.pair (Shape.slice (Shape.int .i64)) (Shape.slice (Shape.int .i64))) Try.underlying24 (by kernel_rfl) (.cons (by kernel_rfl) (by kernel_rfl) reads_ints (.one (by kernel_rfl) (by kernel_rfl) reads_ints))).map fun a => ⟨⟨a.1, a.2⟩, rfl⟩
theorem reads_cstep : Reads Try.prog 34 cstepS :=
  (Reads.struct (sh := Shape.pair (Shape.int .i64) (Shape.int .i64)) Try.underlying34 (by kernel_rfl) (.cons (by kernel_rfl) (by kernel_rfl) (Reads.int Try.underlying32) (.one (by kernel_rfl) (by kernel_rfl) (Reads.int Try.underlying3)))).map fun a => ⟨⟨a.1, a.2⟩, rfl⟩
def bk : Bulk where
  one := Rows.uptoBulk
  all := Rows.uptoBulkAll
  cons := fun d r => by simp [Rows.uptoBulkAll]
  pos := fun d => by
    unfold Rows.uptoBulk
    split <;> omega
  slice := fun a b => by simp [Rows.uptoBulk]
  agg := fun a => by simp [Rows.uptoBulk]
theorem conf_bulk {H : Type} {enc : TypeId × Value → H} {W : World} {S : Nat → Prop} {sp : Nat → Bool} {hd : Bool} {C : Conf} {cs : List Value} {d : DataW H} {p : List MemPlace} {v : Value} (hv : v.cells.toList = cs) (hC : confS.rep S W cs C) (h : DataW.Trod enc Try.prog W 0 sp hd 24 v d p) :
    C.voters.length ≤ Rows.uptoBulk d ∧ C.learners.length ≤ Rows.uptoBulk d := by
  obtain ⟨av, kv, al, kl, rfl, -, -⟩ := conf_open hC
  obtain ⟨n, h⟩ := h
  rw [hv] at h
  obtain ⟨m, y, hy, hle⟩ := bk.field_le Try.underlying24 h 0 rfl
  obtain ⟨m2, y2, hy2, hle2⟩ := bk.field_le Try.underlying24 h 1 rfl
  have e1 : Try.prog.cellsOf 22 = 1 := by kernel_rfl
  change DataW.trod enc Try.prog W 0 sp hd m 22 (([Value.slice av C.voters.length kv, Value.slice al C.learners.length kl].drop 0).take (Try.prog.cellsOf 22)) = _ at hy
  change DataW.trod enc Try.prog W 0 sp hd m2 22 (([Value.slice av C.voters.length kv, Value.slice al C.learners.length kl].drop 1).take (Try.prog.cellsOf 22)) = _ at hy2
  rw [e1] at hy hy2
  exact ⟨Nat.le_trans (bk.slice_le Try.underlying22 hy) hle, Nat.le_trans (bk.slice_le Try.underlying22 hy2) hle2⟩


set_option maxRecDepth 100000 in
theorem quorumSteps_contract (H : Type) (enc : TypeId × Value → H) (W : World) (base : Nat) (args : Array Value) (ds gs : List (DataW H)) (before : List MemPlace)
    (hval : ∀ (j : Nat) t v, Try.f4.params[j]? = some t → args[j]? = some v → Value.okWide Try.prog W .any base t v)
    (hW : DataW.Whole enc Try.prog Try.f4.params.toList Rows.quorumStepsSpec.vars false W args.toList ds gs before) (hk : Rows.uptoSmall H (ds ++ gs) = true) :
    Calls Try.prog 4 args W fun e W' => ∃ v, e = .returned v ∧ Rows.quorumStepsSpec.post enc Try.prog Try.f4 false true false false W args v W' := by
  have hW' := hW
  obtain ⟨p, q, hA0, hV, rfl, -, -⟩ := hW
  have hA : DataW.TrodAll enc Try.prog W 0 (fun _ => true) true Try.f4.params.toList args.toList ds p := hA0
  rw [Try.params4] at hA hval
  obtain ⟨v0, vs0, d0, ds0, p0, q0, hargs, rfl, rfl, h0, r0⟩ := trodAll_cons hA
  obtain ⟨v1, vs1, d1, ds1, p1, q1, rfl, rfl, rfl, h1, r1⟩ := trodAll_cons r0
  obtain ⟨rfl, rfl, rfl⟩ := trodAll_nil r1
  obtain rfl : args = #[v0, v1] := by cases args; simp_all
  obtain ⟨rfl, rfl⟩ := trodVars_none hV
  obtain ⟨cs, C, rfl, hC⟩ := reads_conf.structArg Try.underlying24 (hval 0 24 v0 rfl rfl) h0
  obtain ⟨zs, Z, rfl, hZ⟩ := reads_cstep.structArg Try.underlying34 (hval 1 34 v1 rfl rfl) h1
  have hk1 : Rows.uptoBulk d0 + Rows.uptoBulk d1 ≤ 1048576 := by simpa [Rows.uptoSmall, Rows.uptoBulkAll] using hk
  obtain ⟨hk2, hk3⟩ := conf_bulk rfl hC h0
  refine (steps_spec hC hZ (by omega) (by omega)).mono fun e W' ⟨v, he, hE, hv⟩ => ?_
  subst hv
  exact ⟨_, he, post_true quorumSteps_laid (params_ok (by kernel_rfl)) rfl hW' hE rfl (by kernel_rfl) Try.underlying4⟩

set_option maxRecDepth 100000 in
theorem quorumSteps_lifted (os : Os) (started : os.Started) (H : Type) (enc : TypeId × Value → H) (F : Stop.Interp) :
    ReturnsInHanded {} Try.checked os 4 .any ((Rows.OpenSpec.upto Rows.quorumStepsSpec).pre6 enc Try.prog Try.f4 Rows.quorumStepsUptoRow.domain false) (((Rows.OpenSpec.upto Rows.quorumStepsSpec).at F).post enc Try.prog Try.f4 false true false false) := by
  refine returnsInHanded_of_cond (C := Try.checked) (s := Rows.OpenSpec.upto Rows.quorumStepsSpec) (k := Rows.uptoSmall) rfl quorumSteps_own started (by kernel_rfl) Try.func4
    (OpenSpec.witness (enc := enc) (C := Try.checked) (s := Rows.OpenSpec.upto Rows.quorumStepsSpec) (k := Rows.uptoSmall) rfl false ⟨#[], #[.agg #[.slice none 0 0, .slice none 0 0], .agg #[.int .i64 0, .int .i64 0]], []⟩ 8 (by kernel_rfl) (by kernel_rfl) (by kernel_rfl)
      (x := ([.agg [.nil, .nil], .agg [.lit (.int .i64 0), .lit (.int .i64 0)]], [], [])) (by kernel_rfl) rfl (by kernel_rfl)) ?_
  intro W base args ds gs before hval hW _ hk _
  exact quorumSteps_contract H enc W base args ds gs before hval hW hk

theorem quorumSteps_holds : Rows.QuorumStepsUptoSaid :=
  OpenClaim.holds_of_cond 4 Try.f4 rfl rfl rfl rfl rfl rfl rfl ⟨rfl, rfl, rfl, rfl, rfl⟩ rfl rfl rfl rfl rfl (by kernel_rfl) Try.func4 (by kernel_rfl)
    (of_decide_eq_true (by kernel_rfl)) (by unfold Func.isWrapper; rw [if_neg (by decide +kernel)]; exact ⟨rfl, rfl⟩)
    (fun os started H enc _ F => quorumSteps_lifted os started H enc F)

end Go.Proofs.Ythbegjaoifghlaa
