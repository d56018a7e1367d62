import Derived.Test.YtppcdmbkgficiaaE7
import Derived.Test.YtppcdmbkgficiaaBxReads
import Derived.Test.YtppcdmbkgficiaaBxBulk
import Derived.ProofKit
import Derived.OpenShut
import Derived.JoinedCond
import Derived.WalkKit
namespace Go.Proofs.Ytppcdmbkgficiaa
open Go.BX Go.ChangeShapes Go.WideShapes Go.ChangeAt Go.RowKit

theorem stripeCuts_own : ownKnob Try.prog.godebug = none := by kernel_rfl
theorem stripeCuts_laid : laidOutB Try.prog = true := by kernel_rfl
theorem reads_bytes : Reads Try.prog 23 (Shape.slice (Shape.bv .u8 8)) := Reads.slice Try.underlying23 (by kernel_rfl) (Reads.bv8 Try.underlying5)
theorem reads_cid : Reads Try.prog 50 cidS :=
  (Reads.struct (sh := Shape.pair (Shape.int .u64) (Shape.pair (Shape.int .i64) (Shape.int .u64))) Try.underlying50 (by kernel_rfl) (.cons (by kernel_rfl) (by kernel_rfl) (Reads.int Try.underlying22) (.cons (by kernel_rfl) (by kernel_rfl) (Reads.int Try.underlying3) (.one (by kernel_rfl) (by kernel_rfl) (Reads.int Try.underlying22))))).map fun a => ⟨⟨a.1, a.2.1, a.2.2⟩, rfl⟩
def bk : Bulk where
  one := Rows.uptoBulk
  all := Rows.uptoBulkAll
  cons := fun d r => by simp [Rows.uptoBulkAll]
  pos := fun d => by
    unfold Rows.uptoBulk
    split <;> omega
  slice := fun a b => by simp [Rows.uptoBulk]
  agg := fun a => by simp [Rows.uptoBulk]
theorem bytes_bulk {H : Type} {enc : TypeId × Value → H} {W : World} {sp : Nat → Bool} {hd : Bool} {a : Option Addr} {l c : Nat} {d : DataW H} {p : List MemPlace} (h : DataW.Trod enc Try.prog W 0 sp hd 23 (.slice a l c) d p) : l ≤ Rows.uptoBulk d := by
  obtain ⟨n, h⟩ := h
  exact bk.slice_le Try.underlying23 h


set_option maxRecDepth 100000 in
theorem stripeCuts_contract (H : Type) (enc : TypeId × Value → H) (W : World) (base : Nat) (args : Array Value) (ds gs : List (DataW H)) (before : List MemPlace)
    (hval : ∀ (j : Nat) t v, Try.f9.params[j]? = some t → args[j]? = some v → Value.okWide Try.prog W .any base t v)
    (hW : DataW.Whole enc Try.prog Try.f9.params.toList Rows.stripeCutsSpec.vars false W args.toList ds gs before) (hk : Rows.uptoSmall H (ds ++ gs) = true) :
    Calls Try.prog 9 args W fun e W' => ∃ v, e = .returned v ∧ Rows.stripeCutsSpec.post enc Try.prog Try.f9 false true false false W args v W' := by
  have hW' := hW
  obtain ⟨p, q, hA0, hV, rfl, -, -⟩ := hW
  have hA : DataW.TrodAll enc Try.prog W 0 (fun _ => true) true Try.f9.params.toList args.toList ds p := hA0
  rw [Try.params9] at hA hval
  obtain ⟨v0, vs0, d0, ds0, p0, q0, hargs, rfl, rfl, h0, r0⟩ := trodAll_cons hA
  obtain ⟨v1, vs1, d1, ds1, p1, q1, rfl, rfl, rfl, h1, r1⟩ := trodAll_cons r0
  obtain ⟨v2, vs2, d2, ds2, p2, q2, rfl, rfl, rfl, h2, r2⟩ := trodAll_cons r1
  obtain ⟨v3, vs3, d3, ds3, p3, q3, rfl, rfl, rfl, h3, r3⟩ := trodAll_cons r2
  obtain ⟨v4, vs4, d4, ds4, p4, q4, rfl, rfl, rfl, h4, r4⟩ := trodAll_cons r3
  obtain ⟨rfl, rfl, rfl⟩ := trodAll_nil r4
  obtain rfl : args = #[v0, v1, v2, v3, v4] := by cases args; simp_all
  obtain ⟨rfl, rfl⟩ := trodVars_none hV
  obtain ⟨a, xs, c, rfl, ha⟩ := reads_bytes.sliceArg Try.underlying23 (hval 0 23 v0 rfl rfl) h0
  obtain ⟨x1, rfl, rfl, rfl, hx1⟩ := open_int Try.underlying3 (hval 1 3 v1 rfl rfl) h1
  obtain ⟨x2, rfl, rfl, rfl, hx2⟩ := open_int Try.underlying3 (hval 2 3 v2 rfl rfl) h2
  obtain ⟨x3, rfl, rfl, rfl, hx3⟩ := open_int Try.underlying3 (hval 3 3 v3 rfl rfl) h3
  obtain ⟨ids, id, rfl, hid⟩ := reads_cid.structArg Try.underlying50 (hval 4 50 v4 rfl rfl) h4
  have hk1 : Rows.uptoBulk d0 ≤ 1048576 := by
    have hk' := hk
    simp [Rows.uptoSmall, Rows.uptoBulkAll] at hk'
    omega
  have hk2 := bytes_bulk h0
  refine (cuts_spec x1 x2 x3 ha hid (by omega)).mono fun e W' ⟨v, he, hE, hv⟩ => ?_
  subst hv
  exact ⟨_, he, post_true stripeCuts_laid (params_ok (by kernel_rfl)) rfl hW' hE rfl (by kernel_rfl) Try.underlying4⟩

set_option maxRecDepth 100000 in
theorem stripeCuts_lifted (os : Os) (started : os.Started) (H : Type) (enc : TypeId × Value → H) (F : Stop.Interp) :
    ReturnsInHanded {} Try.checked os 9 .any ((Rows.OpenSpec.upto Rows.stripeCutsSpec).pre6 enc Try.prog Try.f9 Rows.stripeCutsUptoRow.domain false) (((Rows.OpenSpec.upto Rows.stripeCutsSpec).at F).post enc Try.prog Try.f9 false true false false) := by
  refine returnsInHanded_of_cond (C := Try.checked) (s := Rows.OpenSpec.upto Rows.stripeCutsSpec) (k := Rows.uptoSmall) rfl stripeCuts_own started (by kernel_rfl) Try.func9
    (OpenSpec.witness (enc := enc) (C := Try.checked) (s := Rows.OpenSpec.upto Rows.stripeCutsSpec) (k := Rows.uptoSmall) rfl false ⟨#[], #[.slice none 0 0, .int .i64 0, .int .i64 0, .int .i64 0, .agg #[.int .u64 0, .int .i64 0, .int .u64 0]], []⟩ 8 (by kernel_rfl) (by kernel_rfl) (by kernel_rfl)
      (x := ([.nil, .lit (.int .i64 0), .lit (.int .i64 0), .lit (.int .i64 0), .agg [.lit (.int .u64 0), .lit (.int .i64 0), .lit (.int .u64 0)]], [], [])) (by kernel_rfl) rfl (by kernel_rfl)) ?_
  intro W base args ds gs before hval hW _ hk _
  exact stripeCuts_contract H enc W base args ds gs before hval hW hk

theorem stripeCuts_holds : Rows.StripeCutsUptoSaid :=
  OpenClaim.holds_of_cond 9 Try.f9 rfl rfl rfl rfl rfl rfl rfl ⟨rfl, rfl, rfl, rfl, rfl⟩ rfl rfl rfl rfl rfl (by kernel_rfl) Try.func9 (by kernel_rfl)
    (of_decide_eq_true (by kernel_rfl)) (by unfold Func.isWrapper; rw [if_neg (by decide +kernel)]; exact ⟨rfl, rfl⟩)
    (fun os started H enc _ F => stripeCuts_lifted os started H enc F)

end Go.Proofs.Ytppcdmbkgficiaa
