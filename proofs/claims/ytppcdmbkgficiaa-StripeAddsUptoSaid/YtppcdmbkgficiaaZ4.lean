import Derived.Test.YtppcdmbkgficiaaP9
import Derived.Test.YtppcdmbkgficiaaBxReads
import Derived.Test.YtppcdmbkgficiaaBxBulk
import Derived.ProofKit
import Derived.OpenShut
import Derived.JoinedCond
import Derived.WalkKit
namespace Go.Proofs.Ytppcdmbkgficiaa
open Go.BX Go.ChangeShapes Go.WideShapes Go.ChangeAt Go.RowKit

theorem stripeAdds_own : ownKnob Try.prog.godebug = none := by kernel_rfl
theorem stripeAdds_laid : laidOutB Try.prog = true := by kernel_rfl
theorem reads_bytes : Reads Try.prog 23 (Shape.slice (Shape.bv .u8 8)) := Reads.slice Try.underlying23 (by kernel_rfl) (Reads.bv8 Try.underlying5)
def bk : Bulk where
  one := Rows.uptoBulk
  all := Rows.uptoBulkAll
  cons := fun d r => by simp [Rows.uptoBulkAll]
  pos := fun d => by
    unfold Rows.uptoBulk
    split <;> omega
  slice := fun a b => by simp [Rows.uptoBulk]
  agg := fun a => by simp [Rows.uptoBulk]
theorem bytes_bulk {H : Type} {enc : TypeId × Value → H} {W : World} {sp : Nat → Bool} {hd : Bool} {a : Option Addr} {l c : Nat} {d : DataW H} {p : List MemPlace} (h : DataW.Trod enc Try.prog W 0 sp hd 23 (.slice a l c) d p) : l ≤ Rows.uptoBulk d := by
  obtain ⟨n, h⟩ := h
  exact bk.slice_le Try.underlying23 h

theorem adds_spec {S : Nat → Prop} {w : World} {xs ys : List (BitVec 8)} {a b : Option Addr} {c d : Nat} (k n : Int) (h : (Shape.slice (Shape.bv .u8 8)).rep S w [.slice a xs.length c] xs) (h2 : (Shape.slice (Shape.bv .u8 8)).rep S w [.slice b ys.length d] ys)
    (hsz : xs.length ≤ 1048576) : Calls Try.prog 6 #[.slice a xs.length c, .slice b ys.length d, .int .i64 k, .int .i64 n] w (Ret fun v w' => Ext w w' ∧ v = .bool true) := by
  by_cases hl : xs.length = ys.length
  · by_cases hb : xs.length ≤ 65536 ∧ 1 ≤ k ∧ k ≤ n ∧ n ≤ 255
    · obtain ⟨k, rfl⟩ : ∃ m : Nat, k = (m : Int) := ⟨k.toNat, by omega⟩
      obtain ⟨n, rfl⟩ : ∃ m : Nat, n = (m : Int) := ⟨n.toNat, by omega⟩
      exact adds_ok h h2 hl hb.1 (by omega) (by omega) (by omega)
    · exact adds_bad h h2 k n hsz hl hb
  · exact adds_len h h2 k n hl

set_option maxRecDepth 100000 in
theorem stripeAdds_contract (H : Type) (enc : TypeId × Value → H) (W : World) (base : Nat) (args : Array Value) (ds gs : List (DataW H)) (before : List MemPlace)
    (hval : ∀ (j : Nat) t v, Try.f6.params[j]? = some t → args[j]? = some v → Value.okWide Try.prog W .any base t v)
    (hW : DataW.Whole enc Try.prog Try.f6.params.toList Rows.stripeAddsSpec.vars false W args.toList ds gs before) (hk : Rows.uptoSmall H (ds ++ gs) = true) :
    Calls Try.prog 6 args W fun e W' => ∃ v, e = .returned v ∧ Rows.stripeAddsSpec.post enc Try.prog Try.f6 false true false false W args v W' := by
  have hW' := hW
  obtain ⟨p, q, hA0, hV, rfl, -, -⟩ := hW
  have hA : DataW.TrodAll enc Try.prog W 0 (fun _ => true) true Try.f6.params.toList args.toList ds p := hA0
  rw [Try.params6] at hA hval
  obtain ⟨v0, vs0, d0, ds0, p0, q0, hargs, rfl, rfl, h0, r0⟩ := trodAll_cons hA
  obtain ⟨v1, vs1, d1, ds1, p1, q1, rfl, rfl, rfl, h1, r1⟩ := trodAll_cons r0
  obtain ⟨v2, vs2, d2, ds2, p2, q2, rfl, rfl, rfl, h2, r2⟩ := trodAll_cons r1
  obtain ⟨v3, vs3, d3, ds3, p3, q3, rfl, rfl, rfl, h3, r3⟩ := trodAll_cons r2
  obtain ⟨rfl, rfl, rfl⟩ := trodAll_nil r3
  obtain rfl : args = #[v0, v1, v2, v3] := by cases args; simp_all
  obtain ⟨rfl, rfl⟩ := trodVars_none hV
  obtain ⟨a, xs, c, rfl, ha⟩ := reads_bytes.sliceArg Try.underlying23 (hval 0 23 v0 rfl rfl) h0
  obtain ⟨b, ys, d, rfl, hb⟩ := reads_bytes.sliceArg Try.underlying23 (hval 1 23 v1 rfl rfl) h1
  obtain ⟨x1, rfl, rfl, rfl, hx1⟩ := open_int Try.underlying3 (hval 2 3 v2 rfl rfl) h2
  obtain ⟨x2, rfl, rfl, rfl, hx2⟩ := open_int Try.underlying3 (hval 3 3 v3 rfl rfl) h3
  have hk1 : Rows.uptoBulk d0 ≤ 1048576 := by
    have hk' := hk
    simp [Rows.uptoSmall, Rows.uptoBulkAll] at hk'
    omega
  have hk2 := bytes_bulk h0
  refine (adds_spec x1 x2 ha hb (by omega)).mono fun e W' ⟨v, he, hE, hv⟩ => ?_
  subst hv
  exact ⟨_, he, post_true stripeAdds_laid (params_ok (by kernel_rfl)) rfl hW' hE rfl (by kernel_rfl) Try.underlying4⟩

set_option maxRecDepth 100000 in
theorem stripeAdds_lifted (os : Os) (started : os.Started) (H : Type) (enc : TypeId × Value → H) (F : Stop.Interp) :
    ReturnsInHanded {} Try.checked os 6 .any ((Rows.OpenSpec.upto Rows.stripeAddsSpec).pre6 enc Try.prog Try.f6 Rows.stripeAddsUptoRow.domain false) (((Rows.OpenSpec.upto Rows.stripeAddsSpec).at F).post enc Try.prog Try.f6 false true false false) := by
  refine returnsInHanded_of_cond (C := Try.checked) (s := Rows.OpenSpec.upto Rows.stripeAddsSpec) (k := Rows.uptoSmall) rfl stripeAdds_own started (by kernel_rfl) Try.func6
    (OpenSpec.witness (enc := enc) (C := Try.checked) (s := Rows.OpenSpec.upto Rows.stripeAddsSpec) (k := Rows.uptoSmall) rfl false ⟨#[], #[.slice none 0 0, .slice none 0 0, .int .i64 0, .int .i64 0], []⟩ 8 (by kernel_rfl) (by kernel_rfl) (by kernel_rfl)
      (x := ([.nil, .nil, .lit (.int .i64 0), .lit (.int .i64 0)], [], [])) (by kernel_rfl) rfl (by kernel_rfl)) ?_
  intro W base args ds gs before hval hW _ hk _
  exact stripeAdds_contract H enc W base args ds gs before hval hW hk

theorem stripeAdds_holds : Rows.StripeAddsUptoSaid :=
  OpenClaim.holds_of_cond 6 Try.f6 rfl rfl rfl rfl rfl rfl rfl ⟨rfl, rfl, rfl, rfl, rfl⟩ rfl rfl rfl rfl rfl (by kernel_rfl) Try.func6 (by kernel_rfl)
    (of_decide_eq_true (by kernel_rfl)) (by unfold Func.isWrapper; rw [if_neg (by decide +kernel)]; exact ⟨rfl, rfl⟩)
    (fun os started H enc _ F => stripeAdds_lifted os started H enc F)

end Go.Proofs.Ytppcdmbkgficiaa
