import Derived.Test.YtppcdmbkgficiaaSV6
import Derived.Test.YtppcdmbkgficiaaSBxReads
import Derived.ProofKit
import Derived.OpenShut
import Derived.JoinedCond
import Derived.WalkKit
namespace Go.Proofs.Ytppcdmbkgficiaa
open Go.BX Go.ChangeShapes Go.WideShapes Go.ChangeAt Go.RowKit
theorem moverMoves_own : ownKnob Try.prog.godebug = none := by kernel_rfl
theorem moverMoves_laid : laidOutB Try.prog = true := by kernel_rfl
theorem reads_bytes : Reads Try.prog 23 (Shape.slice (Shape.bv .u8 8)) := Reads.slice Try.underlying23 (by kernel_rfl) (Reads.bv8 Try.underlying5)
theorem moves_spec {S : Nat → Prop} {w : World} {xs : List (BitVec 8)} {a : Option Addr} {c : Nat} (k n fi la : Int) (h : (Shape.slice (Shape.bv .u8 8)).rep S w [.slice a xs.length c] xs) :
    Calls Try.prog 16 #[.slice a xs.length c, .int .i64 k, .int .i64 n, .int .i64 fi, .int .i64 la] w (Ret fun v w' => Ext w w' ∧ v = .bool true) := by
  by_cases hb : 1 ≤ k ∧ k ≤ n ∧ n ≤ 12 ∧ xs.length ≤ 2000 ∧ 0 ≤ fi ∧ 0 ≤ la
  · obtain ⟨k, rfl⟩ : ∃ m : Nat, k = (m : Int) := ⟨k.toNat, by omega⟩
    obtain ⟨n, rfl⟩ : ∃ m : Nat, n = (m : Int) := ⟨n.toNat, by omega⟩
    obtain ⟨fi, rfl⟩ : ∃ m : Nat, fi = (m : Int) := ⟨fi.toNat, by omega⟩
    obtain ⟨la, rfl⟩ : ∃ m : Nat, la = (m : Int) := ⟨la.toNat, by omega⟩
    exact moves_ok h (by omega) (by omega) (by omega) (by omega)
  · exact moves_bad h k n fi la hb
set_option maxRecDepth 100000 in
theorem moverMoves_contract (H : Type) (enc : TypeId × Value → H) (W : World) (base : Nat) (args : Array Value) (ds gs : List (DataW H)) (before : List MemPlace)
    (hval : ∀ (j : Nat) t v, Try.f16.params[j]? = some t → args[j]? = some v → Value.okWide Try.prog W .any base t v)
    (hW : DataW.Whole enc Try.prog Try.f16.params.toList Rows.moverMovesSpec.vars false W args.toList ds gs before) :
    Calls Try.prog 16 args W fun e W' => ∃ v, e = .returned v ∧ Rows.moverMovesSpec.post enc Try.prog Try.f16 false true false false W args v W' := by
  have hW' := hW
  obtain ⟨p, q, hA0, hV, rfl, -, -⟩ := hW
  have hA : DataW.TrodAll enc Try.prog W 0 (fun _ => true) true Try.f16.params.toList args.toList ds p := hA0
  rw [Try.params16] at hA hval
  obtain ⟨v0, vs0, d0, ds0, p0, q0, hargs, rfl, rfl, h0, r0⟩ := trodAll_cons hA
  obtain ⟨v1, vs1, d1, ds1, p1, q1, rfl, rfl, rfl, h1, r1⟩ := trodAll_cons r0
  obtain ⟨v2, vs2, d2, ds2, p2, q2, rfl, rfl, rfl, h2, r2⟩ := trodAll_cons r1
  obtain ⟨v3, vs3, d3, ds3, p3, q3, rfl, rfl, rfl, h3, r3⟩ := trodAll_cons r2
  obtain ⟨v4, vs4, d4, ds4, p4, q4, rfl, rfl, rfl, h4, r4⟩ := trodAll_cons r3
  obtain ⟨rfl, rfl, rfl⟩ := trodAll_nil r4
  obtain rfl : args = #[v0, v1, v2, v3, v4] := by cases args; simp_all
  obtain ⟨rfl, rfl⟩ := trodVars_none hV
  obtain ⟨a, xs, c, rfl, ha⟩ := reads_bytes.sliceArg Try.underlying23 (hval 0 23 v0 rfl rfl) h0
  obtain ⟨x1, rfl, rfl, rfl, hx1⟩ := open_int Try.underlying3 (hval 1 3 v1 rfl rfl) h1
  obtain ⟨x2, rfl, rfl, rfl, hx2⟩ := open_int Try.underlying3 (hval 2 3 v2 rfl rfl) h2
  obtain ⟨x3, rfl, rfl, rfl, hx3⟩ := open_int Try.underlying3 (hval 3 3 v3 rfl rfl) h3
  obtain ⟨x4, rfl, rfl, rfl, hx4⟩ := open_int Try.underlying3 (hval 4 3 v4 rfl rfl) h4
  refine (moves_spec x1 x2 x3 x4 ha).mono fun e W' ⟨v, he, hE, hv⟩ => ?_
  subst hv
  exact ⟨_, he, post_true moverMoves_laid (params_ok (by kernel_rfl)) rfl hW' hE rfl (by kernel_rfl) Try.underlying4⟩
set_option maxRecDepth 100000 in
theorem moverMoves_lifted (os : Os) (started : os.Started) (H : Type) (enc : TypeId × Value → H) :
    ReturnsInHanded {} Try.checked os 16 .any (Rows.moverMovesSpec.pre6 enc Try.prog Try.f16 Rows.moverMovesRow.domain false) (Rows.moverMovesSpec.post enc Try.prog Try.f16 false true false false) := by
  refine returnsInHanded_of_change (C := Try.checked) moverMoves_own started (by kernel_rfl) Try.func16
    (ChangeSpec.witness6 (enc := enc) (C := Try.checked) false ⟨#[], #[.slice none 0 0, .int .i64 0, .int .i64 0, .int .i64 0, .int .i64 0], []⟩ 8 (by kernel_rfl) (by kernel_rfl) (by kernel_rfl) (by kernel_rfl)) ?_
  intro W base args ds gs before hval hW _ _
  exact moverMoves_contract H enc W base args ds gs before hval hW
end Go.Proofs.Ytppcdmbkgficiaa
