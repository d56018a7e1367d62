import Derived.Test.YtppcdmbkgficiaaSH4
import Derived.Test.YtppcdmbkgficiaaSBxB
import Derived.ProofKit
import Derived.OpenShut
import Derived.JoinedCond
import Derived.WalkKit
import Derived.ChangeMaps5
namespace Go.Proofs.Ytppcdmbkgficiaa
open Go.BX Go.ChangeShapes Go.WideShapes Go.ChangeAt Go.RowKit
theorem writerBegins_own : ownKnob Try.prog.godebug = none := by kernel_rfl
theorem writerBegins_laid : laidOutB Try.prog = true := by kernel_rfl
theorem reads_bytes : Reads Try.prog 23 (Shape.slice (Shape.bv .u8 8)) := Reads.slice Try.underlying23 (by kernel_rfl) (Reads.bv8 Try.underlying5)
theorem reads_ints : Reads Try.prog 25 (Shape.slice (Shape.int .i64)) := Reads.slice Try.underlying25 (by kernel_rfl) (Reads.int Try.underlying3)
theorem reads_res : Reads Try.prog 27 resS :=
 (Reads.struct (sh := Shape.pair (Shape.int .i64) (Shape.pair (Shape.int .u64) (Shape.pair (Shape.slice (Shape.int .i64)) (Shape.int .u64)))) Try.underlying27 (by kernel_rfl) (.cons (by kernel_rfl) (by kernel_rfl) (Reads.int Try.underlying24) (.cons (by kernel_rfl) (by kernel_rfl) (Reads.int Try.underlying22) (.cons (by kernel_rfl) (by kernel_rfl) reads_ints (.one (by kernel_rfl) (by kernel_rfl) (Reads.int Try.underlying22)))))).map fun a => ⟨⟨a.1, a.2.1, a.2.2.1, a.2.2.2⟩, rfl⟩
theorem wf_u64 {x : Int} (h : (Lit.int .u64 x).wf = true) : 0 ≤ x ∧ x ≤ 18446744073709551615 := by
 simp only [Lit.wf, Bool.and_eq_true, decide_eq_true_eq] at h
 exact h
theorem wbegins_spec {S : Nat → Prop} {w : World} {xs : List (BitVec 8)} {a : Option Addr} {c : Nat} {R : Res} {rs : List Value} (client seq : Int) (key : ByteArray) (hkey : key.size ≤ maxLen) (hc1 : 0 ≤ client ∧ client ≤ 18446744073709551615) (hc2 : 0 ≤ seq ∧ seq ≤ 18446744073709551615) (h : (Shape.slice (Shape.bv .u8 8)).rep S w [.slice a xs.length c] xs) (hR : resS.rep S w rs R) (k n limit : Int) :
 Calls Try.prog 3 #[.int .u64 client, .int .u64 seq, .string key, .slice a xs.length c, .int .i64 k, .int .i64 n, .agg rs.toArray, .int .i64 limit] w (Ret fun v w' => Ext w w' ∧ v = .bool true) := by
 by_cases hb : okS (xs.length : Int) k n ∧ (R.nodes.length : Int) = n ∧ 1 ≤ limit ∧ limit ≤ 100000
 · obtain ⟨⟨_, _, _, _, _⟩, _, b, d⟩ := hb
   obtain ⟨k, rfl⟩ : ∃ m : Nat, k = (m : Int) := ⟨k.toNat, by omega⟩
   obtain ⟨n, rfl⟩ : ∃ m : Nat, n = (m : Int) := ⟨n.toNat, by omega⟩
   exact wbegins_ok client seq key h hR limit hkey hc1 hc2 k n (by omega) (by omega) (by omega) (by omega) (by omega) ⟨b, d⟩
 · exact wbegins_bad client seq key h hR limit k n hb
set_option maxRecDepth 100000 in
theorem writerBegins_contract (H : Type) (enc : TypeId × Value → H) (W : World) (base : Nat) (args : Array Value) (ds gs : List (DataW H)) (before : List MemPlace)
 (hval : ∀ (j : Nat) t v, Try.f3.params[j]? = some t → args[j]? = some v → Value.okWide Try.prog W .any base t v)
 (hW : DataW.Whole enc Try.prog Try.f3.params.toList Rows.writerBeginsSpec.vars false W args.toList ds gs before) :
 Calls Try.prog 3 args W fun e W' => ∃ v, e = .returned v ∧ Rows.writerBeginsSpec.post enc Try.prog Try.f3 false true false false W args v W' := by
 have hW' := hW
 obtain ⟨p, q, b, hV, rfl, -, -⟩ := hW
 have hA : DataW.TrodAll enc Try.prog W 0 (fun _ => true) true Try.f3.params.toList args.toList ds p := b
 rw [Try.params3] at hA hval
 obtain ⟨d, _, _, _, _, _, hargs, rfl, rfl, r, s⟩ := trodAll_cons hA
 obtain ⟨f, _, _, _, _, _, rfl, rfl, rfl, u, w⟩ := trodAll_cons s
 obtain ⟨g, _, _, _, _, _, rfl, rfl, rfl, x, y⟩ := trodAll_cons w
 obtain ⟨h, _, _, _, _, _, rfl, rfl, rfl, z, A⟩ := trodAll_cons y
 obtain ⟨i, _, _, _, _, _, rfl, rfl, rfl, B, C⟩ := trodAll_cons A
 obtain ⟨k, _, _, _, _, _, rfl, rfl, rfl, D, E⟩ := trodAll_cons C
 obtain ⟨l, _, _, _, _, _, rfl, rfl, rfl, F, G⟩ := trodAll_cons E
 obtain ⟨m, _, _, _, _, _, rfl, rfl, rfl, I, J⟩ := trodAll_cons G
 obtain ⟨rfl, rfl, rfl⟩ := trodAll_nil J
 obtain rfl : args = #[d, f, g, h, i, k, l, m] := by cases args; simp_all
 obtain ⟨rfl, rfl⟩ := trodVars_none hV
 obtain ⟨K, rfl, rfl, rfl, n⟩ := open_int Try.underlying22 (hval 0 22 d rfl rfl) r
 obtain ⟨L, rfl, rfl, rfl, o⟩ := open_int Try.underlying22 (hval 1 22 f rfl rfl) u
 obtain ⟨ky, rfl, rfl, rfl, hky⟩ := Go.ChangeMaps.open_string Try.underlying9 (hval 2 9 g rfl rfl) x
 obtain ⟨a, xs, c, rfl, ha⟩ := reads_bytes.sliceArg Try.underlying23 (hval 3 23 h rfl rfl) z
 obtain ⟨M, rfl, rfl, rfl, _⟩ := open_int Try.underlying3 (hval 4 3 i rfl rfl) B
 obtain ⟨N, rfl, rfl, rfl, _⟩ := open_int Try.underlying3 (hval 5 3 k rfl rfl) D
 obtain ⟨rs, R, rfl, hR⟩ := reads_res.structArg Try.underlying27 (hval 6 27 l rfl rfl) F
 obtain ⟨O, rfl, rfl, rfl, _⟩ := open_int Try.underlying3 (hval 7 3 m rfl rfl) I
 refine (wbegins_spec K L ky hky (wf_u64 n) (wf_u64 o) ha hR M N O).mono fun e W' ⟨v, he, hE, hv⟩ => ?_
 subst hv
 exact ⟨_, he, post_true writerBegins_laid (params_ok (by kernel_rfl)) rfl hW' hE rfl (by kernel_rfl) Try.underlying4⟩
set_option maxRecDepth 100000 in
theorem writerBegins_lifted (os : Os) (started : os.Started) (H : Type) (enc : TypeId × Value → H) :
 ReturnsInHanded {} Try.checked os 3 .any (Rows.writerBeginsSpec.pre6 enc Try.prog Try.f3 Rows.writerBeginsRow.domain false) (Rows.writerBeginsSpec.post enc Try.prog Try.f3 false true false false) := by
 refine returnsInHanded_of_change (C := Try.checked) writerBegins_own started (by kernel_rfl) Try.func3
  (ChangeSpec.witness6 (enc := enc) (C := Try.checked) false ⟨#[], #[.int .u64 0, .int .u64 0, .string ⟨#[]⟩, .slice none 0 0, .int .i64 0, .int .i64 0, .agg #[.int .i64 0, .int .u64 0, .slice none 0 0, .int .u64 0], .int .i64 0], []⟩ 8 (by kernel_rfl) (by kernel_rfl) (by kernel_rfl) (by kernel_rfl)) ?_
 intro W base args ds gs before hval hW _ _
 exact writerBegins_contract H enc W base args ds gs before hval hW
end Go.Proofs.Ytppcdmbkgficiaa
