import Derived.Test.YtppcdmbkgficiaaGreatSB3
import Derived.Test.YtppcdmbkgficiaaGreatSBxReads
import Derived.Test.YtppcdmbkgficiaaGreatSBxBulk
import Derived.ProofKit
import Derived.OpenShut
import Derived.JoinedCond
import Derived.WalkKit
namespace Go.Proofs.YtppcdmbkgficiaaGreat
open Go.BX Go.ChangeShapes Go.WideShapes Go.ChangeAt Go.RowKit
theorem fetcherBegins_own : ownKnob Tryz.prog.godebug = none := by kernel_rfl
theorem fetcherBegins_laid : laidOutB Tryz.prog = true := by kernel_rfl
theorem reads_ints : Reads Tryz.prog 24 Li := Reads.slice Tryz.underlying24 (by kernel_rfl) (Reads.int Tryz.underlying3)
theorem reads_obj : Reads Tryz.prog 26 objS :=
  (Reads.struct (sh := Shape.pair Shape.str (Shape.pair (Shape.int .u64) (Shape.pair Si (Shape.pair (Shape.bv .u32 32) (Shape.pair Si (Shape.pair (Shape.int .u64) Li)))))) Tryz.underlying26 (by kernel_rfl)
    (.cons (by kernel_rfl) (by kernel_rfl) (Reads.str Tryz.underlying9) (.cons (by kernel_rfl) (by kernel_rfl) (Reads.int Tryz.underlying22) (.cons (by kernel_rfl) (by kernel_rfl) (Reads.int Tryz.underlying3) (.cons (by kernel_rfl) (by kernel_rfl) (Reads.bv32 Tryz.underlying23)
      (.cons (by kernel_rfl) (by kernel_rfl) (Reads.int Tryz.underlying3) (.cons (by kernel_rfl) (by kernel_rfl) (Reads.int Tryz.underlying22) (.one (by kernel_rfl) (by kernel_rfl) reads_ints)))))))).map fun a => ⟨⟨a.1, a.2.1, a.2.2.1, a.2.2.2.1, a.2.2.2.2.1, a.2.2.2.2.2.1, a.2.2.2.2.2.2⟩, rfl⟩
def bk : Bulk where
  one := Rows.uptoBulk
  all := Rows.uptoBulkAll
  cons := fun d r => by simp [Rows.uptoBulkAll]
  pos := fun d => by
    unfold Rows.uptoBulk
    split <;> omega
  slice := fun a b => by simp [Rows.uptoBulk]
  agg := fun a => by simp [Rows.uptoBulk]
theorem obj_bulk {H : Type} {enc : TypeId × Value → H} {W : World} {S : Nat → Prop} {sp : Nat → Bool} {hd : Bool} {O : ObjD} {cs : List Value} {d : DataW H} {p : List MemPlace} {v : Value} (hv : v.cells.toList = cs) (hO : objS.rep S W cs O) (h : DataW.Trod enc Tryz.prog W 0 sp hd 26 v d p) :
    O.key.size ≤ Rows.uptoBulk d := by
  obtain ⟨an, kn, rfl, -⟩ := obj_open hO
  obtain ⟨n, h⟩ := h
  rw [hv] at h
  obtain ⟨m, y, hy, hle⟩ := bk.field_le Tryz.underlying26 h 0 rfl
  have e1 : Tryz.prog.cellsOf 9 = 1 := by kernel_rfl
  change DataW.trod enc Tryz.prog W 0 sp hd m 9 ([Value.string O.key, .int .u64 O.version, .int .i64 O.size, .int .u32 (O.sum.toNat : Int), .int .i64 O.group, .int .u64 O.epoch, .slice an O.nodes.length kn].take (Tryz.prog.cellsOf 9)) = _ at hy
  rw [e1] at hy
  obtain ⟨s, hs, hx, -⟩ := DataW.trod_string Tryz.underlying9 hy
  obtain rfl : O.key = s := by simpa using hs
  rw [hx] at hle
  have hb : bk.one (DataW.lit (H := H) (.string O.key.data.toList)) = O.key.size + 1 := by
    show Rows.uptoBulk _ = _
    simp only [Rows.uptoBulk, Array.length_toList]
    rfl
  change bk.one (DataW.lit (H := H) (.string O.key.data.toList)) ≤ _ at hle
  rw [hb] at hle
  exact Nat.le_trans (Nat.le_succ _) hle
theorem begins_spec {S : Nat → Prop} {w : World} {O : ObjD} {os : List Value} (hO : objS.rep S w os O) (k n limit : Int) (hkey : O.key.size ≤ 1000000000) :
    Calls Tryz.prog 3 #[.agg os.toArray, .int .i64 k, .int .i64 n, .int .i64 limit] w (Ret fun v w' => Ext w w' ∧ v = .bool true) := by
  by_cases hb : okB O k n limit
  · exact begins_ok hO k n limit hb hkey
  · exact begins_bad hO k n limit hb
set_option maxRecDepth 100000 in
theorem fetcherBegins_contract (H : Type) (enc : TypeId × Value → H) (W : World) (base : Nat) (args : Array Value) (ds gs : List (DataW H)) (before : List MemPlace)
    (hval : ∀ (j : Nat) t v, Tryz.f3.params[j]? = some t → args[j]? = some v → Value.okWide Tryz.prog W .any base t v)
    (hW : DataW.Whole enc Tryz.prog Tryz.f3.params.toList Rows.fetcherBeginsSpec.vars false W args.toList ds gs before) (hk : Rows.uptoSmall H (ds ++ gs) = true) :
    Calls Tryz.prog 3 args W fun e W' => ∃ v, e = .returned v ∧ Rows.fetcherBeginsSpec.post enc Tryz.prog Tryz.f3 false true false false W args v W' := by
  have hW' := hW
  obtain ⟨p, q, hA0, hV, rfl, -, -⟩ := hW
  have hA : DataW.TrodAll enc Tryz.prog W 0 (fun _ => true) true Tryz.f3.params.toList args.toList ds p := hA0
  rw [Tryz.params3] at hA hval
  obtain ⟨v0, vs0, d0, ds0, p0, q0, hargs, rfl, rfl, h0, r0⟩ := trodAll_cons hA
  obtain ⟨v1, vs1, d1, ds1, p1, q1, rfl, rfl, rfl, h1, r1⟩ := trodAll_cons r0
  obtain ⟨v2, vs2, d2, ds2, p2, q2, rfl, rfl, rfl, h2, r2⟩ := trodAll_cons r1
  obtain ⟨v3, vs3, d3, ds3, p3, q3, rfl, rfl, rfl, h3, r3⟩ := trodAll_cons r2
  obtain ⟨rfl, rfl, rfl⟩ := trodAll_nil r3
  obtain rfl : args = #[v0, v1, v2, v3] := by cases args; simp_all
  obtain ⟨rfl, rfl⟩ := trodVars_none hV
  obtain ⟨os, O, rfl, hO⟩ := reads_obj.structArg Tryz.underlying26 (hval 0 26 v0 rfl rfl) h0
  obtain ⟨x1, rfl, rfl, rfl, hx1⟩ := open_int Tryz.underlying3 (hval 1 3 v1 rfl rfl) h1
  obtain ⟨x2, rfl, rfl, rfl, hx2⟩ := open_int Tryz.underlying3 (hval 2 3 v2 rfl rfl) h2
  obtain ⟨x3, rfl, rfl, rfl, hx3⟩ := open_int Tryz.underlying3 (hval 3 3 v3 rfl rfl) h3
  have hk1 : Rows.uptoBulk d0 ≤ 1048576 := by
    have hk' := hk
    simp [Rows.uptoSmall, Rows.uptoBulkAll] at hk'
    omega
  have hk2 := obj_bulk rfl hO h0
  refine (begins_spec hO x1 x2 x3 (by omega)).mono fun e W' ⟨v, he, hE, hv⟩ => ?_
  subst hv
  exact ⟨_, he, post_true fetcherBegins_laid (params_ok (by kernel_rfl)) rfl hW' hE rfl (by kernel_rfl) Tryz.underlying4⟩
set_option maxRecDepth 100000 in
theorem fetcherBegins_lifted (os : Os) (started : os.Started) (H : Type) (enc : TypeId × Value → H) (F : Stop.Interp) :
    ReturnsInHanded {} Tryz.checked os 3 .any ((Rows.OpenSpec.upto Rows.fetcherBeginsSpec).pre6 enc Tryz.prog Tryz.f3 Rows.fetcherBeginsUptoRow.domain false) (((Rows.OpenSpec.upto Rows.fetcherBeginsSpec).at F).post enc Tryz.prog Tryz.f3 false true false false) := by
  refine returnsInHanded_of_cond (C := Tryz.checked) (s := Rows.OpenSpec.upto Rows.fetcherBeginsSpec) (k := Rows.uptoSmall) rfl fetcherBegins_own started (by kernel_rfl) Tryz.func3
    (OpenSpec.witness (enc := enc) (C := Tryz.checked) (s := Rows.OpenSpec.upto Rows.fetcherBeginsSpec) (k := Rows.uptoSmall) rfl false ⟨#[], #[.agg #[.string ⟨#[]⟩, .int .u64 0, .int .i64 0, .int .u32 0, .int .i64 0, .int .u64 0, .slice none 0 0], .int .i64 0, .int .i64 0, .int .i64 0], []⟩ 8 (by kernel_rfl) (by kernel_rfl) (by kernel_rfl)
      (x := ([.agg [.lit (.string []), .lit (.int .u64 0), .lit (.int .i64 0), .lit (.int .u32 0), .lit (.int .i64 0), .lit (.int .u64 0), .nil], .lit (.int .i64 0), .lit (.int .i64 0), .lit (.int .i64 0)], [], [])) (by kernel_rfl) rfl (by kernel_rfl)) ?_
  intro W base args ds gs before hval hW _ hk _
  exact fetcherBegins_contract H enc W base args ds gs before hval hW hk
theorem fetcherBegins_holds : Rows.FetcherBeginsUptoSaid :=
  OpenClaim.holds_of_cond 3 Tryz.f3 rfl rfl rfl rfl rfl rfl rfl ⟨rfl, rfl, rfl, rfl, rfl⟩ rfl rfl rfl rfl rfl (by kernel_rfl) Tryz.func3 (by kernel_rfl)
    (of_decide_eq_true (by kernel_rfl)) (by unfold Func.isWrapper; rw [if_neg (by decide +kernel)]; exact ⟨rfl, rfl⟩)
    (fun os started H enc _ F => fetcherBegins_lifted os started H enc F)
end Go.Proofs.YtppcdmbkgficiaaGreat
