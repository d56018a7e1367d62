import Derived.Test.YtppcdmbkgficiaaGreatSB5
import Derived.Test.YtppcdmbkgficiaaGreatSBxB
import Derived.ProofKit
import Derived.OpenShut
import Derived.JoinedCond
import Derived.WalkKit
namespace Go.Proofs.YtppcdmbkgficiaaGreat
open Go.BX Go.ChangeShapes Go.WideShapes Go.ChangeAt Go.RowKit
theorem moverBegins_own : ownKnob Tryz.prog.godebug = none := by kernel_rfl
theorem moverBegins_laid : laidOutB Tryz.prog = true := by kernel_rfl
theorem reads_ints : Reads Tryz.prog 24 (Shape.slice (Shape.int .i64)) := Reads.slice Tryz.underlying24 (by kernel_rfl) (Reads.int Tryz.underlying3)
theorem reads_obj : Reads Tryz.prog 26 objS :=
 (Reads.struct (sh := Shape.pair Shape.str (Shape.pair (Shape.int .u64) (Shape.pair (Shape.int .i64) (Shape.pair (Shape.bv .u32 32) (Shape.pair (Shape.int .i64) (Shape.pair (Shape.int .u64) (Shape.slice (Shape.int .i64)))))))) Tryz.underlying26 (by kernel_rfl)
  (.cons (by kernel_rfl) (by kernel_rfl) (Reads.str Tryz.underlying9) (.cons (by kernel_rfl) (by kernel_rfl) (Reads.int Tryz.underlying22) (.cons (by kernel_rfl) (by kernel_rfl) (Reads.int Tryz.underlying3) (.cons (by kernel_rfl) (by kernel_rfl) (Reads.bv32 Tryz.underlying23)
   (.cons (by kernel_rfl) (by kernel_rfl) (Reads.int Tryz.underlying3) (.cons (by kernel_rfl) (by kernel_rfl) (Reads.int Tryz.underlying22) (.one (by kernel_rfl) (by kernel_rfl) reads_ints)))))))).map fun a => ⟨⟨a.1, a.2.1, a.2.2.1, a.2.2.2.1, a.2.2.2.2.1, a.2.2.2.2.2.1, a.2.2.2.2.2.2⟩, rfl⟩
def bk : Bulk where
 one := Rows.uptoBulk
 all := Rows.uptoBulkAll
 cons := fun d r => by simp [Rows.uptoBulkAll]
 pos := fun d => by
  unfold Rows.uptoBulk
  split <;> omega
 slice := fun a b => by simp [Rows.uptoBulk]
 agg := fun a => by simp [Rows.uptoBulk]
theorem obj_bulk {H : Type} {enc : TypeId × Value → H} {W : World} {S : Nat → Prop} {sp : Nat → Bool} {hd : Bool} {O : ObjD} {cs : List Value} {d : DataW H} {p : List MemPlace} {v : Value} (hv : v.cells.toList = cs) (hO : objS.rep S W cs O) (h : DataW.Trod enc Tryz.prog W 0 sp hd 26 v d p) :
 O.key.size ≤ Rows.uptoBulk d := by
 obtain ⟨an, kn, rfl, -⟩ := obj_open hO
 obtain ⟨n, h⟩ := h
 rw [hv] at h
 obtain ⟨m, y, hy, hle⟩ := bk.field_le Tryz.underlying26 h 0 rfl
 have a : Tryz.prog.cellsOf 9 = 1 := by kernel_rfl
 change DataW.trod enc Tryz.prog W 0 sp hd m 9 ([Value.string O.key, .int .u64 O.version, .int .i64 O.size, .int .u32 (O.sum.toNat : Int), .int .i64 O.group, .int .u64 O.epoch, .slice an O.nodes.length kn].take (Tryz.prog.cellsOf 9)) = _ at hy
 rw [a] at hy
 obtain ⟨s, hs, hx, -⟩ := DataW.trod_string Tryz.underlying9 hy
 obtain rfl : O.key = s := by simpa using hs
 rw [hx] at hle
 have hb : bk.one (DataW.lit (H := H) (.string O.key.data.toList)) = O.key.size + 1 := by
  show Rows.uptoBulk _ = _
  simp only [Rows.uptoBulk, Array.length_toList]
  rfl
 change bk.one (DataW.lit (H := H) (.string O.key.data.toList)) ≤ _ at hle
 rw [hb] at hle
 exact Nat.le_trans (Nat.le_succ _) hle
theorem wf_u64 {x : Int} (h : (Lit.int .u64 x).wf = true) : 0 ≤ x ∧ x ≤ 18446744073709551615 := by
 simp only [Lit.wf, Bool.and_eq_true, decide_eq_true_eq] at h
 exact h
theorem mbegins_spec {S : Nat → Prop} {w : World} {O : ObjD} {os : List Value} (hO : objS.rep S w os O) {to : List Int} {ta : Option Addr} {tc : Nat} (hto : (Shape.slice (Shape.int .i64)).rep S w [.slice ta to.length tc] to) (k n epoch limit : Int) (hep : 0 ≤ epoch ∧ epoch ≤ 18446744073709551615) (hkey : O.key.size ≤ 1000000000) :
 Calls Tryz.prog 4 #[.agg os.toArray, .int .i64 k, .int .i64 n, .slice ta to.length tc, .int .u64 epoch, .int .i64 limit] w (Ret fun v w' => Ext w w' ∧ v = .bool true) := by
 by_cases hb : okB O k n limit ∧ (to.length : Int) = n
 · exact mbegins_ok hO k n epoch limit hto hep hb.1 hb.2 hkey
 · exact mbegins_no hO k n epoch limit hto hb
set_option maxRecDepth 100000 in
theorem moverBegins_contract (H : Type) (enc : TypeId × Value → H) (W : World) (base : Nat) (args : Array Value) (ds gs : List (DataW H)) (before : List MemPlace)
 (hval : ∀ (j : Nat) t v, Tryz.f4.params[j]? = some t → args[j]? = some v → Value.okWide Tryz.prog W .any base t v)
 (hW : DataW.Whole enc Tryz.prog Tryz.f4.params.toList Rows.moverBeginsSpec.vars false W args.toList ds gs before) (hk : Rows.uptoSmall H (ds ++ gs) = true) :
 Calls Tryz.prog 4 args W fun e W' => ∃ v, e = .returned v ∧ Rows.moverBeginsSpec.post enc Tryz.prog Tryz.f4 false true false false W args v W' := by
 have hW' := hW
 obtain ⟨p, q, a, hV, rfl, -, -⟩ := hW
 have hA : DataW.TrodAll enc Tryz.prog W 0 (fun _ => true) true Tryz.f4.params.toList args.toList ds p := a
 rw [Tryz.params4] at hA hval
 obtain ⟨b, _, l, _, _, _, hargs, rfl, rfl, c, m⟩ := trodAll_cons hA
 obtain ⟨d, _, _, _, _, _, rfl, rfl, rfl, n, o⟩ := trodAll_cons m
 obtain ⟨f, _, _, _, _, _, rfl, rfl, rfl, r, s⟩ := trodAll_cons o
 obtain ⟨g, _, _, _, _, _, rfl, rfl, rfl, u, w⟩ := trodAll_cons s
 obtain ⟨h, _, _, _, _, _, rfl, rfl, rfl, x, y⟩ := trodAll_cons w
 obtain ⟨i, _, _, _, _, _, rfl, rfl, rfl, z, A⟩ := trodAll_cons y
 obtain ⟨rfl, rfl, rfl⟩ := trodAll_nil A
 obtain rfl : args = #[b, d, f, g, h, i] := by cases args; simp_all
 obtain ⟨rfl, rfl⟩ := trodVars_none hV
 obtain ⟨os, O, rfl, hO⟩ := reads_obj.structArg Tryz.underlying26 (hval 0 26 b rfl rfl) c
 obtain ⟨B, rfl, rfl, rfl, _⟩ := open_int Tryz.underlying3 (hval 1 3 d rfl rfl) n
 obtain ⟨C, rfl, rfl, rfl, _⟩ := open_int Tryz.underlying3 (hval 2 3 f rfl rfl) r
 obtain ⟨ta, to, tc, rfl, hto⟩ := reads_ints.sliceArg Tryz.underlying24 (hval 3 24 g rfl rfl) u
 obtain ⟨D, rfl, rfl, rfl, k⟩ := open_int Tryz.underlying22 (hval 4 22 h rfl rfl) x
 obtain ⟨E, rfl, rfl, rfl, _⟩ := open_int Tryz.underlying3 (hval 5 3 i rfl rfl) z
 have F : Rows.uptoBulk l ≤ 1048576 := by
  have hk' := hk
  simp [Rows.uptoSmall, Rows.uptoBulkAll] at hk'
  omega
 have G := obj_bulk rfl hO c
 refine (mbegins_spec hO hto B C D E (wf_u64 k) (by omega)).mono fun e W' ⟨v, he, hE, hv⟩ => ?_
 subst hv
 exact ⟨_, he, post_true moverBegins_laid (params_ok (by kernel_rfl)) rfl hW' hE rfl (by kernel_rfl) Tryz.underlying4⟩
theorem moverBegins_j1 : laidOutB Tryz.pinned.checked.prog = true := by kernel_rfl
theorem moverBegins_j2 : mapsRowed Tryz.pinned.checked.prog = true := by kernel_rfl
theorem moverBegins_j3 : (Rows.moverBeginsUptoRow.inPlace == Tryz.pinned.checked.prog.inPlace 4) = true := by kernel_rfl
theorem moverBegins_j4 : (Rows.moverBeginsUptoRow.unfollowed == Tryz.pinned.checked.prog.unfollowed 4) = true := by kernel_rfl
theorem moverBegins_j5 : (Rows.moverBeginsUptoRow.recurses == Tryz.pinned.checked.prog.recurses 4) = true := by kernel_rfl
theorem moverBegins_j6 : (Rows.moverBeginsUptoRow.named == Tryz.pinned.checked.prog.varsNamed 4) = true := by kernel_rfl
theorem moverBegins_closed : joinedFacts Tryz.pinned.checked.prog 4 Tryz.f4 (Rows.OpenSpec.upto Rows.moverBeginsSpec).bare Rows.moverBeginsUptoRow = true := by
 unfold joinedFacts
 rw [moverBegins_j1, moverBegins_j2, moverBegins_j3, moverBegins_j4, moverBegins_j5, moverBegins_j6]
 kernel_rfl
set_option maxRecDepth 100000 in
theorem moverBegins_lifted (os : Os) (started : os.Started) (H : Type) (enc : TypeId × Value → H) (F : Stop.Interp) :
 ReturnsInHanded {} Tryz.checked os 4 .any ((Rows.OpenSpec.upto Rows.moverBeginsSpec).pre6 enc Tryz.prog Tryz.f4 Rows.moverBeginsUptoRow.domain false) (((Rows.OpenSpec.upto Rows.moverBeginsSpec).at F).post enc Tryz.prog Tryz.f4 false true false false) := by
 refine returnsInHanded_of_cond (C := Tryz.checked) (s := Rows.OpenSpec.upto Rows.moverBeginsSpec) (k := Rows.uptoSmall) rfl moverBegins_own started (by kernel_rfl) Tryz.func4
  (OpenSpec.witness (enc := enc) (C := Tryz.checked) (s := Rows.OpenSpec.upto Rows.moverBeginsSpec) (k := Rows.uptoSmall) rfl false ⟨#[], #[.agg #[.string ⟨#[]⟩, .int .u64 0, .int .i64 0, .int .u32 0, .int .i64 0, .int .u64 0, .slice none 0 0], .int .i64 0, .int .i64 0, .slice none 0 0, .int .u64 0, .int .i64 0], []⟩ 8 (by kernel_rfl) (by kernel_rfl) (by kernel_rfl)
   (x := ([.agg [.lit (.string []), .lit (.int .u64 0), .lit (.int .i64 0), .lit (.int .u32 0), .lit (.int .i64 0), .lit (.int .u64 0), .nil], .lit (.int .i64 0), .lit (.int .i64 0), .nil, .lit (.int .u64 0), .lit (.int .i64 0)], [], [])) (by kernel_rfl) rfl (by kernel_rfl)) ?_
 intro W base args ds gs before hval hW _ hk _
 exact moverBegins_contract H enc W base args ds gs before hval hW hk
theorem moverBegins_holds : Rows.MoverBeginsUptoSaid :=
 OpenClaim.holds_of_cond 4 Tryz.f4 rfl rfl rfl rfl rfl rfl rfl ⟨rfl, rfl, rfl, rfl, rfl⟩ rfl rfl rfl rfl rfl (by kernel_rfl) Tryz.func4 moverBegins_closed
  (of_decide_eq_true (by kernel_rfl)) (by unfold Func.isWrapper; rw [if_neg (by decide +kernel)]; exact ⟨rfl, rfl⟩)
  (fun os started H enc _ F => moverBegins_lifted os started H enc F)
end Go.Proofs.YtppcdmbkgficiaaGreat
