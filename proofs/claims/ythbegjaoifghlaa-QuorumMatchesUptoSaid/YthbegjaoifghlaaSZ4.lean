import Derived.Test.YthbegjaoifghlaaSUD
import Derived.Test.YthbegjaoifghlaaSBxA
import Derived.ProofKit
import Derived.OpenShut
import Derived.JoinedCond
import Derived.WalkKit
namespace Go.Proofs.Ythbegjaoifghlaa
open Go.BX Go.ChangeShapes Go.WideShapes Go.ChangeAt Go.RowKit
theorem quorumMatches_own : ownKnob Try.prog.godebug = none := by kernel_rfl
theorem quorumMatches_laid : laidOutB Try.prog = true := by kernel_rfl
theorem reads_ints : Reads Try.prog 22 (Shape.slice (Shape.int .i64)) := Reads.slice Try.underlying22 (by kernel_rfl) (Reads.int Try.underlying3)
theorem reads_conf : Reads Try.prog 24 confS :=
 (Reads.struct (sh := Shape.pair (Shape.slice (Shape.int .i64)) (Shape.slice (Shape.int .i64))) Try.underlying24 (by kernel_rfl) (.cons (by kernel_rfl) (by kernel_rfl) reads_ints (.one (by kernel_rfl) (by kernel_rfl) reads_ints))).map fun a => ⟨⟨a.1, a.2⟩, rfl⟩
theorem reads_peer : Reads Try.prog 47 peerS :=
 (Reads.struct (sh := Shape.pair (Shape.int .i64) (Shape.pair (Shape.int .u64) (Shape.pair (Shape.int .u64) Shape.bool))) Try.underlying47 (by kernel_rfl) (.cons (by kernel_rfl) (by kernel_rfl) (Reads.int Try.underlying3) (.cons (by kernel_rfl) (by kernel_rfl) (Reads.int Try.underlying44) (.cons (by kernel_rfl) (by kernel_rfl) (Reads.int Try.underlying44) (.one (by kernel_rfl) (by kernel_rfl) (Reads.bool Try.underlying4)))))).map fun a => ⟨⟨a.1, a.2.1, a.2.2.1, a.2.2.2⟩, rfl⟩
theorem reads_peers : Reads Try.prog 43 (Shape.slice peerS) := Reads.slice Try.underlying43 (by kernel_rfl) reads_peer
def bk : Bulk where
 one := Rows.uptoBulk
 all := Rows.uptoBulkAll
 cons := fun d r => by simp [Rows.uptoBulkAll]
 pos := fun d => by
  unfold Rows.uptoBulk
  split <;> omega
 slice := fun a b => by simp [Rows.uptoBulk]
 agg := fun a => by simp [Rows.uptoBulk]
theorem conf_bulk {H : Type} {enc : TypeId × Value → H} {W : World} {S : Nat → Prop} {sp : Nat → Bool} {hd : Bool} {C : Conf} {cs : List Value} {d : DataW H} {p : List MemPlace} {v : Value} (hv : v.cells.toList = cs) (hC : confS.rep S W cs C) (h : DataW.Trod enc Try.prog W 0 sp hd 24 v d p) :
 C.voters.length ≤ Rows.uptoBulk d ∧ C.learners.length ≤ Rows.uptoBulk d := by
 obtain ⟨av, kv, al, kl, rfl, -, -⟩ := conf_open hC
 obtain ⟨n, h⟩ := h
 rw [hv] at h
 obtain ⟨m, y, hy, hle⟩ := bk.field_le Try.underlying24 h 0 rfl
 obtain ⟨m2, y2, hy2, hle2⟩ := bk.field_le Try.underlying24 h 1 rfl
 have e1 : Try.prog.cellsOf 22 = 1 := by kernel_rfl
 change DataW.trod enc Try.prog W 0 sp hd m 22 (([Value.slice av C.voters.length kv, Value.slice al C.learners.length kl].drop 0).take (Try.prog.cellsOf 22)) = _ at hy
 change DataW.trod enc Try.prog W 0 sp hd m2 22 (([Value.slice av C.voters.length kv, Value.slice al C.learners.length kl].drop 1).take (Try.prog.cellsOf 22)) = _ at hy2
 rw [e1] at hy hy2
 exact ⟨Nat.le_trans (bk.slice_le Try.underlying22 hy) hle, Nat.le_trans (bk.slice_le Try.underlying22 hy2) hle2⟩
theorem peers_bulk {H : Type} {enc : TypeId × Value → H} {W : World} {sp : Nat → Bool} {hd : Bool} {a : Option Addr} {l c : Nat} {d : DataW H} {p : List MemPlace} (h : DataW.Trod enc Try.prog W 0 sp hd 43 (.slice a l c) d p) : l ≤ Rows.uptoBulk d := by
 obtain ⟨n, h⟩ := h
 exact bk.slice_le Try.underlying43 h
set_option maxRecDepth 100000 in
theorem quorumMatches_contract (H : Type) (enc : TypeId × Value → H) (W : World) (base : Nat) (args : Array Value) (ds gs : List (DataW H)) (before : List MemPlace)
 (hval : ∀ (j : Nat) t v, Try.f6.params[j]? = some t → args[j]? = some v → Value.okWide Try.prog W .any base t v)
 (hW : DataW.Whole enc Try.prog Try.f6.params.toList Rows.quorumMatchesSpec.vars false W args.toList ds gs before) (hk : Rows.uptoSmall H (ds ++ gs) = true) :
 Calls Try.prog 6 args W fun e W' => ∃ v, e = .returned v ∧ Rows.quorumMatchesSpec.post enc Try.prog Try.f6 false true false false W args v W' := by
 have hW' := hW
 obtain ⟨p, q, hA0, hV, rfl, -, -⟩ := hW
 have hA : DataW.TrodAll enc Try.prog W 0 (fun _ => true) true Try.f6.params.toList args.toList ds p := hA0
 rw [Try.params6] at hA hval
 obtain ⟨v0, vs0, d0, ds0, p0, q0, hargs, rfl, rfl, h0, r0⟩ := trodAll_cons hA
 obtain ⟨v1, vs1, d1, ds1, p1, q1, rfl, rfl, rfl, h1, r1⟩ := trodAll_cons r0
 obtain ⟨rfl, rfl, rfl⟩ := trodAll_nil r1
 obtain rfl : args = #[v0, v1] := by cases args; simp_all
 obtain ⟨rfl, rfl⟩ := trodVars_none hV
 obtain ⟨cs, C, rfl, hC⟩ := reads_conf.structArg Try.underlying24 (hval 0 24 v0 rfl rfl) h0
 obtain ⟨a, ps, c, rfl, hps⟩ := reads_peers.sliceArg Try.underlying43 (hval 1 43 v1 rfl rfl) h1
 have hk1 : Rows.uptoBulk d0 + Rows.uptoBulk d1 ≤ 1048576 := by simpa [Rows.uptoSmall, Rows.uptoBulkAll] using hk
 obtain ⟨hk2, hk3⟩ := conf_bulk rfl hC h0
 have hk4 := peers_bulk h1
 refine (matches_spec hC hps (by omega) (by omega)).mono fun e W' ⟨v, he, hE, hv⟩ => ?_
 subst hv
 exact ⟨_, he, post_true quorumMatches_laid (params_ok (by kernel_rfl)) rfl hW' hE rfl (by kernel_rfl) Try.underlying4⟩
theorem quorumMatches_j1 : laidOutB Try.pinned.checked.prog = true := by kernel_rfl
theorem quorumMatches_j2 : mapsRowed Try.pinned.checked.prog = true := by kernel_rfl
theorem quorumMatches_j3 : (Rows.quorumMatchesUptoRow.inPlace == Try.pinned.checked.prog.inPlace 6) = true := by kernel_rfl
theorem quorumMatches_j4 : (Rows.quorumMatchesUptoRow.unfollowed == Try.pinned.checked.prog.unfollowed 6) = true := by kernel_rfl
theorem quorumMatches_j5 : (Rows.quorumMatchesUptoRow.recurses == Try.pinned.checked.prog.recurses 6) = true := by kernel_rfl
theorem quorumMatches_j6 : (Rows.quorumMatchesUptoRow.named == Try.pinned.checked.prog.varsNamed 6) = true := by kernel_rfl
theorem quorumMatches_closed : joinedFacts Try.pinned.checked.prog 6 Try.f6 (Rows.OpenSpec.upto Rows.quorumMatchesSpec).bare Rows.quorumMatchesUptoRow = true := by
 unfold joinedFacts
 rw [quorumMatches_j1, quorumMatches_j2, quorumMatches_j3, quorumMatches_j4, quorumMatches_j5, quorumMatches_j6]
 kernel_rfl
set_option maxRecDepth 100000 in
theorem quorumMatches_lifted (os : Os) (started : os.Started) (H : Type) (enc : TypeId × Value → H) (F : Stop.Interp) :
 ReturnsInHanded {} Try.checked os 6 .any ((Rows.OpenSpec.upto Rows.quorumMatchesSpec).pre6 enc Try.prog Try.f6 Rows.quorumMatchesUptoRow.domain false) (((Rows.OpenSpec.upto Rows.quorumMatchesSpec).at F).post enc Try.prog Try.f6 false true false false) := by
 refine returnsInHanded_of_cond (C := Try.checked) (s := Rows.OpenSpec.upto Rows.quorumMatchesSpec) (k := Rows.uptoSmall) rfl quorumMatches_own started (by kernel_rfl) Try.func6
  (OpenSpec.witness (enc := enc) (C := Try.checked) (s := Rows.OpenSpec.upto Rows.quorumMatchesSpec) (k := Rows.uptoSmall) rfl false ⟨#[], #[.agg #[.slice none 0 0, .slice none 0 0], .slice none 0 0], []⟩ 8 (by kernel_rfl) (by kernel_rfl) (by kernel_rfl)
   (x := ([.agg [.nil, .nil], .nil], [], [])) (by kernel_rfl) rfl (by kernel_rfl)) ?_
 intro W base args ds gs before hval hW _ hk _
 exact quorumMatches_contract H enc W base args ds gs before hval hW hk
theorem quorumMatches_holds : Rows.QuorumMatchesUptoSaid :=
 OpenClaim.holds_of_cond 6 Try.f6 rfl rfl rfl rfl rfl rfl rfl ⟨rfl, rfl, rfl, rfl, rfl⟩ rfl rfl rfl rfl rfl (by kernel_rfl) Try.func6 quorumMatches_closed
  (of_decide_eq_true (by kernel_rfl)) (by unfold Func.isWrapper; rw [if_neg (by decide +kernel)]; exact ⟨rfl, rfl⟩)
  (fun os started H enc _ F => quorumMatches_lifted os started H enc F)
end Go.Proofs.Ythbegjaoifghlaa
