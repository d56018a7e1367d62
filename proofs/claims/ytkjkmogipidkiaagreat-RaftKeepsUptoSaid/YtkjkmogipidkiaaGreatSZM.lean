import Derived.Test.YtkjkmogipidkiaaGreatSZK
import Derived.Test.YtkjkmogipidkiaaGreatSBxB
import Derived.ProofKit
import Derived.OpenShut
import Derived.JoinedCond
import Derived.WalkKit
namespace Go.Proofs.YtkjkmogipidkiaaGreat
open Go.BX Go.ChangeShapes Go.WideShapes Go.ChangeAt Go.RowKit
theorem raftKeeps_own : ownKnob Tryz.prog.godebug = none := by kernel_rfl
theorem raftKeeps_laid : laidOutB Tryz.prog = true := by kernel_rfl
theorem reads_t26 : Reads Tryz.prog 26 (Shape.slice (Shape.int .i64)) := Reads.slice Tryz.underlying26 (by kernel_rfl) (Reads.int Tryz.underlying3)
theorem reads_conf : Reads Tryz.prog 28 confS := (Reads.struct (sh := (Shape.pair (Shape.slice (Shape.int .i64)) (Shape.slice (Shape.int .i64)))) Tryz.underlying28 (by kernel_rfl) (.cons (by kernel_rfl) (by kernel_rfl) reads_t26 (.one (by kernel_rfl) (by kernel_rfl) reads_t26))).map fun a => ⟨⟨a.1, a.2⟩, rfl⟩
theorem reads_t29 : Reads Tryz.prog 29 (Shape.slice (Shape.bv .u8 8)) := Reads.slice Tryz.underlying29 (by kernel_rfl) (Reads.bv8 Tryz.underlying5)
theorem reads_cid : Reads Tryz.prog 48 cidS := (Reads.struct (sh := (Shape.pair (Shape.int .u64) (Shape.pair (Shape.int .i64) (Shape.int .u64)))) Tryz.underlying48 (by kernel_rfl) (.cons (by kernel_rfl) (by kernel_rfl) (Reads.int Tryz.underlying25) (.cons (by kernel_rfl) (by kernel_rfl) (Reads.int Tryz.underlying3) (.one (by kernel_rfl) (by kernel_rfl) (Reads.int Tryz.underlying25))))).map fun a => ⟨⟨a.1, a.2.1, a.2.2⟩, rfl⟩
theorem reads_mem : Reads Tryz.prog 186 memS := (Reads.struct (sh := (Shape.pair (Shape.int .i64) (Shape.int .i64))) Tryz.underlying186 (by kernel_rfl) (.cons (by kernel_rfl) (by kernel_rfl) (Reads.int Tryz.underlying3) (.one (by kernel_rfl) (by kernel_rfl) (Reads.int Tryz.underlying3)))).map fun a => ⟨⟨a.1, a.2⟩, rfl⟩
theorem reads_t58 : Reads Tryz.prog 58 (Shape.slice memS) := Reads.slice Tryz.underlying58 (by kernel_rfl) reads_mem
theorem reads_amap : Reads Tryz.prog 60 amapS := (Reads.struct (sh := (Shape.pair (Shape.int .u64) (Shape.slice memS))) Tryz.underlying60 (by kernel_rfl) (.cons (by kernel_rfl) (by kernel_rfl) (Reads.int Tryz.underlying25) (.one (by kernel_rfl) (by kernel_rfl) reads_t58))).map fun a => ⟨⟨a.1, a.2⟩, rfl⟩
theorem reads_cmd : Reads Tryz.prog 62 cmdS := (Reads.struct (sh := (Shape.pair (Shape.int .i64) (Shape.pair (Shape.int .u64) (Shape.pair (Shape.int .u64) (Shape.pair Shape.str (Shape.pair (Shape.int .i64) (Shape.pair (Shape.bv .u32 32) (Shape.pair (Shape.int .u64) (Shape.pair (Shape.int .u64) (Shape.pair (Shape.int .i64) (Shape.pair (Shape.int .i64) (Shape.pair Shape.bool (Shape.pair cidS amapS))))))))))))) Tryz.underlying62 (by kernel_rfl) (.cons (by kernel_rfl) (by kernel_rfl) (Reads.int Tryz.underlying57) (.cons (by kernel_rfl) (by kernel_rfl) (Reads.int Tryz.underlying25) (.cons (by kernel_rfl) (by kernel_rfl) (Reads.int Tryz.underlying25) (.cons (by kernel_rfl) (by kernel_rfl) (Reads.str Tryz.underlying9) (.cons (by kernel_rfl) (by kernel_rfl) (Reads.int Tryz.underlying3) (.cons (by kernel_rfl) (by kernel_rfl) (Reads.bv32 Tryz.underlying49) (.cons (by kernel_rfl) (by kernel_rfl) (Reads.int Tryz.underlying25) (.cons (by kernel_rfl) (by kernel_rfl) (Reads.int Tryz.underlying25) (.cons (by kernel_rfl) (by kernel_rfl) (Reads.int Tryz.underlying3) (.cons (by kernel_rfl) (by kernel_rfl) (Reads.int Tryz.underlying3) (.cons (by kernel_rfl) (by kernel_rfl) (Reads.bool Tryz.underlying4) (.cons (by kernel_rfl) (by kernel_rfl) reads_cid (.one (by kernel_rfl) (by kernel_rfl) reads_amap)))))))))))))).map fun a => ⟨⟨a.1, a.2.1, a.2.2.1, a.2.2.2.1, a.2.2.2.2.1, a.2.2.2.2.2.1, a.2.2.2.2.2.2.1, a.2.2.2.2.2.2.2.1, a.2.2.2.2.2.2.2.2.1, a.2.2.2.2.2.2.2.2.2.1, a.2.2.2.2.2.2.2.2.2.2.1, a.2.2.2.2.2.2.2.2.2.2.2.1, a.2.2.2.2.2.2.2.2.2.2.2.2⟩, rfl⟩
theorem reads_ent : Reads Tryz.prog 71 entS := (Reads.struct (sh := (Shape.pair (Shape.int .u64) (Shape.pair (Shape.int .u64) (Shape.pair (Shape.int .i64) (Shape.pair cmdS confS))))) Tryz.underlying71 (by kernel_rfl) (.cons (by kernel_rfl) (by kernel_rfl) (Reads.int Tryz.underlying25) (.cons (by kernel_rfl) (by kernel_rfl) (Reads.int Tryz.underlying25) (.cons (by kernel_rfl) (by kernel_rfl) (Reads.int Tryz.underlying69) (.cons (by kernel_rfl) (by kernel_rfl) reads_cmd (.one (by kernel_rfl) (by kernel_rfl) reads_conf)))))).map fun a => ⟨⟨a.1, a.2.1, a.2.2.1, a.2.2.2.1, a.2.2.2.2⟩, rfl⟩
theorem reads_t30 : Reads Tryz.prog 30 (Shape.slice entS) := Reads.slice Tryz.underlying30 (by kernel_rfl) reads_ent
theorem reads_peer : Reads Tryz.prog 123 peerS := (Reads.struct (sh := (Shape.pair (Shape.int .i64) (Shape.pair (Shape.int .u64) (Shape.pair (Shape.int .u64) Shape.bool)))) Tryz.underlying123 (by kernel_rfl) (.cons (by kernel_rfl) (by kernel_rfl) (Reads.int Tryz.underlying3) (.cons (by kernel_rfl) (by kernel_rfl) (Reads.int Tryz.underlying25) (.cons (by kernel_rfl) (by kernel_rfl) (Reads.int Tryz.underlying25) (.one (by kernel_rfl) (by kernel_rfl) (Reads.bool Tryz.underlying4)))))).map fun a => ⟨⟨a.1, a.2.1, a.2.2.1, a.2.2.2⟩, rfl⟩
theorem reads_t32 : Reads Tryz.prog 32 (Shape.slice peerS) := Reads.slice Tryz.underlying32 (by kernel_rfl) reads_peer
theorem reads_rdg : Reads Tryz.prog 73 rdgS := (Reads.struct (sh := (Shape.pair (Shape.int .u64) (Shape.pair (Shape.int .u64) (Shape.pair (Shape.int .u64) (Shape.slice (Shape.int .i64)))))) Tryz.underlying73 (by kernel_rfl) (.cons (by kernel_rfl) (by kernel_rfl) (Reads.int Tryz.underlying25) (.cons (by kernel_rfl) (by kernel_rfl) (Reads.int Tryz.underlying25) (.cons (by kernel_rfl) (by kernel_rfl) (Reads.int Tryz.underlying25) (.one (by kernel_rfl) (by kernel_rfl) reads_t26))))).map fun a => ⟨⟨a.1, a.2.1, a.2.2.1, a.2.2.2⟩, rfl⟩
theorem reads_t33 : Reads Tryz.prog 33 (Shape.slice rdgS) := Reads.slice Tryz.underlying33 (by kernel_rfl) reads_rdg
theorem reads_raft : Reads Tryz.prog 35 raftS := (Reads.struct (sh := (Shape.pair (Shape.int .i64) (Shape.pair (Shape.int .i64) (Shape.pair (Shape.int .i64) (Shape.pair (Shape.int .u64) (Shape.pair (Shape.int .i64) (Shape.pair (Shape.int .u64) (Shape.pair (Shape.int .u64) (Shape.pair confS (Shape.pair (Shape.slice (Shape.bv .u8 8)) (Shape.pair (Shape.slice entS) (Shape.pair (Shape.int .u64) (Shape.pair (Shape.int .i64) (Shape.pair (Shape.int .i64) (Shape.pair (Shape.int .i64) (Shape.pair (Shape.int .i64) (Shape.pair (Shape.slice (Shape.int .i64)) (Shape.pair (Shape.slice peerS) (Shape.pair (Shape.int .u64) (Shape.pair (Shape.slice rdgS) (Shape.int .i64))))))))))))))))))))) Tryz.underlying35 (by kernel_rfl) (.cons (by kernel_rfl) (by kernel_rfl) (Reads.int Tryz.underlying3) (.cons (by kernel_rfl) (by kernel_rfl) (Reads.int Tryz.underlying3) (.cons (by kernel_rfl) (by kernel_rfl) (Reads.int Tryz.underlying3) (.cons (by kernel_rfl) (by kernel_rfl) (Reads.int Tryz.underlying25) (.cons (by kernel_rfl) (by kernel_rfl) (Reads.int Tryz.underlying3) (.cons (by kernel_rfl) (by kernel_rfl) (Reads.int Tryz.underlying25) (.cons (by kernel_rfl) (by kernel_rfl) (Reads.int Tryz.underlying25) (.cons (by kernel_rfl) (by kernel_rfl) reads_conf (.cons (by kernel_rfl) (by kernel_rfl) reads_t29 (.cons (by kernel_rfl) (by kernel_rfl) reads_t30 (.cons (by kernel_rfl) (by kernel_rfl) (Reads.int Tryz.underlying25) (.cons (by kernel_rfl) (by kernel_rfl) (Reads.int Tryz.underlying31) (.cons (by kernel_rfl) (by kernel_rfl) (Reads.int Tryz.underlying3) (.cons (by kernel_rfl) (by kernel_rfl) (Reads.int Tryz.underlying3) (.cons (by kernel_rfl) (by kernel_rfl) (Reads.int Tryz.underlying3) (.cons (by kernel_rfl) (by kernel_rfl) reads_t26 (.cons (by kernel_rfl) (by kernel_rfl) reads_t32 (.cons (by kernel_rfl) (by kernel_rfl) (Reads.int Tryz.underlying25) (.cons (by kernel_rfl) (by kernel_rfl) reads_t33 (.one (by kernel_rfl) (by kernel_rfl) (Reads.int Tryz.underlying3)))))))))))))))))))))).map fun a => ⟨⟨a.1, a.2.1, a.2.2.1, a.2.2.2.1, a.2.2.2.2.1, a.2.2.2.2.2.1, a.2.2.2.2.2.2.1, a.2.2.2.2.2.2.2.1, a.2.2.2.2.2.2.2.2.1, a.2.2.2.2.2.2.2.2.2.1, a.2.2.2.2.2.2.2.2.2.2.1, a.2.2.2.2.2.2.2.2.2.2.2.1, a.2.2.2.2.2.2.2.2.2.2.2.2.1, a.2.2.2.2.2.2.2.2.2.2.2.2.2.1, a.2.2.2.2.2.2.2.2.2.2.2.2.2.2.1, a.2.2.2.2.2.2.2.2.2.2.2.2.2.2.2.1, a.2.2.2.2.2.2.2.2.2.2.2.2.2.2.2.2.1, a.2.2.2.2.2.2.2.2.2.2.2.2.2.2.2.2.2.1, a.2.2.2.2.2.2.2.2.2.2.2.2.2.2.2.2.2.2.1, a.2.2.2.2.2.2.2.2.2.2.2.2.2.2.2.2.2.2.2⟩, rfl⟩
def bk : Bulk where
 one := Rows.uptoBulk
 all := Rows.uptoBulkAll
 cons := fun d r => by simp [Rows.uptoBulkAll]
 pos := fun d => by
  unfold Rows.uptoBulk
  split <;> omega
 slice := fun a b => by simp [Rows.uptoBulk]
 agg := fun a => by simp [Rows.uptoBulk]
theorem bk_str {H : Type} {enc : TypeId × Value → H} {W : World} {sp : Nat → Bool} {hd : Bool} {t : TypeId} {m : Nat} {s : ByteArray} {x : DataW H × List MemPlace} (ht : Tryz.prog.underlying t = some .string) (h : DataW.trod enc Tryz.prog W 0 sp hd m t [.string s] = some x) : s.size ≤ bk.one x.1 := by
 obtain ⟨s', he, rfl, -⟩ := DataW.trod_string ht h
 simp only [List.cons.injEq, Value.string.injEq, and_true] at he
 subst he
 show s.data.size ≤ Rows.uptoBulk (DataW.lit (H := H) (.string s.data.toList))
 unfold Rows.uptoBulk
 rw [Array.length_toList]
 omega
theorem ent_bulk {H : Type} {enc : TypeId × Value → H} {W : World} {S : Nat → Prop} {sp : Nat → Bool} {hd : Bool} {m : Nat} {x : Ent} {cs : List Value} {z : DataW H × List MemPlace} (hx : entS.rep S W cs x) (h : DataW.trod enc Tryz.prog W 0 sp hd m 71 cs = some z) : x.cmd.key.size ≤ bk.one z.1 ∧ x.cmd.amap.members.length ≤ bk.one z.1 ∧ x.conf.voters.length ≤ bk.one z.1 ∧ x.conf.learners.length ≤ bk.one z.1 := by
 obtain ⟨_, _, rfl, _, _, _, r, s⟩ := ent_open hx
 obtain ⟨_, _, rfl, _, _, _, _, _, _, _, _, _, g, i⟩ := cmd_open r
 obtain ⟨rfl, _, _, _⟩ := cid_open g
 obtain ⟨a, b, rfl, _, _⟩ := amap_open i
 obtain ⟨c, d, e, f, rfl, _, _⟩ := conf_open s
 obtain ⟨v, _, j, t⟩ := bk.field_le Tryz.underlying71 h 3 rfl
 change DataW.trod enc Tryz.prog W 0 sp hd v 62 (([.int .u64 x.index, .int .u64 x.term, .int .i64 x.kind, .int .i64 x.cmd.kind, .int .u64 x.cmd.client, .int .u64 x.cmd.seq, .string x.cmd.key, .int .i64 x.cmd.size, .int .u32 ((x.cmd.sum.toNat : Nat) : Int), .int .u64 x.cmd.version, .int .u64 x.cmd.epoch, .int .i64 x.cmd.group, .int .i64 x.cmd.node, .bool x.cmd.up, .int .u64 x.cmd.id.version, .int .i64 x.cmd.id.index, .int .u64 x.cmd.id.epoch, .int .u64 x.cmd.amap.epoch, .slice a x.cmd.amap.members.length b, .slice c x.conf.voters.length d, .slice e x.conf.learners.length f].drop 3).take (Tryz.prog.cellsOf 62)) = _ at j
 rw [show Tryz.prog.cellsOf 62 = 16 from by kernel_rfl] at j
 obtain ⟨w, _, l, y⟩ := bk.field_le Tryz.underlying62 j 3 rfl
 change DataW.trod enc Tryz.prog W 0 sp hd w 9 (([.int .i64 x.cmd.kind, .int .u64 x.cmd.client, .int .u64 x.cmd.seq, .string x.cmd.key, .int .i64 x.cmd.size, .int .u32 ((x.cmd.sum.toNat : Nat) : Int), .int .u64 x.cmd.version, .int .u64 x.cmd.epoch, .int .i64 x.cmd.group, .int .i64 x.cmd.node, .bool x.cmd.up, .int .u64 x.cmd.id.version, .int .i64 x.cmd.id.index, .int .u64 x.cmd.id.epoch, .int .u64 x.cmd.amap.epoch, .slice a x.cmd.amap.members.length b].drop 3).take (Tryz.prog.cellsOf 9)) = _ at l
 rw [show Tryz.prog.cellsOf 9 = 1 from by kernel_rfl] at l
 have A := bk_str Tryz.underlying9 l
 obtain ⟨B, _, n, C⟩ := bk.field_le Tryz.underlying62 j 12 rfl
 change DataW.trod enc Tryz.prog W 0 sp hd B 60 (([.int .i64 x.cmd.kind, .int .u64 x.cmd.client, .int .u64 x.cmd.seq, .string x.cmd.key, .int .i64 x.cmd.size, .int .u32 ((x.cmd.sum.toNat : Nat) : Int), .int .u64 x.cmd.version, .int .u64 x.cmd.epoch, .int .i64 x.cmd.group, .int .i64 x.cmd.node, .bool x.cmd.up, .int .u64 x.cmd.id.version, .int .i64 x.cmd.id.index, .int .u64 x.cmd.id.epoch, .int .u64 x.cmd.amap.epoch, .slice a x.cmd.amap.members.length b].drop 14).take (Tryz.prog.cellsOf 60)) = _ at n
 rw [show Tryz.prog.cellsOf 60 = 2 from by kernel_rfl] at n
 obtain ⟨D, _, o, E⟩ := bk.field_le Tryz.underlying60 n 1 rfl
 change DataW.trod enc Tryz.prog W 0 sp hd D 58 (([.int .u64 x.cmd.amap.epoch, .slice a x.cmd.amap.members.length b].drop 1).take (Tryz.prog.cellsOf 58)) = _ at o
 rw [show Tryz.prog.cellsOf 58 = 1 from by kernel_rfl] at o
 have F := bk.slice_le Tryz.underlying58 o
 obtain ⟨G, _, k, u⟩ := bk.field_le Tryz.underlying71 h 4 rfl
 change DataW.trod enc Tryz.prog W 0 sp hd G 28 (([.int .u64 x.index, .int .u64 x.term, .int .i64 x.kind, .int .i64 x.cmd.kind, .int .u64 x.cmd.client, .int .u64 x.cmd.seq, .string x.cmd.key, .int .i64 x.cmd.size, .int .u32 ((x.cmd.sum.toNat : Nat) : Int), .int .u64 x.cmd.version, .int .u64 x.cmd.epoch, .int .i64 x.cmd.group, .int .i64 x.cmd.node, .bool x.cmd.up, .int .u64 x.cmd.id.version, .int .i64 x.cmd.id.index, .int .u64 x.cmd.id.epoch, .int .u64 x.cmd.amap.epoch, .slice a x.cmd.amap.members.length b, .slice c x.conf.voters.length d, .slice e x.conf.learners.length f].drop 19).take (Tryz.prog.cellsOf 28)) = _ at k
 rw [show Tryz.prog.cellsOf 28 = 2 from by kernel_rfl] at k
 obtain ⟨I, _, p, J⟩ := bk.field_le Tryz.underlying28 k 0 rfl
 change DataW.trod enc Tryz.prog W 0 sp hd I 26 (([.slice c x.conf.voters.length d, .slice e x.conf.learners.length f].drop 0).take (Tryz.prog.cellsOf 26)) = _ at p
 rw [show Tryz.prog.cellsOf 26 = 1 from by kernel_rfl] at p
 have K := bk.slice_le Tryz.underlying26 p
 obtain ⟨L, _, q, M⟩ := bk.field_le Tryz.underlying28 k 1 rfl
 change DataW.trod enc Tryz.prog W 0 sp hd L 26 (([.slice c x.conf.voters.length d, .slice e x.conf.learners.length f].drop 1).take (Tryz.prog.cellsOf 26)) = _ at q
 rw [show Tryz.prog.cellsOf 26 = 1 from by kernel_rfl] at q
 have N := bk.slice_le Tryz.underlying26 q
 exact ⟨(Nat.le_trans (Nat.le_trans A y) t), (Nat.le_trans (Nat.le_trans (Nat.le_trans F E) C) t), (Nat.le_trans (Nat.le_trans K J) u), (Nat.le_trans (Nat.le_trans N M) u)⟩
theorem raft_bulk {H : Type} {enc : TypeId × Value → H} {W : World} {S : Nat → Prop} {sp : Nat → Bool} {hd : Bool} {m : Nat} {x : Raft} {cs : List Value} {z : DataW H × List MemPlace} (hx : raftS.rep S W cs x) (h : DataW.trod enc Tryz.prog W 0 sp hd m 35 cs = some z) : x.snap.length ≤ bk.one z.1 ∧ x.log.length ≤ bk.one z.1 ∧ x.baseConf.voters.length ≤ bk.one z.1 ∧ x.baseConf.learners.length ≤ bk.one z.1 := by
 obtain ⟨_, l, n, o, p, e, f, g, i, j, k, rfl, _, _, _, _, _, _, _, v, _, _, _, _, _, _, _, _, _, _, _, _⟩ := raft_open hx
 obtain ⟨a, b, c, d, rfl, _, _⟩ := conf_open v
 obtain ⟨y, _, r, A⟩ := bk.field_le Tryz.underlying35 h 8 rfl
 change DataW.trod enc Tryz.prog W 0 sp hd y 29 (([.int .i64 x.id, .int .i64 x.election, .int .i64 x.beat, .int .u64 x.term, .int .i64 x.vote, .int .u64 x.base, .int .u64 x.baseTerm, .slice a x.baseConf.voters.length b, .slice c x.baseConf.learners.length d, .slice l x.snap.length n, .slice o x.log.length p, .int .u64 x.commit, .int .i64 x.role, .int .i64 x.lead, .int .i64 x.elapsed, .int .i64 x.timeout, .slice e x.votes.length f, .slice g x.peers.length i, .int .u64 x.ctx, .slice j x.readings.length k, .int .i64 x.target].drop 9).take (Tryz.prog.cellsOf 29)) = _ at r
 rw [show Tryz.prog.cellsOf 29 = 1 from by kernel_rfl] at r
 have B := bk.slice_le Tryz.underlying29 r
 obtain ⟨C, _, s, D⟩ := bk.field_le Tryz.underlying35 h 9 rfl
 change DataW.trod enc Tryz.prog W 0 sp hd C 30 (([.int .i64 x.id, .int .i64 x.election, .int .i64 x.beat, .int .u64 x.term, .int .i64 x.vote, .int .u64 x.base, .int .u64 x.baseTerm, .slice a x.baseConf.voters.length b, .slice c x.baseConf.learners.length d, .slice l x.snap.length n, .slice o x.log.length p, .int .u64 x.commit, .int .i64 x.role, .int .i64 x.lead, .int .i64 x.elapsed, .int .i64 x.timeout, .slice e x.votes.length f, .slice g x.peers.length i, .int .u64 x.ctx, .slice j x.readings.length k, .int .i64 x.target].drop 10).take (Tryz.prog.cellsOf 30)) = _ at s
 rw [show Tryz.prog.cellsOf 30 = 1 from by kernel_rfl] at s
 have E := bk.slice_le Tryz.underlying30 s
 obtain ⟨F, _, q, w⟩ := bk.field_le Tryz.underlying35 h 7 rfl
 change DataW.trod enc Tryz.prog W 0 sp hd F 28 (([.int .i64 x.id, .int .i64 x.election, .int .i64 x.beat, .int .u64 x.term, .int .i64 x.vote, .int .u64 x.base, .int .u64 x.baseTerm, .slice a x.baseConf.voters.length b, .slice c x.baseConf.learners.length d, .slice l x.snap.length n, .slice o x.log.length p, .int .u64 x.commit, .int .i64 x.role, .int .i64 x.lead, .int .i64 x.elapsed, .int .i64 x.timeout, .slice e x.votes.length f, .slice g x.peers.length i, .int .u64 x.ctx, .slice j x.readings.length k, .int .i64 x.target].drop 7).take (Tryz.prog.cellsOf 28)) = _ at q
 rw [show Tryz.prog.cellsOf 28 = 2 from by kernel_rfl] at q
 obtain ⟨G, _, t, I⟩ := bk.field_le Tryz.underlying28 q 0 rfl
 change DataW.trod enc Tryz.prog W 0 sp hd G 26 (([.slice a x.baseConf.voters.length b, .slice c x.baseConf.learners.length d].drop 0).take (Tryz.prog.cellsOf 26)) = _ at t
 rw [show Tryz.prog.cellsOf 26 = 1 from by kernel_rfl] at t
 have J := bk.slice_le Tryz.underlying26 t
 obtain ⟨K, _, u, L⟩ := bk.field_le Tryz.underlying28 q 1 rfl
 change DataW.trod enc Tryz.prog W 0 sp hd K 26 (([.slice a x.baseConf.voters.length b, .slice c x.baseConf.learners.length d].drop 1).take (Tryz.prog.cellsOf 26)) = _ at u
 rw [show Tryz.prog.cellsOf 26 = 1 from by kernel_rfl] at u
 have M := bk.slice_le Tryz.underlying26 u
 exact ⟨(Nat.le_trans B A), (Nat.le_trans E D), (Nat.le_trans (Nat.le_trans J I) w), (Nat.le_trans (Nat.le_trans M L) w)⟩
theorem raft_szK {H : Type} {enc : TypeId × Value → H} {W : World} {S : Nat → Prop} {sp : Nat → Bool} {hd : Bool} {x : Raft} {cs : List Value} {d : DataW H} {p : List MemPlace} {v : Value} (hv : v.cells.toList = cs) (hx : raftS.rep S W cs x) (h0 : DataW.Trod enc Tryz.prog W 0 sp hd 35 v d p) (hb : Rows.uptoBulk d ≤ 1048576) : szK (kR x) := by
 obtain ⟨n, h⟩ := h0
 rw [hv] at h
 obtain ⟨z, A, B, C⟩ := raft_bulk hx h
 have hbd : bk.one d ≤ 1048576 := hb
 refine ⟨Nat.le_trans z hbd, Nat.le_trans A hbd, ⟨Nat.le_trans B hbd, Nat.le_trans C hbd⟩, fun e he => ?_⟩
 obtain ⟨_, r, s, t, u, g, i, j, l, m, o, rfl, _, _, _, _, _, _, _, w, _, y, _, _, _, _, _, _, _, _, _, _⟩ := raft_open hx
 obtain ⟨a, b, c, f, rfl, _, _⟩ := conf_open w
 obtain ⟨D, _, q, E⟩ := bk.field_le Tryz.underlying35 h 9 rfl
 change DataW.trod enc Tryz.prog W 0 sp hd D 30 (([.int .i64 x.id, .int .i64 x.election, .int .i64 x.beat, .int .u64 x.term, .int .i64 x.vote, .int .u64 x.base, .int .u64 x.baseTerm, .slice a x.baseConf.voters.length b, .slice c x.baseConf.learners.length f, .slice r x.snap.length s, .slice t x.log.length u, .int .u64 x.commit, .int .i64 x.role, .int .i64 x.lead, .int .i64 x.elapsed, .int .i64 x.timeout, .slice g x.votes.length i, .slice j x.peers.length l, .int .u64 x.ctx, .slice m x.readings.length o, .int .i64 x.target].drop 10).take (Tryz.prog.cellsOf 30)) = _ at q
 rw [show Tryz.prog.cellsOf 30 = 1 from by kernel_rfl] at q
 obtain ⟨k, hk, rfl⟩ := List.mem_iff_getElem.1 he
 obtain ⟨_, F, es, G, I, hes⟩ := bk.elem_le Tryz.underlying30 (by kernel_rfl) q y (List.getElem?_eq_getElem hk)
 obtain ⟨J, K, L, M⟩ := ent_bulk hes G
 have hl : bk.one F.1 ≤ 1048576 := Nat.le_trans I (Nat.le_trans E hbd)
 exact ⟨Nat.le_trans J hl, Nat.le_trans K hl, Nat.le_trans L hl, Nat.le_trans M hl⟩
theorem wf_i64 {x : Int} (h : (Lit.int .i64 x).wf = true) : -9223372036854775808 ≤ x ∧ x ≤ 9223372036854775807 := by
 simp only [Lit.wf, Bool.and_eq_true, decide_eq_true_eq] at h
 exact h
theorem wf_u64 {x : Int} (h : (Lit.int .u64 x).wf = true) : 0 ≤ x ∧ x ≤ 18446744073709551615 := by
 simp only [Lit.wf, Bool.and_eq_true, decide_eq_true_eq] at h
 exact h
set_option maxRecDepth 100000 in
theorem raftKeeps_contract (H : Type) (enc : TypeId × Value → H) (W : World) (base : Nat) (args : Array Value) (ds gs : List (DataW H)) (before : List MemPlace)
 (hval : ∀ (j : Nat) t v, Tryz.f5.params[j]? = some t → args[j]? = some v → Value.okWide Tryz.prog W .any base t v)
 (hW : DataW.Whole enc Tryz.prog Tryz.f5.params.toList Rows.raftKeepsSpec.vars false W args.toList ds gs before) (hk : Rows.uptoSmall H (ds ++ gs) = true) :
 Calls Tryz.prog 5 args W fun e W' => ∃ v, e = .returned v ∧ Rows.raftKeepsSpec.post enc Tryz.prog Tryz.f5 false true false false W args v W' := by
 have hW' := hW
 obtain ⟨p, q, g, hV, rfl, -, -⟩ := hW
 have hA : DataW.TrodAll enc Tryz.prog W 0 (fun _ => true) true Tryz.f5.params.toList args.toList ds p := g
 rw [Tryz.params5] at hA hval
 obtain ⟨h, _, a, _, _, _, hargs, rfl, rfl, i, w⟩ := trodAll_cons hA
 obtain ⟨k, _, _, _, _, _, rfl, rfl, rfl, x, y⟩ := trodAll_cons w
 obtain ⟨l, _, _, _, _, _, rfl, rfl, rfl, z, A⟩ := trodAll_cons y
 obtain ⟨m, _, _, _, _, _, rfl, rfl, rfl, B, C⟩ := trodAll_cons A
 obtain ⟨n, _, _, _, _, _, rfl, rfl, rfl, D, E⟩ := trodAll_cons C
 obtain ⟨rfl, rfl, rfl⟩ := trodAll_nil E
 obtain rfl : args = #[h, k, l, m, n] := by cases args; simp_all
 obtain ⟨rfl, rfl⟩ := trodVars_none hV
 obtain ⟨cs, R, rfl, hR⟩ := reads_raft.structArg Tryz.underlying35 (hval 0 35 h rfl rfl) i
 obtain ⟨b, rfl, rfl, rfl, o⟩ := open_int Tryz.underlying3 (hval 1 3 k rfl rfl) x
 obtain ⟨c, rfl, rfl, rfl, r⟩ := open_int Tryz.underlying3 (hval 2 3 l rfl rfl) z
 obtain ⟨d, rfl, rfl, rfl, s⟩ := open_int Tryz.underlying3 (hval 3 3 m rfl rfl) B
 obtain ⟨f, rfl, rfl, rfl, u⟩ := open_int Tryz.underlying25 (hval 4 25 n rfl rfl) D
 have F : Rows.uptoBulk a ≤ 1048576 := by
  have G : Rows.uptoBulkAll [a, .lit (.int .i64 b), .lit (.int .i64 c), .lit (.int .i64 d), .lit (.int .u64 f)] ≤ 1048576 := by simpa [Rows.uptoSmall] using hk
  have := bk.cons a ([.lit (.int .i64 b), .lit (.int .i64 c), .lit (.int .i64 d), .lit (.int .u64 f)] : List (DataW H))
  change Rows.uptoBulkAll _ = Rows.uptoBulk a + _ at this
  omega
 refine (keeps_spec hR b c d f (wf_i64 o) (wf_i64 r) (wf_i64 s) (wf_u64 u) (raft_szK rfl hR i (by omega))).mono fun e W' ⟨v, he, hE, hv⟩ => ?_
 subst hv
 exact ⟨_, he, post_true raftKeeps_laid (params_ok (by kernel_rfl)) rfl hW' hE rfl (by kernel_rfl) Tryz.underlying4⟩
theorem raftKeeps_j1 : laidOutB Tryz.pinned.checked.prog = true := by kernel_rfl
theorem raftKeeps_j2 : mapsRowed Tryz.pinned.checked.prog = true := by kernel_rfl
theorem raftKeeps_j3 : (Rows.raftKeepsUptoRow.inPlace == Tryz.pinned.checked.prog.inPlace 5) = true := by kernel_rfl
theorem raftKeeps_j4 : (Rows.raftKeepsUptoRow.unfollowed == Tryz.pinned.checked.prog.unfollowed 5) = true := by kernel_rfl
theorem raftKeeps_j5 : (Rows.raftKeepsUptoRow.recurses == Tryz.pinned.checked.prog.recurses 5) = true := by kernel_rfl
theorem raftKeeps_j6 : (Rows.raftKeepsUptoRow.named == Tryz.pinned.checked.prog.varsNamed 5) = true := by kernel_rfl
theorem raftKeeps_closed : joinedFacts Tryz.pinned.checked.prog 5 Tryz.f5 (Rows.OpenSpec.upto Rows.raftKeepsSpec).bare Rows.raftKeepsUptoRow = true := by
 unfold joinedFacts
 rw [raftKeeps_j1, raftKeeps_j2, raftKeeps_j3, raftKeeps_j4, raftKeeps_j5, raftKeeps_j6]
 kernel_rfl
set_option maxRecDepth 100000 in
theorem raftKeeps_lifted (os : Os) (started : os.Started) (H : Type) (enc : TypeId × Value → H) (F : Stop.Interp) :
 ReturnsInHanded {} Tryz.checked os 5 .any ((Rows.OpenSpec.upto Rows.raftKeepsSpec).pre6 enc Tryz.prog Tryz.f5 Rows.raftKeepsUptoRow.domain false) (((Rows.OpenSpec.upto Rows.raftKeepsSpec).at F).post enc Tryz.prog Tryz.f5 false true false false) := by
 refine returnsInHanded_of_cond (C := Tryz.checked) (s := Rows.OpenSpec.upto Rows.raftKeepsSpec) (k := Rows.uptoSmall) rfl raftKeeps_own started (by kernel_rfl) Tryz.func5
  (OpenSpec.witness (enc := enc) (C := Tryz.checked) (s := Rows.OpenSpec.upto Rows.raftKeepsSpec) (k := Rows.uptoSmall) rfl false ⟨#[], #[.agg #[.int .i64 0, .int .i64 0, .int .i64 0, .int .u64 0, .int .i64 0, .int .u64 0, .int .u64 0, .slice none 0 0, .slice none 0 0, .slice none 0 0, .slice none 0 0, .int .u64 0, .int .i64 0, .int .i64 0, .int .i64 0, .int .i64 0, .slice none 0 0, .slice none 0 0, .int .u64 0, .slice none 0 0, .int .i64 0], .int .i64 0, .int .i64 0, .int .i64 0, .int .u64 0], []⟩ 8 (by kernel_rfl) (by kernel_rfl) (by kernel_rfl)
   (x := ([.agg [.lit (.int .i64 0), .lit (.int .i64 0), .lit (.int .i64 0), .lit (.int .u64 0), .lit (.int .i64 0), .lit (.int .u64 0), .lit (.int .u64 0), .agg [.nil, .nil], .nil, .nil, .lit (.int .u64 0), .lit (.int .i64 0), .lit (.int .i64 0), .lit (.int .i64 0), .lit (.int .i64 0), .nil, .nil, .lit (.int .u64 0), .nil, .lit (.int .i64 0)], .lit (.int .i64 0), .lit (.int .i64 0), .lit (.int .i64 0), .lit (.int .u64 0)], [], [])) (by kernel_rfl) rfl (by kernel_rfl)) ?_
 intro W base args ds gs before hval hW _ hk _
 exact raftKeeps_contract H enc W base args ds gs before hval hW hk
theorem raftKeeps_holds : Rows.RaftKeepsUptoSaid :=
 OpenClaim.holds_of_cond 5 Tryz.f5 rfl rfl rfl rfl rfl rfl rfl ⟨rfl, rfl, rfl, rfl, rfl⟩ rfl rfl rfl rfl rfl (by kernel_rfl) Tryz.func5 raftKeeps_closed
  (of_decide_eq_true (by kernel_rfl)) (by unfold Func.isWrapper; rw [if_neg (by decide +kernel)]; exact ⟨rfl, rfl⟩)
  (fun os started H enc _ F => raftKeeps_lifted os started H enc F)
end Go.Proofs.YtkjkmogipidkiaaGreat
