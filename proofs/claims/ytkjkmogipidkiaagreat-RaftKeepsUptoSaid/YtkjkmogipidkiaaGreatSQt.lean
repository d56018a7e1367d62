import Derived.Test.YtkjkmogipidkiaaGreatRows
import Derived.Test.YtkjkmogipidkiaaGreatSBxA
namespace Go.Proofs.YtkjkmogipidkiaaGreat
open Go.BX
theorem Tryz_mixed : Tryz.prog.follows .mixedOrders = true := by kernel_rfl
structure Conf where
 voters : List Int
 learners : List Int
def confS : Shape Conf := (Shape.pair (Shape.slice (Shape.int .i64)) (Shape.slice (Shape.int .i64))).map fun x => (x.voters, x.learners)
theorem conf_open {S : Nat → Prop} {w : World} {cs : List Value} {x : Conf} (h : confS.rep S w cs x) : ∃ a0 : Option Addr, ∃ k0 : Nat, ∃ a1 : Option Addr, ∃ k1 : Nat, cs = [.slice a0 x.voters.length k0, .slice a1 x.learners.length k1] ∧ (Shape.slice (Shape.int .i64)).rep S w [.slice a0 x.voters.length k0] x.voters ∧ (Shape.slice (Shape.int .i64)).rep S w [.slice a1 x.learners.length k1] x.learners := by
 obtain ⟨_, _, rfl, a, h⟩ := h
 have b := h
 obtain ⟨a0, k0, c⟩ := Shape.slice_form' a
 obtain ⟨a1, k1, d⟩ := Shape.slice_form' b
 exact ⟨a0, k0, a1, k1, (by simp [c, d]), (c ▸ a), (d ▸ b)⟩
theorem conf_mk {S : Nat → Prop} {w : World} {y0 : List Int} {l0 : List Value} (h0 : (Shape.slice (Shape.int .i64)).rep S w l0 y0) {y1 : List Int} {l1 : List Value} (h1 : (Shape.slice (Shape.int .i64)).rep S w l1 y1) : confS.rep S w (l0 ++ (l1)) ⟨y0, y1⟩ := ⟨_, _, rfl, h0, h1⟩
structure CStep where
 kind : Int
 node : Int
structure Peer where
 id : Int
 next : Int
 mat : Int
 heard : Bool
def peerS : Shape Peer := (Shape.pair (Shape.int .i64) (Shape.pair (Shape.int .u64) (Shape.pair (Shape.int .u64) Shape.bool))).map fun x => (x.id, x.next, x.mat, x.heard)
theorem peer_open {S : Nat → Prop} {w : World} {cs : List Value} {x : Peer} (h : peerS.rep S w cs x) : cs = [.I x.id, .int .u64 x.next, .int .u64 x.mat, .bool x.heard] ∧ ((-9223372036854775808) ≤ x.id ∧ x.id ≤ 9223372036854775807) ∧ (0 ≤ x.next ∧ x.next ≤ 18446744073709551615) ∧ (0 ≤ x.mat ∧ x.mat ≤ 18446744073709551615) := by
 obtain ⟨_, _, rfl, a, h⟩ := h
 obtain ⟨_, _, rfl, b, h⟩ := h
 obtain ⟨_, c, rfl, d, h⟩ := h
 have e := h
 obtain ⟨f, g⟩ := a
 obtain ⟨i, j⟩ := b
 obtain ⟨k, l⟩ := d
 have m : c = [.bool x.heard] := e
 exact ⟨(by simp [f, i, k, m]), g, j, l⟩
theorem peer_mk {S : Nat → Prop} {w : World} {y0 : Int} {l0 : List Value} (h0 : (Shape.int .i64).rep S w l0 y0) {y1 : Int} {l1 : List Value} (h1 : (Shape.int .u64).rep S w l1 y1) {y2 : Int} {l2 : List Value} (h2 : (Shape.int .u64).rep S w l2 y2) {y3 : Bool} {l3 : List Value} (h3 : (Shape.bool).rep S w l3 y3) : peerS.rep S w (l0 ++ (l1 ++ (l2 ++ (l3)))) ⟨y0, y1, y2, y3⟩ := ⟨_, _, rfl, h0, ⟨_, _, rfl, h1, ⟨_, _, rfl, h2, h3⟩⟩⟩
structure CID where
 version : Int
 index : Int
 epoch : Int
def cidS : Shape CID := (Shape.pair (Shape.int .u64) (Shape.pair (Shape.int .i64) (Shape.int .u64))).map fun x => (x.version, x.index, x.epoch)
theorem cid_open {S : Nat → Prop} {w : World} {cs : List Value} {x : CID} (h : cidS.rep S w cs x) : cs = [.int .u64 x.version, .I x.index, .int .u64 x.epoch] ∧ (0 ≤ x.version ∧ x.version ≤ 18446744073709551615) ∧ ((-9223372036854775808) ≤ x.index ∧ x.index ≤ 9223372036854775807) ∧ (0 ≤ x.epoch ∧ x.epoch ≤ 18446744073709551615) := by
 obtain ⟨_, _, rfl, a, h⟩ := h
 obtain ⟨_, _, rfl, b, h⟩ := h
 have c := h
 obtain ⟨d, e⟩ := a
 obtain ⟨f, g⟩ := b
 obtain ⟨i, j⟩ := c
 exact ⟨(by simp [d, f, i]), e, g, j⟩
theorem cid_mk {S : Nat → Prop} {w : World} {y0 : Int} {l0 : List Value} (h0 : (Shape.int .u64).rep S w l0 y0) {y1 : Int} {l1 : List Value} (h1 : (Shape.int .i64).rep S w l1 y1) {y2 : Int} {l2 : List Value} (h2 : (Shape.int .u64).rep S w l2 y2) : cidS.rep S w (l0 ++ (l1 ++ (l2))) ⟨y0, y1, y2⟩ := ⟨_, _, rfl, h0, ⟨_, _, rfl, h1, h2⟩⟩
structure Hdr where
 id : CID
 kk : Int
 nn : Int
 size : Int
 sum : BitVec 32
def hdrS : Shape Hdr := (Shape.pair cidS (Shape.pair (Shape.int .i64) (Shape.pair (Shape.int .i64) (Shape.pair (Shape.int .i64) (Shape.bv .u32 32))))).map fun x => (x.id, x.kk, x.nn, x.size, x.sum)
theorem hdr_open {S : Nat → Prop} {w : World} {cs : List Value} {x : Hdr} (h : hdrS.rep S w cs x) : ∃ cs0 : List Value, cs = cs0 ++ [.I x.kk, .I x.nn, .I x.size, .int .u32 ((x.sum.toNat : Nat) : Int)] ∧ (cidS).rep S w cs0 x.id ∧ ((-9223372036854775808) ≤ x.kk ∧ x.kk ≤ 9223372036854775807) ∧ ((-9223372036854775808) ≤ x.nn ∧ x.nn ≤ 9223372036854775807) ∧ ((-9223372036854775808) ≤ x.size ∧ x.size ≤ 9223372036854775807) := by
 obtain ⟨a, _, rfl, b, h⟩ := h
 obtain ⟨_, _, rfl, c, h⟩ := h
 obtain ⟨_, _, rfl, d, h⟩ := h
 obtain ⟨_, e, rfl, f, h⟩ := h
 have g := h
 obtain ⟨i, j⟩ := c
 obtain ⟨k, l⟩ := d
 obtain ⟨m, n⟩ := f
 have o : e = [.int .u32 ((x.sum.toNat : Nat) : Int)] := g
 exact ⟨a, (by simp [i, k, m, o]), b, j, l, n⟩
theorem hdr_mk {S : Nat → Prop} {w : World} {y0 : CID} {l0 : List Value} (h0 : (cidS).rep S w l0 y0) {y1 : Int} {l1 : List Value} (h1 : (Shape.int .i64).rep S w l1 y1) {y2 : Int} {l2 : List Value} (h2 : (Shape.int .i64).rep S w l2 y2) {y3 : Int} {l3 : List Value} (h3 : (Shape.int .i64).rep S w l3 y3) {y4 : BitVec 32} {l4 : List Value} (h4 : (Shape.bv .u32 32).rep S w l4 y4) : hdrS.rep S w (l0 ++ (l1 ++ (l2 ++ (l3 ++ (l4))))) ⟨y0, y1, y2, y3, y4⟩ := ⟨_, _, rfl, h0, ⟨_, _, rfl, h1, ⟨_, _, rfl, h2, ⟨_, _, rfl, h3, h4⟩⟩⟩⟩
structure Mem where
 id : Int
 weight : Int
def memS : Shape Mem := (Shape.pair (Shape.int .i64) (Shape.int .i64)).map fun x => (x.id, x.weight)
theorem mem_open {S : Nat → Prop} {w : World} {cs : List Value} {x : Mem} (h : memS.rep S w cs x) : cs = [.I x.id, .I x.weight] ∧ ((-9223372036854775808) ≤ x.id ∧ x.id ≤ 9223372036854775807) ∧ ((-9223372036854775808) ≤ x.weight ∧ x.weight ≤ 9223372036854775807) := by
 obtain ⟨_, _, rfl, a, h⟩ := h
 have b := h
 obtain ⟨c, d⟩ := a
 obtain ⟨e, f⟩ := b
 exact ⟨(by simp [c, e]), d, f⟩
theorem mem_mk {S : Nat → Prop} {w : World} {y0 : Int} {l0 : List Value} (h0 : (Shape.int .i64).rep S w l0 y0) {y1 : Int} {l1 : List Value} (h1 : (Shape.int .i64).rep S w l1 y1) : memS.rep S w (l0 ++ (l1)) ⟨y0, y1⟩ := ⟨_, _, rfl, h0, h1⟩
structure AMap where
 epoch : Int
 members : List Mem
def amapS : Shape AMap := (Shape.pair (Shape.int .u64) (Shape.slice memS)).map fun x => (x.epoch, x.members)
theorem amap_open {S : Nat → Prop} {w : World} {cs : List Value} {x : AMap} (h : amapS.rep S w cs x) : ∃ a1 : Option Addr, ∃ k1 : Nat, cs = [.int .u64 x.epoch, .slice a1 x.members.length k1] ∧ (0 ≤ x.epoch ∧ x.epoch ≤ 18446744073709551615) ∧ (Shape.slice memS).rep S w [.slice a1 x.members.length k1] x.members := by
 obtain ⟨_, _, rfl, c, h⟩ := h
 have a := h
 obtain ⟨d, e⟩ := c
 obtain ⟨a1, k1, b⟩ := Shape.slice_form' a
 exact ⟨a1, k1, (by simp [d, b]), e, (b ▸ a)⟩
theorem amap_mk {S : Nat → Prop} {w : World} {y0 : Int} {l0 : List Value} (h0 : (Shape.int .u64).rep S w l0 y0) {y1 : List Mem} {l1 : List Value} (h1 : (Shape.slice memS).rep S w l1 y1) : amapS.rep S w (l0 ++ (l1)) ⟨y0, y1⟩ := ⟨_, _, rfl, h0, h1⟩
structure Cmd where
 kind : Int
 client : Int
 seq : Int
 key : ByteArray
 size : Int
 sum : BitVec 32
 version : Int
 epoch : Int
 group : Int
 node : Int
 up : Bool
 id : CID
 amap : AMap
def cmdS : Shape Cmd := (Shape.pair (Shape.int .i64) (Shape.pair (Shape.int .u64) (Shape.pair (Shape.int .u64) (Shape.pair Shape.str (Shape.pair (Shape.int .i64) (Shape.pair (Shape.bv .u32 32) (Shape.pair (Shape.int .u64) (Shape.pair (Shape.int .u64) (Shape.pair (Shape.int .i64) (Shape.pair (Shape.int .i64) (Shape.pair Shape.bool (Shape.pair cidS amapS)))))))))))).map fun x => (x.kind, x.client, x.seq, x.key, x.size, x.sum, x.version, x.epoch, x.group, x.node, x.up, x.id, x.amap)
theorem cmd_open {S : Nat → Prop} {w : World} {cs : List Value} {x : Cmd} (h : cmdS.rep S w cs x) : ∃ cs11 : List Value, ∃ cs12 : List Value, cs = [.I x.kind, .int .u64 x.client, .int .u64 x.seq, .string x.key, .I x.size, .int .u32 ((x.sum.toNat : Nat) : Int), .int .u64 x.version, .int .u64 x.epoch, .I x.group, .I x.node, .bool x.up] ++ cs11 ++ cs12 ∧ ((-9223372036854775808) ≤ x.kind ∧ x.kind ≤ 9223372036854775807) ∧ (0 ≤ x.client ∧ x.client ≤ 18446744073709551615) ∧ (0 ≤ x.seq ∧ x.seq ≤ 18446744073709551615) ∧ x.key.size ≤ maxLen ∧ ((-9223372036854775808) ≤ x.size ∧ x.size ≤ 9223372036854775807) ∧ (0 ≤ x.version ∧ x.version ≤ 18446744073709551615) ∧ (0 ≤ x.epoch ∧ x.epoch ≤ 18446744073709551615) ∧ ((-9223372036854775808) ≤ x.group ∧ x.group ≤ 9223372036854775807) ∧ ((-9223372036854775808) ≤ x.node ∧ x.node ≤ 9223372036854775807) ∧ (cidS).rep S w cs11 x.id ∧ (amapS).rep S w cs12 x.amap := by
 obtain ⟨_, _, rfl, g, h⟩ := h
 obtain ⟨_, _, rfl, i, h⟩ := h
 obtain ⟨_, _, rfl, j, h⟩ := h
 obtain ⟨_, _, rfl, k, h⟩ := h
 obtain ⟨_, _, rfl, l, h⟩ := h
 obtain ⟨m, _, rfl, n, h⟩ := h
 obtain ⟨_, _, rfl, o, h⟩ := h
 obtain ⟨_, _, rfl, p, h⟩ := h
 obtain ⟨_, _, rfl, q, h⟩ := h
 obtain ⟨_, _, rfl, r, h⟩ := h
 obtain ⟨a, _, rfl, b, h⟩ := h
 obtain ⟨c, _, rfl, d, h⟩ := h
 have e := h
 obtain ⟨s, t⟩ := g
 obtain ⟨u, v⟩ := i
 obtain ⟨y, z⟩ := j
 obtain ⟨A, B⟩ := k
 obtain ⟨C, D⟩ := l
 have E : m = [.int .u32 ((x.sum.toNat : Nat) : Int)] := n
 obtain ⟨F, G⟩ := o
 obtain ⟨H, J⟩ := p
 obtain ⟨K, L⟩ := q
 obtain ⟨M, N⟩ := r
 have f : a = [.bool x.up] := b
 exact ⟨c, _, (by simp [s, u, y, A, C, E, F, H, K, M, f]), t, v, z, B, D, G, J, L, N, d, e⟩
theorem cmd_mk {S : Nat → Prop} {w : World} {y0 : Int} {l0 : List Value} (h0 : (Shape.int .i64).rep S w l0 y0) {y1 : Int} {l1 : List Value} (h1 : (Shape.int .u64).rep S w l1 y1) {y2 : Int} {l2 : List Value} (h2 : (Shape.int .u64).rep S w l2 y2) {y3 : ByteArray} {l3 : List Value} (h3 : (Shape.str).rep S w l3 y3) {y4 : Int} {l4 : List Value} (h4 : (Shape.int .i64).rep S w l4 y4) {y5 : BitVec 32} {l5 : List Value} (h5 : (Shape.bv .u32 32).rep S w l5 y5) {y6 : Int} {l6 : List Value} (h6 : (Shape.int .u64).rep S w l6 y6) {y7 : Int} {l7 : List Value} (h7 : (Shape.int .u64).rep S w l7 y7) {y8 : Int} {l8 : List Value} (h8 : (Shape.int .i64).rep S w l8 y8) {y9 : Int} {l9 : List Value} (h9 : (Shape.int .i64).rep S w l9 y9) {y10 : Bool} {l10 : List Value} (h10 : (Shape.bool).rep S w l10 y10) {y11 : CID} {l11 : List Value} (h11 : (cidS).rep S w l11 y11) {y12 : AMap} {l12 : List Value} (h12 : (amapS).rep S w l12 y12) : cmdS.rep S w (l0 ++ (l1 ++ (l2 ++ (l3 ++ (l4 ++ (l5 ++ (l6 ++ (l7 ++ (l8 ++ (l9 ++ (l10 ++ (l11 ++ (l12))))))))))))) ⟨y0, y1, y2, y3, y4, y5, y6, y7, y8, y9, y10, y11, y12⟩ := ⟨_, _, rfl, h0, ⟨_, _, rfl, h1, ⟨_, _, rfl, h2, ⟨_, _, rfl, h3, ⟨_, _, rfl, h4, ⟨_, _, rfl, h5, ⟨_, _, rfl, h6, ⟨_, _, rfl, h7, ⟨_, _, rfl, h8, ⟨_, _, rfl, h9, ⟨_, _, rfl, h10, ⟨_, _, rfl, h11, h12⟩⟩⟩⟩⟩⟩⟩⟩⟩⟩⟩⟩
structure Ent where
 index : Int
 term : Int
 kind : Int
 cmd : Cmd
 conf : Conf
def entS : Shape Ent := (Shape.pair (Shape.int .u64) (Shape.pair (Shape.int .u64) (Shape.pair (Shape.int .i64) (Shape.pair cmdS confS)))).map fun x => (x.index, x.term, x.kind, x.cmd, x.conf)
theorem ent_open {S : Nat → Prop} {w : World} {cs : List Value} {x : Ent} (h : entS.rep S w cs x) : ∃ cs3 : List Value, ∃ cs4 : List Value, cs = [.int .u64 x.index, .int .u64 x.term, .I x.kind] ++ cs3 ++ cs4 ∧ (0 ≤ x.index ∧ x.index ≤ 18446744073709551615) ∧ (0 ≤ x.term ∧ x.term ≤ 18446744073709551615) ∧ ((-9223372036854775808) ≤ x.kind ∧ x.kind ≤ 9223372036854775807) ∧ (cmdS).rep S w cs3 x.cmd ∧ (confS).rep S w cs4 x.conf := by
 obtain ⟨_, _, rfl, a, h⟩ := h
 obtain ⟨_, _, rfl, b, h⟩ := h
 obtain ⟨_, _, rfl, c, h⟩ := h
 obtain ⟨d, _, rfl, e, h⟩ := h
 have f := h
 obtain ⟨g, i⟩ := a
 obtain ⟨j, k⟩ := b
 obtain ⟨l, m⟩ := c
 exact ⟨d, _, (by simp [g, j, l]), i, k, m, e, f⟩
theorem ent_mk {S : Nat → Prop} {w : World} {y0 : Int} {l0 : List Value} (h0 : (Shape.int .u64).rep S w l0 y0) {y1 : Int} {l1 : List Value} (h1 : (Shape.int .u64).rep S w l1 y1) {y2 : Int} {l2 : List Value} (h2 : (Shape.int .i64).rep S w l2 y2) {y3 : Cmd} {l3 : List Value} (h3 : (cmdS).rep S w l3 y3) {y4 : Conf} {l4 : List Value} (h4 : (confS).rep S w l4 y4) : entS.rep S w (l0 ++ (l1 ++ (l2 ++ (l3 ++ (l4))))) ⟨y0, y1, y2, y3, y4⟩ := ⟨_, _, rfl, h0, ⟨_, _, rfl, h1, ⟨_, _, rfl, h2, ⟨_, _, rfl, h3, h4⟩⟩⟩⟩
structure Msg where
 kind : Int
 frm : Int
 to : Int
 term : Int
 index : Int
 logTerm : Int
 commit : Int
 ctx : Int
 ok : Bool
 force : Bool
 entries : List Ent
 conf : Conf
 head : Hdr
 data : List (BitVec 8)
 client : Int
 seq : Int
 op : Int
 key : ByteArray
 code : Int
 names : List ByteArray
def msgS : Shape Msg := (Shape.pair (Shape.int .i64) (Shape.pair (Shape.int .i64) (Shape.pair (Shape.int .i64) (Shape.pair (Shape.int .u64) (Shape.pair (Shape.int .u64) (Shape.pair (Shape.int .u64) (Shape.pair (Shape.int .u64) (Shape.pair (Shape.int .u64) (Shape.pair Shape.bool (Shape.pair Shape.bool (Shape.pair (Shape.slice entS) (Shape.pair confS (Shape.pair hdrS (Shape.pair SB (Shape.pair (Shape.int .u64) (Shape.pair (Shape.int .u64) (Shape.pair (Shape.int .i64) (Shape.pair Shape.str (Shape.pair (Shape.int .i64) (Shape.slice Shape.str)))))))))))))))))))).map fun x => (x.kind, x.frm, x.to, x.term, x.index, x.logTerm, x.commit, x.ctx, x.ok, x.force, x.entries, x.conf, x.head, x.data, x.client, x.seq, x.op, x.key, x.code, x.names)
theorem msg_open {S : Nat → Prop} {w : World} {cs : List Value} {x : Msg} (h : msgS.rep S w cs x) : ∃ a10 : Option Addr, ∃ k10 : Nat, ∃ cs11 : List Value, ∃ cs12 : List Value, ∃ a13 : Option Addr, ∃ k13 : Nat, ∃ a19 : Option Addr, ∃ k19 : Nat, cs = [.I x.kind, .I x.frm, .I x.to, .int .u64 x.term, .int .u64 x.index, .int .u64 x.logTerm, .int .u64 x.commit, .int .u64 x.ctx, .bool x.ok, .bool x.force, .slice a10 x.entries.length k10] ++ cs11 ++ cs12 ++ [.slice a13 x.data.length k13, .int .u64 x.client, .int .u64 x.seq, .I x.op, .string x.key, .I x.code, .slice a19 x.names.length k19] ∧ ((-9223372036854775808) ≤ x.kind ∧ x.kind ≤ 9223372036854775807) ∧ ((-9223372036854775808) ≤ x.frm ∧ x.frm ≤ 9223372036854775807) ∧ ((-9223372036854775808) ≤ x.to ∧ x.to ≤ 9223372036854775807) ∧ (0 ≤ x.term ∧ x.term ≤ 18446744073709551615) ∧ (0 ≤ x.index ∧ x.index ≤ 18446744073709551615) ∧ (0 ≤ x.logTerm ∧ x.logTerm ≤ 18446744073709551615) ∧ (0 ≤ x.commit ∧ x.commit ≤ 18446744073709551615) ∧ (0 ≤ x.ctx ∧ x.ctx ≤ 18446744073709551615) ∧ (Shape.slice entS).rep S w [.slice a10 x.entries.length k10] x.entries ∧ (confS).rep S w cs11 x.conf ∧ (hdrS).rep S w cs12 x.head ∧ SB.rep S w [.slice a13 x.data.length k13] x.data ∧ (0 ≤ x.client ∧ x.client ≤ 18446744073709551615) ∧ (0 ≤ x.seq ∧ x.seq ≤ 18446744073709551615) ∧ ((-9223372036854775808) ≤ x.op ∧ x.op ≤ 9223372036854775807) ∧ x.key.size ≤ maxLen ∧ ((-9223372036854775808) ≤ x.code ∧ x.code ≤ 9223372036854775807) ∧ (Shape.slice Shape.str).rep S w [.slice a19 x.names.length k19] x.names := by
 obtain ⟨_, _, rfl, C, h⟩ := h
 obtain ⟨_, _, rfl, D, h⟩ := h
 obtain ⟨_, _, rfl, E, h⟩ := h
 obtain ⟨_, _, rfl, F, h⟩ := h
 obtain ⟨_, _, rfl, G, h⟩ := h
 obtain ⟨_, _, rfl, H, h⟩ := h
 obtain ⟨_, _, rfl, J, h⟩ := h
 obtain ⟨_, _, rfl, K, h⟩ := h
 obtain ⟨L, _, rfl, M, h⟩ := h
 obtain ⟨N, _, rfl, O, h⟩ := h
 obtain ⟨_, _, rfl, a, h⟩ := h
 obtain ⟨g, _, rfl, i, h⟩ := h
 obtain ⟨j, _, rfl, k, h⟩ := h
 obtain ⟨_, _, rfl, b, h⟩ := h
 obtain ⟨_, _, rfl, l, h⟩ := h
 obtain ⟨_, _, rfl, m, h⟩ := h
 obtain ⟨_, _, rfl, n, h⟩ := h
 obtain ⟨_, _, rfl, o, h⟩ := h
 obtain ⟨_, _, rfl, p, h⟩ := h
 have c := h
 obtain ⟨P, Q⟩ := C
 obtain ⟨R, T⟩ := D
 obtain ⟨U, V⟩ := E
 obtain ⟨W, X⟩ := F
 obtain ⟨Y, Z⟩ := G
 obtain ⟨e5, b5⟩ := H
 obtain ⟨e6, b6⟩ := J
 obtain ⟨e7, b7⟩ := K
 have e8 : L = [.bool x.ok] := M
 have e9 : N = [.bool x.force] := O
 obtain ⟨a10, k10, d⟩ := Shape.slice_form' a
 obtain ⟨a13, k13, e⟩ := Shape.slice_form' b
 obtain ⟨q, r⟩ := l
 obtain ⟨s, t⟩ := m
 obtain ⟨u, v⟩ := n
 obtain ⟨y, z⟩ := o
 obtain ⟨A, B⟩ := p
 obtain ⟨a19, k19, f⟩ := Shape.slice_form' c
 exact ⟨a10, k10, g, j, a13, k13, a19, k19, (by simp [P, R, U, W, Y, e5, e6, e7, e8, e9, d, e, q, s, u, y, A, f]), Q, T, V, X, Z, b5, b6, b7, (d ▸ a), i, k, (e ▸ b), r, t, v, z, B, (f ▸ c)⟩
theorem msg_mk {S : Nat → Prop} {w : World} {y0 : Int} {l0 : List Value} (h0 : (Shape.int .i64).rep S w l0 y0) {y1 : Int} {l1 : List Value} (h1 : (Shape.int .i64).rep S w l1 y1) {y2 : Int} {l2 : List Value} (h2 : (Shape.int .i64).rep S w l2 y2) {y3 : Int} {l3 : List Value} (h3 : (Shape.int .u64).rep S w l3 y3) {y4 : Int} {l4 : List Value} (h4 : (Shape.int .u64).rep S w l4 y4) {y5 : Int} {l5 : List Value} (h5 : (Shape.int .u64).rep S w l5 y5) {y6 : Int} {l6 : List Value} (h6 : (Shape.int .u64).rep S w l6 y6) {y7 : Int} {l7 : List Value} (h7 : (Shape.int .u64).rep S w l7 y7) {y8 : Bool} {l8 : List Value} (h8 : (Shape.bool).rep S w l8 y8) {y9 : Bool} {l9 : List Value} (h9 : (Shape.bool).rep S w l9 y9) {y10 : List Ent} {l10 : List Value} (h10 : (Shape.slice entS).rep S w l10 y10) {y11 : Conf} {l11 : List Value} (h11 : (confS).rep S w l11 y11) {y12 : Hdr} {l12 : List Value} (h12 : (hdrS).rep S w l12 y12) {y13 : List (BitVec 8)} {l13 : List Value} (h13 : SB.rep S w l13 y13) {y14 : Int} {l14 : List Value} (h14 : (Shape.int .u64).rep S w l14 y14) {y15 : Int} {l15 : List Value} (h15 : (Shape.int .u64).rep S w l15 y15) {y16 : Int} {l16 : List Value} (h16 : (Shape.int .i64).rep S w l16 y16) {y17 : ByteArray} {l17 : List Value} (h17 : (Shape.str).rep S w l17 y17) {y18 : Int} {l18 : List Value} (h18 : (Shape.int .i64).rep S w l18 y18) {y19 : List ByteArray} {l19 : List Value} (h19 : (Shape.slice Shape.str).rep S w l19 y19) : msgS.rep S w (l0 ++ (l1 ++ (l2 ++ (l3 ++ (l4 ++ (l5 ++ (l6 ++ (l7 ++ (l8 ++ (l9 ++ (l10 ++ (l11 ++ (l12 ++ (l13 ++ (l14 ++ (l15 ++ (l16 ++ (l17 ++ (l18 ++ (l19)))))))))))))))))))) ⟨y0, y1, y2, y3, y4, y5, y6, y7, y8, y9, y10, y11, y12, y13, y14, y15, y16, y17, y18, y19⟩ := ⟨_, _, rfl, h0, ⟨_, _, rfl, h1, ⟨_, _, rfl, h2, ⟨_, _, rfl, h3, ⟨_, _, rfl, h4, ⟨_, _, rfl, h5, ⟨_, _, rfl, h6, ⟨_, _, rfl, h7, ⟨_, _, rfl, h8, ⟨_, _, rfl, h9, ⟨_, _, rfl, h10, ⟨_, _, rfl, h11, ⟨_, _, rfl, h12, ⟨_, _, rfl, h13, ⟨_, _, rfl, h14, ⟨_, _, rfl, h15, ⟨_, _, rfl, h16, ⟨_, _, rfl, h17, ⟨_, _, rfl, h18, h19⟩⟩⟩⟩⟩⟩⟩⟩⟩⟩⟩⟩⟩⟩⟩⟩⟩⟩⟩
structure Rdg where
 id : Int
 index : Int
 ctx : Int
 acks : List Int
def rdgS : Shape Rdg := (Shape.pair (Shape.int .u64) (Shape.pair (Shape.int .u64) (Shape.pair (Shape.int .u64) (Shape.slice (Shape.int .i64))))).map fun x => (x.id, x.index, x.ctx, x.acks)
theorem rdg_open {S : Nat → Prop} {w : World} {cs : List Value} {x : Rdg} (h : rdgS.rep S w cs x) : ∃ a3 : Option Addr, ∃ k3 : Nat, cs = [.int .u64 x.id, .int .u64 x.index, .int .u64 x.ctx, .slice a3 x.acks.length k3] ∧ (0 ≤ x.id ∧ x.id ≤ 18446744073709551615) ∧ (0 ≤ x.index ∧ x.index ≤ 18446744073709551615) ∧ (0 ≤ x.ctx ∧ x.ctx ≤ 18446744073709551615) ∧ (Shape.slice (Shape.int .i64)).rep S w [.slice a3 x.acks.length k3] x.acks := by
 obtain ⟨_, _, rfl, c, h⟩ := h
 obtain ⟨_, _, rfl, d, h⟩ := h
 obtain ⟨_, _, rfl, e, h⟩ := h
 have a := h
 obtain ⟨f, g⟩ := c
 obtain ⟨i, j⟩ := d
 obtain ⟨k, l⟩ := e
 obtain ⟨a3, k3, b⟩ := Shape.slice_form' a
 exact ⟨a3, k3, (by simp [f, i, k, b]), g, j, l, (b ▸ a)⟩
structure Kept where
 term : Int
 vote : Int
 base : Int
 baseTerm : Int
 baseConf : Conf
 snap : List (BitVec 8)
 log : List Ent
def keptS : Shape Kept := (Shape.pair (Shape.int .u64) (Shape.pair (Shape.int .i64) (Shape.pair (Shape.int .u64) (Shape.pair (Shape.int .u64) (Shape.pair confS (Shape.pair SB (Shape.slice entS))))))).map fun x => (x.term, x.vote, x.base, x.baseTerm, x.baseConf, x.snap, x.log)
theorem kept_open {S : Nat → Prop} {w : World} {cs : List Value} {x : Kept} (h : keptS.rep S w cs x) : ∃ cs4 : List Value, ∃ a5 : Option Addr, ∃ k5 : Nat, ∃ a6 : Option Addr, ∃ k6 : Nat, cs = [.int .u64 x.term, .I x.vote, .int .u64 x.base, .int .u64 x.baseTerm] ++ cs4 ++ [.slice a5 x.snap.length k5, .slice a6 x.log.length k6] ∧ (0 ≤ x.term ∧ x.term ≤ 18446744073709551615) ∧ ((-9223372036854775808) ≤ x.vote ∧ x.vote ≤ 9223372036854775807) ∧ (0 ≤ x.base ∧ x.base ≤ 18446744073709551615) ∧ (0 ≤ x.baseTerm ∧ x.baseTerm ≤ 18446744073709551615) ∧ (confS).rep S w cs4 x.baseConf ∧ SB.rep S w [.slice a5 x.snap.length k5] x.snap ∧ (Shape.slice entS).rep S w [.slice a6 x.log.length k6] x.log := by
 obtain ⟨_, _, rfl, e, h⟩ := h
 obtain ⟨_, _, rfl, f, h⟩ := h
 obtain ⟨_, _, rfl, g, h⟩ := h
 obtain ⟨_, _, rfl, i, h⟩ := h
 obtain ⟨j, _, rfl, k, h⟩ := h
 obtain ⟨_, _, rfl, a, h⟩ := h
 have b := h
 obtain ⟨l, m⟩ := e
 obtain ⟨n, o⟩ := f
 obtain ⟨p, q⟩ := g
 obtain ⟨r, s⟩ := i
 obtain ⟨a5, k5, c⟩ := Shape.slice_form' a
 obtain ⟨a6, k6, d⟩ := Shape.slice_form' b
 exact ⟨j, a5, k5, a6, k6, (by simp [l, n, p, r, c, d]), m, o, q, s, k, (c ▸ a), (d ▸ b)⟩
theorem kept_mk {S : Nat → Prop} {w : World} {y0 : Int} {l0 : List Value} (h0 : (Shape.int .u64).rep S w l0 y0) {y1 : Int} {l1 : List Value} (h1 : (Shape.int .i64).rep S w l1 y1) {y2 : Int} {l2 : List Value} (h2 : (Shape.int .u64).rep S w l2 y2) {y3 : Int} {l3 : List Value} (h3 : (Shape.int .u64).rep S w l3 y3) {y4 : Conf} {l4 : List Value} (h4 : (confS).rep S w l4 y4) {y5 : List (BitVec 8)} {l5 : List Value} (h5 : SB.rep S w l5 y5) {y6 : List Ent} {l6 : List Value} (h6 : (Shape.slice entS).rep S w l6 y6) : keptS.rep S w (l0 ++ (l1 ++ (l2 ++ (l3 ++ (l4 ++ (l5 ++ (l6))))))) ⟨y0, y1, y2, y3, y4, y5, y6⟩ := ⟨_, _, rfl, h0, ⟨_, _, rfl, h1, ⟨_, _, rfl, h2, ⟨_, _, rfl, h3, ⟨_, _, rfl, h4, ⟨_, _, rfl, h5, h6⟩⟩⟩⟩⟩⟩
structure Raft where
 id : Int
 election : Int
 beat : Int
 term : Int
 vote : Int
 base : Int
 baseTerm : Int
 baseConf : Conf
 snap : List (BitVec 8)
 log : List Ent
 commit : Int
 role : Int
 lead : Int
 elapsed : Int
 timeout : Int
 votes : List Int
 peers : List Peer
 ctx : Int
 readings : List Rdg
 target : Int
def raftS : Shape Raft := (Shape.pair (Shape.int .i64) (Shape.pair (Shape.int .i64) (Shape.pair (Shape.int .i64) (Shape.pair (Shape.int .u64) (Shape.pair (Shape.int .i64) (Shape.pair (Shape.int .u64) (Shape.pair (Shape.int .u64) (Shape.pair confS (Shape.pair SB (Shape.pair (Shape.slice entS) (Shape.pair (Shape.int .u64) (Shape.pair (Shape.int .i64) (Shape.pair (Shape.int .i64) (Shape.pair (Shape.int .i64) (Shape.pair (Shape.int .i64) (Shape.pair (Shape.slice (Shape.int .i64)) (Shape.pair (Shape.slice peerS) (Shape.pair (Shape.int .u64) (Shape.pair (Shape.slice rdgS) (Shape.int .i64)))))))))))))))))))).map fun x => (x.id, x.election, x.beat, x.term, x.vote, x.base, x.baseTerm, x.baseConf, x.snap, x.log, x.commit, x.role, x.lead, x.elapsed, x.timeout, x.votes, x.peers, x.ctx, x.readings, x.target)
theorem raft_open {S : Nat → Prop} {w : World} {cs : List Value} {x : Raft} (h : raftS.rep S w cs x) : ∃ cs7 : List Value, ∃ a8 : Option Addr, ∃ k8 : Nat, ∃ a9 : Option Addr, ∃ k9 : Nat, ∃ a15 : Option Addr, ∃ k15 : Nat, ∃ a16 : Option Addr, ∃ k16 : Nat, ∃ a18 : Option Addr, ∃ k18 : Nat, cs = [.I x.id, .I x.election, .I x.beat, .int .u64 x.term, .I x.vote, .int .u64 x.base, .int .u64 x.baseTerm] ++ cs7 ++ [.slice a8 x.snap.length k8, .slice a9 x.log.length k9, .int .u64 x.commit, .I x.role, .I x.lead, .I x.elapsed, .I x.timeout, .slice a15 x.votes.length k15, .slice a16 x.peers.length k16, .int .u64 x.ctx, .slice a18 x.readings.length k18, .I x.target] ∧ ((-9223372036854775808) ≤ x.id ∧ x.id ≤ 9223372036854775807) ∧ ((-9223372036854775808) ≤ x.election ∧ x.election ≤ 9223372036854775807) ∧ ((-9223372036854775808) ≤ x.beat ∧ x.beat ≤ 9223372036854775807) ∧ (0 ≤ x.term ∧ x.term ≤ 18446744073709551615) ∧ ((-9223372036854775808) ≤ x.vote ∧ x.vote ≤ 9223372036854775807) ∧ (0 ≤ x.base ∧ x.base ≤ 18446744073709551615) ∧ (0 ≤ x.baseTerm ∧ x.baseTerm ≤ 18446744073709551615) ∧ (confS).rep S w cs7 x.baseConf ∧ SB.rep S w [.slice a8 x.snap.length k8] x.snap ∧ (Shape.slice entS).rep S w [.slice a9 x.log.length k9] x.log ∧ (0 ≤ x.commit ∧ x.commit ≤ 18446744073709551615) ∧ ((-9223372036854775808) ≤ x.role ∧ x.role ≤ 9223372036854775807) ∧ ((-9223372036854775808) ≤ x.lead ∧ x.lead ≤ 9223372036854775807) ∧ ((-9223372036854775808) ≤ x.elapsed ∧ x.elapsed ≤ 9223372036854775807) ∧ ((-9223372036854775808) ≤ x.timeout ∧ x.timeout ≤ 9223372036854775807) ∧ (Shape.slice (Shape.int .i64)).rep S w [.slice a15 x.votes.length k15] x.votes ∧ (Shape.slice peerS).rep S w [.slice a16 x.peers.length k16] x.peers ∧ (0 ≤ x.ctx ∧ x.ctx ≤ 18446744073709551615) ∧ (Shape.slice rdgS).rep S w [.slice a18 x.readings.length k18] x.readings ∧ ((-9223372036854775808) ≤ x.target ∧ x.target ≤ 9223372036854775807) := by
 obtain ⟨_, _, rfl, J, h⟩ := h
 obtain ⟨_, _, rfl, K, h⟩ := h
 obtain ⟨_, _, rfl, L, h⟩ := h
 obtain ⟨_, _, rfl, M, h⟩ := h
 obtain ⟨_, _, rfl, N, h⟩ := h
 obtain ⟨_, _, rfl, O, h⟩ := h
 obtain ⟨_, _, rfl, P, h⟩ := h
 obtain ⟨Q, _, rfl, R, h⟩ := h
 obtain ⟨_, _, rfl, g, h⟩ := h
 obtain ⟨_, _, rfl, i, h⟩ := h
 obtain ⟨_, _, rfl, j, h⟩ := h
 obtain ⟨_, _, rfl, k, h⟩ := h
 obtain ⟨_, _, rfl, l, h⟩ := h
 obtain ⟨_, _, rfl, m, h⟩ := h
 obtain ⟨_, _, rfl, n, h⟩ := h
 obtain ⟨_, _, rfl, a, h⟩ := h
 obtain ⟨_, _, rfl, b, h⟩ := h
 obtain ⟨_, _, rfl, o, h⟩ := h
 obtain ⟨_, _, rfl, c, h⟩ := h
 have p := h
 obtain ⟨T, U⟩ := J
 obtain ⟨V, W⟩ := K
 obtain ⟨X, Y⟩ := L
 obtain ⟨Z, b3⟩ := M
 obtain ⟨e4, b4⟩ := N
 obtain ⟨e5, b5⟩ := O
 obtain ⟨e6, b6⟩ := P
 obtain ⟨a8, k8, q⟩ := Shape.slice_form' g
 obtain ⟨a9, k9, r⟩ := Shape.slice_form' i
 obtain ⟨s, t⟩ := j
 obtain ⟨u, v⟩ := k
 obtain ⟨y, z⟩ := l
 obtain ⟨A, B⟩ := m
 obtain ⟨C, D⟩ := n
 obtain ⟨a15, k15, d⟩ := Shape.slice_form' a
 obtain ⟨a16, k16, e⟩ := Shape.slice_form' b
 obtain ⟨E, F⟩ := o
 obtain ⟨a18, k18, f⟩ := Shape.slice_form' c
 obtain ⟨G, H⟩ := p
 exact ⟨Q, a8, k8, a9, k9, a15, k15, a16, k16, a18, k18, (by simp [T, V, X, Z, e4, e5, e6, q, r, s, u, y, A, C, d, e, E, f, G]), U, W, Y, b3, b4, b5, b6, R, (q ▸ g), (r ▸ i), t, v, z, B, D, (d ▸ a), (e ▸ b), F, (f ▸ c), H⟩
theorem raft_mk {S : Nat → Prop} {w : World} {y0 : Int} {l0 : List Value} (h0 : (Shape.int .i64).rep S w l0 y0) {y1 : Int} {l1 : List Value} (h1 : (Shape.int .i64).rep S w l1 y1) {y2 : Int} {l2 : List Value} (h2 : (Shape.int .i64).rep S w l2 y2) {y3 : Int} {l3 : List Value} (h3 : (Shape.int .u64).rep S w l3 y3) {y4 : Int} {l4 : List Value} (h4 : (Shape.int .i64).rep S w l4 y4) {y5 : Int} {l5 : List Value} (h5 : (Shape.int .u64).rep S w l5 y5) {y6 : Int} {l6 : List Value} (h6 : (Shape.int .u64).rep S w l6 y6) {y7 : Conf} {l7 : List Value} (h7 : (confS).rep S w l7 y7) {y8 : List (BitVec 8)} {l8 : List Value} (h8 : SB.rep S w l8 y8) {y9 : List Ent} {l9 : List Value} (h9 : (Shape.slice entS).rep S w l9 y9) {y10 : Int} {l10 : List Value} (h10 : (Shape.int .u64).rep S w l10 y10) {y11 : Int} {l11 : List Value} (h11 : (Shape.int .i64).rep S w l11 y11) {y12 : Int} {l12 : List Value} (h12 : (Shape.int .i64).rep S w l12 y12) {y13 : Int} {l13 : List Value} (h13 : (Shape.int .i64).rep S w l13 y13) {y14 : Int} {l14 : List Value} (h14 : (Shape.int .i64).rep S w l14 y14) {y15 : List Int} {l15 : List Value} (h15 : (Shape.slice (Shape.int .i64)).rep S w l15 y15) {y16 : List Peer} {l16 : List Value} (h16 : (Shape.slice peerS).rep S w l16 y16) {y17 : Int} {l17 : List Value} (h17 : (Shape.int .u64).rep S w l17 y17) {y18 : List Rdg} {l18 : List Value} (h18 : (Shape.slice rdgS).rep S w l18 y18) {y19 : Int} {l19 : List Value} (h19 : (Shape.int .i64).rep S w l19 y19) : raftS.rep S w (l0 ++ (l1 ++ (l2 ++ (l3 ++ (l4 ++ (l5 ++ (l6 ++ (l7 ++ (l8 ++ (l9 ++ (l10 ++ (l11 ++ (l12 ++ (l13 ++ (l14 ++ (l15 ++ (l16 ++ (l17 ++ (l18 ++ (l19)))))))))))))))))))) ⟨y0, y1, y2, y3, y4, y5, y6, y7, y8, y9, y10, y11, y12, y13, y14, y15, y16, y17, y18, y19⟩ := ⟨_, _, rfl, h0, ⟨_, _, rfl, h1, ⟨_, _, rfl, h2, ⟨_, _, rfl, h3, ⟨_, _, rfl, h4, ⟨_, _, rfl, h5, ⟨_, _, rfl, h6, ⟨_, _, rfl, h7, ⟨_, _, rfl, h8, ⟨_, _, rfl, h9, ⟨_, _, rfl, h10, ⟨_, _, rfl, h11, ⟨_, _, rfl, h12, ⟨_, _, rfl, h13, ⟨_, _, rfl, h14, ⟨_, _, rfl, h15, ⟨_, _, rfl, h16, ⟨_, _, rfl, h17, ⟨_, _, rfl, h18, h19⟩⟩⟩⟩⟩⟩⟩⟩⟩⟩⟩⟩⟩⟩⟩⟩⟩⟩⟩
structure Out where
 hard : Bool
 cut : Int
 added : List Ent
 snap : Bool
 msgs : List Msg
 apply : List Ent
 ready : List Rdg
 lost : List Int
 restored : Bool
 err : Int
structure Inp where
 kind : Int
 draw : Int
 msg : Msg
 cmd : Cmd
 step : CStep
 read : Int
 node : Int
 index : Int
 data : List (BitVec 8)
def risesFrom (last : Int) : List Int → Bool
 | [] => true
 | x :: r => if x ≤ last ∨ x > 32 then false else risesFrom x r
def common (a b : List Int) : Nat := (a.filter (fun x => decide (x ∈ b))).length
def okConf (c : Conf) : Bool := !c.voters.isEmpty && risesFrom 0 c.voters && risesFrom 0 c.learners && decide (common c.voters c.learners = 0)
def errOf (b : Bool) : Int := if b then 0 else 120
theorem errOf_no {b : Bool} (h : b = true → False) : errOf b = 120 := by cases b <;> simp_all [errOf]
theorem errOf_yes {b : Bool} (h : b = true) : errOf b = 0 := by subst h; rfl
theorem okConf_iff {c : Conf} : okConf c = true ↔ c.voters.length ≠ 0 ∧ risesFrom 0 c.voters = true ∧ risesFrom 0 c.learners = true ∧ common c.voters c.learners = 0 := by
 simp [okConf, and_assoc]
def majB (c : Conf) (a : List Int) : Bool := decide (2 * (common c.voters a : Int) > c.voters.length)
theorem risesFrom_step {last : Int} {xs : List Int} {k : Nat} (hk : k < xs.length) : risesFrom last (xs.drop k) = if xs[k] ≤ last ∨ xs[k] > 32 then false else risesFrom xs[k] (xs.drop (k + 1)) := by
 rw [List.drop_eq_getElem_cons hk]; rfl
theorem take_succ_mem {xs : List Int} {k : Nat} (hk : k < xs.length) {x : Int} : x ∈ xs.take (k + 1) ↔ x ∈ xs.take k ∨ x = xs[k] := by
 rw [List.take_succ_eq_append_getElem hk, List.mem_append, List.mem_singleton]
theorem rises_le : ∀ {xs : List Int} {l : Int}, 0 ≤ l → l ≤ 32 → risesFrom l xs = true → l + xs.length ≤ 32
 | [], l, h1, h2, _ => by simp; omega
 | x :: r, l, h1, h2, h => by
  unfold risesFrom at h
  split at h
  · cases h
  · have := rises_le (by omega) (by omega) h
    simp only [List.length_cons]; omega
theorem ok_len {c : Conf} (h : okConf c = true) : c.voters.length ≤ 32 ∧ c.learners.length ≤ 32 := by
 obtain ⟨_, a, b, _⟩ := okConf_iff.1 h
 have := rises_le (by decide) (by decide) a
 have := rises_le (by decide) (by decide) b
 omega
theorem common_le (a b : List Int) : common a b ≤ a.length := List.length_filter_le _ _
theorem errOf_ne {b : Bool} (h : ¬ errOf b = 0) : b = false := by cases b <;> simp_all [errOf]
theorem errOf_eq {b : Bool} (h : errOf b = 0) : b = true := by cases b <;> simp_all [errOf]
theorem common_succ {a b : List Int} {k : Nat} (hk : k < a.length) : common (a.take (k + 1)) b = common (a.take k) b + if a[k] ∈ b then 1 else 0 := by
 unfold common
 rw [List.take_succ_eq_append_getElem hk, List.filter_append]
 by_cases h : a[k] ∈ b <;> simp [h]
end Go.Proofs.YtkjkmogipidkiaaGreat
