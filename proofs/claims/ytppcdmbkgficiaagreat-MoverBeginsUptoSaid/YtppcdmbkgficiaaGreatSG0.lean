import Derived.Test.YtppcdmbkgficiaaGreatRows
import Derived.Test.YtppcdmbkgficiaaGreatSBxA
import Derived.Test.YtppcdmbkgficiaaGreatSBxB
namespace Go.Proofs.YtppcdmbkgficiaaGreat
open Go.BX
structure CID where
 version : Int
 index : Int
 epoch : Int
 deriving DecidableEq
def cidS : Shape CID := (Shape.pair (Shape.int .u64) (Shape.pair (Shape.int .i64) (Shape.int .u64))).map fun x => (x.version, x.index, x.epoch)
theorem cid_open {S : Nat → Prop} {w : World} {cs : List Value} {x : CID} (h : cidS.rep S w cs x) : cs = [.int .u64 x.version, .I x.index, .int .u64 x.epoch] ∧ (0 ≤ x.version ∧ x.version ≤ 18446744073709551615) ∧ ((-9223372036854775808) ≤ x.index ∧ x.index ≤ 9223372036854775807) ∧ (0 ≤ x.epoch ∧ x.epoch ≤ 18446744073709551615) := by
 obtain ⟨_, _, rfl, a, h⟩ := h
 obtain ⟨_, _, rfl, b, h⟩ := h
 have c := h
 obtain ⟨d, e⟩ := a
 obtain ⟨f, g⟩ := b
 obtain ⟨i, j⟩ := c
 exact ⟨(by simp [d, f, i]), e, g, j⟩
theorem cid_mk {S : Nat → Prop} {w : World} {y0 : Int} {l0 : List Value} (h0 : (Shape.int .u64).rep S w l0 y0) {y1 : Int} {l1 : List Value} (h1 : (Shape.int .i64).rep S w l1 y1) {y2 : Int} {l2 : List Value} (h2 : (Shape.int .u64).rep S w l2 y2) : cidS.rep S w (l0 ++ (l1 ++ (l2))) ⟨y0, y1, y2⟩ := ⟨_, _, rfl, h0, ⟨_, _, rfl, h1, h2⟩⟩
structure Hdr where
 id : CID
 kk : Int
 nn : Int
 size : Int
 sum : BitVec 32
 deriving DecidableEq
def hdrS : Shape Hdr := (Shape.pair cidS (Shape.pair (Shape.int .i64) (Shape.pair (Shape.int .i64) (Shape.pair (Shape.int .i64) (Shape.bv .u32 32))))).map fun x => (x.id, x.kk, x.nn, x.size, x.sum)
theorem hdr_open {S : Nat → Prop} {w : World} {cs : List Value} {x : Hdr} (h : hdrS.rep S w cs x) : ∃ cs0 : List Value, cs = cs0 ++ [.I x.kk, .I x.nn, .I x.size, .int .u32 ((x.sum.toNat : Nat) : Int)] ∧ (cidS).rep S w cs0 x.id ∧ ((-9223372036854775808) ≤ x.kk ∧ x.kk ≤ 9223372036854775807) ∧ ((-9223372036854775808) ≤ x.nn ∧ x.nn ≤ 9223372036854775807) ∧ ((-9223372036854775808) ≤ x.size ∧ x.size ≤ 9223372036854775807) := by
 obtain ⟨a, _, rfl, b, h⟩ := h
 obtain ⟨_, _, rfl, c, h⟩ := h
 obtain ⟨_, _, rfl, d, h⟩ := h
 obtain ⟨_, e, rfl, f, h⟩ := h
 have g := h
 obtain ⟨i, j⟩ := c
 obtain ⟨k, l⟩ := d
 obtain ⟨m, n⟩ := f
 have o : e = [.int .u32 ((x.sum.toNat : Nat) : Int)] := g
 exact ⟨a, (by simp [i, k, m, o]), b, j, l, n⟩
theorem hdr_mk {S : Nat → Prop} {w : World} {y0 : CID} {l0 : List Value} (h0 : (cidS).rep S w l0 y0) {y1 : Int} {l1 : List Value} (h1 : (Shape.int .i64).rep S w l1 y1) {y2 : Int} {l2 : List Value} (h2 : (Shape.int .i64).rep S w l2 y2) {y3 : Int} {l3 : List Value} (h3 : (Shape.int .i64).rep S w l3 y3) {y4 : BitVec 32} {l4 : List Value} (h4 : (Shape.bv .u32 32).rep S w l4 y4) : hdrS.rep S w (l0 ++ (l1 ++ (l2 ++ (l3 ++ (l4))))) ⟨y0, y1, y2, y3, y4⟩ := ⟨_, _, rfl, h0, ⟨_, _, rfl, h1, ⟨_, _, rfl, h2, ⟨_, _, rfl, h3, h4⟩⟩⟩⟩
abbrev hdrV (x : Hdr) : List Value := [.int .u64 x.id.version, .I x.id.index, .int .u64 x.id.epoch, .I x.kk, .I x.nn, .I x.size, .int .u32 ((x.sum.toNat : Nat) : Int)]
structure Res where
 code : Int
 version : Int
 nodes : List Int
 epoch : Int
def resS : Shape Res := (Shape.pair (Shape.int .i64) (Shape.pair (Shape.int .u64) (Shape.pair (Shape.slice (Shape.int .i64)) (Shape.int .u64)))).map fun x => (x.code, x.version, x.nodes, x.epoch)
theorem res_open {S : Nat → Prop} {w : World} {cs : List Value} {x : Res} (h : resS.rep S w cs x) : ∃ a2 : Option Addr, ∃ k2 : Nat, cs = [.I x.code, .int .u64 x.version, .slice a2 x.nodes.length k2, .int .u64 x.epoch] ∧ ((-9223372036854775808) ≤ x.code ∧ x.code ≤ 9223372036854775807) ∧ (0 ≤ x.version ∧ x.version ≤ 18446744073709551615) ∧ (Shape.slice (Shape.int .i64)).rep S w [.slice a2 x.nodes.length k2] x.nodes ∧ (0 ≤ x.epoch ∧ x.epoch ≤ 18446744073709551615) := by
 obtain ⟨_, _, rfl, c, h⟩ := h
 obtain ⟨_, _, rfl, d, h⟩ := h
 obtain ⟨_, _, rfl, a, h⟩ := h
 have e := h
 obtain ⟨f, g⟩ := c
 obtain ⟨i, j⟩ := d
 obtain ⟨a2, k2, b⟩ := Shape.slice_form' a
 obtain ⟨k, l⟩ := e
 exact ⟨a2, k2, (by simp [f, i, b, k]), g, j, (b ▸ a), l⟩
theorem res_mk {S : Nat → Prop} {w : World} {y0 : Int} {l0 : List Value} (h0 : (Shape.int .i64).rep S w l0 y0) {y1 : Int} {l1 : List Value} (h1 : (Shape.int .u64).rep S w l1 y1) {y2 : List Int} {l2 : List Value} (h2 : (Shape.slice (Shape.int .i64)).rep S w l2 y2) {y3 : Int} {l3 : List Value} (h3 : (Shape.int .u64).rep S w l3 y3) : resS.rep S w (l0 ++ (l1 ++ (l2 ++ (l3)))) ⟨y0, y1, y2, y3⟩ := ⟨_, _, rfl, h0, ⟨_, _, rfl, h1, ⟨_, _, rfl, h2, h3⟩⟩⟩
abbrev resV (x : Res) (a0 : Option Addr) (k0 : Nat) : List Value := [.I x.code, .int .u64 x.version, .slice a0 x.nodes.length k0, .int .u64 x.epoch]
structure Wr where
 client : Int
 seq : Int
 key : ByteArray
 heads : List Hdr
 chunks : List (List (BitVec 8))
 nodes : List Int
 acks : List Int
 waited : Int
 limit : Int
 done : Int
def wrS : Shape Wr := (Shape.pair (Shape.int .u64) (Shape.pair (Shape.int .u64) (Shape.pair Shape.str (Shape.pair (Shape.slice hdrS) (Shape.pair (Shape.slice SB) (Shape.pair (Shape.slice (Shape.int .i64)) (Shape.pair (Shape.slice (Shape.int .i64)) (Shape.pair (Shape.int .i64) (Shape.pair (Shape.int .i64) (Shape.int .i64)))))))))).map fun x => (x.client, x.seq, x.key, x.heads, x.chunks, x.nodes, x.acks, x.waited, x.limit, x.done)
theorem wr_open {S : Nat → Prop} {w : World} {cs : List Value} {x : Wr} (h : wrS.rep S w cs x) : ∃ a3 : Option Addr, ∃ k3 : Nat, ∃ a4 : Option Addr, ∃ k4 : Nat, ∃ a5 : Option Addr, ∃ k5 : Nat, ∃ a6 : Option Addr, ∃ k6 : Nat, cs = [.int .u64 x.client, .int .u64 x.seq, .string x.key, .slice a3 x.heads.length k3, .slice a4 x.chunks.length k4, .slice a5 x.nodes.length k5, .slice a6 x.acks.length k6, .I x.waited, .I x.limit, .I x.done] ∧ (0 ≤ x.client ∧ x.client ≤ 18446744073709551615) ∧ (0 ≤ x.seq ∧ x.seq ≤ 18446744073709551615) ∧ x.key.size ≤ maxLen ∧ (Shape.slice hdrS).rep S w [.slice a3 x.heads.length k3] x.heads ∧ (Shape.slice SB).rep S w [.slice a4 x.chunks.length k4] x.chunks ∧ (Shape.slice (Shape.int .i64)).rep S w [.slice a5 x.nodes.length k5] x.nodes ∧ (Shape.slice (Shape.int .i64)).rep S w [.slice a6 x.acks.length k6] x.acks ∧ ((-9223372036854775808) ≤ x.waited ∧ x.waited ≤ 9223372036854775807) ∧ ((-9223372036854775808) ≤ x.limit ∧ x.limit ≤ 9223372036854775807) ∧ ((-9223372036854775808) ≤ x.done ∧ x.done ≤ 9223372036854775807) := by
 obtain ⟨_, _, rfl, j, h⟩ := h
 obtain ⟨_, _, rfl, k, h⟩ := h
 obtain ⟨_, _, rfl, l, h⟩ := h
 obtain ⟨_, _, rfl, a, h⟩ := h
 obtain ⟨_, _, rfl, b, h⟩ := h
 obtain ⟨_, _, rfl, c, h⟩ := h
 obtain ⟨_, _, rfl, d, h⟩ := h
 obtain ⟨_, _, rfl, m, h⟩ := h
 obtain ⟨_, _, rfl, n, h⟩ := h
 have o := h
 obtain ⟨p, q⟩ := j
 obtain ⟨r, s⟩ := k
 obtain ⟨t, u⟩ := l
 obtain ⟨a3, k3, e⟩ := Shape.slice_form' a
 obtain ⟨a4, k4, f⟩ := Shape.slice_form' b
 obtain ⟨a5, k5, g⟩ := Shape.slice_form' c
 obtain ⟨a6, k6, i⟩ := Shape.slice_form' d
 obtain ⟨v, y⟩ := m
 obtain ⟨z, A⟩ := n
 obtain ⟨B, C⟩ := o
 exact ⟨a3, k3, a4, k4, a5, k5, a6, k6, (by simp [p, r, t, e, f, g, i, v, z, B]), q, s, u, (e ▸ a), (f ▸ b), (g ▸ c), (i ▸ d), y, A, C⟩
theorem wr_mk {S : Nat → Prop} {w : World} {y0 : Int} {l0 : List Value} (h0 : (Shape.int .u64).rep S w l0 y0) {y1 : Int} {l1 : List Value} (h1 : (Shape.int .u64).rep S w l1 y1) {y2 : ByteArray} {l2 : List Value} (h2 : (Shape.str).rep S w l2 y2) {y3 : List Hdr} {l3 : List Value} (h3 : (Shape.slice hdrS).rep S w l3 y3) {y4 : List (List (BitVec 8))} {l4 : List Value} (h4 : (Shape.slice SB).rep S w l4 y4) {y5 : List Int} {l5 : List Value} (h5 : (Shape.slice (Shape.int .i64)).rep S w l5 y5) {y6 : List Int} {l6 : List Value} (h6 : (Shape.slice (Shape.int .i64)).rep S w l6 y6) {y7 : Int} {l7 : List Value} (h7 : (Shape.int .i64).rep S w l7 y7) {y8 : Int} {l8 : List Value} (h8 : (Shape.int .i64).rep S w l8 y8) {y9 : Int} {l9 : List Value} (h9 : (Shape.int .i64).rep S w l9 y9) : wrS.rep S w (l0 ++ (l1 ++ (l2 ++ (l3 ++ (l4 ++ (l5 ++ (l6 ++ (l7 ++ (l8 ++ (l9)))))))))) ⟨y0, y1, y2, y3, y4, y5, y6, y7, y8, y9⟩ := ⟨_, _, rfl, h0, ⟨_, _, rfl, h1, ⟨_, _, rfl, h2, ⟨_, _, rfl, h3, ⟨_, _, rfl, h4, ⟨_, _, rfl, h5, ⟨_, _, rfl, h6, ⟨_, _, rfl, h7, ⟨_, _, rfl, h8, h9⟩⟩⟩⟩⟩⟩⟩⟩⟩
abbrev wrV (x : Wr) (a0 : Option Addr) (k0 : Nat) (a1 : Option Addr) (k1 : Nat) (a2 : Option Addr) (k2 : Nat) (a3 : Option Addr) (k3 : Nat) : List Value := [.int .u64 x.client, .int .u64 x.seq, .string x.key, .slice a0 x.heads.length k0, .slice a1 x.chunks.length k1, .slice a2 x.nodes.length k2, .slice a3 x.acks.length k3, .I x.waited, .I x.limit, .I x.done]
abbrev wrZ : List Value := [.int .u64 0, .int .u64 0, .string (⟨#[]⟩), .slice none 0 0, .slice none 0 0, .slice none 0 0, .slice none 0 0, .I 0, .I 0, .I 0]
theorem wr_mkV {S : Nat → Prop} {w : World} {x : Wr} {a_3 : Option Addr} {k_3 : Nat} {a_4 : Option Addr} {k_4 : Nat} {a_5 : Option Addr} {k_5 : Nat} {a_6 : Option Addr} {k_6 : Nat} (h0 : (Shape.int .u64).rep S w [.int .u64 x.client] x.client) (h1 : (Shape.int .u64).rep S w [.int .u64 x.seq] x.seq) (h2 : (Shape.str).rep S w [.string x.key] x.key) (h3 : (Shape.slice hdrS).rep S w [.slice a_3 x.heads.length k_3] x.heads) (h4 : (Shape.slice SB).rep S w [.slice a_4 x.chunks.length k_4] x.chunks) (h5 : (Shape.slice (Shape.int .i64)).rep S w [.slice a_5 x.nodes.length k_5] x.nodes) (h6 : (Shape.slice (Shape.int .i64)).rep S w [.slice a_6 x.acks.length k_6] x.acks) (h7 : (Shape.int .i64).rep S w [.I x.waited] x.waited) (h8 : (Shape.int .i64).rep S w [.I x.limit] x.limit) (h9 : (Shape.int .i64).rep S w [.I x.done] x.done) : wrS.rep S w (wrV x a_3 k_3 a_4 k_4 a_5 k_5 a_6 k_6) x := wr_mk h0 h1 h2 h3 h4 h5 h6 h7 h8 h9
structure Conf where
 voters : List Int
 learners : List Int
def confS : Shape Conf := (Shape.pair (Shape.slice (Shape.int .i64)) (Shape.slice (Shape.int .i64))).map fun x => (x.voters, x.learners)
theorem conf_open {S : Nat → Prop} {w : World} {cs : List Value} {x : Conf} (h : confS.rep S w cs x) : ∃ a0 : Option Addr, ∃ k0 : Nat, ∃ a1 : Option Addr, ∃ k1 : Nat, cs = [.slice a0 x.voters.length k0, .slice a1 x.learners.length k1] ∧ (Shape.slice (Shape.int .i64)).rep S w [.slice a0 x.voters.length k0] x.voters ∧ (Shape.slice (Shape.int .i64)).rep S w [.slice a1 x.learners.length k1] x.learners := by
 obtain ⟨_, _, rfl, a, h⟩ := h
 have b := h
 obtain ⟨a0, k0, c⟩ := Shape.slice_form' a
 obtain ⟨a1, k1, d⟩ := Shape.slice_form' b
 exact ⟨a0, k0, a1, k1, (by simp [c, d]), (c ▸ a), (d ▸ b)⟩
theorem conf_mk {S : Nat → Prop} {w : World} {y0 : List Int} {l0 : List Value} (h0 : (Shape.slice (Shape.int .i64)).rep S w l0 y0) {y1 : List Int} {l1 : List Value} (h1 : (Shape.slice (Shape.int .i64)).rep S w l1 y1) : confS.rep S w (l0 ++ (l1)) ⟨y0, y1⟩ := ⟨_, _, rfl, h0, h1⟩
structure Mem where
 id : Int
 weight : Int
def memS : Shape Mem := (Shape.pair (Shape.int .i64) (Shape.int .i64)).map fun x => (x.id, x.weight)
structure AMap where
 epoch : Int
 members : List Mem
def amapS : Shape AMap := (Shape.pair (Shape.int .u64) (Shape.slice memS)).map fun x => (x.epoch, x.members)
structure Cmd where
 kind : Int
 client : Int
 seq : Int
 key : ByteArray
 size : Int
 sum : BitVec 32
 version : Int
 epoch : Int
 group : Int
 node : Int
 up : Bool
 id : CID
 map : AMap
def cmdS : Shape Cmd := (Shape.pair (Shape.int .i64) (Shape.pair (Shape.int .u64) (Shape.pair (Shape.int .u64) (Shape.pair Shape.str (Shape.pair (Shape.int .i64) (Shape.pair (Shape.bv .u32 32) (Shape.pair (Shape.int .u64) (Shape.pair (Shape.int .u64) (Shape.pair (Shape.int .i64) (Shape.pair (Shape.int .i64) (Shape.pair Shape.bool (Shape.pair cidS amapS)))))))))))).map fun x => (x.kind, x.client, x.seq, x.key, x.size, x.sum, x.version, x.epoch, x.group, x.node, x.up, x.id, x.map)
structure Ent where
 index : Int
 term : Int
 kind : Int
 cmd : Cmd
 conf : Conf
def entS : Shape Ent := (Shape.pair (Shape.int .u64) (Shape.pair (Shape.int .u64) (Shape.pair (Shape.int .i64) (Shape.pair cmdS confS)))).map fun x => (x.index, x.term, x.kind, x.cmd, x.conf)
structure Msg where
 kind : Int
 frm : Int
 to : Int
 term : Int
 index : Int
 logTerm : Int
 commit : Int
 ctx : Int
 ok : Bool
 force : Bool
 entries : List Ent
 conf : Conf
 head : Hdr
 data : List (BitVec 8)
 client : Int
 seq : Int
 op : Int
 key : ByteArray
 code : Int
 names : List ByteArray
def msgS : Shape Msg := (Shape.pair (Shape.int .i64) (Shape.pair (Shape.int .i64) (Shape.pair (Shape.int .i64) (Shape.pair (Shape.int .u64) (Shape.pair (Shape.int .u64) (Shape.pair (Shape.int .u64) (Shape.pair (Shape.int .u64) (Shape.pair (Shape.int .u64) (Shape.pair Shape.bool (Shape.pair Shape.bool (Shape.pair (Shape.slice entS) (Shape.pair confS (Shape.pair hdrS (Shape.pair SB (Shape.pair (Shape.int .u64) (Shape.pair (Shape.int .u64) (Shape.pair (Shape.int .i64) (Shape.pair Shape.str (Shape.pair (Shape.int .i64) (Shape.slice Shape.str)))))))))))))))))))).map fun x => (x.kind, x.frm, x.to, x.term, x.index, x.logTerm, x.commit, x.ctx, x.ok, x.force, x.entries, x.conf, x.head, x.data, x.client, x.seq, x.op, x.key, x.code, x.names)
theorem msg_open {S : Nat → Prop} {w : World} {cs : List Value} {x : Msg} (h : msgS.rep S w cs x) : ∃ a10 : Option Addr, ∃ k10 : Nat, ∃ cs11 : List Value, ∃ cs12 : List Value, ∃ a13 : Option Addr, ∃ k13 : Nat, ∃ a19 : Option Addr, ∃ k19 : Nat, cs = [.I x.kind, .I x.frm, .I x.to, .int .u64 x.term, .int .u64 x.index, .int .u64 x.logTerm, .int .u64 x.commit, .int .u64 x.ctx, .bool x.ok, .bool x.force, .slice a10 x.entries.length k10] ++ cs11 ++ cs12 ++ [.slice a13 x.data.length k13, .int .u64 x.client, .int .u64 x.seq, .I x.op, .string x.key, .I x.code, .slice a19 x.names.length k19] ∧ ((-9223372036854775808) ≤ x.kind ∧ x.kind ≤ 9223372036854775807) ∧ ((-9223372036854775808) ≤ x.frm ∧ x.frm ≤ 9223372036854775807) ∧ ((-9223372036854775808) ≤ x.to ∧ x.to ≤ 9223372036854775807) ∧ (0 ≤ x.term ∧ x.term ≤ 18446744073709551615) ∧ (0 ≤ x.index ∧ x.index ≤ 18446744073709551615) ∧ (0 ≤ x.logTerm ∧ x.logTerm ≤ 18446744073709551615) ∧ (0 ≤ x.commit ∧ x.commit ≤ 18446744073709551615) ∧ (0 ≤ x.ctx ∧ x.ctx ≤ 18446744073709551615) ∧ (Shape.slice entS).rep S w [.slice a10 x.entries.length k10] x.entries ∧ (confS).rep S w cs11 x.conf ∧ (hdrS).rep S w cs12 x.head ∧ SB.rep S w [.slice a13 x.data.length k13] x.data ∧ (0 ≤ x.client ∧ x.client ≤ 18446744073709551615) ∧ (0 ≤ x.seq ∧ x.seq ≤ 18446744073709551615) ∧ ((-9223372036854775808) ≤ x.op ∧ x.op ≤ 9223372036854775807) ∧ x.key.size ≤ maxLen ∧ ((-9223372036854775808) ≤ x.code ∧ x.code ≤ 9223372036854775807) ∧ (Shape.slice Shape.str).rep S w [.slice a19 x.names.length k19] x.names := by
 obtain ⟨_, _, rfl, C, h⟩ := h
 obtain ⟨_, _, rfl, D, h⟩ := h
 obtain ⟨_, _, rfl, E, h⟩ := h
 obtain ⟨_, _, rfl, F, h⟩ := h
 obtain ⟨_, _, rfl, G, h⟩ := h
 obtain ⟨_, _, rfl, H, h⟩ := h
 obtain ⟨_, _, rfl, J, h⟩ := h
 obtain ⟨_, _, rfl, K, h⟩ := h
 obtain ⟨L, _, rfl, M, h⟩ := h
 obtain ⟨N, _, rfl, O, h⟩ := h
 obtain ⟨_, _, rfl, a, h⟩ := h
 obtain ⟨g, _, rfl, i, h⟩ := h
 obtain ⟨j, _, rfl, k, h⟩ := h
 obtain ⟨_, _, rfl, b, h⟩ := h
 obtain ⟨_, _, rfl, l, h⟩ := h
 obtain ⟨_, _, rfl, m, h⟩ := h
 obtain ⟨_, _, rfl, n, h⟩ := h
 obtain ⟨_, _, rfl, o, h⟩ := h
 obtain ⟨_, _, rfl, p, h⟩ := h
 have c := h
 obtain ⟨P, Q⟩ := C
 obtain ⟨R, T⟩ := D
 obtain ⟨U, V⟩ := E
 obtain ⟨W, X⟩ := F
 obtain ⟨Y, Z⟩ := G
 obtain ⟨e5, b5⟩ := H
 obtain ⟨e6, b6⟩ := J
 obtain ⟨e7, b7⟩ := K
 have e8 : L = [.bool x.ok] := M
 have e9 : N = [.bool x.force] := O
 obtain ⟨a10, k10, d⟩ := Shape.slice_form' a
 obtain ⟨a13, k13, e⟩ := Shape.slice_form' b
 obtain ⟨q, r⟩ := l
 obtain ⟨s, t⟩ := m
 obtain ⟨u, v⟩ := n
 obtain ⟨y, z⟩ := o
 obtain ⟨A, B⟩ := p
 obtain ⟨a19, k19, f⟩ := Shape.slice_form' c
 exact ⟨a10, k10, g, j, a13, k13, a19, k19, (by simp [P, R, U, W, Y, e5, e6, e7, e8, e9, d, e, q, s, u, y, A, f]), Q, T, V, X, Z, b5, b6, b7, (d ▸ a), i, k, (e ▸ b), r, t, v, z, B, (f ▸ c)⟩
theorem msg_mk {S : Nat → Prop} {w : World} {y0 : Int} {l0 : List Value} (h0 : (Shape.int .i64).rep S w l0 y0) {y1 : Int} {l1 : List Value} (h1 : (Shape.int .i64).rep S w l1 y1) {y2 : Int} {l2 : List Value} (h2 : (Shape.int .i64).rep S w l2 y2) {y3 : Int} {l3 : List Value} (h3 : (Shape.int .u64).rep S w l3 y3) {y4 : Int} {l4 : List Value} (h4 : (Shape.int .u64).rep S w l4 y4) {y5 : Int} {l5 : List Value} (h5 : (Shape.int .u64).rep S w l5 y5) {y6 : Int} {l6 : List Value} (h6 : (Shape.int .u64).rep S w l6 y6) {y7 : Int} {l7 : List Value} (h7 : (Shape.int .u64).rep S w l7 y7) {y8 : Bool} {l8 : List Value} (h8 : (Shape.bool).rep S w l8 y8) {y9 : Bool} {l9 : List Value} (h9 : (Shape.bool).rep S w l9 y9) {y10 : List Ent} {l10 : List Value} (h10 : (Shape.slice entS).rep S w l10 y10) {y11 : Conf} {l11 : List Value} (h11 : (confS).rep S w l11 y11) {y12 : Hdr} {l12 : List Value} (h12 : (hdrS).rep S w l12 y12) {y13 : List (BitVec 8)} {l13 : List Value} (h13 : SB.rep S w l13 y13) {y14 : Int} {l14 : List Value} (h14 : (Shape.int .u64).rep S w l14 y14) {y15 : Int} {l15 : List Value} (h15 : (Shape.int .u64).rep S w l15 y15) {y16 : Int} {l16 : List Value} (h16 : (Shape.int .i64).rep S w l16 y16) {y17 : ByteArray} {l17 : List Value} (h17 : (Shape.str).rep S w l17 y17) {y18 : Int} {l18 : List Value} (h18 : (Shape.int .i64).rep S w l18 y18) {y19 : List ByteArray} {l19 : List Value} (h19 : (Shape.slice Shape.str).rep S w l19 y19) : msgS.rep S w (l0 ++ (l1 ++ (l2 ++ (l3 ++ (l4 ++ (l5 ++ (l6 ++ (l7 ++ (l8 ++ (l9 ++ (l10 ++ (l11 ++ (l12 ++ (l13 ++ (l14 ++ (l15 ++ (l16 ++ (l17 ++ (l18 ++ (l19)))))))))))))))))))) ⟨y0, y1, y2, y3, y4, y5, y6, y7, y8, y9, y10, y11, y12, y13, y14, y15, y16, y17, y18, y19⟩ := ⟨_, _, rfl, h0, ⟨_, _, rfl, h1, ⟨_, _, rfl, h2, ⟨_, _, rfl, h3, ⟨_, _, rfl, h4, ⟨_, _, rfl, h5, ⟨_, _, rfl, h6, ⟨_, _, rfl, h7, ⟨_, _, rfl, h8, ⟨_, _, rfl, h9, ⟨_, _, rfl, h10, ⟨_, _, rfl, h11, ⟨_, _, rfl, h12, ⟨_, _, rfl, h13, ⟨_, _, rfl, h14, ⟨_, _, rfl, h15, ⟨_, _, rfl, h16, ⟨_, _, rfl, h17, ⟨_, _, rfl, h18, h19⟩⟩⟩⟩⟩⟩⟩⟩⟩⟩⟩⟩⟩⟩⟩⟩⟩⟩⟩
abbrev msgV (x : Msg) (a0 : Option Addr) (k0 : Nat) (a1 : Option Addr) (k1 : Nat) (a2 : Option Addr) (k2 : Nat) (a3 : Option Addr) (k3 : Nat) (a4 : Option Addr) (k4 : Nat) : List Value := [.I x.kind, .I x.frm, .I x.to, .int .u64 x.term, .int .u64 x.index, .int .u64 x.logTerm, .int .u64 x.commit, .int .u64 x.ctx, .bool x.ok, .bool x.force, .slice a0 x.entries.length k0, .slice a1 x.conf.voters.length k1, .slice a2 x.conf.learners.length k2, .int .u64 x.head.id.version, .I x.head.id.index, .int .u64 x.head.id.epoch, .I x.head.kk, .I x.head.nn, .I x.head.size, .int .u32 ((x.head.sum.toNat : Nat) : Int), .slice a3 x.data.length k3, .int .u64 x.client, .int .u64 x.seq, .I x.op, .string x.key, .I x.code, .slice a4 x.names.length k4]
abbrev msgZ : List Value := [.I 0, .I 0, .I 0, .int .u64 0, .int .u64 0, .int .u64 0, .int .u64 0, .int .u64 0, .bool false, .bool false, .slice none 0 0, .slice none 0 0, .slice none 0 0, .int .u64 0, .I 0, .int .u64 0, .I 0, .I 0, .I 0, .int .u32 0, .slice none 0 0, .int .u64 0, .int .u64 0, .I 0, .string (⟨#[]⟩), .I 0, .slice none 0 0]
structure Pc where
 index : Int
 data : List (BitVec 8)
def pcS : Shape Pc := (Shape.pair (Shape.int .i64) SB).map fun x => (x.index, x.data)
theorem pc_open {S : Nat → Prop} {w : World} {cs : List Value} {x : Pc} (h : pcS.rep S w cs x) : ∃ a1 : Option Addr, ∃ k1 : Nat, cs = [.I x.index, .slice a1 x.data.length k1] ∧ ((-9223372036854775808) ≤ x.index ∧ x.index ≤ 9223372036854775807) ∧ SB.rep S w [.slice a1 x.data.length k1] x.data := by
 obtain ⟨_, _, rfl, c, h⟩ := h
 have a := h
 obtain ⟨d, e⟩ := c
 obtain ⟨a1, k1, b⟩ := Shape.slice_form' a
 exact ⟨a1, k1, (by simp [d, b]), e, (b ▸ a)⟩
theorem pc_mk {S : Nat → Prop} {w : World} {y0 : Int} {l0 : List Value} (h0 : (Shape.int .i64).rep S w l0 y0) {y1 : List (BitVec 8)} {l1 : List Value} (h1 : SB.rep S w l1 y1) : pcS.rep S w (l0 ++ (l1)) ⟨y0, y1⟩ := ⟨_, _, rfl, h0, h1⟩
structure Chk where
 head : Hdr
 data : List (BitVec 8)
 done : Bool
def chkS : Shape Chk := (Shape.pair hdrS (Shape.pair SB Shape.bool)).map fun x => (x.head, x.data, x.done)
theorem chk_open {S : Nat → Prop} {w : World} {cs : List Value} {x : Chk} (h : chkS.rep S w cs x) : ∃ cs0 : List Value, ∃ a1 : Option Addr, ∃ k1 : Nat, cs = cs0 ++ [.slice a1 x.data.length k1, .bool x.done] ∧ (hdrS).rep S w cs0 x.head ∧ SB.rep S w [.slice a1 x.data.length k1] x.data := by
 obtain ⟨c, _, rfl, d, h⟩ := h
 obtain ⟨_, e, rfl, a, h⟩ := h
 have f := h
 obtain ⟨a1, k1, b⟩ := Shape.slice_form' a
 have g : e = [.bool x.done] := f
 exact ⟨c, a1, k1, (by simp [b, g]), d, (b ▸ a)⟩
theorem chk_mk {S : Nat → Prop} {w : World} {y0 : Hdr} {l0 : List Value} (h0 : (hdrS).rep S w l0 y0) {y1 : List (BitVec 8)} {l1 : List Value} (h1 : SB.rep S w l1 y1) {y2 : Bool} {l2 : List Value} (h2 : (Shape.bool).rep S w l2 y2) : chkS.rep S w (l0 ++ (l1 ++ (l2))) ⟨y0, y1, y2⟩ := ⟨_, _, rfl, h0, ⟨_, _, rfl, h1, h2⟩⟩
abbrev chkV (x : Chk) (a0 : Option Addr) (k0 : Nat) : List Value := [.int .u64 x.head.id.version, .I x.head.id.index, .int .u64 x.head.id.epoch, .I x.head.kk, .I x.head.nn, .I x.head.size, .int .u32 ((x.head.sum.toNat : Nat) : Int), .slice a0 x.data.length k0, .bool x.done]
structure ObjD where
 key : ByteArray
 version : Int
 size : Int
 sum : BitVec 32
 group : Int
 epoch : Int
 nodes : List Int
def objS : Shape ObjD := (Shape.pair Shape.str (Shape.pair (Shape.int .u64) (Shape.pair (Shape.int .i64) (Shape.pair (Shape.bv .u32 32) (Shape.pair (Shape.int .i64) (Shape.pair (Shape.int .u64) (Shape.slice (Shape.int .i64)))))))).map fun x => (x.key, x.version, x.size, x.sum, x.group, x.epoch, x.nodes)
theorem obj_open {S : Nat → Prop} {w : World} {cs : List Value} {x : ObjD} (h : objS.rep S w cs x) : ∃ a6 : Option Addr, ∃ k6 : Nat, cs = [.string x.key, .int .u64 x.version, .I x.size, .int .u32 ((x.sum.toNat : Nat) : Int), .I x.group, .int .u64 x.epoch, .slice a6 x.nodes.length k6] ∧ x.key.size ≤ maxLen ∧ (0 ≤ x.version ∧ x.version ≤ 18446744073709551615) ∧ ((-9223372036854775808) ≤ x.size ∧ x.size ≤ 9223372036854775807) ∧ ((-9223372036854775808) ≤ x.group ∧ x.group ≤ 9223372036854775807) ∧ (0 ≤ x.epoch ∧ x.epoch ≤ 18446744073709551615) ∧ (Shape.slice (Shape.int .i64)).rep S w [.slice a6 x.nodes.length k6] x.nodes := by
 obtain ⟨_, _, rfl, c, h⟩ := h
 obtain ⟨_, _, rfl, d, h⟩ := h
 obtain ⟨_, _, rfl, e, h⟩ := h
 obtain ⟨f, _, rfl, g, h⟩ := h
 obtain ⟨_, _, rfl, i, h⟩ := h
 obtain ⟨_, _, rfl, j, h⟩ := h
 have a := h
 obtain ⟨k, l⟩ := c
 obtain ⟨m, n⟩ := d
 obtain ⟨o, p⟩ := e
 have q : f = [.int .u32 ((x.sum.toNat : Nat) : Int)] := g
 obtain ⟨r, s⟩ := i
 obtain ⟨t, u⟩ := j
 obtain ⟨a6, k6, b⟩ := Shape.slice_form' a
 exact ⟨a6, k6, (by simp [k, m, o, q, r, t, b]), l, n, p, s, u, (b ▸ a)⟩
theorem obj_mk {S : Nat → Prop} {w : World} {y0 : ByteArray} {l0 : List Value} (h0 : (Shape.str).rep S w l0 y0) {y1 : Int} {l1 : List Value} (h1 : (Shape.int .u64).rep S w l1 y1) {y2 : Int} {l2 : List Value} (h2 : (Shape.int .i64).rep S w l2 y2) {y3 : BitVec 32} {l3 : List Value} (h3 : (Shape.bv .u32 32).rep S w l3 y3) {y4 : Int} {l4 : List Value} (h4 : (Shape.int .i64).rep S w l4 y4) {y5 : Int} {l5 : List Value} (h5 : (Shape.int .u64).rep S w l5 y5) {y6 : List Int} {l6 : List Value} (h6 : (Shape.slice (Shape.int .i64)).rep S w l6 y6) : objS.rep S w (l0 ++ (l1 ++ (l2 ++ (l3 ++ (l4 ++ (l5 ++ (l6))))))) ⟨y0, y1, y2, y3, y4, y5, y6⟩ := ⟨_, _, rfl, h0, ⟨_, _, rfl, h1, ⟨_, _, rfl, h2, ⟨_, _, rfl, h3, ⟨_, _, rfl, h4, ⟨_, _, rfl, h5, h6⟩⟩⟩⟩⟩⟩
abbrev objV (x : ObjD) (a0 : Option Addr) (k0 : Nat) : List Value := [.string x.key, .int .u64 x.version, .I x.size, .int .u32 ((x.sum.toNat : Nat) : Int), .I x.group, .int .u64 x.epoch, .slice a0 x.nodes.length k0]
structure Rd where
 object : ObjD
 kk : Int
 nn : Int
 pieces : List Pc
 bad : List Int
 waited : Int
 limit : Int
 done : Int
def rdS : Shape Rd := (Shape.pair objS (Shape.pair (Shape.int .i64) (Shape.pair (Shape.int .i64) (Shape.pair (Shape.slice pcS) (Shape.pair (Shape.slice (Shape.int .i64)) (Shape.pair (Shape.int .i64) (Shape.pair (Shape.int .i64) (Shape.int .i64)))))))).map fun x => (x.object, x.kk, x.nn, x.pieces, x.bad, x.waited, x.limit, x.done)
theorem rd_open {S : Nat → Prop} {w : World} {cs : List Value} {x : Rd} (h : rdS.rep S w cs x) : ∃ cs0 : List Value, ∃ a3 : Option Addr, ∃ k3 : Nat, ∃ a4 : Option Addr, ∃ k4 : Nat, cs = cs0 ++ [.I x.kk, .I x.nn, .slice a3 x.pieces.length k3, .slice a4 x.bad.length k4, .I x.waited, .I x.limit, .I x.done] ∧ (objS).rep S w cs0 x.object ∧ ((-9223372036854775808) ≤ x.kk ∧ x.kk ≤ 9223372036854775807) ∧ ((-9223372036854775808) ≤ x.nn ∧ x.nn ≤ 9223372036854775807) ∧ (Shape.slice pcS).rep S w [.slice a3 x.pieces.length k3] x.pieces ∧ (Shape.slice (Shape.int .i64)).rep S w [.slice a4 x.bad.length k4] x.bad ∧ ((-9223372036854775808) ≤ x.waited ∧ x.waited ≤ 9223372036854775807) ∧ ((-9223372036854775808) ≤ x.limit ∧ x.limit ≤ 9223372036854775807) ∧ ((-9223372036854775808) ≤ x.done ∧ x.done ≤ 9223372036854775807) := by
 obtain ⟨e, _, rfl, f, h⟩ := h
 obtain ⟨_, _, rfl, g, h⟩ := h
 obtain ⟨_, _, rfl, i, h⟩ := h
 obtain ⟨_, _, rfl, a, h⟩ := h
 obtain ⟨_, _, rfl, b, h⟩ := h
 obtain ⟨_, _, rfl, j, h⟩ := h
 obtain ⟨_, _, rfl, k, h⟩ := h
 have l := h
 obtain ⟨m, n⟩ := g
 obtain ⟨o, p⟩ := i
 obtain ⟨a3, k3, c⟩ := Shape.slice_form' a
 obtain ⟨a4, k4, d⟩ := Shape.slice_form' b
 obtain ⟨q, r⟩ := j
 obtain ⟨s, t⟩ := k
 obtain ⟨u, v⟩ := l
 exact ⟨e, a3, k3, a4, k4, (by simp [m, o, c, d, q, s, u]), f, n, p, (c ▸ a), (d ▸ b), r, t, v⟩
theorem rd_mk {S : Nat → Prop} {w : World} {y0 : ObjD} {l0 : List Value} (h0 : (objS).rep S w l0 y0) {y1 : Int} {l1 : List Value} (h1 : (Shape.int .i64).rep S w l1 y1) {y2 : Int} {l2 : List Value} (h2 : (Shape.int .i64).rep S w l2 y2) {y3 : List Pc} {l3 : List Value} (h3 : (Shape.slice pcS).rep S w l3 y3) {y4 : List Int} {l4 : List Value} (h4 : (Shape.slice (Shape.int .i64)).rep S w l4 y4) {y5 : Int} {l5 : List Value} (h5 : (Shape.int .i64).rep S w l5 y5) {y6 : Int} {l6 : List Value} (h6 : (Shape.int .i64).rep S w l6 y6) {y7 : Int} {l7 : List Value} (h7 : (Shape.int .i64).rep S w l7 y7) : rdS.rep S w (l0 ++ (l1 ++ (l2 ++ (l3 ++ (l4 ++ (l5 ++ (l6 ++ (l7)))))))) ⟨y0, y1, y2, y3, y4, y5, y6, y7⟩ := ⟨_, _, rfl, h0, ⟨_, _, rfl, h1, ⟨_, _, rfl, h2, ⟨_, _, rfl, h3, ⟨_, _, rfl, h4, ⟨_, _, rfl, h5, ⟨_, _, rfl, h6, h7⟩⟩⟩⟩⟩⟩⟩
abbrev rdV (x : Rd) (a0 : Option Addr) (k0 : Nat) (a1 : Option Addr) (k1 : Nat) (a2 : Option Addr) (k2 : Nat) : List Value := [.string x.object.key, .int .u64 x.object.version, .I x.object.size, .int .u32 ((x.object.sum.toNat : Nat) : Int), .I x.object.group, .int .u64 x.object.epoch, .slice a0 x.object.nodes.length k0, .I x.kk, .I x.nn, .slice a1 x.pieces.length k1, .slice a2 x.bad.length k2, .I x.waited, .I x.limit, .I x.done]
abbrev rdZ : List Value := [.string (⟨#[]⟩), .int .u64 0, .I 0, .int .u32 0, .I 0, .int .u64 0, .slice none 0 0, .I 0, .I 0, .slice none 0 0, .slice none 0 0, .I 0, .I 0, .I 0]
structure Shf where
 read : Rd
 to : List Int
 epoch : Int
 write : Wr
 ready : Bool
 done : Int
def shfS : Shape Shf := (Shape.pair rdS (Shape.pair (Shape.slice (Shape.int .i64)) (Shape.pair (Shape.int .u64) (Shape.pair wrS (Shape.pair Shape.bool (Shape.int .i64)))))).map fun x => (x.read, x.to, x.epoch, x.write, x.ready, x.done)
theorem shf_open {S : Nat → Prop} {w : World} {cs : List Value} {x : Shf} (h : shfS.rep S w cs x) : ∃ cs0 : List Value, ∃ a1 : Option Addr, ∃ k1 : Nat, ∃ cs3 : List Value, cs = cs0 ++ [.slice a1 x.to.length k1, .int .u64 x.epoch] ++ cs3 ++ [.bool x.ready, .I x.done] ∧ (rdS).rep S w cs0 x.read ∧ (Shape.slice (Shape.int .i64)).rep S w [.slice a1 x.to.length k1] x.to ∧ (0 ≤ x.epoch ∧ x.epoch ≤ 18446744073709551615) ∧ (wrS).rep S w cs3 x.write ∧ ((-9223372036854775808) ≤ x.done ∧ x.done ≤ 9223372036854775807) := by
 obtain ⟨c, _, rfl, d, h⟩ := h
 obtain ⟨_, _, rfl, a, h⟩ := h
 obtain ⟨_, _, rfl, e, h⟩ := h
 obtain ⟨f, _, rfl, g, h⟩ := h
 obtain ⟨i, _, rfl, j, h⟩ := h
 have k := h
 obtain ⟨a1, k1, b⟩ := Shape.slice_form' a
 obtain ⟨l, m⟩ := e
 have n : i = [.bool x.ready] := j
 obtain ⟨o, p⟩ := k
 exact ⟨c, a1, k1, f, (by simp [b, l, n, o]), d, (b ▸ a), m, g, p⟩
theorem shf_mk {S : Nat → Prop} {w : World} {y0 : Rd} {l0 : List Value} (h0 : (rdS).rep S w l0 y0) {y1 : List Int} {l1 : List Value} (h1 : (Shape.slice (Shape.int .i64)).rep S w l1 y1) {y2 : Int} {l2 : List Value} (h2 : (Shape.int .u64).rep S w l2 y2) {y3 : Wr} {l3 : List Value} (h3 : (wrS).rep S w l3 y3) {y4 : Bool} {l4 : List Value} (h4 : (Shape.bool).rep S w l4 y4) {y5 : Int} {l5 : List Value} (h5 : (Shape.int .i64).rep S w l5 y5) : shfS.rep S w (l0 ++ (l1 ++ (l2 ++ (l3 ++ (l4 ++ (l5)))))) ⟨y0, y1, y2, y3, y4, y5⟩ := ⟨_, _, rfl, h0, ⟨_, _, rfl, h1, ⟨_, _, rfl, h2, ⟨_, _, rfl, h3, ⟨_, _, rfl, h4, h5⟩⟩⟩⟩⟩
abbrev shfV (x : Shf) (a0 : Option Addr) (k0 : Nat) (a1 : Option Addr) (k1 : Nat) (a2 : Option Addr) (k2 : Nat) (a3 : Option Addr) (k3 : Nat) (a4 : Option Addr) (k4 : Nat) (a5 : Option Addr) (k5 : Nat) (a6 : Option Addr) (k6 : Nat) (a7 : Option Addr) (k7 : Nat) : List Value := [.string x.read.object.key, .int .u64 x.read.object.version, .I x.read.object.size, .int .u32 ((x.read.object.sum.toNat : Nat) : Int), .I x.read.object.group, .int .u64 x.read.object.epoch, .slice a0 x.read.object.nodes.length k0, .I x.read.kk, .I x.read.nn, .slice a1 x.read.pieces.length k1, .slice a2 x.read.bad.length k2, .I x.read.waited, .I x.read.limit, .I x.read.done, .slice a3 x.to.length k3, .int .u64 x.epoch, .int .u64 x.write.client, .int .u64 x.write.seq, .string x.write.key, .slice a4 x.write.heads.length k4, .slice a5 x.write.chunks.length k5, .slice a6 x.write.nodes.length k6, .slice a7 x.write.acks.length k7, .I x.write.waited, .I x.write.limit, .I x.write.done, .bool x.ready, .I x.done]
abbrev shfZ : List Value := [.string (⟨#[]⟩), .int .u64 0, .I 0, .int .u32 0, .I 0, .int .u64 0, .slice none 0 0, .I 0, .I 0, .slice none 0 0, .slice none 0 0, .I 0, .I 0, .I 0, .slice none 0 0, .int .u64 0, .int .u64 0, .int .u64 0, .string (⟨#[]⟩), .slice none 0 0, .slice none 0 0, .slice none 0 0, .slice none 0 0, .I 0, .I 0, .I 0, .bool false, .I 0]
end Go.Proofs.YtppcdmbkgficiaaGreat
