import Derived.Test.YtppcdmbkgficiaaRows
import Derived.Test.YtppcdmbkgficiaaBxBrief
import Derived.Test.YtppcdmbkgficiaaBxStr
import Derived.Test.YtppcdmbkgficiaaBxFork
import Derived.Test.YtppcdmbkgficiaaBxDraw
import Derived.Test.YtppcdmbkgficiaaBxBits
import Derived.Test.YtppcdmbkgficiaaBxEq
import Derived.Test.YtppcdmbkgficiaaBxDefer
namespace Go.Proofs.Ytppcdmbkgficiaa
open Go.BX

structure CID where
 version : Int
 index : Int
 epoch : Int
 deriving DecidableEq

def cidS : Shape CID := (Shape.pair (Shape.int .u64) (Shape.pair (Shape.int .i64) (Shape.int .u64))).map fun x => (x.version, x.index, x.epoch)
theorem cid_open {S : Nat → Prop} {w : World} {cs : List Value} {x : CID} (h : cidS.rep S w cs x) : cs = [.int .u64 x.version, .I x.index, .int .u64 x.epoch] ∧ (0 ≤ x.version ∧ x.version ≤ 18446744073709551615) ∧ ((-9223372036854775808) ≤ x.index ∧ x.index ≤ 9223372036854775807) ∧ (0 ≤ x.epoch ∧ x.epoch ≤ 18446744073709551615) := by
 obtain ⟨c0, d0, rfl, h0, h⟩ := h
 obtain ⟨c1, d1, rfl, h1, h⟩ := h
 have h2 := h
 obtain ⟨e0, b0⟩ := h0
 obtain ⟨e1, b1⟩ := h1
 obtain ⟨e2, b2⟩ := h2
 exact ⟨(by simp [e0, e1, e2]), b0, b1, b2⟩
theorem cid_mk {S : Nat → Prop} {w : World} {y0 : Int} {l0 : List Value} (h0 : (Shape.int .u64).rep S w l0 y0) {y1 : Int} {l1 : List Value} (h1 : (Shape.int .i64).rep S w l1 y1) {y2 : Int} {l2 : List Value} (h2 : (Shape.int .u64).rep S w l2 y2) : cidS.rep S w (l0 ++ (l1 ++ (l2))) ⟨y0, y1, y2⟩ := ⟨_, _, rfl, h0, ⟨_, _, rfl, h1, h2⟩⟩
structure Hdr where
 id : CID
 kk : Int
 nn : Int
 size : Int
 sum : BitVec 32
 deriving DecidableEq

def hdrS : Shape Hdr := (Shape.pair cidS (Shape.pair (Shape.int .i64) (Shape.pair (Shape.int .i64) (Shape.pair (Shape.int .i64) (Shape.bv .u32 32))))).map fun x => (x.id, x.kk, x.nn, x.size, x.sum)
theorem hdr_open {S : Nat → Prop} {w : World} {cs : List Value} {x : Hdr} (h : hdrS.rep S w cs x) : ∃ cs0 : List Value, cs = cs0 ++ [.I x.kk, .I x.nn, .I x.size, .int .u32 ((x.sum.toNat : Nat) : Int)] ∧ (cidS).rep S w cs0 x.id ∧ ((-9223372036854775808) ≤ x.kk ∧ x.kk ≤ 9223372036854775807) ∧ ((-9223372036854775808) ≤ x.nn ∧ x.nn ≤ 9223372036854775807) ∧ ((-9223372036854775808) ≤ x.size ∧ x.size ≤ 9223372036854775807) := by
 obtain ⟨c0, d0, rfl, h0, h⟩ := h
 obtain ⟨c1, d1, rfl, h1, h⟩ := h
 obtain ⟨c2, d2, rfl, h2, h⟩ := h
 obtain ⟨c3, d3, rfl, h3, h⟩ := h
 have h4 := h
 obtain ⟨e1, b1⟩ := h1
 obtain ⟨e2, b2⟩ := h2
 obtain ⟨e3, b3⟩ := h3
 have e4 : d3 = [.int .u32 ((x.sum.toNat : Nat) : Int)] := h4
 exact ⟨c0, (by simp [e1, e2, e3, e4]), h0, b1, b2, b3⟩
theorem hdr_mk {S : Nat → Prop} {w : World} {y0 : CID} {l0 : List Value} (h0 : (cidS).rep S w l0 y0) {y1 : Int} {l1 : List Value} (h1 : (Shape.int .i64).rep S w l1 y1) {y2 : Int} {l2 : List Value} (h2 : (Shape.int .i64).rep S w l2 y2) {y3 : Int} {l3 : List Value} (h3 : (Shape.int .i64).rep S w l3 y3) {y4 : BitVec 32} {l4 : List Value} (h4 : (Shape.bv .u32 32).rep S w l4 y4) : hdrS.rep S w (l0 ++ (l1 ++ (l2 ++ (l3 ++ (l4))))) ⟨y0, y1, y2, y3, y4⟩ := ⟨_, _, rfl, h0, ⟨_, _, rfl, h1, ⟨_, _, rfl, h2, ⟨_, _, rfl, h3, h4⟩⟩⟩⟩
abbrev hdrV (x : Hdr) : List Value := [.int .u64 x.id.version, .I x.id.index, .int .u64 x.id.epoch, .I x.kk, .I x.nn, .I x.size, .int .u32 ((x.sum.toNat : Nat) : Int)]
structure Res where
 code : Int
 version : Int
 nodes : List Int
 epoch : Int

def resS : Shape Res := (Shape.pair (Shape.int .i64) (Shape.pair (Shape.int .u64) (Shape.pair (Shape.slice (Shape.int .i64)) (Shape.int .u64)))).map fun x => (x.code, x.version, x.nodes, x.epoch)
theorem res_open {S : Nat → Prop} {w : World} {cs : List Value} {x : Res} (h : resS.rep S w cs x) : ∃ a2 : Option Addr, ∃ k2 : Nat, cs = [.I x.code, .int .u64 x.version, .slice a2 x.nodes.length k2, .int .u64 x.epoch] ∧ ((-9223372036854775808) ≤ x.code ∧ x.code ≤ 9223372036854775807) ∧ (0 ≤ x.version ∧ x.version ≤ 18446744073709551615) ∧ (Shape.slice (Shape.int .i64)).rep S w [.slice a2 x.nodes.length k2] x.nodes ∧ (0 ≤ x.epoch ∧ x.epoch ≤ 18446744073709551615) := by
 obtain ⟨c0, d0, rfl, h0, h⟩ := h
 obtain ⟨c1, d1, rfl, h1, h⟩ := h
 obtain ⟨c2, d2, rfl, h2, h⟩ := h
 have h3 := h
 obtain ⟨e0, b0⟩ := h0
 obtain ⟨e1, b1⟩ := h1
 obtain ⟨a2, k2, e2⟩ := Shape.slice_form' h2
 obtain ⟨e3, b3⟩ := h3
 exact ⟨a2, k2, (by simp [e0, e1, e2, e3]), b0, b1, (e2 ▸ h2), b3⟩
theorem res_mk {S : Nat → Prop} {w : World} {y0 : Int} {l0 : List Value} (h0 : (Shape.int .i64).rep S w l0 y0) {y1 : Int} {l1 : List Value} (h1 : (Shape.int .u64).rep S w l1 y1) {y2 : List Int} {l2 : List Value} (h2 : (Shape.slice (Shape.int .i64)).rep S w l2 y2) {y3 : Int} {l3 : List Value} (h3 : (Shape.int .u64).rep S w l3 y3) : resS.rep S w (l0 ++ (l1 ++ (l2 ++ (l3)))) ⟨y0, y1, y2, y3⟩ := ⟨_, _, rfl, h0, ⟨_, _, rfl, h1, ⟨_, _, rfl, h2, h3⟩⟩⟩
abbrev resV (x : Res) (a0 : Option Addr) (k0 : Nat) : List Value := [.I x.code, .int .u64 x.version, .slice a0 x.nodes.length k0, .int .u64 x.epoch]
structure Wr where
 client : Int
 seq : Int
 key : ByteArray
 heads : List Hdr
 chunks : List (List (BitVec 8))
 nodes : List Int
 acks : List Int
 waited : Int
 limit : Int
 done : Int

def wrS : Shape Wr := (Shape.pair (Shape.int .u64) (Shape.pair (Shape.int .u64) (Shape.pair Shape.str (Shape.pair (Shape.slice hdrS) (Shape.pair (Shape.slice SB) (Shape.pair (Shape.slice (Shape.int .i64)) (Shape.pair (Shape.slice (Shape.int .i64)) (Shape.pair (Shape.int .i64) (Shape.pair (Shape.int .i64) (Shape.int .i64)))))))))).map fun x => (x.client, x.seq, x.key, x.heads, x.chunks, x.nodes, x.acks, x.waited, x.limit, x.done)
theorem wr_open {S : Nat → Prop} {w : World} {cs : List Value} {x : Wr} (h : wrS.rep S w cs x) : ∃ a3 : Option Addr, ∃ k3 : Nat, ∃ a4 : Option Addr, ∃ k4 : Nat, ∃ a5 : Option Addr, ∃ k5 : Nat, ∃ a6 : Option Addr, ∃ k6 : Nat, cs = [.int .u64 x.client, .int .u64 x.seq, .string x.key, .slice a3 x.heads.length k3, .slice a4 x.chunks.length k4, .slice a5 x.nodes.length k5, .slice a6 x.acks.length k6, .I x.waited, .I x.limit, .I x.done] ∧ (0 ≤ x.client ∧ x.client ≤ 18446744073709551615) ∧ (0 ≤ x.seq ∧ x.seq ≤ 18446744073709551615) ∧ x.key.size ≤ maxLen ∧ (Shape.slice hdrS).rep S w [.slice a3 x.heads.length k3] x.heads ∧ (Shape.slice SB).rep S w [.slice a4 x.chunks.length k4] x.chunks ∧ (Shape.slice (Shape.int .i64)).rep S w [.slice a5 x.nodes.length k5] x.nodes ∧ (Shape.slice (Shape.int .i64)).rep S w [.slice a6 x.acks.length k6] x.acks ∧ ((-9223372036854775808) ≤ x.waited ∧ x.waited ≤ 9223372036854775807) ∧ ((-9223372036854775808) ≤ x.limit ∧ x.limit ≤ 9223372036854775807) ∧ ((-9223372036854775808) ≤ x.done ∧ x.done ≤ 9223372036854775807) := by
 obtain ⟨c0, d0, rfl, h0, h⟩ := h
 obtain ⟨c1, d1, rfl, h1, h⟩ := h
 obtain ⟨c2, d2, rfl, h2, h⟩ := h
 obtain ⟨c3, d3, rfl, h3, h⟩ := h
 obtain ⟨c4, d4, rfl, h4, h⟩ := h
 obtain ⟨c5, d5, rfl, h5, h⟩ := h
 obtain ⟨c6, d6, rfl, h6, h⟩ := h
 obtain ⟨c7, d7, rfl, h7, h⟩ := h
 obtain ⟨c8, d8, rfl, h8, h⟩ := h
 have h9 := h
 obtain ⟨e0, b0⟩ := h0
 obtain ⟨e1, b1⟩ := h1
 obtain ⟨e2, b2⟩ := h2
 obtain ⟨a3, k3, e3⟩ := Shape.slice_form' h3
 obtain ⟨a4, k4, e4⟩ := Shape.slice_form' h4
 obtain ⟨a5, k5, e5⟩ := Shape.slice_form' h5
 obtain ⟨a6, k6, e6⟩ := Shape.slice_form' h6
 obtain ⟨e7, b7⟩ := h7
 obtain ⟨e8, b8⟩ := h8
 obtain ⟨e9, b9⟩ := h9
 exact ⟨a3, k3, a4, k4, a5, k5, a6, k6, (by simp [e0, e1, e2, e3, e4, e5, e6, e7, e8, e9]), b0, b1, b2, (e3 ▸ h3), (e4 ▸ h4), (e5 ▸ h5), (e6 ▸ h6), b7, b8, b9⟩
theorem wr_mk {S : Nat → Prop} {w : World} {y0 : Int} {l0 : List Value} (h0 : (Shape.int .u64).rep S w l0 y0) {y1 : Int} {l1 : List Value} (h1 : (Shape.int .u64).rep S w l1 y1) {y2 : ByteArray} {l2 : List Value} (h2 : (Shape.str).rep S w l2 y2) {y3 : List Hdr} {l3 : List Value} (h3 : (Shape.slice hdrS).rep S w l3 y3) {y4 : List (List (BitVec 8))} {l4 : List Value} (h4 : (Shape.slice SB).rep S w l4 y4) {y5 : List Int} {l5 : List Value} (h5 : (Shape.slice (Shape.int .i64)).rep S w l5 y5) {y6 : List Int} {l6 : List Value} (h6 : (Shape.slice (Shape.int .i64)).rep S w l6 y6) {y7 : Int} {l7 : List Value} (h7 : (Shape.int .i64).rep S w l7 y7) {y8 : Int} {l8 : List Value} (h8 : (Shape.int .i64).rep S w l8 y8) {y9 : Int} {l9 : List Value} (h9 : (Shape.int .i64).rep S w l9 y9) : wrS.rep S w (l0 ++ (l1 ++ (l2 ++ (l3 ++ (l4 ++ (l5 ++ (l6 ++ (l7 ++ (l8 ++ (l9)))))))))) ⟨y0, y1, y2, y3, y4, y5, y6, y7, y8, y9⟩ := ⟨_, _, rfl, h0, ⟨_, _, rfl, h1, ⟨_, _, rfl, h2, ⟨_, _, rfl, h3, ⟨_, _, rfl, h4, ⟨_, _, rfl, h5, ⟨_, _, rfl, h6, ⟨_, _, rfl, h7, ⟨_, _, rfl, h8, h9⟩⟩⟩⟩⟩⟩⟩⟩⟩
abbrev wrV (x : Wr) (a0 : Option Addr) (k0 : Nat) (a1 : Option Addr) (k1 : Nat) (a2 : Option Addr) (k2 : Nat) (a3 : Option Addr) (k3 : Nat) : List Value := [.int .u64 x.client, .int .u64 x.seq, .string x.key, .slice a0 x.heads.length k0, .slice a1 x.chunks.length k1, .slice a2 x.nodes.length k2, .slice a3 x.acks.length k3, .I x.waited, .I x.limit, .I x.done]
abbrev wrZ : List Value := [.int .u64 0, .int .u64 0, .string (⟨#[]⟩), .slice none 0 0, .slice none 0 0, .slice none 0 0, .slice none 0 0, .I 0, .I 0, .I 0]
theorem wr_mkV {S : Nat → Prop} {w : World} {x : Wr} {a_3 : Option Addr} {k_3 : Nat} {a_4 : Option Addr} {k_4 : Nat} {a_5 : Option Addr} {k_5 : Nat} {a_6 : Option Addr} {k_6 : Nat} (h0 : (Shape.int .u64).rep S w [.int .u64 x.client] x.client) (h1 : (Shape.int .u64).rep S w [.int .u64 x.seq] x.seq) (h2 : (Shape.str).rep S w [.string x.key] x.key) (h3 : (Shape.slice hdrS).rep S w [.slice a_3 x.heads.length k_3] x.heads) (h4 : (Shape.slice SB).rep S w [.slice a_4 x.chunks.length k_4] x.chunks) (h5 : (Shape.slice (Shape.int .i64)).rep S w [.slice a_5 x.nodes.length k_5] x.nodes) (h6 : (Shape.slice (Shape.int .i64)).rep S w [.slice a_6 x.acks.length k_6] x.acks) (h7 : (Shape.int .i64).rep S w [.I x.waited] x.waited) (h8 : (Shape.int .i64).rep S w [.I x.limit] x.limit) (h9 : (Shape.int .i64).rep S w [.I x.done] x.done) : wrS.rep S w (wrV x a_3 k_3 a_4 k_4 a_5 k_5 a_6 k_6) x := wr_mk h0 h1 h2 h3 h4 h5 h6 h7 h8 h9
structure Conf where
 voters : List Int
 learners : List Int

def confS : Shape Conf := (Shape.pair (Shape.slice (Shape.int .i64)) (Shape.slice (Shape.int .i64))).map fun x => (x.voters, x.learners)
theorem conf_open {S : Nat → Prop} {w : World} {cs : List Value} {x : Conf} (h : confS.rep S w cs x) : ∃ a0 : Option Addr, ∃ k0 : Nat, ∃ a1 : Option Addr, ∃ k1 : Nat, cs = [.slice a0 x.voters.length k0, .slice a1 x.learners.length k1] ∧ (Shape.slice (Shape.int .i64)).rep S w [.slice a0 x.voters.length k0] x.voters ∧ (Shape.slice (Shape.int .i64)).rep S w [.slice a1 x.learners.length k1] x.learners := by
 obtain ⟨c0, d0, rfl, h0, h⟩ := h
 have h1 := h
 obtain ⟨a0, k0, e0⟩ := Shape.slice_form' h0
 obtain ⟨a1, k1, e1⟩ := Shape.slice_form' h1
 exact ⟨a0, k0, a1, k1, (by simp [e0, e1]), (e0 ▸ h0), (e1 ▸ h1)⟩
theorem conf_mk {S : Nat → Prop} {w : World} {y0 : List Int} {l0 : List Value} (h0 : (Shape.slice (Shape.int .i64)).rep S w l0 y0) {y1 : List Int} {l1 : List Value} (h1 : (Shape.slice (Shape.int .i64)).rep S w l1 y1) : confS.rep S w (l0 ++ (l1)) ⟨y0, y1⟩ := ⟨_, _, rfl, h0, h1⟩
structure Mem where
 id : Int
 weight : Int

def memS : Shape Mem := (Shape.pair (Shape.int .i64) (Shape.int .i64)).map fun x => (x.id, x.weight)
theorem mem_open {S : Nat → Prop} {w : World} {cs : List Value} {x : Mem} (h : memS.rep S w cs x) : cs = [.I x.id, .I x.weight] ∧ ((-9223372036854775808) ≤ x.id ∧ x.id ≤ 9223372036854775807) ∧ ((-9223372036854775808) ≤ x.weight ∧ x.weight ≤ 9223372036854775807) := by
 obtain ⟨c0, d0, rfl, h0, h⟩ := h
 have h1 := h
 obtain ⟨e0, b0⟩ := h0
 obtain ⟨e1, b1⟩ := h1
 exact ⟨(by simp [e0, e1]), b0, b1⟩
theorem mem_mk {S : Nat → Prop} {w : World} {y0 : Int} {l0 : List Value} (h0 : (Shape.int .i64).rep S w l0 y0) {y1 : Int} {l1 : List Value} (h1 : (Shape.int .i64).rep S w l1 y1) : memS.rep S w (l0 ++ (l1)) ⟨y0, y1⟩ := ⟨_, _, rfl, h0, h1⟩
structure AMap where
 epoch : Int
 members : List Mem

def amapS : Shape AMap := (Shape.pair (Shape.int .u64) (Shape.slice memS)).map fun x => (x.epoch, x.members)
theorem amap_open {S : Nat → Prop} {w : World} {cs : List Value} {x : AMap} (h : amapS.rep S w cs x) : ∃ a1 : Option Addr, ∃ k1 : Nat, cs = [.int .u64 x.epoch, .slice a1 x.members.length k1] ∧ (0 ≤ x.epoch ∧ x.epoch ≤ 18446744073709551615) ∧ (Shape.slice memS).rep S w [.slice a1 x.members.length k1] x.members := by
 obtain ⟨c0, d0, rfl, h0, h⟩ := h
 have h1 := h
 obtain ⟨e0, b0⟩ := h0
 obtain ⟨a1, k1, e1⟩ := Shape.slice_form' h1
 exact ⟨a1, k1, (by simp [e0, e1]), b0, (e1 ▸ h1)⟩
theorem amap_mk {S : Nat → Prop} {w : World} {y0 : Int} {l0 : List Value} (h0 : (Shape.int .u64).rep S w l0 y0) {y1 : List Mem} {l1 : List Value} (h1 : (Shape.slice memS).rep S w l1 y1) : amapS.rep S w (l0 ++ (l1)) ⟨y0, y1⟩ := ⟨_, _, rfl, h0, h1⟩
structure Cmd where
 kind : Int
 client : Int
 seq : Int
 key : ByteArray
 size : Int
 sum : BitVec 32
 version : Int
 epoch : Int
 group : Int
 node : Int
 up : Bool
 id : CID
 map : AMap

def cmdS : Shape Cmd := (Shape.pair (Shape.int .i64) (Shape.pair (Shape.int .u64) (Shape.pair (Shape.int .u64) (Shape.pair Shape.str (Shape.pair (Shape.int .i64) (Shape.pair (Shape.bv .u32 32) (Shape.pair (Shape.int .u64) (Shape.pair (Shape.int .u64) (Shape.pair (Shape.int .i64) (Shape.pair (Shape.int .i64) (Shape.pair Shape.bool (Shape.pair cidS amapS)))))))))))).map fun x => (x.kind, x.client, x.seq, x.key, x.size, x.sum, x.version, x.epoch, x.group, x.node, x.up, x.id, x.map)
theorem cmd_open {S : Nat → Prop} {w : World} {cs : List Value} {x : Cmd} (h : cmdS.rep S w cs x) : ∃ cs11 : List Value, ∃ cs12 : List Value, cs = [.I x.kind, .int .u64 x.client, .int .u64 x.seq, .string x.key, .I x.size, .int .u32 ((x.sum.toNat : Nat) : Int), .int .u64 x.version, .int .u64 x.epoch, .I x.group, .I x.node, .bool x.up] ++ cs11 ++ cs12 ∧ ((-9223372036854775808) ≤ x.kind ∧ x.kind ≤ 9223372036854775807) ∧ (0 ≤ x.client ∧ x.client ≤ 18446744073709551615) ∧ (0 ≤ x.seq ∧ x.seq ≤ 18446744073709551615) ∧ x.key.size ≤ maxLen ∧ ((-9223372036854775808) ≤ x.size ∧ x.size ≤ 9223372036854775807) ∧ (0 ≤ x.version ∧ x.version ≤ 18446744073709551615) ∧ (0 ≤ x.epoch ∧ x.epoch ≤ 18446744073709551615) ∧ ((-9223372036854775808) ≤ x.group ∧ x.group ≤ 9223372036854775807) ∧ ((-9223372036854775808) ≤ x.node ∧ x.node ≤ 9223372036854775807) ∧ (cidS).rep S w cs11 x.id ∧ (amapS).rep S w cs12 x.map := by
 obtain ⟨c0, d0, rfl, h0, h⟩ := h
 obtain ⟨c1, d1, rfl, h1, h⟩ := h
 obtain ⟨c2, d2, rfl, h2, h⟩ := h
 obtain ⟨c3, d3, rfl, h3, h⟩ := h
 obtain ⟨c4, d4, rfl, h4, h⟩ := h
 obtain ⟨c5, d5, rfl, h5, h⟩ := h
 obtain ⟨c6, d6, rfl, h6, h⟩ := h
 obtain ⟨c7, d7, rfl, h7, h⟩ := h
 obtain ⟨c8, d8, rfl, h8, h⟩ := h
 obtain ⟨c9, d9, rfl, h9, h⟩ := h
 obtain ⟨c10, d10, rfl, h10, h⟩ := h
 obtain ⟨c11, d11, rfl, h11, h⟩ := h
 have h12 := h
 obtain ⟨e0, b0⟩ := h0
 obtain ⟨e1, b1⟩ := h1
 obtain ⟨e2, b2⟩ := h2
 obtain ⟨e3, b3⟩ := h3
 obtain ⟨e4, b4⟩ := h4
 have e5 : c5 = [.int .u32 ((x.sum.toNat : Nat) : Int)] := h5
 obtain ⟨e6, b6⟩ := h6
 obtain ⟨e7, b7⟩ := h7
 obtain ⟨e8, b8⟩ := h8
 obtain ⟨e9, b9⟩ := h9
 have e10 : c10 = [.bool x.up] := h10
 exact ⟨c11, _, (by simp [e0, e1, e2, e3, e4, e5, e6, e7, e8, e9, e10]), b0, b1, b2, b3, b4, b6, b7, b8, b9, h11, h12⟩
theorem cmd_mk {S : Nat → Prop} {w : World} {y0 : Int} {l0 : List Value} (h0 : (Shape.int .i64).rep S w l0 y0) {y1 : Int} {l1 : List Value} (h1 : (Shape.int .u64).rep S w l1 y1) {y2 : Int} {l2 : List Value} (h2 : (Shape.int .u64).rep S w l2 y2) {y3 : ByteArray} {l3 : List Value} (h3 : (Shape.str).rep S w l3 y3) {y4 : Int} {l4 : List Value} (h4 : (Shape.int .i64).rep S w l4 y4) {y5 : BitVec 32} {l5 : List Value} (h5 : (Shape.bv .u32 32).rep S w l5 y5) {y6 : Int} {l6 : List Value} (h6 : (Shape.int .u64).rep S w l6 y6) {y7 : Int} {l7 : List Value} (h7 : (Shape.int .u64).rep S w l7 y7) {y8 : Int} {l8 : List Value} (h8 : (Shape.int .i64).rep S w l8 y8) {y9 : Int} {l9 : List Value} (h9 : (Shape.int .i64).rep S w l9 y9) {y10 : Bool} {l10 : List Value} (h10 : (Shape.bool).rep S w l10 y10) {y11 : CID} {l11 : List Value} (h11 : (cidS).rep S w l11 y11) {y12 : AMap} {l12 : List Value} (h12 : (amapS).rep S w l12 y12) : cmdS.rep S w (l0 ++ (l1 ++ (l2 ++ (l3 ++ (l4 ++ (l5 ++ (l6 ++ (l7 ++ (l8 ++ (l9 ++ (l10 ++ (l11 ++ (l12))))))))))))) ⟨y0, y1, y2, y3, y4, y5, y6, y7, y8, y9, y10, y11, y12⟩ := ⟨_, _, rfl, h0, ⟨_, _, rfl, h1, ⟨_, _, rfl, h2, ⟨_, _, rfl, h3, ⟨_, _, rfl, h4, ⟨_, _, rfl, h5, ⟨_, _, rfl, h6, ⟨_, _, rfl, h7, ⟨_, _, rfl, h8, ⟨_, _, rfl, h9, ⟨_, _, rfl, h10, ⟨_, _, rfl, h11, h12⟩⟩⟩⟩⟩⟩⟩⟩⟩⟩⟩⟩
abbrev cmdV (x : Cmd) (a0 : Option Addr) (k0 : Nat) : List Value := [.I x.kind, .int .u64 x.client, .int .u64 x.seq, .string x.key, .I x.size, .int .u32 ((x.sum.toNat : Nat) : Int), .int .u64 x.version, .int .u64 x.epoch, .I x.group, .I x.node, .bool x.up, .int .u64 x.id.version, .I x.id.index, .int .u64 x.id.epoch, .int .u64 x.map.epoch, .slice a0 x.map.members.length k0]
abbrev cmdZ : List Value := [.I 0, .int .u64 0, .int .u64 0, .string (⟨#[]⟩), .I 0, .int .u32 0, .int .u64 0, .int .u64 0, .I 0, .I 0, .bool false, .int .u64 0, .I 0, .int .u64 0, .int .u64 0, .slice none 0 0]
structure Ent where
 index : Int
 term : Int
 kind : Int
 cmd : Cmd
 conf : Conf

def entS : Shape Ent := (Shape.pair (Shape.int .u64) (Shape.pair (Shape.int .u64) (Shape.pair (Shape.int .i64) (Shape.pair cmdS confS)))).map fun x => (x.index, x.term, x.kind, x.cmd, x.conf)
theorem ent_open {S : Nat → Prop} {w : World} {cs : List Value} {x : Ent} (h : entS.rep S w cs x) : ∃ cs3 : List Value, ∃ cs4 : List Value, cs = [.int .u64 x.index, .int .u64 x.term, .I x.kind] ++ cs3 ++ cs4 ∧ (0 ≤ x.index ∧ x.index ≤ 18446744073709551615) ∧ (0 ≤ x.term ∧ x.term ≤ 18446744073709551615) ∧ ((-9223372036854775808) ≤ x.kind ∧ x.kind ≤ 9223372036854775807) ∧ (cmdS).rep S w cs3 x.cmd ∧ (confS).rep S w cs4 x.conf := by
 obtain ⟨c0, d0, rfl, h0, h⟩ := h
 obtain ⟨c1, d1, rfl, h1, h⟩ := h
 obtain ⟨c2, d2, rfl, h2, h⟩ := h
 obtain ⟨c3, d3, rfl, h3, h⟩ := h
 have h4 := h
 obtain ⟨e0, b0⟩ := h0
 obtain ⟨e1, b1⟩ := h1
 obtain ⟨e2, b2⟩ := h2
 exact ⟨c3, _, (by simp [e0, e1, e2]), b0, b1, b2, h3, h4⟩
theorem ent_mk {S : Nat → Prop} {w : World} {y0 : Int} {l0 : List Value} (h0 : (Shape.int .u64).rep S w l0 y0) {y1 : Int} {l1 : List Value} (h1 : (Shape.int .u64).rep S w l1 y1) {y2 : Int} {l2 : List Value} (h2 : (Shape.int .i64).rep S w l2 y2) {y3 : Cmd} {l3 : List Value} (h3 : (cmdS).rep S w l3 y3) {y4 : Conf} {l4 : List Value} (h4 : (confS).rep S w l4 y4) : entS.rep S w (l0 ++ (l1 ++ (l2 ++ (l3 ++ (l4))))) ⟨y0, y1, y2, y3, y4⟩ := ⟨_, _, rfl, h0, ⟨_, _, rfl, h1, ⟨_, _, rfl, h2, ⟨_, _, rfl, h3, h4⟩⟩⟩⟩
abbrev entV (x : Ent) (a0 : Option Addr) (k0 : Nat) (a1 : Option Addr) (k1 : Nat) (a2 : Option Addr) (k2 : Nat) : List Value := [.int .u64 x.index, .int .u64 x.term, .I x.kind, .I x.cmd.kind, .int .u64 x.cmd.client, .int .u64 x.cmd.seq, .string x.cmd.key, .I x.cmd.size, .int .u32 ((x.cmd.sum.toNat : Nat) : Int), .int .u64 x.cmd.version, .int .u64 x.cmd.epoch, .I x.cmd.group, .I x.cmd.node, .bool x.cmd.up, .int .u64 x.cmd.id.version, .I x.cmd.id.index, .int .u64 x.cmd.id.epoch, .int .u64 x.cmd.map.epoch, .slice a0 x.cmd.map.members.length k0, .slice a1 x.conf.voters.length k1, .slice a2 x.conf.learners.length k2]
abbrev entZ : List Value := [.int .u64 0, .int .u64 0, .I 0, .I 0, .int .u64 0, .int .u64 0, .string (⟨#[]⟩), .I 0, .int .u32 0, .int .u64 0, .int .u64 0, .I 0, .I 0, .bool false, .int .u64 0, .I 0, .int .u64 0, .int .u64 0, .slice none 0 0, .slice none 0 0, .slice none 0 0]
structure Msg where
 kind : Int
 frm : Int
 to : Int
 term : Int
 index : Int
 logTerm : Int
 commit : Int
 ctx : Int
 ok : Bool
 force : Bool
 entries : List Ent
 conf : Conf
 head : Hdr
 data : List (BitVec 8)
 client : Int
 seq : Int
 op : Int
 key : ByteArray
 code : Int
 names : List ByteArray

def msgS : Shape Msg := (Shape.pair (Shape.int .i64) (Shape.pair (Shape.int .i64) (Shape.pair (Shape.int .i64) (Shape.pair (Shape.int .u64) (Shape.pair (Shape.int .u64) (Shape.pair (Shape.int .u64) (Shape.pair (Shape.int .u64) (Shape.pair (Shape.int .u64) (Shape.pair Shape.bool (Shape.pair Shape.bool (Shape.pair (Shape.slice entS) (Shape.pair confS (Shape.pair hdrS (Shape.pair SB (Shape.pair (Shape.int .u64) (Shape.pair (Shape.int .u64) (Shape.pair (Shape.int .i64) (Shape.pair Shape.str (Shape.pair (Shape.int .i64) (Shape.slice Shape.str)))))))))))))))))))).map fun x => (x.kind, x.frm, x.to, x.term, x.index, x.logTerm, x.commit, x.ctx, x.ok, x.force, x.entries, x.conf, x.head, x.data, x.client, x.seq, x.op, x.key, x.code, x.names)
theorem msg_open {S : Nat → Prop} {w : World} {cs : List Value} {x : Msg} (h : msgS.rep S w cs x) : ∃ a10 : Option Addr, ∃ k10 : Nat, ∃ cs11 : List Value, ∃ cs12 : List Value, ∃ a13 : Option Addr, ∃ k13 : Nat, ∃ a19 : Option Addr, ∃ k19 : Nat, cs = [.I x.kind, .I x.frm, .I x.to, .int .u64 x.term, .int .u64 x.index, .int .u64 x.logTerm, .int .u64 x.commit, .int .u64 x.ctx, .bool x.ok, .bool x.force, .slice a10 x.entries.length k10] ++ cs11 ++ cs12 ++ [.slice a13 x.data.length k13, .int .u64 x.client, .int .u64 x.seq, .I x.op, .string x.key, .I x.code, .slice a19 x.names.length k19] ∧ ((-9223372036854775808) ≤ x.kind ∧ x.kind ≤ 9223372036854775807) ∧ ((-9223372036854775808) ≤ x.frm ∧ x.frm ≤ 9223372036854775807) ∧ ((-9223372036854775808) ≤ x.to ∧ x.to ≤ 9223372036854775807) ∧ (0 ≤ x.term ∧ x.term ≤ 18446744073709551615) ∧ (0 ≤ x.index ∧ x.index ≤ 18446744073709551615) ∧ (0 ≤ x.logTerm ∧ x.logTerm ≤ 18446744073709551615) ∧ (0 ≤ x.commit ∧ x.commit ≤ 18446744073709551615) ∧ (0 ≤ x.ctx ∧ x.ctx ≤ 18446744073709551615) ∧ (Shape.slice entS).rep S w [.slice a10 x.entries.length k10] x.entries ∧ (confS).rep S w cs11 x.conf ∧ (hdrS).rep S w cs12 x.head ∧ SB.rep S w [.slice a13 x.data.length k13] x.data ∧ (0 ≤ x.client ∧ x.client ≤ 18446744073709551615) ∧ (0 ≤ x.seq ∧ x.seq ≤ 18446744073709551615) ∧ ((-9223372036854775808) ≤ x.op ∧ x.op ≤ 9223372036854775807) ∧ x.key.size ≤ maxLen ∧ ((-9223372036854775808) ≤ x.code ∧ x.code ≤ 9223372036854775807) ∧ (Shape.slice Shape.str).rep S w [.slice a19 x.names.length k19] x.names := by
 obtain ⟨c0, d0, rfl, h0, h⟩ := h
 obtain ⟨c1, d1, rfl, h1, h⟩ := h
 obtain ⟨c2, d2, rfl, h2, h⟩ := h
 obtain ⟨c3, d3, rfl, h3, h⟩ := h
 obtain ⟨c4, d4, rfl, h4, h⟩ := h
 obtain ⟨c5, d5, rfl, h5, h⟩ := h
 obtain ⟨c6, d6, rfl, h6, h⟩ := h
 obtain ⟨c7, d7, rfl, h7, h⟩ := h
 obtain ⟨c8, d8, rfl, h8, h⟩ := h
 obtain ⟨c9, d9, rfl, h9, h⟩ := h
 obtain ⟨c10, d10, rfl, h10, h⟩ := h
 obtain ⟨c11, d11, rfl, h11, h⟩ := h
 obtain ⟨c12, d12, rfl, h12, h⟩ := h
 obtain ⟨c13, d13, rfl, h13, h⟩ := h
 obtain ⟨c14, d14, rfl, h14, h⟩ := h
 obtain ⟨c15, d15, rfl, h15, h⟩ := h
 obtain ⟨c16, d16, rfl, h16, h⟩ := h
 obtain ⟨c17, d17, rfl, h17, h⟩ := h
 obtain ⟨c18, d18, rfl, h18, h⟩ := h
 have h19 := h
 obtain ⟨e0, b0⟩ := h0
 obtain ⟨e1, b1⟩ := h1
 obtain ⟨e2, b2⟩ := h2
 obtain ⟨e3, b3⟩ := h3
 obtain ⟨e4, b4⟩ := h4
 obtain ⟨e5, b5⟩ := h5
 obtain ⟨e6, b6⟩ := h6
 obtain ⟨e7, b7⟩ := h7
 have e8 : c8 = [.bool x.ok] := h8
 have e9 : c9 = [.bool x.force] := h9
 obtain ⟨a10, k10, e10⟩ := Shape.slice_form' h10
 obtain ⟨a13, k13, e13⟩ := Shape.slice_form' h13
 obtain ⟨e14, b14⟩ := h14
 obtain ⟨e15, b15⟩ := h15
 obtain ⟨e16, b16⟩ := h16
 obtain ⟨e17, b17⟩ := h17
 obtain ⟨e18, b18⟩ := h18
 obtain ⟨a19, k19, e19⟩ := Shape.slice_form' h19
 exact ⟨a10, k10, c11, c12, a13, k13, a19, k19, (by simp [e0, e1, e2, e3, e4, e5, e6, e7, e8, e9, e10, e13, e14, e15, e16, e17, e18, e19]), b0, b1, b2, b3, b4, b5, b6, b7, (e10 ▸ h10), h11, h12, (e13 ▸ h13), b14, b15, b16, b17, b18, (e19 ▸ h19)⟩
theorem msg_mk {S : Nat → Prop} {w : World} {y0 : Int} {l0 : List Value} (h0 : (Shape.int .i64).rep S w l0 y0) {y1 : Int} {l1 : List Value} (h1 : (Shape.int .i64).rep S w l1 y1) {y2 : Int} {l2 : List Value} (h2 : (Shape.int .i64).rep S w l2 y2) {y3 : Int} {l3 : List Value} (h3 : (Shape.int .u64).rep S w l3 y3) {y4 : Int} {l4 : List Value} (h4 : (Shape.int .u64).rep S w l4 y4) {y5 : Int} {l5 : List Value} (h5 : (Shape.int .u64).rep S w l5 y5) {y6 : Int} {l6 : List Value} (h6 : (Shape.int .u64).rep S w l6 y6) {y7 : Int} {l7 : List Value} (h7 : (Shape.int .u64).rep S w l7 y7) {y8 : Bool} {l8 : List Value} (h8 : (Shape.bool).rep S w l8 y8) {y9 : Bool} {l9 : List Value} (h9 : (Shape.bool).rep S w l9 y9) {y10 : List Ent} {l10 : List Value} (h10 : (Shape.slice entS).rep S w l10 y10) {y11 : Conf} {l11 : List Value} (h11 : (confS).rep S w l11 y11) {y12 : Hdr} {l12 : List Value} (h12 : (hdrS).rep S w l12 y12) {y13 : List (BitVec 8)} {l13 : List Value} (h13 : SB.rep S w l13 y13) {y14 : Int} {l14 : List Value} (h14 : (Shape.int .u64).rep S w l14 y14) {y15 : Int} {l15 : List Value} (h15 : (Shape.int .u64).rep S w l15 y15) {y16 : Int} {l16 : List Value} (h16 : (Shape.int .i64).rep S w l16 y16) {y17 : ByteArray} {l17 : List Value} (h17 : (Shape.str).rep S w l17 y17) {y18 : Int} {l18 : List Value} (h18 : (Shape.int .i64).rep S w l18 y18) {y19 : List ByteArray} {l19 : List Value} (h19 : (Shape.slice Shape.str).rep S w l19 y19) : msgS.rep S w (l0 ++ (l1 ++ (l2 ++ (l3 ++ (l4 ++ (l5 ++ (l6 ++ (l7 ++ (l8 ++ (l9 ++ (l10 ++ (l11 ++ (l12 ++ (l13 ++ (l14 ++ (l15 ++ (l16 ++ (l17 ++ (l18 ++ (l19)))))))))))))))))))) ⟨y0, y1, y2, y3, y4, y5, y6, y7, y8, y9, y10, y11, y12, y13, y14, y15, y16, y17, y18, y19⟩ := ⟨_, _, rfl, h0, ⟨_, _, rfl, h1, ⟨_, _, rfl, h2, ⟨_, _, rfl, h3, ⟨_, _, rfl, h4, ⟨_, _, rfl, h5, ⟨_, _, rfl, h6, ⟨_, _, rfl, h7, ⟨_, _, rfl, h8, ⟨_, _, rfl, h9, ⟨_, _, rfl, h10, ⟨_, _, rfl, h11, ⟨_, _, rfl, h12, ⟨_, _, rfl, h13, ⟨_, _, rfl, h14, ⟨_, _, rfl, h15, ⟨_, _, rfl, h16, ⟨_, _, rfl, h17, ⟨_, _, rfl, h18, h19⟩⟩⟩⟩⟩⟩⟩⟩⟩⟩⟩⟩⟩⟩⟩⟩⟩⟩⟩
abbrev msgV (x : Msg) (a0 : Option Addr) (k0 : Nat) (a1 : Option Addr) (k1 : Nat) (a2 : Option Addr) (k2 : Nat) (a3 : Option Addr) (k3 : Nat) (a4 : Option Addr) (k4 : Nat) : List Value := [.I x.kind, .I x.frm, .I x.to, .int .u64 x.term, .int .u64 x.index, .int .u64 x.logTerm, .int .u64 x.commit, .int .u64 x.ctx, .bool x.ok, .bool x.force, .slice a0 x.entries.length k0, .slice a1 x.conf.voters.length k1, .slice a2 x.conf.learners.length k2, .int .u64 x.head.id.version, .I x.head.id.index, .int .u64 x.head.id.epoch, .I x.head.kk, .I x.head.nn, .I x.head.size, .int .u32 ((x.head.sum.toNat : Nat) : Int), .slice a3 x.data.length k3, .int .u64 x.client, .int .u64 x.seq, .I x.op, .string x.key, .I x.code, .slice a4 x.names.length k4]
abbrev msgZ : List Value := [.I 0, .I 0, .I 0, .int .u64 0, .int .u64 0, .int .u64 0, .int .u64 0, .int .u64 0, .bool false, .bool false, .slice none 0 0, .slice none 0 0, .slice none 0 0, .int .u64 0, .I 0, .int .u64 0, .I 0, .I 0, .I 0, .int .u32 0, .slice none 0 0, .int .u64 0, .int .u64 0, .I 0, .string (⟨#[]⟩), .I 0, .slice none 0 0]
structure Pc where
 index : Int
 data : List (BitVec 8)

def pcS : Shape Pc := (Shape.pair (Shape.int .i64) SB).map fun x => (x.index, x.data)
theorem pc_open {S : Nat → Prop} {w : World} {cs : List Value} {x : Pc} (h : pcS.rep S w cs x) : ∃ a1 : Option Addr, ∃ k1 : Nat, cs = [.I x.index, .slice a1 x.data.length k1] ∧ ((-9223372036854775808) ≤ x.index ∧ x.index ≤ 9223372036854775807) ∧ SB.rep S w [.slice a1 x.data.length k1] x.data := by
 obtain ⟨c0, d0, rfl, h0, h⟩ := h
 have h1 := h
 obtain ⟨e0, b0⟩ := h0
 obtain ⟨a1, k1, e1⟩ := Shape.slice_form' h1
 exact ⟨a1, k1, (by simp [e0, e1]), b0, (e1 ▸ h1)⟩
theorem pc_mk {S : Nat → Prop} {w : World} {y0 : Int} {l0 : List Value} (h0 : (Shape.int .i64).rep S w l0 y0) {y1 : List (BitVec 8)} {l1 : List Value} (h1 : SB.rep S w l1 y1) : pcS.rep S w (l0 ++ (l1)) ⟨y0, y1⟩ := ⟨_, _, rfl, h0, h1⟩
structure Chk where
 head : Hdr
 data : List (BitVec 8)
 done : Bool

def chkS : Shape Chk := (Shape.pair hdrS (Shape.pair SB Shape.bool)).map fun x => (x.head, x.data, x.done)
theorem chk_open {S : Nat → Prop} {w : World} {cs : List Value} {x : Chk} (h : chkS.rep S w cs x) : ∃ cs0 : List Value, ∃ a1 : Option Addr, ∃ k1 : Nat, cs = cs0 ++ [.slice a1 x.data.length k1, .bool x.done] ∧ (hdrS).rep S w cs0 x.head ∧ SB.rep S w [.slice a1 x.data.length k1] x.data := by
 obtain ⟨c0, d0, rfl, h0, h⟩ := h
 obtain ⟨c1, d1, rfl, h1, h⟩ := h
 have h2 := h
 obtain ⟨a1, k1, e1⟩ := Shape.slice_form' h1
 have e2 : d1 = [.bool x.done] := h2
 exact ⟨c0, a1, k1, (by simp [e1, e2]), h0, (e1 ▸ h1)⟩
theorem chk_mk {S : Nat → Prop} {w : World} {y0 : Hdr} {l0 : List Value} (h0 : (hdrS).rep S w l0 y0) {y1 : List (BitVec 8)} {l1 : List Value} (h1 : SB.rep S w l1 y1) {y2 : Bool} {l2 : List Value} (h2 : (Shape.bool).rep S w l2 y2) : chkS.rep S w (l0 ++ (l1 ++ (l2))) ⟨y0, y1, y2⟩ := ⟨_, _, rfl, h0, ⟨_, _, rfl, h1, h2⟩⟩
abbrev chkV (x : Chk) (a0 : Option Addr) (k0 : Nat) : List Value := [.int .u64 x.head.id.version, .I x.head.id.index, .int .u64 x.head.id.epoch, .I x.head.kk, .I x.head.nn, .I x.head.size, .int .u32 ((x.head.sum.toNat : Nat) : Int), .slice a0 x.data.length k0, .bool x.done]
abbrev chkZ : List Value := [.int .u64 0, .I 0, .int .u64 0, .I 0, .I 0, .I 0, .int .u32 0, .slice none 0 0, .bool false]
structure ObjD where
 key : ByteArray
 version : Int
 size : Int
 sum : BitVec 32
 group : Int
 epoch : Int
 nodes : List Int

def objS : Shape ObjD := (Shape.pair Shape.str (Shape.pair (Shape.int .u64) (Shape.pair (Shape.int .i64) (Shape.pair (Shape.bv .u32 32) (Shape.pair (Shape.int .i64) (Shape.pair (Shape.int .u64) (Shape.slice (Shape.int .i64)))))))).map fun x => (x.key, x.version, x.size, x.sum, x.group, x.epoch, x.nodes)
theorem obj_open {S : Nat → Prop} {w : World} {cs : List Value} {x : ObjD} (h : objS.rep S w cs x) : ∃ a6 : Option Addr, ∃ k6 : Nat, cs = [.string x.key, .int .u64 x.version, .I x.size, .int .u32 ((x.sum.toNat : Nat) : Int), .I x.group, .int .u64 x.epoch, .slice a6 x.nodes.length k6] ∧ x.key.size ≤ maxLen ∧ (0 ≤ x.version ∧ x.version ≤ 18446744073709551615) ∧ ((-9223372036854775808) ≤ x.size ∧ x.size ≤ 9223372036854775807) ∧ ((-9223372036854775808) ≤ x.group ∧ x.group ≤ 9223372036854775807) ∧ (0 ≤ x.epoch ∧ x.epoch ≤ 18446744073709551615) ∧ (Shape.slice (Shape.int .i64)).rep S w [.slice a6 x.nodes.length k6] x.nodes := by
 obtain ⟨c0, d0, rfl, h0, h⟩ := h
 obtain ⟨c1, d1, rfl, h1, h⟩ := h
 obtain ⟨c2, d2, rfl, h2, h⟩ := h
 obtain ⟨c3, d3, rfl, h3, h⟩ := h
 obtain ⟨c4, d4, rfl, h4, h⟩ := h
 obtain ⟨c5, d5, rfl, h5, h⟩ := h
 have h6 := h
 obtain ⟨e0, b0⟩ := h0
 obtain ⟨e1, b1⟩ := h1
 obtain ⟨e2, b2⟩ := h2
 have e3 : c3 = [.int .u32 ((x.sum.toNat : Nat) : Int)] := h3
 obtain ⟨e4, b4⟩ := h4
 obtain ⟨e5, b5⟩ := h5
 obtain ⟨a6, k6, e6⟩ := Shape.slice_form' h6
 exact ⟨a6, k6, (by simp [e0, e1, e2, e3, e4, e5, e6]), b0, b1, b2, b4, b5, (e6 ▸ h6)⟩
theorem obj_mk {S : Nat → Prop} {w : World} {y0 : ByteArray} {l0 : List Value} (h0 : (Shape.str).rep S w l0 y0) {y1 : Int} {l1 : List Value} (h1 : (Shape.int .u64).rep S w l1 y1) {y2 : Int} {l2 : List Value} (h2 : (Shape.int .i64).rep S w l2 y2) {y3 : BitVec 32} {l3 : List Value} (h3 : (Shape.bv .u32 32).rep S w l3 y3) {y4 : Int} {l4 : List Value} (h4 : (Shape.int .i64).rep S w l4 y4) {y5 : Int} {l5 : List Value} (h5 : (Shape.int .u64).rep S w l5 y5) {y6 : List Int} {l6 : List Value} (h6 : (Shape.slice (Shape.int .i64)).rep S w l6 y6) : objS.rep S w (l0 ++ (l1 ++ (l2 ++ (l3 ++ (l4 ++ (l5 ++ (l6))))))) ⟨y0, y1, y2, y3, y4, y5, y6⟩ := ⟨_, _, rfl, h0, ⟨_, _, rfl, h1, ⟨_, _, rfl, h2, ⟨_, _, rfl, h3, ⟨_, _, rfl, h4, ⟨_, _, rfl, h5, h6⟩⟩⟩⟩⟩⟩
abbrev objV (x : ObjD) (a0 : Option Addr) (k0 : Nat) : List Value := [.string x.key, .int .u64 x.version, .I x.size, .int .u32 ((x.sum.toNat : Nat) : Int), .I x.group, .int .u64 x.epoch, .slice a0 x.nodes.length k0]
structure Rd where
 object : ObjD
 kk : Int
 nn : Int
 pieces : List Pc
 bad : List Int
 waited : Int
 limit : Int
 done : Int

def rdS : Shape Rd := (Shape.pair objS (Shape.pair (Shape.int .i64) (Shape.pair (Shape.int .i64) (Shape.pair (Shape.slice pcS) (Shape.pair (Shape.slice (Shape.int .i64)) (Shape.pair (Shape.int .i64) (Shape.pair (Shape.int .i64) (Shape.int .i64)))))))).map fun x => (x.object, x.kk, x.nn, x.pieces, x.bad, x.waited, x.limit, x.done)
theorem rd_open {S : Nat → Prop} {w : World} {cs : List Value} {x : Rd} (h : rdS.rep S w cs x) : ∃ cs0 : List Value, ∃ a3 : Option Addr, ∃ k3 : Nat, ∃ a4 : Option Addr, ∃ k4 : Nat, cs = cs0 ++ [.I x.kk, .I x.nn, .slice a3 x.pieces.length k3, .slice a4 x.bad.length k4, .I x.waited, .I x.limit, .I x.done] ∧ (objS).rep S w cs0 x.object ∧ ((-9223372036854775808) ≤ x.kk ∧ x.kk ≤ 9223372036854775807) ∧ ((-9223372036854775808) ≤ x.nn ∧ x.nn ≤ 9223372036854775807) ∧ (Shape.slice pcS).rep S w [.slice a3 x.pieces.length k3] x.pieces ∧ (Shape.slice (Shape.int .i64)).rep S w [.slice a4 x.bad.length k4] x.bad ∧ ((-9223372036854775808) ≤ x.waited ∧ x.waited ≤ 9223372036854775807) ∧ ((-9223372036854775808) ≤ x.limit ∧ x.limit ≤ 9223372036854775807) ∧ ((-9223372036854775808) ≤ x.done ∧ x.done ≤ 9223372036854775807) := by
 obtain ⟨c0, d0, rfl, h0, h⟩ := h
 obtain ⟨c1, d1, rfl, h1, h⟩ := h
 obtain ⟨c2, d2, rfl, h2, h⟩ := h
 obtain ⟨c3, d3, rfl, h3, h⟩ := h
 obtain ⟨c4, d4, rfl, h4, h⟩ := h
 obtain ⟨c5, d5, rfl, h5, h⟩ := h
 obtain ⟨c6, d6, rfl, h6, h⟩ := h
 have h7 := h
 obtain ⟨e1, b1⟩ := h1
 obtain ⟨e2, b2⟩ := h2
 obtain ⟨a3, k3, e3⟩ := Shape.slice_form' h3
 obtain ⟨a4, k4, e4⟩ := Shape.slice_form' h4
 obtain ⟨e5, b5⟩ := h5
 obtain ⟨e6, b6⟩ := h6
 obtain ⟨e7, b7⟩ := h7
 exact ⟨c0, a3, k3, a4, k4, (by simp [e1, e2, e3, e4, e5, e6, e7]), h0, b1, b2, (e3 ▸ h3), (e4 ▸ h4), b5, b6, b7⟩
theorem rd_mk {S : Nat → Prop} {w : World} {y0 : ObjD} {l0 : List Value} (h0 : (objS).rep S w l0 y0) {y1 : Int} {l1 : List Value} (h1 : (Shape.int .i64).rep S w l1 y1) {y2 : Int} {l2 : List Value} (h2 : (Shape.int .i64).rep S w l2 y2) {y3 : List Pc} {l3 : List Value} (h3 : (Shape.slice pcS).rep S w l3 y3) {y4 : List Int} {l4 : List Value} (h4 : (Shape.slice (Shape.int .i64)).rep S w l4 y4) {y5 : Int} {l5 : List Value} (h5 : (Shape.int .i64).rep S w l5 y5) {y6 : Int} {l6 : List Value} (h6 : (Shape.int .i64).rep S w l6 y6) {y7 : Int} {l7 : List Value} (h7 : (Shape.int .i64).rep S w l7 y7) : rdS.rep S w (l0 ++ (l1 ++ (l2 ++ (l3 ++ (l4 ++ (l5 ++ (l6 ++ (l7)))))))) ⟨y0, y1, y2, y3, y4, y5, y6, y7⟩ := ⟨_, _, rfl, h0, ⟨_, _, rfl, h1, ⟨_, _, rfl, h2, ⟨_, _, rfl, h3, ⟨_, _, rfl, h4, ⟨_, _, rfl, h5, ⟨_, _, rfl, h6, h7⟩⟩⟩⟩⟩⟩⟩
abbrev rdV (x : Rd) (a0 : Option Addr) (k0 : Nat) (a1 : Option Addr) (k1 : Nat) (a2 : Option Addr) (k2 : Nat) : List Value := [.string x.object.key, .int .u64 x.object.version, .I x.object.size, .int .u32 ((x.object.sum.toNat : Nat) : Int), .I x.object.group, .int .u64 x.object.epoch, .slice a0 x.object.nodes.length k0, .I x.kk, .I x.nn, .slice a1 x.pieces.length k1, .slice a2 x.bad.length k2, .I x.waited, .I x.limit, .I x.done]
abbrev rdZ : List Value := [.string (⟨#[]⟩), .int .u64 0, .I 0, .int .u32 0, .I 0, .int .u64 0, .slice none 0 0, .I 0, .I 0, .slice none 0 0, .slice none 0 0, .I 0, .I 0, .I 0]
structure Shf where
 read : Rd
 to : List Int
 epoch : Int
 write : Wr
 ready : Bool
 done : Int

def shfS : Shape Shf := (Shape.pair rdS (Shape.pair (Shape.slice (Shape.int .i64)) (Shape.pair (Shape.int .u64) (Shape.pair wrS (Shape.pair Shape.bool (Shape.int .i64)))))).map fun x => (x.read, x.to, x.epoch, x.write, x.ready, x.done)
theorem shf_open {S : Nat → Prop} {w : World} {cs : List Value} {x : Shf} (h : shfS.rep S w cs x) : ∃ cs0 : List Value, ∃ a1 : Option Addr, ∃ k1 : Nat, ∃ cs3 : List Value, cs = cs0 ++ [.slice a1 x.to.length k1, .int .u64 x.epoch] ++ cs3 ++ [.bool x.ready, .I x.done] ∧ (rdS).rep S w cs0 x.read ∧ (Shape.slice (Shape.int .i64)).rep S w [.slice a1 x.to.length k1] x.to ∧ (0 ≤ x.epoch ∧ x.epoch ≤ 18446744073709551615) ∧ (wrS).rep S w cs3 x.write ∧ ((-9223372036854775808) ≤ x.done ∧ x.done ≤ 9223372036854775807) := by
 obtain ⟨c0, d0, rfl, h0, h⟩ := h
 obtain ⟨c1, d1, rfl, h1, h⟩ := h
 obtain ⟨c2, d2, rfl, h2, h⟩ := h
 obtain ⟨c3, d3, rfl, h3, h⟩ := h
 obtain ⟨c4, d4, rfl, h4, h⟩ := h
 have h5 := h
 obtain ⟨a1, k1, e1⟩ := Shape.slice_form' h1
 obtain ⟨e2, b2⟩ := h2
 have e4 : c4 = [.bool x.ready] := h4
 obtain ⟨e5, b5⟩ := h5
 exact ⟨c0, a1, k1, c3, (by simp [e1, e2, e4, e5]), h0, (e1 ▸ h1), b2, h3, b5⟩
theorem shf_mk {S : Nat → Prop} {w : World} {y0 : Rd} {l0 : List Value} (h0 : (rdS).rep S w l0 y0) {y1 : List Int} {l1 : List Value} (h1 : (Shape.slice (Shape.int .i64)).rep S w l1 y1) {y2 : Int} {l2 : List Value} (h2 : (Shape.int .u64).rep S w l2 y2) {y3 : Wr} {l3 : List Value} (h3 : (wrS).rep S w l3 y3) {y4 : Bool} {l4 : List Value} (h4 : (Shape.bool).rep S w l4 y4) {y5 : Int} {l5 : List Value} (h5 : (Shape.int .i64).rep S w l5 y5) : shfS.rep S w (l0 ++ (l1 ++ (l2 ++ (l3 ++ (l4 ++ (l5)))))) ⟨y0, y1, y2, y3, y4, y5⟩ := ⟨_, _, rfl, h0, ⟨_, _, rfl, h1, ⟨_, _, rfl, h2, ⟨_, _, rfl, h3, ⟨_, _, rfl, h4, h5⟩⟩⟩⟩⟩
abbrev shfV (x : Shf) (a0 : Option Addr) (k0 : Nat) (a1 : Option Addr) (k1 : Nat) (a2 : Option Addr) (k2 : Nat) (a3 : Option Addr) (k3 : Nat) (a4 : Option Addr) (k4 : Nat) (a5 : Option Addr) (k5 : Nat) (a6 : Option Addr) (k6 : Nat) (a7 : Option Addr) (k7 : Nat) : List Value := [.string x.read.object.key, .int .u64 x.read.object.version, .I x.read.object.size, .int .u32 ((x.read.object.sum.toNat : Nat) : Int), .I x.read.object.group, .int .u64 x.read.object.epoch, .slice a0 x.read.object.nodes.length k0, .I x.read.kk, .I x.read.nn, .slice a1 x.read.pieces.length k1, .slice a2 x.read.bad.length k2, .I x.read.waited, .I x.read.limit, .I x.read.done, .slice a3 x.to.length k3, .int .u64 x.epoch, .int .u64 x.write.client, .int .u64 x.write.seq, .string x.write.key, .slice a4 x.write.heads.length k4, .slice a5 x.write.chunks.length k5, .slice a6 x.write.nodes.length k6, .slice a7 x.write.acks.length k7, .I x.write.waited, .I x.write.limit, .I x.write.done, .bool x.ready, .I x.done]
abbrev shfZ : List Value := [.string (⟨#[]⟩), .int .u64 0, .I 0, .int .u32 0, .I 0, .int .u64 0, .slice none 0 0, .I 0, .I 0, .slice none 0 0, .slice none 0 0, .I 0, .I 0, .I 0, .slice none 0 0, .int .u64 0, .int .u64 0, .int .u64 0, .string (⟨#[]⟩), .slice none 0 0, .slice none 0 0, .slice none 0 0, .slice none 0 0, .I 0, .I 0, .I 0, .bool false, .I 0]

end Go.Proofs.Ytppcdmbkgficiaa
