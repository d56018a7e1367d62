import Derived.Test.YtppcdmbkgficiaaRows
import Derived.Test.YtppcdmbkgficiaaSBxA
namespace Go.Proofs.Ytppcdmbkgficiaa
open Go.BX
structure CID where
 version : Int
 index : Int
 epoch : Int
 deriving DecidableEq
def cidS : Shape CID := (Shape.pair (Shape.int .u64) (Shape.pair (Shape.int .i64) (Shape.int .u64))).map fun x => (x.version, x.index, x.epoch)
theorem cid_open {S : Nat → Prop} {w : World} {cs : List Value} {x : CID} (h : cidS.rep S w cs x) : cs = [.int .u64 x.version, .I x.index, .int .u64 x.epoch] ∧ (0 ≤ x.version ∧ x.version ≤ 18446744073709551615) ∧ ((-9223372036854775808) ≤ x.index ∧ x.index ≤ 9223372036854775807) ∧ (0 ≤ x.epoch ∧ x.epoch ≤ 18446744073709551615) := by
 obtain ⟨_, _, rfl, a, h⟩ := h
 obtain ⟨_, _, rfl, b, h⟩ := h
 have c := h
 obtain ⟨d, e⟩ := a
 obtain ⟨f, g⟩ := b
 obtain ⟨i, j⟩ := c
 exact ⟨(by simp [d, f, i]), e, g, j⟩
theorem cid_mk {S : Nat → Prop} {w : World} {y0 : Int} {l0 : List Value} (h0 : (Shape.int .u64).rep S w l0 y0) {y1 : Int} {l1 : List Value} (h1 : (Shape.int .i64).rep S w l1 y1) {y2 : Int} {l2 : List Value} (h2 : (Shape.int .u64).rep S w l2 y2) : cidS.rep S w (l0 ++ (l1 ++ (l2))) ⟨y0, y1, y2⟩ := ⟨_, _, rfl, h0, ⟨_, _, rfl, h1, h2⟩⟩
structure Hdr where
 id : CID
 kk : Int
 nn : Int
 size : Int
 sum : BitVec 32
 deriving DecidableEq
def hdrS : Shape Hdr := (Shape.pair cidS (Shape.pair (Shape.int .i64) (Shape.pair (Shape.int .i64) (Shape.pair (Shape.int .i64) (Shape.bv .u32 32))))).map fun x => (x.id, x.kk, x.nn, x.size, x.sum)
theorem hdr_open {S : Nat → Prop} {w : World} {cs : List Value} {x : Hdr} (h : hdrS.rep S w cs x) : ∃ cs0 : List Value, cs = cs0 ++ [.I x.kk, .I x.nn, .I x.size, .int .u32 ((x.sum.toNat : Nat) : Int)] ∧ (cidS).rep S w cs0 x.id ∧ ((-9223372036854775808) ≤ x.kk ∧ x.kk ≤ 9223372036854775807) ∧ ((-9223372036854775808) ≤ x.nn ∧ x.nn ≤ 9223372036854775807) ∧ ((-9223372036854775808) ≤ x.size ∧ x.size ≤ 9223372036854775807) := by
 obtain ⟨a, _, rfl, b, h⟩ := h
 obtain ⟨_, _, rfl, c, h⟩ := h
 obtain ⟨_, _, rfl, d, h⟩ := h
 obtain ⟨_, e, rfl, f, h⟩ := h
 have g := h
 obtain ⟨i, j⟩ := c
 obtain ⟨k, l⟩ := d
 obtain ⟨m, n⟩ := f
 have o : e = [.int .u32 ((x.sum.toNat : Nat) : Int)] := g
 exact ⟨a, (by simp [i, k, m, o]), b, j, l, n⟩
theorem hdr_mk {S : Nat → Prop} {w : World} {y0 : CID} {l0 : List Value} (h0 : (cidS).rep S w l0 y0) {y1 : Int} {l1 : List Value} (h1 : (Shape.int .i64).rep S w l1 y1) {y2 : Int} {l2 : List Value} (h2 : (Shape.int .i64).rep S w l2 y2) {y3 : Int} {l3 : List Value} (h3 : (Shape.int .i64).rep S w l3 y3) {y4 : BitVec 32} {l4 : List Value} (h4 : (Shape.bv .u32 32).rep S w l4 y4) : hdrS.rep S w (l0 ++ (l1 ++ (l2 ++ (l3 ++ (l4))))) ⟨y0, y1, y2, y3, y4⟩ := ⟨_, _, rfl, h0, ⟨_, _, rfl, h1, ⟨_, _, rfl, h2, ⟨_, _, rfl, h3, h4⟩⟩⟩⟩
abbrev hdrV (x : Hdr) : List Value := [.int .u64 x.id.version, .I x.id.index, .int .u64 x.id.epoch, .I x.kk, .I x.nn, .I x.size, .int .u32 ((x.sum.toNat : Nat) : Int)]
structure Res where
 code : Int
 version : Int
 nodes : List Int
 epoch : Int
abbrev resV (x : Res) (a0 : Option Addr) (k0 : Nat) : List Value := [.I x.code, .int .u64 x.version, .slice a0 x.nodes.length k0, .int .u64 x.epoch]
structure Wr where
 client : Int
 seq : Int
 key : ByteArray
 heads : List Hdr
 chunks : List (List (BitVec 8))
 nodes : List Int
 acks : List Int
 waited : Int
 limit : Int
 done : Int
structure Conf where
 voters : List Int
 learners : List Int
structure Mem where
 id : Int
 weight : Int
structure AMap where
 epoch : Int
 members : List Mem
structure Cmd where
 kind : Int
 client : Int
 seq : Int
 key : ByteArray
 size : Int
 sum : BitVec 32
 version : Int
 epoch : Int
 group : Int
 node : Int
 up : Bool
 id : CID
 map : AMap
structure Ent where
 index : Int
 term : Int
 kind : Int
 cmd : Cmd
 conf : Conf
structure Msg where
 kind : Int
 frm : Int
 to : Int
 term : Int
 index : Int
 logTerm : Int
 commit : Int
 ctx : Int
 ok : Bool
 force : Bool
 entries : List Ent
 conf : Conf
 head : Hdr
 data : List (BitVec 8)
 client : Int
 seq : Int
 op : Int
 key : ByteArray
 code : Int
 names : List ByteArray
structure Pc where
 index : Int
 data : List (BitVec 8)
def pcS : Shape Pc := (Shape.pair (Shape.int .i64) SB).map fun x => (x.index, x.data)
theorem pc_open {S : Nat → Prop} {w : World} {cs : List Value} {x : Pc} (h : pcS.rep S w cs x) : ∃ a1 : Option Addr, ∃ k1 : Nat, cs = [.I x.index, .slice a1 x.data.length k1] ∧ ((-9223372036854775808) ≤ x.index ∧ x.index ≤ 9223372036854775807) ∧ SB.rep S w [.slice a1 x.data.length k1] x.data := by
 obtain ⟨_, _, rfl, c, h⟩ := h
 have a := h
 obtain ⟨d, e⟩ := c
 obtain ⟨a1, k1, b⟩ := Shape.slice_form' a
 exact ⟨a1, k1, (by simp [d, b]), e, (b ▸ a)⟩
theorem pc_mk {S : Nat → Prop} {w : World} {y0 : Int} {l0 : List Value} (h0 : (Shape.int .i64).rep S w l0 y0) {y1 : List (BitVec 8)} {l1 : List Value} (h1 : SB.rep S w l1 y1) : pcS.rep S w (l0 ++ (l1)) ⟨y0, y1⟩ := ⟨_, _, rfl, h0, h1⟩
structure Chk where
 head : Hdr
 data : List (BitVec 8)
 done : Bool
def chkS : Shape Chk := (Shape.pair hdrS (Shape.pair SB Shape.bool)).map fun x => (x.head, x.data, x.done)
theorem chk_open {S : Nat → Prop} {w : World} {cs : List Value} {x : Chk} (h : chkS.rep S w cs x) : ∃ cs0 : List Value, ∃ a1 : Option Addr, ∃ k1 : Nat, cs = cs0 ++ [.slice a1 x.data.length k1, .bool x.done] ∧ (hdrS).rep S w cs0 x.head ∧ SB.rep S w [.slice a1 x.data.length k1] x.data := by
 obtain ⟨c, _, rfl, d, h⟩ := h
 obtain ⟨_, e, rfl, a, h⟩ := h
 have f := h
 obtain ⟨a1, k1, b⟩ := Shape.slice_form' a
 have g : e = [.bool x.done] := f
 exact ⟨c, a1, k1, (by simp [b, g]), d, (b ▸ a)⟩
theorem chk_mk {S : Nat → Prop} {w : World} {y0 : Hdr} {l0 : List Value} (h0 : (hdrS).rep S w l0 y0) {y1 : List (BitVec 8)} {l1 : List Value} (h1 : SB.rep S w l1 y1) {y2 : Bool} {l2 : List Value} (h2 : (Shape.bool).rep S w l2 y2) : chkS.rep S w (l0 ++ (l1 ++ (l2))) ⟨y0, y1, y2⟩ := ⟨_, _, rfl, h0, ⟨_, _, rfl, h1, h2⟩⟩
abbrev chkV (x : Chk) (a0 : Option Addr) (k0 : Nat) : List Value := [.int .u64 x.head.id.version, .I x.head.id.index, .int .u64 x.head.id.epoch, .I x.head.kk, .I x.head.nn, .I x.head.size, .int .u32 ((x.head.sum.toNat : Nat) : Int), .slice a0 x.data.length k0, .bool x.done]
structure ObjD where
 key : ByteArray
 version : Int
 size : Int
 sum : BitVec 32
 group : Int
 epoch : Int
 nodes : List Int
structure Rd where
 object : ObjD
 kk : Int
 nn : Int
 pieces : List Pc
 bad : List Int
 waited : Int
 limit : Int
 done : Int
structure Shf where
 read : Rd
 to : List Int
 epoch : Int
 write : Wr
 ready : Bool
 done : Int
end Go.Proofs.Ytppcdmbkgficiaa
