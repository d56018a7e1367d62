import Derived.Test.YtcodkepdolmmbaaDoorSW6
import Derived.Test.YtcodkepdolmmbaaDoorSBxA
import Derived.ProofKit
import Derived.OpenShut
namespace Go.Proofs.YtcodkepdolmmbaaDoor
open Go.BX Go.ChangeShapes Go.WideShapes Go.ChangeAt Go.RowKit
theorem reads_t29 : Reads Tryd.prog 29 SB := Reads.slice Tryd.underlying29 (by kernel_rfl) (Reads.bv8 Tryd.underlying5)
theorem reads_t31 : Reads Tryd.prog 31 (Shape.slice Shape.str) := Reads.slice Tryd.underlying31 (by kernel_rfl) (Reads.str Tryd.underlying9)
theorem reads_wop : Reads Tryd.prog 33 wopS := (Reads.struct (sh := (Shape.pair (Shape.int .u64) (Shape.pair (Shape.int .u64) (Shape.pair (Shape.int .i64) (Shape.pair Shape.str (Shape.pair SB (Shape.pair (Shape.int .i64) (Shape.pair SB (Shape.pair (Shape.slice Shape.str) (Shape.pair (Shape.int .i64) (Shape.int .i64))))))))))) Tryd.underlying33 (by kernel_rfl) (.cons (by kernel_rfl) (by kernel_rfl) (Reads.int Tryd.underlying27) (.cons (by kernel_rfl) (by kernel_rfl) (Reads.int Tryd.underlying27) (.cons (by kernel_rfl) (by kernel_rfl) (Reads.int Tryd.underlying28) (.cons (by kernel_rfl) (by kernel_rfl) (Reads.str Tryd.underlying9) (.cons (by kernel_rfl) (by kernel_rfl) reads_t29 (.cons (by kernel_rfl) (by kernel_rfl) (Reads.int Tryd.underlying30) (.cons (by kernel_rfl) (by kernel_rfl) reads_t29 (.cons (by kernel_rfl) (by kernel_rfl) reads_t31 (.cons (by kernel_rfl) (by kernel_rfl) (Reads.int Tryd.underlying3) (.one (by kernel_rfl) (by kernel_rfl) (Reads.int Tryd.underlying3)))))))))))).map fun a => ⟨⟨a.1, a.2.1, a.2.2.1, a.2.2.2.1, a.2.2.2.2.1, a.2.2.2.2.2.1, a.2.2.2.2.2.2.1, a.2.2.2.2.2.2.2.1, a.2.2.2.2.2.2.2.2.1, a.2.2.2.2.2.2.2.2.2⟩, rfl⟩
theorem reads_t22 : Reads Tryd.prog 22 (Shape.slice wopS) := Reads.slice Tryd.underlying22 (by kernel_rfl) reads_wop
def bk : Bulk where
 one := Rows.uptoBulk
 all := Rows.uptoBulkAll
 cons := fun d r => by simp [Rows.uptoBulkAll]
 pos := fun d => by
  unfold Rows.uptoBulk
  split <;> omega
 slice := fun a b => by simp [Rows.uptoBulk]
 agg := fun a => by simp [Rows.uptoBulk]
theorem bk_str {H : Type} {enc : TypeId × Value → H} {W : World} {sp : Nat → Bool} {hd : Bool} {t : TypeId} {m : Nat} {s : ByteArray} {x : DataW H × List MemPlace} (ht : Tryd.prog.underlying t = some .string) (h : DataW.trod enc Tryd.prog W 0 sp hd m t [.string s] = some x) : s.size ≤ bk.one x.1 := by
 obtain ⟨s', he, rfl, -⟩ := DataW.trod_string ht h
 simp only [List.cons.injEq, Value.string.injEq, and_true] at he
 subst he
 show s.data.size ≤ Rows.uptoBulk (DataW.lit (H := H) (.string s.data.toList))
 unfold Rows.uptoBulk
 rw [Array.length_toList]
 omega
theorem wop_bulk {H : Type} {enc : TypeId × Value → H} {W : World} {S : Nat → Prop} {sp : Nat → Bool} {hd : Bool} {m : Nat} {x : Wop} {cs : List Value} {z : DataW H × List MemPlace} (hx : wopS.rep S W cs x) (h : DataW.trod enc Tryd.prog W 0 sp hd m 33 cs = some z) : x.key.size ≤ bk.one z.1 ∧ x.data.length ≤ bk.one z.1 := by
 obtain ⟨a4x, k4x, a6x, k6x, a7x, k7x, rfl, h0x, h1x, h2x, h3x, h4x, h5x, h6x, h7x, h8x, h9x⟩ := wop_open hx
 obtain ⟨m1, y1, g1, l1⟩ := bk.field_le Tryd.underlying33 h 3 rfl
 change DataW.trod enc Tryd.prog W 0 sp hd m1 9 (([.int .u64 x.client, .int .u64 x.seq, .I x.kind, .string x.key, .slice a4x x.data.length k4x, .I x.code, .slice a6x x.answer.length k6x, .slice a7x x.names.length k7x, .I x.beg, .I x.fin].drop 3).take (Tryd.prog.cellsOf 9)) = _ at g1
 rw [show Tryd.prog.cellsOf 9 = 1 from by kernel_rfl] at g1
 have q1 := bk_str Tryd.underlying9 g1
 obtain ⟨m2, y2, g2, l2⟩ := bk.field_le Tryd.underlying33 h 4 rfl
 change DataW.trod enc Tryd.prog W 0 sp hd m2 29 (([.int .u64 x.client, .int .u64 x.seq, .I x.kind, .string x.key, .slice a4x x.data.length k4x, .I x.code, .slice a6x x.answer.length k6x, .slice a7x x.names.length k7x, .I x.beg, .I x.fin].drop 4).take (Tryd.prog.cellsOf 29)) = _ at g2
 rw [show Tryd.prog.cellsOf 29 = 1 from by kernel_rfl] at g2
 have q2 := bk.slice_le Tryd.underlying29 g2
 exact ⟨(Nat.le_trans q1 l1), (Nat.le_trans q2 l2)⟩
theorem wop_szH {H : Type} {enc : TypeId × Value → H} {W : World} {S : Nat → Prop} {sp : Nat → Bool} {hd : Bool} {hs : List Wop} {a : Option Addr} {c : Nat} {d : DataW H} {p : List MemPlace} (hx : (Shape.slice wopS).rep S W [.slice a hs.length c] hs) (h0 : DataW.Trod enc Tryd.prog W 0 sp hd 22 (.slice a hs.length c) d p) (hb : Rows.uptoBulk d ≤ 1048576) : szH hs ∧ hs.length ≤ 1048576 := by
 obtain ⟨n, h⟩ := h0
 have hbd : bk.one d ≤ 1048576 := hb
 refine ⟨fun x hxm => ?_, ?_⟩
 · obtain ⟨k, hk, rfl⟩ := List.mem_iff_getElem.1 hxm
   obtain ⟨m2, z2, es, g2, l2, hes⟩ := bk.elem_le Tryd.underlying22 (by kernel_rfl) h hx (List.getElem?_eq_getElem hk)
   obtain ⟨c1, c2⟩ := wop_bulk hes g2
   exact ⟨Nat.le_trans c1 (Nat.le_trans l2 hbd), Nat.le_trans c2 (Nat.le_trans l2 hbd)⟩
 · exact Nat.le_trans (bk.slice_le Tryd.underlying22 h) hbd
end Go.Proofs.YtcodkepdolmmbaaDoor
