import Derived.Test.YtcodkepdolmmbaaDoorSW6
import Derived.Test.YtcodkepdolmmbaaDoorSBxA
import Derived.ProofKit
import Derived.OpenShut
namespace Go.Proofs.YtcodkepdolmmbaaDoor
open Go.BX Go.ChangeShapes Go.WideShapes Go.ChangeAt Go.RowKit
theorem reads_t29 : Reads Tryd.prog 29 SB := Reads.slice Tryd.underlying29 (by kernel_rfl) (Reads.bv8 Tryd.underlying5)
theorem reads_t31 : Reads Tryd.prog 31 (Shape.slice Shape.str) := Reads.slice Tryd.underlying31 (by kernel_rfl) (Reads.str Tryd.underlying9)
theorem reads_t35 : Reads Tryd.prog 35 (Shape.slice SB) := Reads.slice Tryd.underlying35 (by kernel_rfl) reads_t29
theorem reads_t36 : Reads Tryd.prog 36 (Shape.slice (Shape.int .i64)) := Reads.slice Tryd.underlying36 (by kernel_rfl) (Reads.int Tryd.underlying3)
def bk : Bulk where
 one := Rows.uptoBulk
 all := Rows.uptoBulkAll
 cons := fun d r => by simp [Rows.uptoBulkAll]
 pos := fun d => by
  unfold Rows.uptoBulk
  split <;> omega
 slice := fun a b => by simp [Rows.uptoBulk]
 agg := fun a => by simp [Rows.uptoBulk]
theorem bk_str {H : Type} {enc : TypeId × Value → H} {W : World} {sp : Nat → Bool} {hd : Bool} {t : TypeId} {m : Nat} {s : ByteArray} {x : DataW H × List MemPlace} (ht : Tryd.prog.underlying t = some .string) (h : DataW.trod enc Tryd.prog W 0 sp hd m t [.string s] = some x) : s.size ≤ bk.one x.1 := by
 obtain ⟨s', he, rfl, -⟩ := DataW.trod_string ht h
 simp only [List.cons.injEq, Value.string.injEq, and_true] at he
 subst he
 show s.data.size ≤ Rows.uptoBulk (DataW.lit (H := H) (.string s.data.toList))
 unfold Rows.uptoBulk
 rw [Array.length_toList]
 omega
theorem keys_sz {H : Type} {enc : TypeId × Value → H} {W : World} {S : Nat → Prop} {sp : Nat → Bool} {hd : Bool} {xs : List ByteArray} {a : Option Addr} {c : Nat} {d : DataW H} {p : List MemPlace} (hx : (Shape.slice Shape.str).rep S W [.slice a xs.length c] xs) (h0 : DataW.Trod enc Tryd.prog W 0 sp hd 31 (.slice a xs.length c) d p) (hb : Rows.uptoBulk d ≤ 1048576) : ∀ x ∈ xs, x.size ≤ 1048576 := fun x hxm => by
 obtain ⟨n, h⟩ := h0
 obtain ⟨k, hk, rfl⟩ := List.mem_iff_getElem.1 hxm
 obtain ⟨m2, z2, es, g2, l2, hes⟩ := bk.elem_le Tryd.underlying31 (by kernel_rfl) h hx (List.getElem?_eq_getElem hk)
 obtain ⟨rfl, -⟩ := hes
 exact Nat.le_trans (bk_str Tryd.underlying9 g2) (Nat.le_trans l2 hb)
theorem datas_sz {H : Type} {enc : TypeId × Value → H} {W : World} {S : Nat → Prop} {sp : Nat → Bool} {hd : Bool} {xs : List (List (BitVec 8))} {a : Option Addr} {c : Nat} {d : DataW H} {p : List MemPlace} (hx : (Shape.slice SB).rep S W [.slice a xs.length c] xs) (h0 : DataW.Trod enc Tryd.prog W 0 sp hd 35 (.slice a xs.length c) d p) (hb : Rows.uptoBulk d ≤ 1048576) : ∀ x ∈ xs, x.length ≤ 1048576 := fun x hxm => by
 obtain ⟨n, h⟩ := h0
 obtain ⟨k, hk, rfl⟩ := List.mem_iff_getElem.1 hxm
 obtain ⟨m2, z2, es, g2, l2, hes⟩ := bk.elem_le Tryd.underlying35 (by kernel_rfl) h hx (List.getElem?_eq_getElem hk)
 obtain ⟨a2, k2, rfl⟩ := Shape.slice_form' hes
 exact Nat.le_trans (bk.slice_le Tryd.underlying29 g2) (Nat.le_trans l2 hb)
end Go.Proofs.YtcodkepdolmmbaaDoor
