/-
 THE ENGINE's slices.Delete: an append into the same block, and a clear, on a block of the call's own.
 No condition.
-/
import Derived.Test.YtppcdmbkgficiaaGreatSBxMap
namespace Go.BX
open Go.RowKit (Below)
section
variable {P : Program} {n : Nat} {ds : List Deferred} {ops : Array Oper} {K : Env → World → Prop} {l r : List (Nat × Kd)} {σ : Env} {w : World} {κ : Kd} {d : Option Tmp}
variable {w0 : World} {S : Nat → Prop} {O : List Nat} {M : Heap} {W : List OwnS} {G : List Fact}
theorem RW.clearR {T e Tb ty : TypeId} {m : Nat} {b o1 l1 c1 : Nat} {c : Array Value} (hl : look P n ops l σ = some (.seq, semV (Builtin.clear_ #[T] ty #[.slice (some ⟨b, o1, none⟩) l1 c1]), d, r)) (hT : sliceE P T = some (e, m)) (hz : zeroOk P e m = true)
 (H : Hp w0 S O M W G w) (i : Nat) (hi : M[i]? = some (b, .cells c Tb (0, 0))) (o : Nat) (hs : 0 < l1 → o1 = o) (hfit : o + l1 * m ≤ c.size)
 (h : ∀ (c' : Array Value) w', c'.size = c.size → c'.toList.take o = c.toList.take o → Hp w0 S O (M.set i (b, .cells c' Tb (0, 0))) W G w' → RW P ops n ds K r (putO d (.tuple #[]) σ) w') : RW P ops n ds K l σ w := by
 have hb := (H.own _ (List.mem_of_getElem? hi)).1
 obtain ⟨hu, ti, hti, hm⟩ := sliceE_spec hT
 by_cases h0 : l1 = 0
 · subst h0
   have hr : (Builtin.clear_ #[T] ty #[.slice (some ⟨b, o1, none⟩) 0 c1]).run P w = .ok (.tuple #[]) w := by
    simp [Builtin.clear_, run_underlying hu]
   have hset : M.set i (b, .cells c Tb (0, 0)) = M := by
    apply List.ext_getElem?
    intro j
    rw [List.getElem?_set]
    split
    · rename_i hij; subst hij; rw [if_pos (List.getElem?_eq_some_iff.1 hi).1, hi]
    · rfl
   exact RW.actV hl (semV_run hr) (h c w rfl rfl (by rw [hset]; exact H))
 · obtain rfl := hs (by omega)
   unfold zeroOk at hz
   rw [hti] at hz
   simp only at hz
   cases hzz : ti.zero with
   | none => rw [hzz] at hz; cases hz
   | some z =>
    rw [hzz] at hz
    simp only [Bool.and_eq_true] at hz
    have e1 := Nat.eq_of_beq_eq_true hz.1.2
    simp only [Array.length_toList] at e1
    have hsz : (Builtin.zeroCells z.cells l1).toList.length = l1 * m := by rw [Array.length_toList, size_zeroCells, e1]
    have hst := run_storeCells_at P b o1 Tb (Builtin.zeroCells z.cells l1).toList 0 c w hb (by rw [hsz]; omega) (zeroCells_ones hz.2)
    simp only [Nat.add_zero] at hst
    rw [setRow_put hb, hsz] at hst
    have hr : (Builtin.clear_ #[T] ty #[.slice (some ⟨b, o1, none⟩) l1 c1]).run P w = .ok (.tuple #[]) { w with heap := w.heap.setIfInBounds b (.cells (c.toList.take o1 ++ (Builtin.zeroCells z.cells l1).toList ++ c.toList.drop (o1 + l1 * m)).toArray Tb (0, 0)) } := by
     cases l1 with
     | zero => exact absurd rfl h0
     | succ l1 => simp [Builtin.clear_, run_underlying hu, zeroValue, typeInfo, hti, hzz, hst]
    have hcl : c.toList.length = c.size := by simp
    refine RW.actV hl (semV_run hr) (h _ _ ?_ ?_ (H.put i hi _))
    · rw [List.size_toArray, List.length_append, List.length_append, hsz, List.length_take, List.length_drop]; omega
    · rw [List.toList_toArray, List.append_assoc, List.take_append_of_le_length (by rw [List.length_take]; omega), List.take_take, Nat.min_self]
end
end Go.BX
