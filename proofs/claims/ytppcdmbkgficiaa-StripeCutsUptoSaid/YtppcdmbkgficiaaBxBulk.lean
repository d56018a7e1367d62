/-
  THE ENGINE's BRIDGE, WITH A MEASURE: a row is not longer than the measure of what it reads as.
  No condition.
-/
import Derived.Test.YtppcdmbkgficiaaBxBridge
namespace Go.BX
open Go.ChangeShapes Go.WideShapes Go.ChangeAt Go.RowKit

/-- a measure of readings, by its equations -/
structure Bulk where
  one : ∀ {H : Type}, DataW H → Nat
  all : ∀ {H : Type}, List (DataW H) → Nat
  cons : ∀ {H : Type} (d : DataW H) r, all (d :: r) = one d + all r
  pos : ∀ {H : Type} (d : DataW H), 1 ≤ one d
  slice : ∀ {H : Type} (a b : List (DataW H)), one (.slice a b) = all a + all b + 1
  agg : ∀ {H : Type} (a : List (DataW H)), one (.agg a) = all a + 1

theorem Bulk.len (B : Bulk) {H : Type} : ∀ l : List (DataW H), l.length ≤ B.all l
  | [] => Nat.zero_le _
  | d :: r => by
    rw [B.cons, List.length_cons]
    have := B.len r
    have := B.pos d
    omega
theorem Bulk.get (B : Bulk) {H : Type} : ∀ {l : List (DataW H)} {i : Nat} {d : DataW H}, l[i]? = some d → B.one d ≤ B.all l
  | [], i, d, h => by simp at h
  | x :: r, 0, d, h => by
    rw [B.cons]
    simp only [List.getElem?_cons_zero, Option.some.injEq] at h
    subst h; omega
  | x :: r, i + 1, d, h => by
    rw [B.cons]
    have := B.get (l := r) (i := i) (by simpa using h)
    omega

section
variable {H : Type} {enc : TypeId × Value → H} {P : Program} {W : World}
theorem Bulk.slice_le (B : Bulk) {t e : TypeId} {sp : Nat → Bool} {hd : Bool} {n : Nat} {a : Option Addr} {len cap : Nat} {x : DataW H × List MemPlace} (ht : P.underlying t = some (.slice e))
    (h : DataW.trod enc P W 0 sp hd n t [.slice a len cap] = some x) : len ≤ B.one x.1 := by
  rcases DataW.trod_slice ht h with ⟨he, _⟩ | ⟨a', len', cap', elems, rest, n', _, he, rfl, _, _, _, _, hlen, _⟩
  · simp only [List.cons.injEq, Value.slice.injEq, and_true] at he
    obtain ⟨-, rfl, -⟩ := he
    exact Nat.zero_le _
  · simp only [List.cons.injEq, Value.slice.injEq, and_true] at he
    obtain ⟨-, rfl, -⟩ := he
    have := B.len (elems.map (·.1))
    rw [List.length_map] at this
    show len ≤ B.one (.slice _ _)
    rw [B.slice]; omega
theorem Bulk.field_le (B : Bulk) {t : TypeId} {fs : Array Field} {sp : Nat → Bool} {hd : Bool} {n : Nat} {cs : List Value} {x : DataW H × List MemPlace} (ht : P.underlying t = some (.struct fs))
    (h : DataW.trod enc P W 0 sp hd n t cs = some x) (i : Nat) {f : Field} (hf : fs[i]? = some f) :
    ∃ m y, DataW.trod enc P W 0 sp hd m f.type ((cs.drop f.offset).take (P.cellsOf f.type)) = some y ∧ B.one y.1 ≤ B.one x.1 := by
  obtain ⟨xs, m, _, rfl, _, hlen, hall⟩ := DataW.trod_struct ht h
  have hi : i < xs.length := by
    have := (Array.getElem?_eq_some_iff.1 hf).1
    omega
  refine ⟨m, xs[i], by rw [hall i f hf, List.getElem?_eq_getElem hi], ?_⟩
  show B.one xs[i].1 ≤ B.one (.agg _)
  rw [B.agg]
  have := B.get (l := xs.map (·.1)) (i := i) (d := xs[i].1) (by simp [hi])
  omega
end
end Go.BX
