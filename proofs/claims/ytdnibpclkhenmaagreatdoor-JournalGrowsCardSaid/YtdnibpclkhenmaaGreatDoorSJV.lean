import Derived.Test.YtdnibpclkhenmaaGreatDoorSBxB
import Derived.Test.YtdnibpclkhenmaaGreatDoorSBxA
import Derived.ProofKit
namespace Go.Proofs.YtdnibpclkhenmaaGreatDoor
open Go.BX Go.ChangeShapes Go.WideShapes Go.ChangeAt Go.RowKit
section
variable {H : Type} {enc : TypeId × Value → H} {P : Program} {W : World}
theorem elem_in {α : Type} {sh : Shape α} {S : Nat → Prop} {t e : TypeId} {sp : Nat → Bool} {hd : Bool} {n : Nat} {a : Option Addr} {len cap : Nat} {x : DataW H × List MemPlace} {xs : List α} (ht : P.underlying t = some (.slice e)) (hc : P.cellsOf e = sh.size)
 (h : DataW.trod enc P W 0 sp hd n t [.slice a len cap] = some x) (hr : sh.slice.rep S W [.slice a len cap] xs) {k : Nat} {y : α} (hk : xs[k]? = some y) :
 ∃ m z cs es rs, x.1 = .slice es rs ∧ z.1 ∈ es ∧ DataW.trod enc P W 0 sp hd m e cs = some z ∧ sh.rep S W cs y := by
 obtain ⟨hl, -, -, hE⟩ := Shape.elems_of hr
 obtain ⟨b, o, es, rfl, -, hcs, hes⟩ := hE k y hk
 have hkl := (List.getElem?_eq_some_iff.1 hk).1
 rcases DataW.trod_slice ht h with ⟨he, _⟩ | ⟨a', len', cap', elems, rest, n', _, he, rfl, _, _, _, hln, hel, _⟩
 · cases he
 · simp only [List.cons.injEq, Value.slice.injEq, Option.some.injEq, and_true] at he
   obtain ⟨rfl, rfl, rfl⟩ := he
   have h1 := hel k (by omega)
   have hke : k < elems.length := by omega
   rw [List.getElem?_eq_getElem hke] at h1
   obtain ⟨cs', h2, h3⟩ := Option.bind_eq_some_iff.1 h1
   obtain ⟨_, hl2, hcell⟩ := World.cells?_some h2
   have hsz := sh.len hes
   have e1 : cs' = es := by
    refine List.ext_getElem? fun j => ?_
    rcases Nat.lt_or_ge j es.length with hj | hj
    · have q1 := hcs j _ (List.getElem?_eq_getElem hj)
      have q2 := hcell j (by omega)
      rw [List.getElem?_eq_getElem hj, ← q2, hc, ← q1]
      simp [addr_lit, Nat.add_assoc]
    · rw [List.getElem?_eq_none hj, List.getElem?_eq_none (by omega)]
   subst e1
   exact ⟨n', elems[k], cs', _, _, rfl, List.mem_map.2 ⟨_, List.getElem_mem hke, rfl⟩, h3, hes⟩
theorem weighAll_mem {e : TypeId} : ∀ {l : List (DataW H)} {d : DataW H}, d ∈ l → ∀ {q : Nat}, q ∈ d.weights P e → q ∈ DataW.weightsAll P e l
 | [], _, h, _, _ => by cases h
 | x :: l, d, h, q, hq => by
  rw [DataW.weightsAll]
  rcases List.mem_cons.1 h with rfl | h
  · exact List.mem_append_left _ hq
  · exact List.mem_append_right _ (weighAll_mem h hq)
theorem weigh_elem {t e : TypeId} (ht : P.underlying t = some (.slice e)) {es rs : List (DataW H)} {d : DataW H} (hd : d ∈ es) {q : Nat} (hq : q ∈ d.weights P e) : q ∈ (DataW.slice es rs).weights P t := by
 rw [DataW.weights, ht]
 exact List.mem_cons_of_mem _ (List.mem_append_left _ (weighAll_mem hd hq))
theorem weigh_len {t e : TypeId} {sp : Nat → Bool} {hd : Bool} {n : Nat} {a : Option Addr} {len cap : Nat} {x : DataW H × List MemPlace} (ht : P.underlying t = some (.slice e)) (hb : P.bytesOf e = 1)
 (h : DataW.trod enc P W 0 sp hd n t [.slice a len cap] = some x) : len = 0 ∨ ∃ q ∈ x.1.weights P t, len ≤ q := by
 rcases DataW.trod_slice ht h with ⟨he, _⟩ | ⟨a', len', cap', elems, rest, n', _, he, rfl, _, _, _, hlen, _⟩
 · simp only [List.cons.injEq, Value.slice.injEq, and_true] at he
   exact .inl he.2.1
 · simp only [List.cons.injEq, Value.slice.injEq, and_true] at he
   obtain ⟨-, rfl, -⟩ := he
   refine .inr ⟨_, by show _ ∈ (DataW.slice _ _).weights P t; rw [DataW.weights, ht]; exact List.mem_cons_self .., ?_⟩
   rw [hb, List.length_map]
   omega
theorem weigh_rows {S : Nat → Prop} {t e u : TypeId} {sp : Nat → Bool} {hd : Bool} {n : Nat} {a : Option Addr} {len cap : Nat} {x : DataW H × List MemPlace} {xs : List (List (BitVec 8))} (ht : P.underlying t = some (.slice e)) (he : P.underlying e = some (.slice u)) (hb : P.bytesOf u = 1) (hc : P.cellsOf e = 1)
 (h : DataW.trod enc P W 0 sp hd n t [.slice a len cap] = some x) (hr : (Shape.slice (Shape.slice (Shape.bv .u8 8))).rep S W [.slice a len cap] xs) (hz : ∀ q ∈ x.1.weights P t, q ≤ 140737488355328) : ∀ y ∈ xs, y.length ≤ 140737488355328 := fun y hy => by
 obtain ⟨k, hk⟩ := List.getElem?_of_mem hy
 obtain ⟨m, z, cs, es, rs, hx, hz1, htr, hrep⟩ := elem_in ht hc h hr hk
 obtain ⟨a2, c2, rfl, -⟩ := hrep
 rcases weigh_len he hb htr with h0 | ⟨q, hq, hle⟩
 · omega
 · rw [hx] at hz
   exact Nat.le_trans hle (hz q (weigh_elem ht hz1 hq))
end
end Go.Proofs.YtdnibpclkhenmaaGreatDoor
