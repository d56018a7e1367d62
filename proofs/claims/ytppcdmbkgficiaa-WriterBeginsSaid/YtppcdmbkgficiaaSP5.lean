import Derived.Test.YtppcdmbkgficiaaSBxA
import Derived.Test.YtppcdmbkgficiaaSP3
namespace Go.Proofs.Ytppcdmbkgficiaa
open Go.BX
structure PsOk (ps : List Pc) (n l : Nat) : Prop where
 nd : (ps.map Pc.index).Nodup
 rng : ∀ p ∈ ps, 0 ≤ p.index ∧ p.index < (n : Int)
 len : ∀ p ∈ ps, p.data.length = l
theorem PsOk.le {ps : List Pc} {n l : Nat} (h : PsOk ps n l) : ps.length ≤ n := by
 have hsub : (ps.map fun p => p.index.toNat) ⊆ List.range n := fun x hx => by
  obtain ⟨p, hp, rfl⟩ := List.mem_map.1 hx
  have := h.rng p hp
  exact List.mem_range.2 (by omega)
 have hnd : (ps.map fun p => p.index.toNat).Nodup := by
  have c := h.nd
  rw [List.Nodup, List.pairwise_map] at c ⊢
  refine c.imp_of_mem fun {a b} ha hb hab => ?_
  have := h.rng a ha
  have := h.rng b hb
  omega
 have d : ((List.range n).filter fun x => decide (x ∈ ps.map fun p => p.index.toNat)).Nodup := List.filter_sublist.nodup List.nodup_range
 have hp := (List.perm_ext_iff_of_nodup hnd d).2 fun x => by
  rw [List.mem_filter, decide_eq_true_iff]
  exact ⟨fun h => ⟨hsub h, h⟩, fun h => h.2⟩
 have c := hp.length_eq
 have e := List.length_filter_le (fun x => decide (x ∈ ps.map fun p => p.index.toNat)) (List.range n)
 rw [List.length_map] at c
 rw [List.length_range] at e
 omega
theorem PsOk.fresh {ps : List Pc} {n l i : Nat} (h : PsOk ps n l) (hi : i < ps.length) : ¬ (ps[i]).index ∈ (ps.take i).map Pc.index := fun hm => by
 have hnd := h.nd
 obtain ⟨q, hq, he⟩ := List.mem_map.1 hm
 obtain ⟨j, hj, rfl⟩ := List.mem_iff_getElem.1 hq
 rw [List.length_take] at hj
 rw [List.getElem_take] at he
 have := (List.getElem_inj (h₀ := by rw [List.length_map]; omega) (h₁ := by rw [List.length_map]; exact hi) hnd (i := j) (j := i)).1 (by rw [List.getElem_map, List.getElem_map]; exact he)
 omega
structure RedOk (s : Nat × List (List (BitVec 8)) × List (List (BitVec 8))) (r d : Nat) : Prop where
 l1 : s.2.1.length = r
 l2 : s.2.2.length = r
 le : s.1 ≤ r
 c2 : ∀ x ∈ s.2.2, x.length = d
end Go.Proofs.Ytppcdmbkgficiaa
