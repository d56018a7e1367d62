/-
  THE ENGINE: a row of the call's own, read as another shape of the same cells.
  No condition.
-/
import Derived.Test.YtppcdmbkgficiaaBxOwn
namespace Go.BX
section
variable {w0 w : World} {S : Nat → Prop} {O : List Nat} {M : Heap} {W : List OwnS} {G : List Fact}
theorem Hp.shapeW {α β : Type} {sh : Shape α} {sh' : Shape β} {T : TypeId} {v : Value} {xs : List α} {ys : List β} (H : Hp w0 S O M (⟨sh, T, v, xs⟩ :: W) G w) (hz : sh'.size = sh.size) (hl : ys.length = xs.length)
    (hr : ∀ cs, cs.length = xs.length * sh.size → (∀ i x, xs[i]? = some x → sh.rep (Av S w0 O (idsOf M (⟨sh, T, v, xs⟩ :: W))) w ((cs.drop (i * sh.size)).take sh.size) x) → w.ownsRow 0 T sh.size v xs.length cs → ∀ i y, ys[i]? = some y → sh'.rep (Av S w0 O (idsOf M (⟨sh, T, v, xs⟩ :: W))) w ((cs.drop (i * sh.size)).take sh.size) y) :
    Hp w0 S O M (⟨sh', T, v, ys⟩ :: W) G w := by
  have hid : idsOf M (⟨sh', T, v, ys⟩ :: W) = idsOf M (⟨sh, T, v, xs⟩ :: W) := rfl
  refine ⟨H.below, H.own, fun o ho => ?_, by rw [hid]; exact H.nodup, by rw [hid]; exact H.facts⟩
  rcases List.mem_cons.1 ho with rfl | ho
  · have h := H.slc ⟨sh, T, v, xs⟩ (List.mem_cons_self ..)
    obtain ⟨cs, h1, h2, h3⟩ := h.1
    refine ⟨⟨cs, ?_, h2, fun i y hy => ?_⟩, h.2⟩
    · show w.ownsRow 0 T sh'.size v ys.length cs
      rw [hz, hl]
      exact h1
    · show sh'.rep _ w ((cs.drop (i * sh'.size)).take sh'.size) y
      rw [hz, hid]
      exact hr cs h1.1 h3 h1 i y hy
  · rw [hid]
    exact H.slc o (List.mem_cons_of_mem _ ho)
/-- each element with what its cells hold -/
theorem Hp.liftW {α β : Type} {sh : Shape α} {sh' : Shape β} {T : TypeId} {v : Value} {xs : List α} (f : β → α) (H : Hp w0 S O M (⟨sh, T, v, xs⟩ :: W) G w) (hz : sh'.size = sh.size) (hf : ∀ (S : Nat → Prop) (w : World) cs x, sh.rep S w cs x → ∃ y, f y = x ∧ sh'.rep S w cs y) :
    ∃ ys : List β, ys.map f = xs ∧ Hp w0 S O M (⟨sh', T, v, ys⟩ :: W) G w := by
  obtain ⟨cs, h1, h2, h3⟩ := (H.slc ⟨sh, T, v, xs⟩ (List.mem_cons_self ..)).1
  have hch : ∀ i : Nat, i < xs.length → ∃ y : β, (∀ x, xs[i]? = some x → f y = x) ∧ sh'.rep (Av S w0 O (idsOf M (⟨sh, T, v, xs⟩ :: W))) w ((cs.drop (i * sh.size)).take sh.size) y := fun i hi => by
    obtain ⟨y, hy, hr⟩ := hf _ _ _ _ (h3 i xs[i] (List.getElem?_eq_getElem hi))
    exact ⟨y, fun x hx => by rw [List.getElem?_eq_getElem hi] at hx; cases hx; exact hy, hr⟩
  have hlist : ∀ m, m ≤ xs.length → ∃ ys : List β, ys.length = m ∧ ∀ i y, ys[i]? = some y → (∀ x, xs[i]? = some x → f y = x) ∧ sh'.rep (Av S w0 O (idsOf M (⟨sh, T, v, xs⟩ :: W))) w ((cs.drop (i * sh.size)).take sh.size) y := by
    intro m
    induction m with
    | zero => intro _; exact ⟨[], rfl, fun i y h => by simp at h⟩
    | succ m ih =>
      intro hm
      obtain ⟨ys, hl, hy⟩ := ih (by omega)
      obtain ⟨y, h4⟩ := hch m (by omega)
      refine ⟨ys ++ [y], by simp [hl], fun i z hz => ?_⟩
      rcases Nat.lt_or_ge i ys.length with hi | hi
      · rw [List.getElem?_append_left hi] at hz
        exact hy i z hz
      · rw [List.getElem?_append_right hi] at hz
        have : i = m := by
          have := (List.getElem?_eq_some_iff.1 hz).1
          simp at this
          omega
        subst this
        rw [hl] at hz
        simp at hz
        subst hz
        exact h4
  obtain ⟨ys, hl, hy⟩ := hlist xs.length (Nat.le_refl _)
  refine ⟨ys, ?_, ?_⟩
  · apply List.ext_getElem (by simp [hl])
    intro i h4 h5
    rw [List.getElem_map]
    exact (hy i ys[i] (List.getElem?_eq_getElem (by simpa using h4))).1 xs[i] (List.getElem?_eq_getElem h5)
  · have hid : idsOf M (⟨sh', T, v, ys⟩ :: W) = idsOf M (⟨sh, T, v, xs⟩ :: W) := rfl
    refine ⟨H.below, H.own, fun o ho => ?_, by rw [hid]; exact H.nodup, by rw [hid]; exact H.facts⟩
    rcases List.mem_cons.1 ho with rfl | ho
    · refine ⟨⟨cs, ?_, h2, fun i y h => ?_⟩, (H.slc ⟨sh, T, v, xs⟩ (List.mem_cons_self ..)).2⟩
      · show w.ownsRow 0 T sh'.size v ys.length cs
        rw [hz, hl]
        exact h1
      · show sh'.rep _ w ((cs.drop (i * sh'.size)).take sh'.size) y
        rw [hz, hid]
        exact (hy i y h).2
    · rw [hid]
      exact H.slc o (List.mem_cons_of_mem _ ho)
theorem Hp.mapW {α β : Type} {sh : Shape α} {sh' : Shape β} {T : TypeId} {v : Value} {ys : List β} (f : β → α) (H : Hp w0 S O M (⟨sh', T, v, ys⟩ :: W) G w) (hz : sh'.size = sh.size) (hf : ∀ (S : Nat → Prop) (w : World) cs y, sh'.rep S w cs y → sh.rep S w cs (f y)) :
    Hp w0 S O M (⟨sh, T, v, ys.map f⟩ :: W) G w :=
  H.shapeW hz.symm (by simp) fun cs _ hr _ i x hx => by
    rw [List.getElem?_map] at hx
    cases hy : ys[i]? with
    | none => rw [hy] at hx; cases hx
    | some y =>
      rw [hy] at hx
      simp at hx
      subst hx
      exact hf _ _ _ _ (hr i y hy)
end
end Go.BX
