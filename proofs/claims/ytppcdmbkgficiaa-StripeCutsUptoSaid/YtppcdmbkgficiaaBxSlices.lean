/-
  THE ENGINE's SLICES: literals handed on, append, slices of slices.
  No condition.
-/
import Derived.Test.YtppcdmbkgficiaaBxOps
namespace Go.BX
open Go.RowKit (Below)

theorem drop_take_append {α : Type _} {l r : List α} {i n : Nat} (h : i + n ≤ l.length) : ((l ++ r).drop i).take n = (l.drop i).take n := by
  rw [List.drop_append_of_le_length (by omega), List.take_append_of_le_length (by simp; omega)]

/-- the cells of a slice that reads, in one row -/
theorem elems_flat {α : Type} {sh : Shape α} {S : Nat → Prop} {w : World} {a : Option Addr} {xs : List α} (h : Shape.Elems sh S w a xs) (hne : xs ≠ []) :
    ∃ b o news, a = some ⟨b, o, none⟩ ∧ S b ∧ news.length = xs.length * sh.size ∧ Cells w b o news ∧ (∀ v ∈ news, v.oneCell' = true) ∧ ∀ i x, xs[i]? = some x → sh.rep S w ((news.drop (i * sh.size)).take sh.size) x := by
  obtain ⟨x0, xs', rfl⟩ := List.exists_cons_of_ne_nil hne
  obtain ⟨b, o, es0, rfl, hS, _, _⟩ := h 0 x0 rfl
  generalize x0 :: xs' = xs at *
  have all : ∀ n, n ≤ xs.length → ∃ news, news.length = n * sh.size ∧ Cells w b o news ∧ (∀ v ∈ news, v.oneCell' = true) ∧ ∀ i x, i < n → xs[i]? = some x → sh.rep S w ((news.drop (i * sh.size)).take sh.size) x := by
    intro n
    induction n with
    | zero => exact fun _ => ⟨[], by simp, fun j v hj => (by simp at hj), fun v hv => (by cases hv), fun i x hi => (by omega)⟩
    | succ n ih =>
      intro hn
      obtain ⟨news, h1, h2, h3, h4⟩ := ih (by omega)
      obtain ⟨b', o', es, he, _, hc, hr⟩ := h n xs[n] (List.getElem?_eq_getElem (by omega))
      simp only [Option.some.injEq, Addr.mk.injEq, and_true] at he
      obtain ⟨rfl, rfl⟩ := he
      have hl := sh.len hr
      refine ⟨news ++ es, by rw [List.length_append, h1, hl, Nat.succ_mul], fun j v hj => ?_, fun v hv => ?_, fun i x hi hx => ?_⟩
      · rcases Nat.lt_or_ge j news.length with hlt | hge
        · rw [List.getElem?_append_left hlt] at hj; exact h2 j v hj
        · rw [List.getElem?_append_right hge] at hj
          have := hc _ v hj
          rw [h1] at this
          rw [show o + n * sh.size + (j - n * sh.size) = o + j by omega] at this
          exact this
      · rcases List.mem_append.1 hv with hv | hv
        · exact h3 v hv
        · exact sh.ones hr v hv
      · rcases Nat.lt_or_ge i n with hlt | hge
        · have hle : i * sh.size + sh.size ≤ news.length := by
            rw [h1, ← Nat.succ_mul]; exact Nat.mul_le_mul_right _ hlt
          rw [drop_take_append hle]
          exact h4 i x hlt hx
        · obtain rfl : i = n := by omega
          rw [List.drop_append_of_le_length (by omega), List.drop_of_length_le (l := news) (by omega), List.nil_append, ← hl, List.take_length]
          rw [List.getElem?_eq_getElem (by omega)] at hx
          simp only [Option.some.injEq] at hx
          subst hx
          exact hr
  obtain ⟨news, h1, h2, h3, h4⟩ := all xs.length (Nat.le_refl _)
  exact ⟨b, o, news, rfl, hS, h1, h2, h3, fun i x hx => h4 i x (List.getElem?_eq_some_iff.1 hx).1 hx⟩

/-- .. and the other way -/
theorem elems_of_flat {α : Type} {sh : Shape α} {S : Nat → Prop} {w : World} {b o : Nat} {news : List Value} {xs : List α} (hS : S b) (_hl : xs.length * sh.size ≤ news.length) (hc : Cells w b o news)
    (hr : ∀ i x, xs[i]? = some x → sh.rep S w ((news.drop (i * sh.size)).take sh.size) x) : Shape.Elems sh S w (some ⟨b, o, none⟩) xs := by
  intro i x hx
  have hi := (List.getElem?_eq_some_iff.1 hx).1
  refine ⟨b, o, _, rfl, hS, fun j v hj => ?_, hr i x hx⟩
  rw [List.getElem?_take] at hj
  split at hj
  · rw [List.getElem?_drop] at hj
    rw [Nat.add_assoc]; exact hc _ v hj
  · cases hj

section
variable {w0 w w' : World} {S : Nat → Prop} {O : List Nat} {M : Heap} {W : List OwnS} {G : List Fact}

theorem mem_erase_ne {α : Type _} {l : List α} {i : Nat} {y : α} (h : y ∈ l.eraseIdx i) : ∃ j, j ≠ i ∧ l[j]? = some y := by
  obtain ⟨j, hj, hy⟩ := List.mem_iff_getElem.1 h
  rw [List.getElem_eraseIdx] at hy
  have hlt := hj
  rw [List.length_eraseIdx] at hlt
  split at hy
  · rename_i hji
    exact ⟨j, by omega, by rw [List.getElem?_eq_getElem (by split at hlt <;> omega), hy]⟩
  · rename_i hji
    exact ⟨j + 1, by omega, by rw [List.getElem?_eq_getElem (by split at hlt <;> omega), hy]⟩

/-- a literal's block is written no more: it is a slice like any other -/
theorem Hp.freeze (H : Hp w0 S O M W G w) {b : Nat} {c : Array Value} {T : TypeId} {fz : Nat × Nat} (i : Nat) (hm : M[i]? = some (b, .cells c T fz)) {α : Type} (sh : Shape α) (xs : List α) (cap : Nat)
    (hcap : xs.length ≤ cap ∧ cap ≤ maxLen) (hl : xs.length * sh.size ≤ c.toList.length)
    (hr : ∀ j x, xs[j]? = some x → sh.rep (Av S w0 O (idsOf M W)) w ((c.toList.drop (j * sh.size)).take sh.size) x) :
    Hp w0 S O (M.eraseIdx i) W (Rp sh.slice [.slice (some ⟨b, 0, none⟩) xs.length cap] xs :: G) w := by
  have H' := H.drop (List.eraseIdx_sublist M i) (List.Sublist.refl W)
  obtain ⟨n1, n2⟩ := own_ne H hm
  have hb := H.own _ (List.mem_of_getElem? hm)
  have hmono : ∀ k, Av S w0 O (idsOf M W) k → Av S w0 O (idsOf (M.eraseIdx i) W) k := fun k hk => ⟨hk.1, fun hid => hk.2 ((List.Sublist.append ((List.eraseIdx_sublist M i).map _) (List.Sublist.refl _)).subset hid)⟩
  refine H'.add ⟨_, cap, rfl, hcap.1, hcap.2, elems_of_flat ⟨.inr hb.2, fun hid => ?_⟩ hl (Cells.of_block hb.1) fun j x hx => sh.step (hr j x hx) fun k hk _ => ⟨hmono k hk, rfl⟩⟩
  rcases List.mem_append.1 hid with hid | hid
  · obtain ⟨p, hp, he⟩ := List.mem_map.1 hid
    obtain ⟨j, hj, hp⟩ := mem_erase_ne hp
    exact n1 p j hj hp he
  · obtain ⟨o1, ho, hk⟩ := List.mem_flatMap.1 hid
    exact n2 o1 ho hk

theorem Hp.freeze1 (H : Hp w0 S O M W G w) {b : Nat} {c : Array Value} {T : TypeId} {fz : Nat × Nat} (i : Nat) (hm : M[i]? = some (b, .cells c T fz)) {α : Type} (sh : Shape α) (x : α)
    (hr : sh.rep (Av S w0 O (idsOf M W)) w c.toList x) : Hp w0 S O (M.eraseIdx i) W (Rp sh.slice [.slice (some ⟨b, 0, none⟩) 1 1] [x] :: G) w := by
  have hl := sh.len hr
  refine H.freeze i hm sh [x] 1 ⟨Nat.le_refl _, by unfold maxLen; omega⟩ (by simp [hl]) fun j y hy => ?_
  have hj : j = 0 := by have := (List.getElem?_eq_some_iff.1 hy).1; simp at this; exact this
  subst hj
  simp only [List.getElem?_cons_zero, Option.some.injEq] at hy
  subst hy
  simp only [Nat.zero_mul, List.drop_zero]
  rw [← hl, List.take_length]; exact hr

theorem ids_eraseW {M : Heap} {W : List OwnS} (i : Nat) : (idsOf M (W.eraseIdx i)).Sublist (idsOf M W) := List.Sublist.append (List.Sublist.refl _) (sublist_flatMap _ (List.eraseIdx_sublist W i))

theorem ownW_ne (H : Hp w0 S O M W G w) {i : Nat} {o : OwnS} (h : W[i]? = some o) {b : Nat} (hb : b ∈ o.blk) : (∀ p ∈ M, p.1 ≠ b) ∧ ∀ j o1, j ≠ i → W[j]? = some o1 → b ∉ o1.blk := by
  have hnd := H.nodup
  constructor
  · intro p hp e
    exact (List.nodup_append.1 hnd).2.2 b (List.mem_map.2 ⟨p, hp, e⟩) b (List.mem_flatMap.2 ⟨o, List.mem_of_getElem? h, hb⟩) rfl
  · intro j o1 hj ho hb1
    have h2 := (List.nodup_append.1 hnd).2.1
    have key : ∀ (W : List OwnS) (i j : Nat), i < j → W[i]? = some o → W[j]? = some o1 → (W.flatMap (·.blk)).Nodup → b ∈ o.blk → b ∈ o1.blk → False := by
      intro W i j hij hi hj hn h1 h2
      have hW : W = W.take j ++ o1 :: W.drop (j + 1) := by
        have hjl := (List.getElem?_eq_some_iff.1 hj)
        rw [← hjl.2, ← List.drop_eq_getElem_cons hjl.1, List.take_append_drop]
      rw [hW, List.flatMap_append, List.flatMap_cons] at hn
      have hmi : o ∈ W.take j := by
        refine List.mem_of_getElem? (i := i) ?_
        rw [List.getElem?_take, if_pos hij]; exact hi
      exact (List.nodup_append.1 hn).2.2 b (List.mem_flatMap.2 ⟨o, hmi, h1⟩) b (List.mem_append_left _ h2) rfl
    have key2 : ∀ (W : List OwnS) (i j : Nat), i < j → W[i]? = some o1 → W[j]? = some o → (W.flatMap (·.blk)).Nodup → b ∈ o.blk → b ∈ o1.blk → False := by
      intro W i j hij hi hj hn h1 h2
      have hW : W = W.take j ++ o :: W.drop (j + 1) := by
        have hjl := (List.getElem?_eq_some_iff.1 hj)
        rw [← hjl.2, ← List.drop_eq_getElem_cons hjl.1, List.take_append_drop]
      rw [hW, List.flatMap_append, List.flatMap_cons] at hn
      have hmi : o1 ∈ W.take j := by
        refine List.mem_of_getElem? (i := i) ?_
        rw [List.getElem?_take, if_pos hij]; exact hi
      exact (List.nodup_append.1 hn).2.2 b (List.mem_flatMap.2 ⟨o1, hmi, h2⟩) b (List.mem_append_left _ h1) rfl
    rcases Nat.lt_trichotomy i j with hlt | heq | hgt
    · exact key W i j hlt h ho h2 hb hb1
    · exact hj heq.symm
    · exact key2 W j i hgt ho h h2 hb hb1

theorem ownsRow_cells {w : World} {e : TypeId} {size : Nat} {b n cap : Nat} {cs : List Value} (h : w.ownsRow 0 e size (.slice (some ⟨b, 0, none⟩) n cap) n cs) : Cells w b 0 cs := by
  intro j v hj
  have := h.cells (g := b) rfl j v hj
  rw [addr_lit] at this; exact this

/-- a slice of the call's own grows no more -/
theorem Hp.freezeW (H : Hp w0 S O M W G w) (i : Nat) {α : Type} {sh : Shape α} {T : TypeId} {v : Value} {xs : List α} (h : W[i]? = some ⟨sh, T, v, xs⟩) :
    Hp w0 S O M (W.eraseIdx i) (Rp sh.slice [v] xs :: G) w := by
  have H' := H.drop (List.Sublist.refl M) (List.eraseIdx_sublist W i)
  have hm := List.mem_of_getElem? h
  obtain ⟨⟨cs, h1, h2, h3⟩, h4⟩ := H.slc _ hm
  have hmono : ∀ k, Av S w0 O (idsOf M W) k → Av S w0 O (idsOf M (W.eraseIdx i)) k := fun k hk => ⟨hk.1, fun hid => hk.2 ((ids_eraseW i).subset hid)⟩
  refine H'.add ?_
  show sh.slice.rep _ w [v] xs
  simp only at h1 h3
  rcases h1.2 with ⟨hv, hn⟩ | ⟨g, cap, cur, hv, _, hh, hnc, hcm, hcs, htk⟩
  · have hx : xs = [] := List.eq_nil_of_length_eq_zero hn
    subst hx
    rw [hv]; exact Shape.slice_nil
  · have hbk : g ∈ (OwnS.mk sh T v xs).blk := by simp [OwnS.blk, hv]
    obtain ⟨n1, n2⟩ := ownW_ne H h hbk
    have hcells : Cells w g 0 cs := ownsRow_cells (e := T) (size := sh.size) (by rw [← hv]; exact h1)
    subst hv
    refine ⟨_, cap, rfl, hnc, hcm, elems_of_flat ⟨.inr (h4 g hbk), fun hid => ?_⟩ (by rw [h1.1]; exact Nat.le_refl _) hcells fun j x hx => sh.step (h3 j x hx) fun k hk _ => ⟨hmono k hk, rfl⟩⟩
    rcases List.mem_append.1 hid with hid | hid
    · obtain ⟨p, hp, he⟩ := List.mem_map.1 hid
      exact n1 p hp he
    · obtain ⟨o1, ho, hk⟩ := List.mem_flatMap.1 hid
      obtain ⟨j, hj, ho⟩ := mem_erase_ne ho
      exact n2 j o1 hj ho hk

/-- a nil slice is one of the call's own, still to grow -/
theorem Hp.ownNil (H : Hp w0 S O M W G w) {α : Type} (sh : Shape α) (T : TypeId) : Hp w0 S O M (⟨sh, T, .slice none 0 0, []⟩ :: W) G w := by
  have hid : idsOf M ((⟨sh, T, .slice none 0 0, []⟩ : OwnS) :: W) = idsOf M W := by simp [idsOf, OwnS.blk]
  refine ⟨H.below, H.own, fun o ho => ?_, by rw [hid]; exact H.nodup, by rw [hid]; exact H.facts⟩
  rw [hid]
  rcases List.mem_cons.1 ho with rfl | ho
  · exact ⟨⟨[], World.ownsRow_nil _ _ _ _, fun v hv => (by cases hv), fun i x hx => (by simp at hx)⟩, fun b hb => (by simp [OwnS.blk] at hb)⟩
  · exact H.slc o ho

/-- a slice of the call's own has grown, or was written -/
theorem Hp.grow (H : Hp w0 S O M W G w) (i : Nat) {α : Type} {sh : Shape α} {T : TypeId} {v v' : Value} {xs xs' : List α} (h : W[i]? = some ⟨sh, T, v, xs⟩)
    (hg : w.grownBy w' v.ownBlock) (hf : ∀ k, v'.ownBlock = some k → v.ownBlock = some k ∨ w.heap.size ≤ k)
    (hown : ∃ cs, w'.ownsRow 0 T sh.size v' xs'.length cs ∧ (∀ u ∈ cs, u.oneCell' = true) ∧ ∀ j x, xs'[j]? = some x → sh.rep (Av S w0 O (idsOf M W)) w ((cs.drop (j * sh.size)).take sh.size) x) :
    Hp w0 S O M (W.set i ⟨sh, T, v', xs'⟩) G w' := by
  have hm := List.mem_of_getElem? h
  have hlt : i < W.length := (List.getElem?_eq_some_iff.1 h).1
  have hO1 : ∀ b ∈ (OwnS.mk sh T v xs).blk, b ∈ idsOf M W := fun b hb => List.mem_append_right _ (List.mem_flatMap.2 ⟨_, hm, hb⟩)
  have hc : Chg w (OwnS.mk sh T v xs).blk w' := ⟨hg.os, hg.tape, hg.output, hg.size, fun k hk hn => hg.block k hk fun e => hn (OwnS.mem_blk.2 e.symm)⟩
  have hids : ∀ b ∈ idsOf M (W.set i ⟨sh, T, v', xs'⟩), b ∈ idsOf M W ∨ w.heap.size ≤ b := by
    intro b hb
    rcases List.mem_append.1 hb with hb | hb
    · exact .inl (List.mem_append_left _ hb)
    · obtain ⟨o, ho, hb⟩ := List.mem_flatMap.1 hb
      rcases mem_set_cases ho with rfl | ⟨j, hj, ho⟩
      · rcases hf b (OwnS.mem_blk.1 hb) with h' | h'
        · exact .inl (hO1 b (OwnS.mem_blk.2 h'))
        · exact .inr h'
      · exact .inl (List.mem_append_right _ (List.mem_flatMap.2 ⟨o, List.mem_of_getElem? ho, hb⟩))
  have hother : ∀ b, b ∈ (OwnS.mk sh T v' xs').blk → (∀ p ∈ M, p.1 ≠ b) ∧ ∀ j o1, j ≠ i → W[j]? = some o1 → b ∉ o1.blk := by
    intro b hb
    rcases hf b (OwnS.mem_blk.1 hb) with h' | h'
    · exact ownW_ne H h (OwnS.mem_blk.2 h')
    · exact ⟨fun p hp e => by have := (Array.getElem?_eq_some_iff.1 (H.own p hp).1).1; omega, fun j o1 _ ho hb1 => by
        have := OwnS.blk_lt (H.slc o1 (List.mem_of_getElem? ho)).1 b hb1; omega⟩
  have hnd : (idsOf M (W.set i ⟨sh, T, v', xs'⟩)).Nodup := by
    have hn := H.nodup
    refine List.nodup_append.2 ⟨(List.nodup_append.1 hn).1, ?_, fun a ha b hb e => ?_⟩
    · have h2 := (List.nodup_append.1 hn).2.1
      have hW : W = W.take i ++ ⟨sh, T, v, xs⟩ :: W.drop (i + 1) := by
        have hi := List.getElem?_eq_some_iff.1 h
        rw [← hi.2, ← List.drop_eq_getElem_cons hi.1, List.take_append_drop]
      have hW' : W.set i ⟨sh, T, v', xs'⟩ = W.take i ++ ⟨sh, T, v', xs'⟩ :: W.drop (i + 1) := by
        rw [List.set_eq_take_append_cons_drop, if_pos hlt]
      rw [hW', List.flatMap_append, List.flatMap_cons]
      rw [hW, List.flatMap_append, List.flatMap_cons] at h2
      obtain ⟨k1, k2, k3⟩ := List.nodup_append.1 h2
      obtain ⟨k4, k5, k6⟩ := List.nodup_append.1 k2
      have hin : ∀ b ∈ (OwnS.mk sh T v' xs').blk, (∀ o ∈ W.take i, b ∉ o.blk) ∧ ∀ o ∈ W.drop (i + 1), b ∉ o.blk := fun b hb => by
        have h0 := (hother b hb).2
        refine ⟨fun o ho => ?_, fun o ho => ?_⟩
        · obtain ⟨j, hj, hjo⟩ := List.mem_iff_getElem.1 ho
          have hj2 : j < i := by simp at hj; omega
          refine h0 j o (by omega) ?_
          rw [← hjo]
          simp only [List.getElem_take]
          rw [List.getElem?_eq_getElem]
        · obtain ⟨j, hj, hjo⟩ := List.mem_iff_getElem.1 ho
          refine h0 (i + 1 + j) o (by omega) ?_
          rw [← hjo]
          simp only [List.getElem_drop]
          rw [List.getElem?_eq_getElem]
      refine List.nodup_append.2 ⟨k1, List.nodup_append.2 ⟨?_, k5, fun a ha b hb e => ?_⟩, fun a ha b hb e => ?_⟩
      · unfold OwnS.blk
        split <;> simp
      · subst e
        obtain ⟨o, ho, hb⟩ := List.mem_flatMap.1 hb
        exact (hin a ha).2 o ho hb
      · subst e
        obtain ⟨o, ho, ha⟩ := List.mem_flatMap.1 ha
        rcases List.mem_append.1 hb with hb | hb
        · exact (hin a hb).1 o ho ha
        · exact k3 a (List.mem_flatMap.2 ⟨o, ho, ha⟩) a (List.mem_append_right _ hb) rfl
    · subst e
      obtain ⟨o, ho, hb⟩ := List.mem_flatMap.1 hb
      obtain ⟨p, hp, hpa⟩ := List.mem_map.1 ha
      rcases mem_set_cases ho with rfl | ⟨j, hj, ho⟩
      · exact (hother a hb).1 p hp hpa
      · exact (List.nodup_append.1 hn).2.2 a ha a (List.mem_flatMap.2 ⟨o, List.mem_of_getElem? ho, hb⟩) rfl
  have hs : ∀ b, Av S w0 O (idsOf M W) b → b < w.heap.size → Av S w0 O (idsOf M (W.set i ⟨sh, T, v', xs'⟩)) b ∧ w'.heap[b]? = w.heap[b]? := fun b hb hblt =>
    ⟨⟨hb.1, fun hid => by rcases hids b hid with h' | h'; exact hb.2 h'; omega⟩, hc.block b hblt fun ho => hb.2 (hO1 b ho)⟩
  refine H.chg hO1 hc hids hnd (fun b hb => .inr fun c hc e => hc.2 (e ▸ hO1 b hb)) (fun p hp => ?_) (fun o ho => ?_)
  · have := H.own p hp
    rw [hc.block p.1 (Array.getElem?_eq_some_iff.1 this.1).1 fun hb => (ownW_ne H h hb).1 p hp rfl]; exact this.1
  · rcases mem_set_cases ho with rfl | ⟨j, hj, ho⟩
    · obtain ⟨cs, h1, h2, h3⟩ := hown
      exact ⟨cs, h1, h2, fun j x hx => sh.step (h3 j x hx) hs⟩
    · have hmo := List.mem_of_getElem? ho
      refine OwnS.ok_step (H.slc o hmo).1 (fun b hb => hc.block b (OwnS.blk_lt (H.slc o hmo).1 b hb) fun hb1 => (ownW_ne H h hb1).2 j o hj ho hb) hs
end

section
variable {P : Program} {n : Nat} {ds : List Deferred} {ops : Array Oper} {K : Env → World → Prop} {l r : List (Nat × Kd)} {σ : Env} {w : World} {κ : Kd} {d : Option Tmp}
variable {w0 : World} {S : Nat → Prop} {O : List Nat} {M : Heap} {W : List OwnS} {G : List Fact}

/-- what the tables say of a slice's element: its type, its size in cells, in bytes -/
def elemE (P : Program) (T : TypeId) : Option (TypeId × Nat × Nat × Bool) := match P.underlying T with
  | some (.slice e) => match P.info? e with
    | some i => match i.zero with
      | some z => some (e, i.size, i.bytes, Nat.beq z.cells.toList.length i.size)
      | none => none
    | none => none
  | _ => none

theorem elemE_spec {T e : TypeId} {m by_ : Nat} (h : elemE P T = some (e, m, by_, true)) : P.underlying T = some (.slice e) ∧ ∃ i z, P.info? e = some i ∧ i.zero = some z ∧ i.size = m ∧ i.bytes = by_ ∧ z.cells.size = m := by
  unfold elemE at h
  split at h
  · rename_i e' hu
    split at h
    · rename_i i hi
      split at h
      · rename_i z hz
        simp only [Option.some.injEq, Prod.mk.injEq] at h
        obtain ⟨rfl, rfl, rfl, hb⟩ := h
        exact ⟨hu, i, z, hi, hz, rfl, rfl, by simpa using Nat.eq_of_beq_eq_true hb⟩
      · cases h
    · cases h
  · cases h

theorem append_zero_run {T ty e : TypeId} {i : TypeInfo} (hu : P.underlying T = some (.slice e)) (hi : P.info? e = some i) {a a2 : Option Addr} {len cap cap2 : Nat} (hc : len ≤ cap) :
    (Builtin.append_ #[T, T] ty #[.slice a len cap, .slice a2 0 cap2]).run P w = .ok (.slice a len cap) w := by
  have hf : (Builtin.firstCells i.size 0 (.slice a2 0 cap2)).run P w = .ok #[] w := by
    cases a2 <;> simp [Builtin.firstCells, loadCells, loadCellsFrom]
  cases a <;> simp [Builtin.append_, run_underlying hu, sizeOf, typeInfo, hi, Builtin.lenOf, hc, hf, storeCells]

theorem append_own_run {T ty e : TypeId} {m by_ : Nat} (hT : elemE P T = some (e, m, by_, true)) (hm : 0 < m) {v : Value} {k : Nat} {cs : List Value} (hown : w.ownsRow 0 e m v k cs)
    {b o j c : Nat} {news : List Value} (hl : news.length = j * m) (hc : Cells w b o news) (h1 : ∀ u ∈ news, u.oneCell' = true) (h63 : k + j ≤ maxLen) (hby : (k + j) * by_ ≤ 140737488355328) :
    ∃ v' w', (Builtin.append_ #[T, T] ty #[v, .slice (some ⟨b, o, none⟩) j c]).run P w = .ok v' w' ∧ w'.ownsRow 0 e m v' (k + j) (cs ++ news) ∧ w.grownBy w' v.ownBlock ∧
      (∀ g, v'.ownBlock = some g → v.ownBlock = some g ∨ w.heap.size ≤ g) := by
  obtain ⟨hu, i, z, hi, hz, hs, hb, hzs⟩ := elemE_spec hT
  have hn : ∀ q u, news[q]? = some u → w.cell? ((⟨b, o, none⟩ : Addr).add q) = some u := fun q u hq => by rw [addr_lit]; exact hc q u hq
  obtain ⟨v', w', hr, h2, h3, _⟩ := run_append_own w 0 T ty e i z m by_ hu hi hz hs hb hzs hm v k cs hown ⟨b, o, none⟩ j c news hl hn h1 h63 hby (Nat.zero_le _)
  refine ⟨v', w', hr, h2, h3, fun g hg => ?_⟩
  rcases hown.2 with ⟨rfl, rfl⟩ | ⟨g0, cap, cur, rfl, h0, hh, hkc, hcm, hcs, htk⟩
  · have hx : cs = [] := List.eq_nil_of_length_eq_zero (by simpa using hown.1)
    subst hx
    obtain ⟨v2, w2, hr2, h22, _⟩ := run_append_own w w.heap.size T ty e i z m by_ hu hi hz hs hb hzs hm (.slice none 0 0) 0 [] (World.ownsRow_nil _ _ _ _) ⟨b, o, none⟩ j c news hl hn h1 h63 hby (Nat.le_refl _)
    rw [hr] at hr2
    injection hr2 with e1 e2
    subst e1
    exact .inr (h22.lt g hg).1
  · by_cases hroom : k + j ≤ cap
    · have hfit : k * i.size + news.length ≤ cur.size := by rw [hl, hs, hcs, ← Nat.add_mul]; exact Nat.mul_le_mul_right _ hroom
      have hr2 := run_append_room (P := P) w T ty e i hu hi g0 k cap cur hh ⟨b, o, none⟩ j c news (by rw [hs]; exact hl) hn h1 hroom hfit
      rw [hr] at hr2
      injection hr2 with e1 e2
      subst e1
      exact .inl hg
    · have hr2 := run_append_grow (P := P) w T ty e i z hu hi hz ⟨g0, 0, none⟩ k cap cs (by rw [hs]; exact hown.1) (hown.cells (g := g0) rfl) ⟨b, o, none⟩ j c news (by rw [hs]; exact hl) hn (by omega) (by simp only [maxLen] at h63; omega) (by rw [hb]; exact growslice_fits (by omega) hby)
      rw [hr] at hr2
      injection hr2 with e1 e2
      subst e1
      simp only [Value.ownBlock, Option.some.injEq] at hg
      exact .inr (by omega)

theorem ownsRow_form {e : TypeId} {m k : Nat} {v : Value} {cs : List Value} (h : w.ownsRow 0 e m v k cs) : ∃ a c, v = .slice a k c ∧ k ≤ c ∧ c ≤ maxLen := by
  rcases h.2 with ⟨rfl, rfl⟩ | ⟨g, cap, cur, rfl, _, _, h1, h2, _⟩
  · exact ⟨none, 0, rfl, Nat.le_refl _, Nat.zero_le _⟩
  · exact ⟨_, cap, rfl, h1, h2⟩

theorem rep_append {α : Type} {sh : Shape α} {S : Nat → Prop} {w : World} {cs news : List Value} {xs ys : List α} (hl : cs.length = xs.length * sh.size) (hn : news.length = ys.length * sh.size)
    (h1 : ∀ j x, xs[j]? = some x → sh.rep S w ((cs.drop (j * sh.size)).take sh.size) x) (h2 : ∀ j x, ys[j]? = some x → sh.rep S w ((news.drop (j * sh.size)).take sh.size) x) :
    ∀ j x, (xs ++ ys)[j]? = some x → sh.rep S w (((cs ++ news).drop (j * sh.size)).take sh.size) x := by
  intro j x hx
  have _ := hn
  rcases Nat.lt_or_ge j xs.length with hlt | hge
  · rw [List.getElem?_append_left hlt] at hx
    rw [drop_take_append (by rw [hl, ← Nat.succ_mul]; exact Nat.mul_le_mul_right _ hlt)]
    exact h1 j x hx
  · rw [List.getElem?_append_right hge] at hx
    rw [List.drop_append, List.drop_of_length_le (l := cs) (by rw [hl]; exact Nat.mul_le_mul_right _ hge), List.nil_append, hl, ← Nat.sub_mul]
    exact h2 _ x hx

/-- append to a slice of the call's own, of a slice that reads -/
theorem RW.appendW {T ty e : TypeId} {m by_ : Nat} {α : Type} {sh : Shape α} {v : Value} {a2 : Option Addr} {l2 c2 : Nat} {xs ys zs : List α} (hl : look P n ops l σ = some (.seq, semV (Builtin.append_ #[T, T] ty #[v, .slice a2 l2 c2]), d, r))
    (hT : elemE P T = some (e, m, by_, true)) (hm : m = sh.size) (H : Hp w0 S O M W G w) (i : Nat) (hi : W[i]? = some ⟨sh, e, v, xs⟩) (g : Nat) (hg : G[g]? = some (Rp sh.slice [.slice a2 l2 c2] ys))
    (hz : xs ++ ys = zs) (hby : zs.length * by_ ≤ 140737488355328 ∧ zs.length ≤ 9223372036854775807)
    (h : ∀ a c w', Hp w0 S O M (W.set i ⟨sh, e, .slice a zs.length c, zs⟩) G w' → zs.length ≤ c → RW P ops n ds K r (putO d (.slice a zs.length c) σ) w') : RW P ops n ds K l σ w := by
  subst hm
  have hmem := List.mem_of_getElem? hi
  obtain ⟨⟨cs, h1, h2, h3⟩, h4⟩ := H.slc _ hmem
  simp only at h1 h3
  obtain ⟨rfl, hyc, hycm, hE⟩ := Shape.elems_of (H.rp g hg)
  obtain ⟨hu, ti, z, hti, _, hts, _, _⟩ := elemE_spec hT
  obtain ⟨av, cv, hv, hkc, hcm⟩ := ownsRow_form h1
  by_cases hy : ys = []
  · subst hy
    simp only [List.append_nil] at hz
    subst hz
    subst hv
    refine RW.actV hl (semV_run (append_zero_run hu hti hkc)) (h av cv w ?_ hkc)
    have hset : W.set i ⟨sh, e, .slice av xs.length cv, xs⟩ = W := by
      apply List.ext_getElem?
      intro j
      rw [List.getElem?_set]
      split
      · rename_i hij; subst hij; rw [if_pos (List.getElem?_eq_some_iff.1 hi).1, hi]
      · rfl
    rw [hset]; exact H
  · obtain ⟨b, o, news, rfl, hS, hnl, hnc, hn1, hnr⟩ := elems_flat hE hy
    have hlen : zs.length = xs.length + ys.length := by rw [← hz, List.length_append]
    obtain ⟨v', w', hr, hown, hgr, hfr⟩ := append_own_run (ty := ty) (w := w) (c := c2) hT sh.pos h1 hnl hnc hn1 (by unfold maxLen; omega) (by rw [← hlen]; exact hby.1)
    rw [← hlen] at hown
    obtain ⟨a', c', hv', hc', _⟩ := ownsRow_form hown
    subst hv'
    refine RW.actV hl (semV_run hr) (h a' c' w' (H.grow i hi hgr hfr ⟨cs ++ news, hown, fun u hu => ?_, ?_⟩) hc')
    · rcases List.mem_append.1 hu with hu | hu
      · exact h2 u hu
      · exact hn1 u hu
    · subst hz
      exact rep_append h1.1 hnl h3 hnr

/-- append to a slice that has no place yet: a new one -/
theorem append_new_run {T ty e : TypeId} {m by_ : Nat} (hT : elemE P T = some (e, m, by_, true)) {a0 : Option Addr} (ha : a0 = none ∨ ∃ b0, a0 = some ⟨b0, 0, none⟩)
    {b o j c : Nat} {news : List Value} (h0 : 0 < j) (hl : news.length = j * m) (hc : Cells w b o news) (h63 : j ≤ 9223372036854775807) (hby : j * by_ ≤ 140737488355328) :
    ∃ q cc, (Builtin.append_ #[T, T] ty #[.slice a0 0 0, .slice (some ⟨b, o, none⟩) j c]).run P w = .ok (.slice (some ⟨w.heap.size, 0, none⟩) j cc) (w.drew.alloc (.cells (news.toArray ++ q) e)) ∧ j ≤ cc ∧ cc ≤ maxLen := by
  obtain ⟨hu, i, z, hi, hz, hs, hb, hzs⟩ := elemE_spec hT
  have hn : ∀ q u, news[q]? = some u → w.cell? ((⟨b, o, none⟩ : Addr).add q) = some u := fun q u hq => by rw [addr_lit]; exact hc q u hq
  rcases ha with rfl | ⟨b0, rfl⟩
  · exact ⟨_, _, run_append_nil (P := P) w T ty e i z hu hi hz ⟨b, o, none⟩ j c news (by rw [hs]; exact hl) hn h0 (by omega) (by rw [hb]; omega), grownCap_ge _ _ _ _, grownCap_le_maxLen _ _ _ _ (by unfold maxLen; omega)⟩
  · have hg := run_append_grow (P := P) w T ty e i z hu hi hz ⟨b0, 0, none⟩ 0 0 [] (by simp) (fun j v hj => by simp at hj) ⟨b, o, none⟩ j c news (by rw [hs]; exact hl) hn (by omega) (by omega)
      (by rw [hb]; exact growslice_fits (by omega) (by simpa using hby))
    simp only [Nat.zero_add] at hg
    exact ⟨Builtin.zeroCells z.cells (grownCap w j 0 e - j), _, by simpa using hg, grownCap_ge _ _ _ _, grownCap_le_maxLen _ _ _ _ (by unfold maxLen; omega)⟩

theorem RW.appendN {T ty e : TypeId} {m by_ : Nat} {α : Type} {sh : Shape α} {a0 a2 : Option Addr} {l2 c2 : Nat} {ys : List α} (hl : look P n ops l σ = some (κ, semV (Builtin.append_ #[T, T] ty #[.slice a0 0 0, .slice a2 l2 c2]), d, r)) (hκ : κ ≠ .qui)
    (ha : a0 = none ∨ ∃ b0, a0 = some ⟨b0, 0, none⟩) (hT : elemE P T = some (e, m, by_, true)) (hm : m = sh.size) (H : Hp w0 S O M W G w) (g : Nat) (hg : G[g]? = some (Rp sh.slice [.slice a2 l2 c2] ys))
    (hby : ys.length * by_ ≤ 140737488355328)
    (h : ∀ a c w', Hp w0 S O M W (Rp sh.slice [.slice a ys.length c] ys :: G) w' → RW P ops n ds K r (putO d (.slice a ys.length c) σ) w') : RW P ops n ds K l σ w := by
  subst hm
  have hrp := H.rp g hg
  obtain ⟨rfl, hyc, hycm, hE⟩ := Shape.elems_of hrp
  obtain ⟨hu, ti, z, hti, _, hts, _, _⟩ := elemE_spec hT
  by_cases hy : ys = []
  · subst hy
    exact RW.makeS hl hκ (semV_run (append_zero_run hu hti (Nat.le_refl _))) (Ext.refl w) (h a0 0 w (H.add ⟨a0, 0, rfl, Nat.le_refl _, Nat.zero_le _, fun i x hx => by simp at hx⟩))
  · obtain ⟨b, o, news, rfl, hS, hnl, hnc, hn1, hnr⟩ := elems_flat hE hy
    have hpos : 0 < ys.length := List.length_pos_iff.2 hy
    obtain ⟨q, cc, hr, hcc, hccm⟩ := append_new_run (ty := ty) (w := w) (c := c2) hT ha hpos hnl hnc (by unfold maxLen at hycm; omega) hby
    have he : Ext w (w.drew.alloc (.cells (news.toArray ++ q) e)) := ⟨rfl, rfl, rfl, by simp, fun k hk => by
      show (w.drew.heap.push _)[k]? = _
      rw [Array.getElem?_push, if_neg (by show ¬ k = w.heap.size; omega)]; rfl⟩
    refine RW.makeS hl hκ (semV_run hr) he (h _ cc _ ((H.ext he).add ⟨_, cc, rfl, hcc, hccm, elems_of_flat (news := news) ⟨.inr (.inl H.below.size), fun hid => by have := (H.ids_lt _ hid).1; omega⟩ (by rw [hnl]; exact Nat.le_refl _) ?_ fun i x hx => sh.step (hnr i x hx) fun k hk hlt => ⟨hk, Below.block he k hlt⟩⟩))
    have hblk : (w.drew.alloc (.cells (news.toArray ++ q) e)).heap[w.heap.size]? = some (.cells (news.toArray ++ q) e) := heap_alloc_new w.drew _
    intro j v hj
    refine (Cells.of_block hblk) j v ?_
    simp only [Array.toList_append]
    rw [List.getElem?_append_left (List.getElem?_eq_some_iff.1 hj).1]; exact hj

/-- a slice of a slice -/
theorem sliceBound_run {k : IntKind} {i y : Nat} {code : BoundsCode} (h : i ≤ y) : (Instr.sliceBound (.int k (i : Int)) y code).run P w = .ok i w := by
  simp [Instr.sliceBound, asIntOf, h]

def loOk (v : Option Value) (i : Nat) : Prop := (v = none ∧ i = 0) ∨ ∃ k, v = some (.int k (i : Int))
def hiOk (v : Option Value) (len i : Nat) : Prop := (v = none ∧ i = len) ∨ ∃ k, v = some (.int k (i : Int))
theorem loOk.nil : loOk none 0 := .inl ⟨rfl, rfl⟩
theorem loOk.mk {k : IntKind} {t : Int} {i : Nat} (h : t = (i : Int)) : loOk (some (.int k t)) i := .inr ⟨k, by rw [h]⟩
theorem hiOk.nil {len : Nat} : hiOk none len len := .inl ⟨rfl, rfl⟩
theorem hiOk.mk {k : IntKind} {t : Int} {len i : Nat} (h : t = (i : Int)) : hiOk (some (.int k t)) len i := .inr ⟨k, by rw [h]⟩

theorem sliceAt_run {T e : TypeId} {m : Nat} (hT : sliceE P T = some (e, m)) {a : Option Addr} {len cap lo hi : Nat} {lv hv : Option Value} (h1 : loOk lv lo) (h2 : hiOk hv len hi) (hlh : lo ≤ hi) (hhc : hi ≤ cap) :
    (Instr.sliceAt T (.slice a len cap) lv hv none).run P w = .ok (.slice (if cap = lo then a else a.map (·.add (lo * m))) (hi - lo) (cap - lo)) w := by
  obtain ⟨hu, i, hti, hm⟩ := sliceE_spec hT
  have hb2 : ∀ (k : IntKind) (code : BoundsCode), (Instr.sliceBound (.int k (hi : Int)) cap code).run P w = .ok hi w := fun k code => sliceBound_run hhc
  have hb1 : ∀ (k : IntKind) (code : BoundsCode), (Instr.sliceBound (.int k (lo : Int)) hi code).run P w = .ok lo w := fun k code => sliceBound_run hlh
  rcases h1 with ⟨rfl, rfl⟩ | ⟨k1, rfl⟩ <;> rcases h2 with ⟨rfl, rfl⟩ | ⟨k2, rfl⟩
  all_goals simp [Instr.sliceAt, Instr.slice, Instr.sliceBounds, run_underlying hu, sizeOf, typeInfo, hti, hm, hb1, hb2]

theorem elems_slice {α : Type} {sh : Shape α} {S : Nat → Prop} {a : Option Addr} {xs : List α} {lo hi cap : Nat} (h : Shape.Elems sh S w a xs) (hc : xs.length ≤ cap) :
    Shape.Elems sh S w (if cap = lo then a else a.map (·.add (lo * sh.size))) ((xs.take hi).drop lo) := by
  intro i x hx
  rw [List.getElem?_drop, List.getElem?_take] at hx
  split at hx
  · have hlt := (List.getElem?_eq_some_iff.1 hx).1
    rw [if_neg (by omega)]
    obtain ⟨b, o, es, rfl, hS, hcl, hr⟩ := h _ x hx
    refine ⟨b, o + lo * sh.size, es, by simp [addr_lit], hS, ?_, hr⟩
    rw [Nat.add_mul] at hcl
    rw [Nat.add_assoc]; exact hcl
  · cases hx

theorem RW.slice {T e : TypeId} {α : Type} {sh : Shape α} {a : Option Addr} {len cap : Nat} {xs zs : List α} {lv hv : Option Value} (hl : look P n ops l σ = some (κ, semV (Instr.sliceAt T (.slice a len cap) lv hv none), d, r))
    (hT : sliceE P T = some (e, sh.size)) (H : Hp w0 S O M W G w) (g : Nat) (hg : G[g]? = some (Rp sh.slice [.slice a len cap] xs)) (lo hi : Nat) (h1 : loOk lv lo) (h2 : hiOk hv len hi) (hlh : lo ≤ hi) (hhc : hi ≤ xs.length)
    (hz : (xs.take hi).drop lo = zs)
    (h : ∀ a', Hp w0 S O M W (Rp sh.slice [.slice a' zs.length (cap - lo)] zs :: G) w → RW P ops n ds K r (putO d (.slice a' zs.length (cap - lo)) σ) w) : RW P ops n ds K l σ w := by
  obtain ⟨rfl, hyc, hycm, hE⟩ := Shape.elems_of (H.rp g hg)
  have hlen : hi - lo = zs.length := by rw [← hz]; simp; omega
  have hr := fun w' => sliceAt_run (P := P) (w := w') hT (a := a) h1 h2 hlh (show hi ≤ cap by omega)
  rw [hlen] at hr
  refine RW.readS hl (fun w' _ => semV_run (hr w')) (h _ (H.add ⟨_, cap - lo, rfl, by omega, by omega, ?_⟩))
  rw [← hz]; exact elems_slice hE hyc

end
end Go.BX
