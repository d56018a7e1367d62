/-
  THE ENGINE, MORE: an append to an empty literal, whose result is the call's own; calls among reads that hold.
  No condition.
-/
import Derived.Test.YtghnicaefbdjfaaBxDel
import Derived.Test.YtghnicaefbdjfaaBxHeld
namespace Go.BX
open Go.RowKit (Below)

section
variable {P : Program} {n : Nat} {ds : List Deferred} {ops : Array Oper} {K : Env → World → Prop} {σ : Env} {w : World} {l r : List (Nat × Kd)} {d : Option Tmp} {κ : Kd}
variable {w0 : World} {S : Nat → Prop} {O : List Nat} {M : Heap} {W : List OwnS} {G : List Fact}

/-- append to an own slice that has no place: nothing that was there turns -/
theorem RW.appendO {T ty e : TypeId} {m by_ : Nat} {α : Type} {sh : Shape α} {a0 a2 : Option Addr} {l2 c2 : Nat} {ys : List α} (hl : look P n ops l σ = some (κ, semV (Builtin.append_ #[T, T] ty #[.slice a0 0 0, .slice a2 l2 c2]), d, r)) (hκ : κ ≠ .qui)
    (ha : a0 = none ∨ ∃ b0, a0 = some ⟨b0, 0, none⟩) (hT : elemE P T = some (e, m, by_, true)) (hm : m = sh.size) (H : Hp w0 S O M W G w) (i : Nat) (hi : W[i]? = some ⟨sh, e, .slice a0 0 0, []⟩) (g : Nat) (hg : G[g]? = some (Rp sh.slice [.slice a2 l2 c2] ys))
    (hby : ys.length * by_ ≤ 140737488355328)
    (h : ∀ a c w', Hp w0 S O M (W.set i ⟨sh, e, .slice a ys.length c, ys⟩) G w' → ys.length ≤ c → RW P ops n ds K r (putO d (.slice a ys.length c) σ) w') : RW P ops n ds K l σ w := by
  subst hm
  have hmem := List.mem_of_getElem? hi
  obtain ⟨⟨cs, h1, h2, h3⟩, h4⟩ := H.slc _ hmem
  simp only at h1 h3
  obtain ⟨rfl, hyc, hycm, hE⟩ := Shape.elems_of (H.rp g hg)
  obtain ⟨hu, ti, z, hti, _, hts, _, _⟩ := elemE_spec hT
  by_cases hy : ys = []
  · subst hy
    refine RW.makeS hl hκ (semV_run (append_zero_run hu hti (Nat.le_refl _))) (Ext.refl w) (h a0 0 w ?_ (Nat.le_refl _))
    have hset : W.set i ⟨sh, e, .slice a0 ([] : List α).length 0, []⟩ = W := by
      apply List.ext_getElem?
      intro j
      rw [List.getElem?_set]
      split
      · rename_i hij; subst hij; rw [if_pos (List.getElem?_eq_some_iff.1 hi).1, hi]; rfl
      · rfl
    rw [hset]; exact H
  · obtain ⟨b, o, news, rfl, hS, hnl, hnc, hn1, hnr⟩ := elems_flat hE hy
    have hpos : 0 < ys.length := List.length_pos_iff.2 hy
    obtain ⟨v', w', hr, hown, hgr, hfr⟩ := append_own_run (ty := ty) (w := w) (c := c2) hT sh.pos h1 hnl hnc hn1 (by simp only [List.length_nil, maxLen]; unfold maxLen at hycm; omega) (by simpa using hby)
    obtain ⟨q, cc, hr2, _, _⟩ := append_new_run (ty := ty) (w := w) (c := c2) hT ha hpos hnl hnc (by unfold maxLen at hycm; omega) hby
    have hr' := hr
    rw [hr2] at hr'
    injection hr' with e1 e2
    have he : Ext w w' := by
      rw [← e2]
      exact ⟨rfl, rfl, rfl, by simp, fun k hk => by
        show (w.drew.heap.push _)[k]? = _
        rw [Array.getElem?_push, if_neg (by show ¬ k = w.heap.size; omega)]; rfl⟩
    obtain ⟨a', c', hv', hc', _⟩ := ownsRow_form hown
    simp only [List.length_nil, Nat.zero_add] at hown hv' hc'
    subst hv'
    refine RW.makeS hl hκ (semV_run hr) he (h a' c' w' (H.grow i hi hgr hfr ⟨cs ++ news, hown, fun u hu => ?_, ?_⟩) hc')
    · rcases List.mem_append.1 hu with hu | hu
      · exact h2 u hu
      · exact hn1 u hu
    · have := rep_append h1.1 hnl h3 hnr
      rwa [List.nil_append] at this
end

/-- what a call has turned, of blocks that the region's reads leave alone -/
theorem Chg.call {w1 w w' : World} {Bs Os : List Nat} (h : Chg w1 Bs w) (h' : Chg w Os w') (hb : ∀ b ∈ Os, w1.heap.size ≤ b ∨ b ∈ Bs) : Chg w1 Bs w' :=
  ⟨h'.os.trans h.os, h'.tape.trans h.tape, h'.output.trans h.output, Nat.le_trans h.size h'.size, fun k hk ho => (h'.block k (Nat.lt_of_lt_of_le hk h.size) (by
    intro e
    rcases hb k e with hb | hb
    · omega
    · exact ho hb)).trans (h.block k hk ho)⟩

theorem Hp.apart {w0 w : World} {S : Nat → Prop} {O : List Nat} {b : Nat} {ob : Obj} {M : Heap} {W : List OwnS} {G : List Fact} (H : Hp w0 S O ((b, ob) :: M) W G w) : b ∉ idsOf M W := by
  have h := H.nodup
  exact (List.nodup_cons.1 h).1
theorem ids_sub {M1 M : Heap} {W1 W : List OwnS} (hM : M1 ⊆ M) (hW : W1 ⊆ W) {b : Nat} (h : b ∈ idsOf M1 W1) : b ∈ idsOf M W := by
  unfold idsOf at h ⊢
  rcases List.mem_append.1 h with h | h
  · obtain ⟨p, hp, rfl⟩ := List.mem_map.1 h
    exact List.mem_append_left _ (List.mem_map_of_mem (hM hp))
  · obtain ⟨o, ho, hb⟩ := List.mem_flatMap.1 h
    exact List.mem_append_right _ (List.mem_flatMap.2 ⟨o, hW ho, hb⟩)
end Go.BX
