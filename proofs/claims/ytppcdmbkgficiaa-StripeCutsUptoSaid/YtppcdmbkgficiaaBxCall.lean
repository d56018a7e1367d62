/-
  THE ENGINE's CALLS: a callee is handed blocks and slices of the caller's own, and gives back its own.
  No condition.
-/
import Derived.Test.YtppcdmbkgficiaaBxRaw
namespace Go.BX
open Go.RowKit (Below)

section
variable {w0 w w' : World} {S : Nat → Prop} {O : List Nat} {M M1 M1' : Heap} {W W1 W1' : List OwnS} {G G' : List Fact}

theorem ids_app (M1 M : Heap) (W1 W : List OwnS) : (idsOf (M1 ++ M) (W1 ++ W)).Perm (idsOf M1 W1 ++ idsOf M W) := by
  unfold idsOf
  rw [List.map_append, List.flatMap_append, List.append_assoc, List.append_assoc]
  refine List.Perm.append_left _ ?_
  rw [← List.append_assoc, ← List.append_assoc]
  exact List.Perm.append_right _ List.perm_append_comm

theorem ids_app_mem {b : Nat} : b ∈ idsOf (M1 ++ M) (W1 ++ W) ↔ b ∈ idsOf M1 W1 ∨ b ∈ idsOf M W := by
  rw [(ids_app M1 M W1 W).mem_iff, List.mem_append]

theorem Hp.lend (H : Hp w0 S O (M1 ++ M) (W1 ++ W) G w) : Hp w (Av S w0 O (idsOf (M1 ++ M) (W1 ++ W))) (idsOf M1 W1) M1 W1 G w := by
  refine Hp.startM H.facts (fun p hp => (H.own p (List.mem_append_left _ hp)).1) (fun o ho => (H.slc o (List.mem_append_left _ ho)).1) ?_ fun b hb hs => hs.2 (ids_app_mem.2 (.inl hb))
  exact (List.nodup_append.1 ((ids_app M1 M W1 W).nodup_iff.1 H.nodup)).1

/-- the callee is back -/
theorem Hp.back (H : Hp w0 S O (M1 ++ M) (W1 ++ W) G w) (H' : Hp w (Av S w0 O (idsOf (M1 ++ M) (W1 ++ W))) (idsOf M1 W1) M1' W1' G' w') :
    Hp w0 S O (M1' ++ M) (W1' ++ W) (G' ++ G) w' := by
  have hnd := (ids_app M1 M W1 W).nodup_iff.1 H.nodup
  obtain ⟨hn1, hnr, hdis⟩ := List.nodup_append.1 hnd
  have mine1 : ∀ b, Mine w (idsOf M1 W1) b → Mine w0 O b := fun b hb => by
    rcases hb with hb | hb
    · exact .inl (Nat.le_trans H.below.size hb)
    · exact (H.ids_lt b (ids_app_mem.2 (.inl hb))).2
  have ltr : ∀ b ∈ idsOf M W, b < w.heap.size := fun b hb => (H.ids_lt b (ids_app_mem.2 (.inr hb))).1
  have nr1 : ∀ b ∈ idsOf M W, b ∉ idsOf M1 W1 := fun b hb h1 => hdis b h1 b hb rfl
  have nr1' : ∀ b ∈ idsOf M W, b ∉ idsOf M1' W1' := fun b hb h1 => by
    rcases (H'.ids_lt b h1).2 with h | h
    · have := ltr b hb; omega
    · exact nr1 b hb h
  have same : ∀ b, b < w.heap.size → b ∉ idsOf M1 W1 → w'.heap[b]? = w.heap[b]? := fun b hb h1 => H'.below.block b hb h1
  have avs : ∀ b, Av (Av S w0 O (idsOf (M1 ++ M) (W1 ++ W))) w (idsOf M1 W1) (idsOf M1' W1') b → Av S w0 O (idsOf (M1' ++ M) (W1' ++ W)) b := fun b hb => by
    obtain ⟨hb, hn⟩ := hb
    rcases hb with hb | hb
    · refine ⟨hb.1, fun h => ?_⟩
      rcases ids_app_mem.1 h with h | h
      · exact hn h
      · exact hb.2 (ids_app_mem.2 (.inr h))
    · refine ⟨.inr (mine1 b hb), fun h => ?_⟩
      rcases ids_app_mem.1 h with h | h
      · exact hn h
      · rcases hb with hb | hb
        · have := ltr b h; omega
        · exact nr1 b h hb
  have avo : ∀ b, Av S w0 O (idsOf (M1 ++ M) (W1 ++ W)) b → b < w.heap.size → Av S w0 O (idsOf (M1' ++ M) (W1' ++ W)) b ∧ w'.heap[b]? = w.heap[b]? := fun b hb hlt => by
    have h1 : b ∉ idsOf M1 W1 := fun h => hb.2 (ids_app_mem.2 (.inl h))
    refine ⟨⟨hb.1, fun h => ?_⟩, same b hlt h1⟩
    rcases ids_app_mem.1 h with h | h
    · rcases (H'.ids_lt b h).2 with h | h
      · omega
      · exact h1 h
    · exact hb.2 (ids_app_mem.2 (.inr h))
  refine ⟨?_, fun p hp => ?_, fun o ho => ?_, ?_, fun F hF => ?_⟩
  · have h1 := H.below
    have h2 := H'.below
    refine ⟨h2.os.trans h1.os, h2.tape.trans h1.tape, h2.output.trans h1.output, Nat.le_trans h1.size h2.size, fun k hk ho => ?_⟩
    refine (same k (Nat.lt_of_lt_of_le hk h1.size) fun h => ?_).trans (h1.block k hk ho)
    rcases (H.ids_lt k (ids_app_mem.2 (.inl h))).2 with h | h
    · omega
    · exact ho h
  · rcases List.mem_append.1 hp with hp | hp
    · exact ⟨(H'.own p hp).1, mine1 _ (H'.own p hp).2⟩
    · have hi : p.1 ∈ idsOf M W := List.mem_append_left _ (List.mem_map.2 ⟨p, hp, rfl⟩)
      have ho := H.own p (List.mem_append_right _ hp)
      exact ⟨(same _ (ltr _ hi) (nr1 _ hi)).trans ho.1, ho.2⟩
  · rcases List.mem_append.1 ho with ho | ho
    · have h := H'.slc o ho
      exact ⟨OwnS.ok_step h.1 (fun b _ => rfl) fun b hb _ => ⟨avs b hb, rfl⟩, fun b hb => mine1 b (h.2 b hb)⟩
    · have h := H.slc o (List.mem_append_right _ ho)
      refine ⟨OwnS.ok_step h.1 (fun b hb => ?_) fun b hb hlt => avo b hb hlt, h.2⟩
      have hi : b ∈ idsOf M W := List.mem_append_right _ (List.mem_flatMap.2 ⟨o, ho, hb⟩)
      exact same _ (ltr _ hi) (nr1 _ hi)
  · refine (ids_app M1' M W1' W).nodup_iff.2 (List.nodup_append.2 ⟨H'.nodup, hnr, fun a ha b hb e => ?_⟩)
    subst e
    exact nr1' a hb ha
  · rcases List.mem_append.1 hF with hF | hF
    · exact F.step (H'.facts F hF) fun b hb _ => ⟨avs b hb, rfl⟩
    · exact F.step (H.facts F hF) avo

theorem Hp.perms (H : Hp w0 S O M W G w) {M' : Heap} {W' : List OwnS} (hM : M'.Perm M) (hW : W'.Perm W) : Hp w0 S O M' W' G w := by
  have hp : (idsOf M' W').Perm (idsOf M W) := (hM.map _).append (hW.flatMap_right _)
  refine H.reids (fun b => hp.mem_iff) (hp.nodup_iff.2 H.nodup) (fun p h => (H.own p (hM.mem_iff.1 h)).1) fun o h => (H.slc o (hW.mem_iff.1 h)).1

theorem Hp.ownForm (H : Hp w0 S O M W G w) (i : Nat) {α : Type} {sh : Shape α} {T : TypeId} {v : Value} {xs : List α} (h : W[i]? = some ⟨sh, T, v, xs⟩) :
    ∃ a c, v = .slice a xs.length c ∧ xs.length ≤ c ∧ c ≤ 9223372036854775807 := by
  obtain ⟨cs, h1, _⟩ := (H.slc _ (List.mem_of_getElem? h)).1
  obtain ⟨a, c, hv, k1, k2⟩ := ownsRow_form h1
  exact ⟨a, c, hv, k1, k2⟩

theorem Hp.dropM (H : Hp w0 S O M W G w) (i : Nat) : Hp w0 S O (M.eraseIdx i) W G w := H.drop (List.eraseIdx_sublist M i) (List.Sublist.refl _)
theorem Hp.dropW (H : Hp w0 S O M W G w) (i : Nat) : Hp w0 S O M (W.eraseIdx i) G w := H.drop (List.Sublist.refl _) (List.eraseIdx_sublist W i)
end
end Go.BX
