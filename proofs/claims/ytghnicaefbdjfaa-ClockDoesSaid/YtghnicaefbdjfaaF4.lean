import Derived.Test.YtghnicaefbdjfaaF3
import Derived.Test.YtghnicaefbdjfaaD3
namespace Go.Proofs.Ytghnicaefbdjfaa
open Go.BX

abbrev prOf (e : Int × Int × Nat) : Int × Int := (e.1, e.2.1)
theorem onN_erase_ne {node id j : Int} (hj : j ≠ node) : ∀ ts : List Rt, onN j (ts.eraseP (isT node id)) = onN j ts
  | [] => rfl
  | a :: l => by
    rw [List.eraseP_cons]
    cases h : isT node id a with
    | true =>
      have h1 := of_decide_eq_true h
      unfold onN
      simp only [cond_true]
      rw [List.filter_cons_of_neg (by simp; omega)]
    | false =>
      have ih := onN_erase_ne (id := id) hj l
      unfold onN at ih ⊢
      simp only [cond_false]
      by_cases hq : a.node = j
      · rw [List.filter_cons_of_pos (by simpa using hq), List.filter_cons_of_pos (by simpa using hq), List.map_cons, List.map_cons, ih]
      · rw [List.filter_cons_of_neg (by simpa using hq), List.filter_cons_of_neg (by simpa using hq), ih]
theorem onN_erase_eq (node id : Int) : ∀ ts : List Rt, onN node (ts.eraseP (isT node id)) = (onN node ts).eraseP (fun p => decide (p.1 = id))
  | [] => rfl
  | a :: l => by
    have ih := onN_erase_eq node id l
    rw [List.eraseP_cons]
    by_cases hn : a.node = node
    · by_cases hi : a.id = id
      · rw [show isT node id a = true from decide_eq_true ⟨hn, hi⟩]
        unfold onN
        rw [cond_true, List.filter_cons_of_pos (by simpa using hn), List.map_cons, List.eraseP_cons_of_pos (by simpa [prR] using hi)]
      · rw [show isT node id a = false from decide_eq_false (by rintro ⟨_, h⟩; exact hi h)]
        unfold onN at ih ⊢
        rw [cond_false, List.filter_cons_of_pos (by simpa using hn), List.filter_cons_of_pos (by simpa using hn), List.map_cons, List.map_cons, List.eraseP_cons_of_neg (by simpa [prR] using hi), ih]
    · rw [show isT node id a = false from decide_eq_false (by rintro ⟨h, _⟩; exact hn h)]
      unfold onN at ih ⊢
      rw [cond_false, List.filter_cons_of_neg (by simpa using hn), List.filter_cons_of_neg (by simpa using hn), ih]
theorem erase_nodup (id : Int) : ∀ {l : List (Int × Int)}, (l.map (·.1)).Nodup → l.eraseP (fun p => decide (p.1 = id)) = l.filter (fun p => decide (p.1 ≠ id))
  | [], _ => rfl
  | a :: l, h => by
    have h' : a.1 ∉ l.map (·.1) ∧ (l.map (·.1)).Nodup := List.nodup_cons.1 h
    by_cases ha : a.1 = id
    · rw [List.eraseP_cons_of_pos (by simpa using ha), List.filter_cons_of_neg (by simpa using ha)]
      refine (List.filter_eq_self.2 fun p hp => decide_eq_true (show p.1 ≠ id from fun e => h'.1 ?_)).symm
      rw [ha, ← e]
      exact List.mem_map_of_mem hp
    · rw [List.eraseP_cons_of_neg (by simpa using ha), List.filter_cons_of_pos (by simpa using ha), erase_nodup id h'.2]
theorem mdel_pr (id : Int) : ∀ {L : List (Int × Int × Nat)}, (L.map (·.1)).Nodup → (mdel id L).map prOf = (L.map prOf).filter (fun p => decide (p.1 ≠ id))
  | [], _ => rfl
  | a :: l, h => by
    have h' : a.1 ∉ l.map (·.1) ∧ (l.map (·.1)).Nodup := List.nodup_cons.1 h
    simp only [mdel]
    by_cases ha : a.1 = id
    · rw [if_pos ha, List.map_cons, List.filter_cons_of_neg (by simpa [prOf] using ha)]
      refine (List.filter_eq_self.2 fun p hp => decide_eq_true (show p.1 ≠ id from fun e => h'.1 ?_)).symm
      obtain ⟨q, hq, rfl⟩ := List.mem_map.1 hp
      rw [ha, ← e]
      exact List.mem_map_of_mem (f := (·.1)) hq
    · rw [if_neg ha, List.map_cons, List.map_cons, List.filter_cons_of_pos (by simpa [prOf] using ha), mdel_pr id h'.2]
theorem mset_pr (id at_ : Int) (c : Nat) : ∀ {L : List (Int × Int × Nat)}, (L.map (·.1)).Nodup → ((mset id at_ c L).map prOf).Perm ((L.map prOf).filter (fun p => decide (p.1 ≠ id)) ++ [(id, at_)])
  | [], _ => List.Perm.refl _
  | a :: l, h => by
    have h' : a.1 ∉ l.map (·.1) ∧ (l.map (·.1)).Nodup := List.nodup_cons.1 h
    simp only [mset]
    by_cases ha : a.1 = id
    · rw [if_pos ha, List.map_cons, List.map_cons, List.filter_cons_of_neg (by simpa [prOf] using ha)]
      have hs : (l.map prOf).filter (fun p => decide (p.1 ≠ id)) = l.map prOf := List.filter_eq_self.2 fun p hp => decide_eq_true (show p.1 ≠ id from fun e => h'.1 (by
        obtain ⟨q, hq, rfl⟩ := List.mem_map.1 hp
        rw [ha, ← e]
        exact List.mem_map_of_mem (f := (·.1)) hq))
      rw [hs]
      refine List.Perm.trans ?_ List.perm_append_comm
      exact List.Perm.of_eq (by simp [prOf, ha])
    · rw [if_neg ha, List.map_cons, List.map_cons, List.filter_cons_of_pos (by simpa [prOf] using ha), List.cons_append]
      exact (mset_pr id at_ c h'.2).cons _
theorem isSome_keys (id : Int) (L : List (Int × Int × Nat)) : (mfind id L).isSome = decide (id ∈ L.map (·.1)) := by
  cases h : mfind id L with
  | none => exact (decide_eq_false (mfind_none.1 h)).symm
  | some v =>
    refine (decide_eq_true ?_).symm
    obtain ⟨e, he, h1, _⟩ := mfind_mem h
    exact h1 ▸ List.mem_map_of_mem (f := (·.1)) he
theorem any_keys (node id : Int) (ts : List Rt) : ts.any (isT node id) = decide (id ∈ (onN node ts).map (·.1)) := by
  rw [Bool.eq_iff_iff, List.any_eq_true, decide_eq_true_iff]
  unfold onN
  rw [List.map_map, List.mem_map]
  constructor
  · rintro ⟨x, hx, hp⟩
    have hp := of_decide_eq_true hp
    exact ⟨x, List.mem_filter.2 ⟨hx, by simpa using hp.1⟩, hp.2⟩
  · rintro ⟨x, hx, hp⟩
    obtain ⟨h1, h2⟩ := List.mem_filter.1 hx
    exact ⟨x, h1, decide_eq_true ⟨by simpa using h2, hp⟩⟩
/-- one node's timers: ours, and the document's -/
structure NodeOk (L : List (Int × Int × Nat)) (c : Nat) (R : List (Int × Int)) : Prop where
  ok : MOk L c
  len : L.length ≤ 1000
  bd : ∀ e ∈ L, (-9223372036854775808 ≤ e.1 ∧ e.1 ≤ 9223372036854775807) ∧ 0 ≤ e.2.1 ∧ e.2.1 ≤ 1048576
  pm : (L.map prOf).Perm R
theorem NodeOk.keys {L : List (Int × Int × Nat)} {c : Nat} {R : List (Int × Int)} (h : NodeOk L c R) : (R.map (·.1)).Nodup ∧ ∀ x, x ∈ R.map (·.1) ↔ x ∈ L.map (·.1) := by
  have hp : (L.map (·.1)).Perm (R.map (·.1)) := by
    have := h.pm.map (·.1)
    rwa [List.map_map] at this
  exact ⟨hp.nodup_iff.1 h.ok.keys, fun x => hp.mem_iff.symm⟩
theorem NodeOk.has {L : List (Int × Int × Nat)} {c : Nat} {R : List (Int × Int)} (h : NodeOk L c R) (id : Int) : (mfind id L).isSome = decide (id ∈ R.map (·.1)) := by
  rw [isSome_keys]
  exact decide_eq_decide.2 (h.keys.2 id).symm
theorem NodeOk.del {L : List (Int × Int × Nat)} {c : Nat} {R : List (Int × Int)} (h : NodeOk L c R) (id : Int) : NodeOk (mdel id L) c (R.eraseP (fun p => decide (p.1 = id))) := by
  refine ⟨h.ok.del id, Nat.le_trans (mdel_sub id L).length_le h.len, fun e he => h.bd e ((mdel_sub id L).subset he), ?_⟩
  rw [erase_nodup id h.keys.1, mdel_pr id h.ok.keys]
  exact h.pm.filter _
theorem NodeOk.set {L : List (Int × Int × Nat)} {c : Nat} {R : List (Int × Int)} (h : NodeOk L c R) {id at_ : Int} (hid : -9223372036854775808 ≤ id ∧ id ≤ 9223372036854775807) (hb : setB L id at_ = false) :
    NodeOk (mset id at_ c L) (mclk id c L) (R.eraseP (fun p => decide (p.1 = id)) ++ [(id, at_)]) := by
  have hb := of_decide_eq_false hb
  have hp := mset_pr id at_ c h.ok.keys
  refine ⟨h.ok.set id at_, ?_, fun e he => ?_, ?_⟩
  · rw [mset_len]
    have := h.len
    split
    · omega
    · rename_i hs
      have hs : (mfind id L).isSome = false := by simpa using hs
      have : ¬ 1000 ≤ L.length := fun hl => hb (.inr (.inr ⟨hs, hl⟩))
      omega
  · have hm := hp.mem_iff.1 (List.mem_map_of_mem (f := prOf) he)
    rcases List.mem_append.1 hm with hm | hm
    · obtain ⟨e', he', h2⟩ := List.mem_map.1 (List.mem_filter.1 hm).1
      have hbd := h.bd e' he'
      have e1 : e'.1 = e.1 := congrArg (·.1) h2
      have e2 : e'.2.1 = e.2.1 := congrArg (·.2) h2
      rw [e1, e2] at hbd
      exact hbd
    · have hm := List.mem_singleton.1 hm
      have e1 : e.1 = id := congrArg (·.1) hm
      have e2 : e.2.1 = at_ := congrArg (·.2) hm
      rw [e1, e2]
      exact ⟨hid, by omega, by omega⟩
  · rw [erase_nodup id h.keys.1]
    exact hp.trans ((h.pm.filter _).append_right _)
theorem perm_sorted {l l' : List Tmr} (hp : l.Perm l') (h : l.Pairwise (fun x y => ltT y x = false)) (h' : l'.Pairwise (fun x y => ltT y x = false)) : l = l' := by
  refine hp.eq_of_pairwise (le := fun x y => ltT y x = false) (fun a b _ _ hab hba => ?_) h h'
  have h1 := of_decide_eq_false hab
  have h2 := of_decide_eq_false hba
  have h3 : a.when = b.when := by omega
  have h4 : a.id = b.id := by omega
  cases a
  cases b
  simp_all
def tmR (t : Rt) : Tmr := ⟨t.when, t.id⟩
theorem due_same {L : List (Int × Int × Nat)} {c : Nat} {node t : Int} {ts : List Rt} (h : NodeOk L c (onN node ts)) {ys : List Tmr} (hy : ys.Perm (dueOf L t)) (hs : ys.Pairwise (fun x y => ltT y x = false)) :
    ys = (sortR (ts.filter (dueP node t))).map tmR := by
  have h1 : (dueOf L t).Perm (((onN node ts).filter (fun p => decide (p.2 ≤ t))).map fun p => (⟨p.2, p.1⟩ : Tmr)) := by
    have h2 := (h.pm.filter (fun p => decide (p.2 ≤ t))).map fun p => (⟨p.2, p.1⟩ : Tmr)
    refine List.Perm.trans (List.Perm.of_eq ?_) h2
    unfold dueOf
    rw [List.filter_map, List.map_map]
    rfl
  have h3 : ((onN node ts).filter (fun p => decide (p.2 ≤ t))).map (fun p => (⟨p.2, p.1⟩ : Tmr)) = (ts.filter (dueP node t)).map tmR := by
    unfold onN
    rw [List.filter_map, List.map_map, List.filter_filter]
    congr 1
    refine List.filter_congr fun x _ => ?_
    unfold dueP
    simp only [Function.comp, prR]
    by_cases a : x.node = node <;> by_cases b : x.when ≤ t <;> simp [a, b]
  refine perm_sorted ?_ hs ?_
  · rw [h3] at h1
    exact (hy.trans h1).trans ((sortR_perm _).map tmR).symm
  · rw [List.pairwise_map]
    exact sortR_sorted _
theorem delAll_len : ∀ (ids : List Int) (L : List (Int × Int × Nat)), (delAll ids L).Sublist L
  | [], L => List.Sublist.refl _
  | x :: ids, L => (delAll_len ids (mdel x L)).trans (mdel_sub x L)
theorem delAll_filter (p : Int × Int → Bool) : ∀ (ids : List Int) {L : List (Int × Int × Nat)}, (L.map (·.1)).Nodup → (∀ e ∈ L, e.1 ∈ ids ↔ p (prOf e) = false) → (delAll ids L).map prOf = (L.map prOf).filter p
  | [], L, _, h => by
    refine (List.filter_eq_self.2 fun q hq => ?_).symm
    obtain ⟨e, he, rfl⟩ := List.mem_map.1 hq
    have := (h e he).2
    cases hp : p (prOf e) with
    | true => rfl
    | false => exact absurd (this hp) (by simp)
  | x :: ids, L, hn, h => by
    show (delAll ids (mdel x L)).map prOf = _
    by_cases hx : ∃ e ∈ L, e.1 = x
    · obtain ⟨e0, he0, rfl⟩ := hx
      have hp0 := (h e0 he0).1 (List.mem_cons_self ..)
      have hsub : ∀ e ∈ mdel e0.1 L, e ∈ L ∧ e.1 ≠ e0.1 := fun e he => by
        have hm : prOf e ∈ (L.map prOf).filter (fun p => decide (p.1 ≠ e0.1)) := by
          rw [← mdel_pr e0.1 hn]
          exact List.mem_map_of_mem he
        exact ⟨(mdel_sub _ _).subset he, of_decide_eq_true (List.mem_filter.1 hm).2⟩
      rw [delAll_filter p ids (((mdel_sub e0.1 L).map _).nodup hn) fun e he => ?_, mdel_pr e0.1 hn, List.filter_filter]
      · refine List.filter_congr fun q hq => ?_
        obtain ⟨e, he, rfl⟩ := List.mem_map.1 hq
        by_cases h1 : e.1 = e0.1
        · have : p (prOf e) = false := (h e he).1 (by rw [h1]; exact List.mem_cons_self ..)
          rw [this, Bool.false_and]
        · have : decide ((prOf e).1 ≠ e0.1) = true := decide_eq_true h1
          rw [this, Bool.and_true]
      · obtain ⟨h1, h2⟩ := hsub e he
        rw [← h e h1, List.mem_cons]
        constructor
        · exact fun h => .inr h
        · rintro (h | h)
          · exact absurd h h2
          · exact h
    · have hm : mdel x L = L := by
        refine mdel_none x L ?_
        cases hq : midx x L with
        | none => rfl
        | some i =>
          have := midx_find x L
          rw [hq, isSome_keys] at this
          have := of_decide_eq_true this.symm
          obtain ⟨e, he, he2⟩ := List.mem_map.1 this
          exact absurd ⟨e, he, he2⟩ hx
      rw [hm]
      refine delAll_filter p ids hn fun e he => ?_
      rw [← h e he, List.mem_cons]
      constructor
      · exact fun h => .inr h
      · rintro (h | h)
        · exact absurd ⟨e, he, h⟩ hx
        · exact h
theorem NodeOk.due {L : List (Int × Int × Nat)} {c : Nat} {R : List (Int × Int)} (h : NodeOk L c R) {t : Int} {ys : List Tmr} (hy : ys.Perm (dueOf L t)) : NodeOk (delAll (ys.map (·.id)) L) c (R.filter (fun p => !decide (p.2 ≤ t))) := by
  have hk : ∀ e ∈ L, e.1 ∈ ys.map (·.id) ↔ (!decide ((prOf e).2 ≤ t)) = false := fun e he => by
    rw [(hy.map (·.id)).mem_iff]
    unfold dueOf
    rw [List.map_map, List.mem_map]
    simp only [prOf, Bool.not_eq_false', decide_eq_true_eq]
    constructor
    · rintro ⟨e', he', h1⟩
      obtain ⟨h2, h3⟩ := List.mem_filter.1 he'
      have h1 : e'.1 = e.1 := h1
      have : e' = e := by
        have hi := h.ok.keys
        obtain ⟨i, hi1, rfl⟩ := List.mem_iff_getElem.1 h2
        obtain ⟨j, hj1, rfl⟩ := List.mem_iff_getElem.1 he
        have : i = j := (List.getElem_inj (h₀ := by simpa using hi1) (h₁ := by simpa using hj1) hi).1 (by simpa using h1)
        subst this
        rfl
      subst this
      simpa using h3
    · intro h1
      exact ⟨e, List.mem_filter.2 ⟨he, by simpa using h1⟩, rfl⟩
  have hok : ∀ (ids : List Int) {L : List (Int × Int × Nat)}, MOk L c → MOk (delAll ids L) c := by
    intro ids
    induction ids with
    | nil => intro L h; exact h
    | cons x ids ih => intro L h; exact ih (h.del x)
  refine ⟨hok _ h.ok, Nat.le_trans (delAll_len _ _).length_le h.len, fun e he => h.bd e ((delAll_len _ _).subset he), ?_⟩
  rw [delAll_filter (fun p => !decide (p.2 ≤ t)) _ h.ok.keys hk]
  exact h.pm.filter _
/-- all nodes' timers -/
structure Rel (n : Nat) (Ls : List (List (Int × Int × Nat) × Nat)) (ts : List Rt) : Prop where
  len : Ls.length = n
  nd : ∀ (i : Nat) p, Ls[i]? = some p → NodeOk p.1 p.2 (onN ((i : Int) + 1) ts)
  nodes : ∀ t ∈ ts, 1 ≤ t.node ∧ t.node ≤ (n : Int)
theorem Rel.new (n : Nat) : Rel n (List.replicate n ([], 0)) [] := by
  refine ⟨List.length_replicate .., fun i p h => ?_, fun t h => by cases h⟩
  have := List.mem_of_getElem? h
  obtain rfl := (List.mem_replicate.1 this).2
  exact ⟨MOk.nil, Nat.zero_le _, fun e h => (by cases h), List.Perm.refl _⟩
theorem Rel.upd {n : Nat} {Ls : List (List (Int × Int × Nat) × Nat)} {ts ts' : List Rt} (h : Rel n Ls ts) {i : Nat} (p : List (Int × Int × Nat) × Nat) (h1 : NodeOk p.1 p.2 (onN ((i : Int) + 1) ts')) (h2 : ∀ j : Int, j ≠ (i : Int) + 1 → onN j ts' = onN j ts)
    (h3 : ∀ t ∈ ts', 1 ≤ t.node ∧ t.node ≤ (n : Int)) : Rel n (Ls.set i p) ts' := by
  refine ⟨by rw [List.length_set]; exact h.len, fun j q hq => ?_, h3⟩
  rw [List.getElem?_set] at hq
  split at hq
  · rename_i hij
    subst hij
    split at hq
    · cases hq; exact h1
    · cases hq
  · rename_i hij
    rw [h2 _ (by omega)]
    exact h.nd j q hq
theorem on_bound : ∀ (n : Nat) (ts : List Rt), (∀ t ∈ ts, 1 ≤ t.node ∧ t.node ≤ (n : Int)) → (∀ i : Nat, i < n → (onN ((i : Int) + 1) ts).length ≤ 1000) → ts.length ≤ 1000 * n
  | 0, [], _, _ => Nat.le_refl _
  | 0, t :: ts, h, _ => by have := h t (List.mem_cons_self ..); omega
  | n + 1, ts, h, hl => by
    have ih := on_bound n (ts.filter fun t => !decide (t.node = (n : Int) + 1)) (fun t ht => by
      obtain ⟨h1, h2⟩ := List.mem_filter.1 ht
      have := h t h1
      have h2 : ¬ t.node = (n : Int) + 1 := by simpa using h2
      omega) fun i hi => by
        refine Nat.le_trans ?_ (hl i (by omega))
        unfold onN
        rw [List.length_map, List.length_map]
        exact (List.filter_sublist.filter _).length_le
    have h0 := hl n (by omega)
    unfold onN at h0
    rw [List.length_map] at h0
    have hs : ts.length = (ts.filter fun t => decide (t.node = (n : Int) + 1)).length + (ts.filter fun t => !decide (t.node = (n : Int) + 1)).length := by
      clear ih h0 hl h
      induction ts with
      | nil => rfl
      | cons a l ih =>
        by_cases ha : a.node = (n : Int) + 1
        · rw [List.filter_cons_of_pos (by simpa using ha), List.filter_cons_of_neg (by simpa using ha), List.length_cons, List.length_cons, ih]; omega
        · rw [List.filter_cons_of_neg (by simpa using ha), List.filter_cons_of_pos (by simpa using ha), List.length_cons, List.length_cons, ih]; omega
    omega
theorem Rel.total {n : Nat} {Ls : List (List (Int × Int × Nat) × Nat)} {ts : List Rt} (h : Rel n Ls ts) (hn : n ≤ 32) : ts.length ≤ 32000 := by
  have := on_bound n ts h.nodes fun i hi => by
    have hl : i < Ls.length := by rw [h.len]; exact hi
    have hn := h.nd i Ls[i] (List.getElem?_eq_getElem hl)
    rw [← hn.pm.length_eq, List.length_map]
    exact hn.len
  omega
/-- ours, for any node -/
def osetR (n : Nat) (Ls : List (List (Int × Int × Nat) × Nat)) (node id at_ : Int) : Int := if stE n node = 0 then (if setB ((Ls[(node - 1).toNat]?).getD ([], 0)).1 id at_ = true then 2 else 0) else stE n node
def osetL (n : Nat) (Ls : List (List (Int × Int × Nat) × Nat)) (node id at_ : Int) : List (List (Int × Int × Nat) × Nat) :=
  if stE n node = 0 then Ls.set (node - 1).toNat (setL ((Ls[(node - 1).toNat]?).getD ([], 0)).1 ((Ls[(node - 1).toNat]?).getD ([], 0)).2 id at_, setC ((Ls[(node - 1).toNat]?).getD ([], 0)).1 ((Ls[(node - 1).toNat]?).getD ([], 0)).2 id at_) else Ls
def ocanR (n : Nat) (Ls : List (List (Int × Int × Nat) × Nat)) (node id : Int) : Bool := if stE n node = 0 then (mfind id ((Ls[(node - 1).toNat]?).getD ([], 0)).1).isSome else false
def ocanL (n : Nat) (Ls : List (List (Int × Int × Nat) × Nat)) (node id : Int) : List (List (Int × Int × Nat) × Nat) :=
  if stE n node = 0 then Ls.set (node - 1).toNat (mdel id ((Ls[(node - 1).toNat]?).getD ([], 0)).1, ((Ls[(node - 1).toNat]?).getD ([], 0)).2) else Ls
def ODue (n : Nat) (Ls : List (List (Int × Int × Nat) × Nat)) (node t : Int) (ids : List Int) (Ls' : List (List (Int × Int × Nat) × Nat)) : Prop :=
  if stE n node = 0 then ∃ ys : List Tmr, ys.Perm (dueOf ((Ls[(node - 1).toNat]?).getD ([], 0)).1 t) ∧ ys.Pairwise (fun x y => ltT y x = false) ∧ ids = ys.map (·.id) ∧ Ls' = Ls.set (node - 1).toNat (delAll ids ((Ls[(node - 1).toNat]?).getD ([], 0)).1, ((Ls[(node - 1).toNat]?).getD ([], 0)).2)
  else ids = [] ∧ Ls' = Ls
theorem st_cases {n : Nat} (hn : 0 < n) (node : Int) : (stE n node = 0 ∧ 1 ≤ node ∧ node ≤ (n : Int)) ∨ (stE n node = 2 ∧ ¬ (1 ≤ node ∧ node ≤ (n : Int))) := by
  unfold stE
  rw [if_neg (by omega)]
  split
  · exact .inr ⟨rfl, by omega⟩
  · exact .inl ⟨rfl, by omega, by omega⟩
section
variable {n : Nat} {Ls : List (List (Int × Int × Nat) × Nat)} {ts : List Rt}
theorem Rel.node (h : Rel n Ls ts) {node : Int} (h1 : 1 ≤ node ∧ node ≤ (n : Int)) : ∃ p, Ls[(node - 1).toNat]? = some p ∧ ((node - 1).toNat : Int) + 1 = node ∧ NodeOk p.1 p.2 (onN node ts) := by
  have hl : (node - 1).toNat < Ls.length := by rw [h.len]; omega
  have e : ((node - 1).toNat : Int) + 1 = node := by omega
  have := h.nd _ _ (List.getElem?_eq_getElem hl)
  rw [e] at this
  exact ⟨_, List.getElem?_eq_getElem hl, e, this⟩
theorem Rel.off (h : Rel n Ls ts) {node : Int} (h1 : ¬ (1 ≤ node ∧ node ≤ (n : Int))) : ∀ t ∈ ts, t.node ≠ node := fun t ht e => h1 (e ▸ h.nodes t ht)
theorem Rel.can (h : Rel n Ls ts) (hn : 0 < n) (node id : Int) : ocanR n Ls node id = ts.any (isT node id) ∧ Rel n (ocanL n Ls node id) (ts.eraseP (isT node id)) := by
  unfold ocanR ocanL
  rcases st_cases hn node with ⟨hs, h1⟩ | ⟨hs, h1⟩
  · rw [if_pos hs, if_pos hs]
    obtain ⟨p, hp, e, hk⟩ := h.node h1
    rw [hp, Option.getD_some, any_keys, hk.has id]
    refine ⟨rfl, h.upd _ ?_ ?_ fun t ht => h.nodes t (List.mem_of_mem_eraseP ht)⟩
    · rw [e, onN_erase_eq]
      exact hk.del id
    · rw [e]
      exact fun j hj => onN_erase_ne hj ts
  · rw [if_neg (show ¬ stE n node = 0 by omega), if_neg (show ¬ stE n node = 0 by omega)]
    obtain ⟨h2, h3⟩ := none_any (p := isT node id) (l := ts) fun j x _ hx => decide_eq_false fun hh => h.off h1 x (List.mem_of_getElem? hx) hh.1
    rw [h2, h3]
    exact ⟨rfl, h⟩
theorem Rel.set (h : Rel n Ls ts) (hn : 0 < n) (node : Int) {id : Int} (hid : -9223372036854775808 ≤ id ∧ id ≤ 9223372036854775807) (at_ : Int) : osetR n Ls node id at_ = (if rsetB n ts node id at_ = true then 2 else 0) ∧ Rel n (osetL n Ls node id at_) (rsetT n ts node id at_) := by
  unfold osetR osetL rsetT
  rcases st_cases hn node with ⟨hs, h1⟩ | ⟨hs, h1⟩
  · rw [if_pos hs, if_pos hs]
    obtain ⟨p, hp, e, hk⟩ := h.node h1
    rw [hp, Option.getD_some]
    have hb : rsetB n ts node id at_ = setB p.1 id at_ := by
      unfold rsetB setB
      refine decide_eq_decide.2 ?_
      rw [any_keys, hk.has id, ← hk.pm.length_eq, List.length_map]
      constructor
      · rintro (h | h | h | h)
        · exact absurd h1 h
        · exact .inl h
        · exact .inr (.inl h)
        · exact .inr (.inr ⟨h.2, h.1⟩)
      · rintro (h | h | h)
        · exact .inr (.inl h)
        · exact .inr (.inr (.inl h))
        · exact .inr (.inr (.inr ⟨h.2, h.1⟩))
    rw [hb]
    refine ⟨rfl, ?_⟩
    unfold setL setC
    cases hq : setB p.1 id at_ with
    | true =>
      simp only [if_true]
      have : Ls.set (node - 1).toNat (p.1, p.2) = Ls := by
        apply List.ext_getElem?
        intro j
        rw [List.getElem?_set]
        split
        · rename_i hij; subst hij; rw [if_pos (List.getElem?_eq_some_iff.1 hp).1, hp]
        · rfl
      rw [this]
      exact h
    | false =>
      simp only [Bool.false_eq_true, if_false]
      refine h.upd _ ?_ ?_ fun t ht => ?_
      · rw [e]
        unfold onN
        rw [List.filter_append, List.map_append, List.filter_cons_of_pos (by simp), List.filter_nil]
        show NodeOk _ _ (onN node (ts.eraseP (isT node id)) ++ [prR ⟨node, id, at_⟩])
        rw [onN_erase_eq]
        exact hk.set hid hq
      · rw [e]
        intro j hj
        rw [← onN_erase_ne (id := id) hj ts]
        unfold onN
        rw [List.filter_append, List.filter_cons_of_neg (by simpa using fun e => hj e.symm), List.filter_nil, List.append_nil]
      · rcases List.mem_append.1 ht with ht | ht
        · exact h.nodes t (List.mem_of_mem_eraseP ht)
        · rw [List.mem_singleton.1 ht]
          exact h1
  · rw [if_neg (show ¬ stE n node = 0 by omega), if_neg (show ¬ stE n node = 0 by omega)]
    have hb : rsetB n ts node id at_ = true := decide_eq_true (.inl h1)
    rw [hb]
    exact ⟨hs, h⟩
theorem Rel.due (h : Rel n Ls ts) (hn : 0 < n) {node t : Int} {ids : List Int} {Ls' : List (List (Int × Int × Nat) × Nat)} (hd : ODue n Ls node t ids Ls') : ids = (sortR (ts.filter (dueP node t))).map (·.id) ∧ Rel n Ls' (ts.filter fun x => !dueP node t x) := by
  unfold ODue at hd
  rcases st_cases hn node with ⟨hs, h1⟩ | ⟨hs, h1⟩
  · rw [if_pos hs] at hd
    obtain ⟨p, hp, e, hk⟩ := h.node h1
    rw [hp, Option.getD_some] at hd
    obtain ⟨ys, hy, hsrt, rfl, rfl⟩ := hd
    refine ⟨?_, h.upd _ ?_ ?_ fun t ht => h.nodes t (List.mem_filter.1 ht).1⟩
    · rw [due_same hk hy hsrt, List.map_map]
      rfl
    · rw [e]
      have := hk.due hy
      have e2 : onN node (ts.filter fun x => !dueP node t x) = (onN node ts).filter (fun p => !decide (p.2 ≤ t)) := by
        unfold onN
        rw [List.filter_map, List.filter_filter, List.filter_filter]
        congr 1
        refine List.filter_congr fun x _ => ?_
        unfold dueP
        simp only [Function.comp, prR]
        by_cases a : x.node = node <;> by_cases b : x.when ≤ t <;> simp [a, b]
      rw [e2]
      exact this
    · rw [e]
      intro j hj
      unfold onN
      rw [List.filter_filter]
      congr 1
      refine List.filter_congr fun x _ => ?_
      unfold dueP
      by_cases a : x.node = j
      · have : ¬ x.node = node := by omega
        simp [a, this]
        omega
      · simp [a]
  · rw [if_neg (by omega)] at hd
    obtain ⟨rfl, rfl⟩ := hd
    have hf : ∀ x ∈ ts, dueP node t x = false := fun x hx => decide_eq_false fun hh => h.off h1 x hx hh.1
    rw [List.filter_eq_nil_iff.2 fun x hx => by rw [hf x hx]; decide, List.filter_eq_self.2 fun x hx => by rw [hf x hx]; rfl]
    exact ⟨rfl, h⟩
end


end Go.Proofs.Ytghnicaefbdjfaa
