import Derived.Test.YtghnicaefbdjfaaD3
import Derived.Test.YtghnicaefbdjfaaC6
namespace Go.Proofs.Ytghnicaefbdjfaa
open Go.BX

theorem mdel_mem {α β : Type} [DecidableEq α] (x : α) : ∀ {L : List (α × β × Nat)}, (L.map (·.1)).Nodup → ∀ e, e ∈ mdel x L ↔ e ∈ L ∧ e.1 ≠ x
  | [], _, e => by simp [mdel]
  | a :: l, hn, e => by
    have hn' : a.1 ∉ l.map (·.1) ∧ (l.map (·.1)).Nodup := List.nodup_cons.1 hn
    simp only [mdel]
    by_cases ha : a.1 = x
    · rw [if_pos ha]
      constructor
      · intro h
        exact ⟨List.mem_cons_of_mem _ h, fun he => hn'.1 (List.mem_map.2 ⟨e, h, he.trans ha.symm⟩)⟩
      · rintro ⟨h, hx⟩
        rcases List.mem_cons.1 h with h | h
        · subst h; exact absurd ha hx
        · exact h
    · rw [if_neg ha, List.mem_cons, mdel_mem x hn'.2 e, List.mem_cons]
      constructor
      · rintro (h | h)
        · subst h; exact ⟨.inl rfl, ha⟩
        · exact ⟨.inr h.1, h.2⟩
      · rintro ⟨h | h, hx⟩
        · exact .inl h
        · exact .inr ⟨h, hx⟩
theorem delAll_ok {L : List (Int × Int × Nat)} {c : Nat} : ∀ (ids : List Int) {L : List (Int × Int × Nat)}, MOk L c → MOk (delAll ids L) c
  | [], _, h => h
  | x :: ids, _, h => delAll_ok (L := []) ids (h.del x)
theorem delAll_mem : ∀ (ids : List Int) {L : List (Int × Int × Nat)} {c : Nat}, MOk L c → ∀ e, e ∈ delAll ids L ↔ e ∈ L ∧ e.1 ∉ ids
  | [], L, _, _, e => by simp [delAll]
  | x :: ids, L, c, h, e => by
    show e ∈ delAll ids (mdel x L) ↔ _
    rw [delAll_mem ids (h.del x) e, mdel_mem x h.keys e, List.mem_cons, not_or]
    exact ⟨fun ⟨⟨a, b⟩, d⟩ => ⟨a, b, d⟩, fun ⟨a, b, d⟩ => ⟨⟨a, b⟩, d⟩⟩
/-- the timers of the first i indices, those of time t and later -/
structure Tm (at_ : List Int) (i : Nat) (t : Int) (L : List (Int × Int × Nat)) (c : Nat) : Prop where
  ok : MOk L c
  mem : ∀ e ∈ L, ∃ j : Nat, j < i ∧ e.1 = (j : Int) ∧ at_[j]? = some e.2.1 ∧ 0 ≤ e.2.1 ∧ e.2.1 ≤ 1048576 ∧ t ≤ e.2.1
  all : ∀ (j : Nat) (x : Int), j < i → at_[j]? = some x → 0 ≤ x → x ≤ 1048576 → t ≤ x → (j : Int) ∈ L.map (·.1)
  len : L.length ≤ i
theorem Tm.none (at_ : List Int) : Tm at_ 0 0 [] 0 := ⟨MOk.nil, fun e h => (by cases h), fun j x h => (by omega), Nat.le_refl _⟩
theorem Tm.fresh {at_ : List Int} {i : Nat} {t : Int} {L : List (Int × Int × Nat)} {c : Nat} (h : Tm at_ i t L c) : mfind (i : Int) L = .none := by
  refine mfind_none.2 fun hm => ?_
  obtain ⟨e, he, hx⟩ := List.mem_map.1 hm
  obtain ⟨j, hj, hj2, _⟩ := h.mem e he
  omega
theorem Tm.setB {at_ : List Int} {i : Nat} {L : List (Int × Int × Nat)} {c : Nat} (h : Tm at_ i 0 L c) (hi : i ≤ 100) (x : Int) : Proofs.Ytghnicaefbdjfaa.setB L i x = !decide (0 ≤ x ∧ x ≤ 1048576) := by
  have hl := h.len
  unfold Proofs.Ytghnicaefbdjfaa.setB
  by_cases hx : 0 ≤ x ∧ x ≤ 1048576
  · rw [decide_eq_true hx]; exact decide_eq_false (by rintro (h1 | h1 | h1) <;> omega)
  · rw [decide_eq_false hx]; exact decide_eq_true (by omega)
theorem Tm.set {at_ : List Int} {i : Nat} {L : List (Int × Int × Nat)} {c : Nat} (h : Tm at_ i 0 L c) (hi : i ≤ 100) {x : Int} (hx : at_[i]? = some x) : Tm at_ (i + 1) 0 (setL L c i x) (setC L c i x) := by
  unfold setL setC
  rw [h.setB hi x]
  by_cases hr : 0 ≤ x ∧ x ≤ 1048576
  · rw [decide_eq_true hr]
    simp only [Bool.not_true, Bool.false_eq_true, if_false]
    have hf := h.fresh
    have hnot : (i : Int) ∉ L.map (·.1) := mfind_none.1 hf
    have hmid : midx (i : Int) L = .none := by
      have := midx_find (i : Int) L
      rw [hf] at this
      simpa using this
    have happ := push_mset (i : Int) x c L hmid
    refine ⟨h.ok.set _ _, fun e he => ?_, fun j y hj hy h0 h1 h2 => ?_, ?_⟩
    · rw [happ] at he
      rcases List.mem_append.1 he with he | he
      · obtain ⟨j, h1, h2⟩ := h.mem e he
        exact ⟨j, by omega, h2⟩
      · simp only [List.mem_singleton] at he
        subst he
        exact ⟨i, by omega, rfl, hx, hr.1, hr.2, hr.1⟩
    · rw [happ, List.map_append]
      by_cases hji : j = i
      · subst hji; simp
      · exact List.mem_append_left _ (h.all j y (by omega) hy h0 h1 h2)
    · rw [happ]
      have := h.len
      simp only [List.length_append, List.length_cons, List.length_nil]
      omega
  · rw [decide_eq_false hr]
    simp only [Bool.not_false, if_true]
    refine ⟨h.ok, fun e he => ?_, fun j y hj hy h0 h1 h2 => ?_, by have := h.len; omega⟩
    · obtain ⟨j, h1, h2⟩ := h.mem e he
      exact ⟨j, by omega, h2⟩
    · by_cases hji : j = i
      · subst hji
        rw [hx] at hy
        cases hy
        exact absurd ⟨h0, h1⟩ hr
      · exact h.all j y (by omega) hy h0 h1 h2
/-- what is due at time t -/
theorem Tm.ids {at_ : List Int} {n : Nat} {t : Int} {L : List (Int × Int × Nat)} {c : Nat} (h : Tm at_ n t L c) {ys : List Tmr} (hp : ys.Perm (dueOf L t)) :
    (ys.map (·.id)).Nodup ∧ ∀ x, x ∈ ys.map (·.id) ↔ ∃ e ∈ L, e.2.1 = t ∧ e.1 = x := by
  have hq : (ys.map (·.id)).Perm ((L.filter fun e => decide (e.2.1 ≤ t)).map (·.1)) := by
    refine (hp.map _).trans ?_
    unfold dueOf
    rw [List.map_map]
    exact List.Perm.refl _
  refine ⟨hq.nodup_iff.2 ((List.filter_sublist.map _).nodup h.ok.keys), fun x => ?_⟩
  rw [hq.mem_iff, List.mem_map]
  constructor
  · rintro ⟨e, he, rfl⟩
    obtain ⟨he, ht⟩ := List.mem_filter.1 he
    obtain ⟨j, _, _, _, _, _, h6⟩ := h.mem e he
    have := of_decide_eq_true ht
    exact ⟨e, he, by omega, rfl⟩
  · rintro ⟨e, he, ht, rfl⟩
    exact ⟨e, List.mem_filter.2 ⟨he, decide_eq_true (by omega)⟩, rfl⟩
theorem Tm.due {at_ : List Int} {n : Nat} {t : Int} {L : List (Int × Int × Nat)} {c : Nat} (h : Tm at_ n t L c) {ys : List Tmr} (hp : ys.Perm (dueOf L t)) : Tm at_ n (t + 1) (delAll (ys.map (·.id)) L) c := by
  obtain ⟨hn, hi⟩ := h.ids hp
  refine ⟨delAll_ok (L := L) _ h.ok, fun e he => ?_, fun j x hj hx h0 h1 h2 => ?_, ?_⟩
  · obtain ⟨he, hnot⟩ := (delAll_mem _ h.ok e).1 he
    obtain ⟨j, a1, a2, a3, a4, a5, a6⟩ := h.mem e he
    refine ⟨j, a1, a2, a3, a4, a5, ?_⟩
    have : e.2.1 ≠ t := fun ht => hnot ((hi e.1).2 ⟨e, he, ht, rfl⟩)
    omega
  · obtain ⟨e, he, hj2⟩ := List.mem_map.1 (h.all j x hj hx h0 h1 (by omega))
    refine List.mem_map.2 ⟨e, (delAll_mem _ h.ok e).2 ⟨he, fun hm => ?_⟩, hj2⟩
    obtain ⟨e', he', ht, hx'⟩ := (hi e.1).1 hm
    obtain ⟨j', _, b2, b3, _⟩ := h.mem e' he'
    have : j' = j := by omega
    subst this
    rw [hx] at b3
    cases b3
    omega
  · refine Nat.le_trans ?_ h.len
    have hs : ∀ (ids : List Int) (L : List (Int × Int × Nat)), (delAll ids L).length ≤ L.length := by
      intro ids
      induction ids with
      | nil => intro L; exact Nat.le_refl _
      | cons x ids ih => intro L; exact Nat.le_trans (ih (mdel x L)) (mdel_sub x L).length_le
    exact hs _ _
/-- the counts -/
def bump (r : List Int) (ids : List Int) : List Int := ids.foldl (fun r x => r.set x.toNat ((r[x.toNat]?).getD 0 + 1)) r
theorem bump_app (r ids : List Int) (x : Int) : bump r (ids ++ [x]) = (bump r ids).set x.toNat (((bump r ids)[x.toNat]?).getD 0 + 1) := by
  unfold bump
  rw [List.foldl_append]
  rfl
theorem bump_len : ∀ (ids r : List Int), (bump r ids).length = r.length
  | [], _ => rfl
  | x :: ids, r => by
    show (bump (r.set x.toNat _) ids).length = _
    rw [bump_len ids, List.length_set]
theorem bump_get : ∀ (ids r : List Int), ids.Nodup → (∀ x ∈ ids, 0 ≤ x) → ∀ (j : Nat), (bump r ids)[j]? = (r[j]?).map fun v => if (j : Int) ∈ ids then v + 1 else v
  | [], r, _, _, j => by simp [bump]
  | x :: ids, r, hn, h0, j => by
    obtain ⟨hx, hn'⟩ := List.nodup_cons.1 hn
    have hx0 := h0 x (List.mem_cons_self ..)
    show (bump (r.set x.toNat _) ids)[j]? = _
    rw [bump_get ids _ hn' (fun y hy => h0 y (List.mem_cons_of_mem _ hy)) j, List.getElem?_set]
    by_cases hj : x.toNat = j
    · subst hj
      rw [if_pos rfl]
      by_cases hl : x.toNat < r.length
      · rw [if_pos hl, List.getElem?_eq_getElem hl]
        have e1 : ((x.toNat : Nat) : Int) = x := by omega
        simp [e1, hx]
      · rw [if_neg hl, List.getElem?_eq_none (by omega)]
        rfl
    · rw [if_neg hj]
      have hne : ¬ (j : Int) = x := by omega
      simp [hne]
theorem bump_bd : ∀ (ids r : List Int) (B : Int), 0 ≤ B → (∀ v ∈ r, 0 ≤ v ∧ v ≤ B) → ∀ v ∈ bump r ids, 0 ≤ v ∧ v ≤ B + ids.length
  | [], r, B, _, h, v, hv => by have := h v hv; simp; omega
  | x :: ids, r, B, hB, h, v, hv => by
    have := bump_bd ids (r.set x.toNat ((r[x.toNat]?).getD 0 + 1)) (B + 1) (by omega) (fun u hu => by
      rcases List.mem_or_eq_of_mem_set hu with hu | hu
      · have := h u hu; omega
      · subst hu
        cases hr : r[x.toNat]? with
        | none => simp; omega
        | some q => have := h q (List.mem_of_getElem? hr); simp; omega) v hv
    simp only [List.length_cons]
    omega
def rungAt (at_ : List Int) (t : Int) : List Int := at_.map fun x => if 0 ≤ x ∧ x < t then 1 else 0
theorem rungAt_zero (at_ : List Int) : rungAt at_ 0 = List.replicate at_.length 0 := by
  unfold rungAt
  rw [List.eq_replicate_iff]
  refine ⟨List.length_map .., fun b hb => ?_⟩
  obtain ⟨x, _, rfl⟩ := List.mem_map.1 hb
  rw [if_neg (by omega)]
theorem rungAt_bd (at_ : List Int) (t : Int) : ∀ v ∈ rungAt at_ t, 0 ≤ v ∧ v ≤ 1 := fun v hv => by
  obtain ⟨x, _, rfl⟩ := List.mem_map.1 hv
  split <;> omega
theorem rung_step {at_ : List Int} {t : Int} {L : List (Int × Int × Nat)} {c : Nat} (h : Tm at_ at_.length t L c) (ht : 0 ≤ t ∧ t ≤ 1048576) {ys : List Tmr} (hp : ys.Perm (dueOf L t)) : bump (rungAt at_ t) (ys.map (·.id)) = rungAt at_ (t + 1) := by
  obtain ⟨hn, hi⟩ := h.ids hp
  have h0 : ∀ x ∈ ys.map (·.id), 0 ≤ x := fun x hx => by
    obtain ⟨e, he, _, rfl⟩ := (hi x).1 hx
    obtain ⟨j, _, h2, _⟩ := h.mem e he
    omega
  apply List.ext_getElem?
  intro j
  rw [bump_get _ _ hn h0 j]
  unfold rungAt
  rw [List.getElem?_map, List.getElem?_map]
  cases hx : at_[j]? with
  | none => rfl
  | some x =>
    simp only [Option.map_some, Option.some.injEq]
    have hj : j < at_.length := (List.getElem?_eq_some_iff.1 hx).1
    by_cases hm : (j : Int) ∈ ys.map (·.id)
    · rw [if_pos hm]
      obtain ⟨e, he, h2, h3⟩ := (hi _).1 hm
      obtain ⟨j', _, b2, b3, b4, _⟩ := h.mem e he
      have : j' = j := by omega
      subst this
      rw [hx] at b3
      cases b3
      rw [if_neg (by omega), if_pos (by omega)]
      rfl
    · rw [if_neg hm]
      have hne : ¬ (0 ≤ x ∧ x = t) := fun hh => hm ((hi _).2 (by
        obtain ⟨e, he, hj2⟩ := List.mem_map.1 (h.all j x hj hx hh.1 (by omega) (by omega))
        obtain ⟨j', _, b2, b3, _⟩ := h.mem e he
        have : j' = j := by omega
        subst this
        rw [hx] at b3
        cases b3
        exact ⟨e, he, hh.2, hj2⟩))
      by_cases h1 : 0 ≤ x ∧ x < t
      · rw [if_pos h1, if_pos (by omega)]
      · rw [if_neg h1, if_neg (by omega)]
theorem rungAt_get {at_ : List Int} {t : Int} {z : Nat} (hz : z < (rungAt at_ t).length) (h : z < at_.length) : (rungAt at_ t)[z] = if 0 ≤ at_[z] ∧ at_[z] < t then 1 else 0 := by
  have e : (rungAt at_ t)[z]? = some (if 0 ≤ at_[z] ∧ at_[z] < t then 1 else 0) := by
    unfold rungAt
    rw [List.getElem?_map, List.getElem?_eq_getElem h]
    rfl
  rw [List.getElem?_eq_getElem hz] at e
  exact Option.some.inj e

theorem one_of {bs : List Nat} (h : bs.length = 1) : ∃ b0, bs = [b0] := by
  match bs, h with
  | [a], _ => exact ⟨a, rfl⟩
theorem COk_one {t : Nat} (h : t ≤ 1000) : COk [(t : Int)] 1 1 1 := ⟨by simp, by omega, by omega, by omega, fun x hx => by simp only [List.mem_singleton] at hx; subst hx; omega⟩
theorem mayI_one {t : Nat} (h : t ≤ 1000) : mayI [(t : Int)] 1 1 1 0 = true := by
  refine decide_eq_true ?_
  show (t : Int) < 1048576 ∧ ((t : Int) + 1) * 1 ≤ (t : Int) * 1 + 1 * 1 + 1
  omega
theorem tick_one {t : Nat} (h : t ≤ 1000) : tickE [(t : Int)] 1 1 1 1 = [((t + 1 : Nat) : Int)] ∧ tickR [(t : Int)] 1 1 1 1 = 0 := by
  have hs : stE [(t : Int)].length 1 = 0 := rfl
  have hm : mayI [(t : Int)] 1 1 1 ((1 : Int) - 1).toNat = true := mayI_one h
  unfold tickE tickR tickI mayE
  rw [if_pos hs, if_pos hs, if_pos hs, if_pos hm, if_pos hm]
  exact ⟨by simp, rfl⟩

theorem rings_bad {S : Nat → Prop} {w : World} {xs : List Int} {a : Option Addr} {cc : Nat} (h : (Shape.slice (Shape.int .i64)).rep S w [.slice a xs.length cc] xs) {ticks : Int} (hbad : 100 < xs.length ∨ ticks < 0 ∨ 300 < ticks) :
    Calls Try.prog 4 #[.slice a xs.length cc, .int .i64 ticks] w (Ret fun v w' => Ext w w' ∧ v = .bool true) := by
  refine WK.calls1 (fn := Try.f4) (n := 165) (σ := [(0, .slice a xs.length cc), (1, .int .i64 ticks)]) Try.func4 rfl (by as_aux_lemma => kernel_rfl) (by as_aux_lemma => kernel_rfl) (by as_aux_lemma => kernel_rfl) ?_
  have H := Hp.startF (w := w) (S := S) (G := [Rp (Shape.slice (Shape.int .i64)) [.slice a xs.length cc] xs]) (.rp h .nil)
  refine WK.run 3 [0, 1] [.code (cd Try.prog 4 [1, 0]), .code (cd Try.prog 4 [2])] [(0, .slice a xs.length cc), (1, .int .i64 ticks)] (by as_aux_lemma => kernel_rfl) ?_
  refine WK.reg1 (l := sq 0 6) (by as_aux_lemma => kernel_rfl) (by as_aux_lemma => kernel_rfl) ?_
  refine RW.callS (d := some 16) (r := (sq 1 6)) (g := 7) (args := #[.int .i64 1, .int .i64 1, .int .i64 1, .int .i64 1]) (by as_aux_lemma => kernel_rfl) (new_ok (S := Av S w [] (idsOf [] [])) (n := 1) (num := 1) (den := 1) (slack := 1) (by decide) (by decide) (by decide) (by decide)) ?_
  rintro _ w1 ⟨cb, nc, tc, na, ta, bs, rfl, hbs, H'⟩
  obtain ⟨b0, rfl⟩ := one_of hbs
  have H := H.back (M1 := []) (W1 := []) H'
  have H : Hp w S [] [(cb, .cells #[.slice na 1 nc, .int .i64 1, .int .i64 1, .int .i64 1, .slice ta 1 tc] 47 (0, 0)), (b0, mapO (Value.int .i64) (Value.int .i64) ([] : List (Int × Int × Nat)) 0)] [⟨Shape.mref, 50, .slice ta 1 tc, ([b0] : List Nat)⟩, ⟨Shape.int .i64, 3, .slice na 1 nc, ([((0 : Nat) : Int)] : List Int)⟩] [Rp (Shape.slice (Shape.int .i64)) [.slice a xs.length cc] xs] _ := H
  refine RW.fin 5 [0, 1, 5, 6] [(0, .slice a xs.length cc), (1, .int .i64 ticks), (5, .pointer (some ⟨cb, 0, none⟩)), (6, .int .i64 0)] (by as_aux_lemma => kernel_rfl) ?_
  refine WK.run 2 [0, 1, 5, 6] [.code (cd Try.prog 4 [2, 0, 0]), .code (cd Try.prog 4 [2, 0, 1]), .code (cd Try.prog 4 [3])] [(0, .slice a xs.length cc), (1, .int .i64 ticks), (5, .pointer (some ⟨cb, 0, none⟩)), (6, .int .i64 0)] (by as_aux_lemma => kernel_rfl) ?_
  refine WK.reg1 (l := sq 0 19) (by as_aux_lemma => kernel_rfl) (by as_aux_lemma => kernel_rfl) ?_
  refine RW.runP 12 [0, 1, 5, 6, 30] (sq 12 19) [(0, .slice a xs.length cc), (1, .int .i64 ticks), (5, .pointer (some ⟨cb, 0, none⟩)), (6, .int .i64 0), (30, .bool (decide ((((xs.length : Nat) : Int) : Int) > 100)))] (by as_aux_lemma => kernel_rfl) (by as_aux_lemma => kernel_rfl) ?_
  refine RW.test (fun b_ => [(0, .slice a xs.length cc), (1, .int .i64 ticks), (5, .pointer (some ⟨cb, 0, none⟩)), (6, .int .i64 0), (30, .bool b_)]) (decide ((((xs.length : Nat) : Int) : Int) > 100)) (fun h2 => ?_) (fun h2 => ?_)
  · skip
    replace h2 := of_decide_eq_true h2
    refine RW.fin 7 [0, 1, 5, 6, 37] [(0, .slice a xs.length cc), (1, .int .i64 ticks), (5, .pointer (some ⟨cb, 0, none⟩)), (6, .int .i64 0), (37, .bool true)] (by as_aux_lemma => kernel_rfl) ?_
    refine WK.run 2 [6] [.code (cd Try.prog 4 [2, 0, 1, 0, 0]), .code (cd Try.prog 4 [2, 0, 1, 0, 1]), .code (cd Try.prog 4 [3])] [(6, .int .i64 0)] (by as_aux_lemma => kernel_rfl) ?_
    refine WK.reg1 (l := sq 0 6) (by as_aux_lemma => kernel_rfl) (by as_aux_lemma => kernel_rfl) ?_
    refine RW.runP 3 [40] (sq 3 6) [(40, .bool true)] (by as_aux_lemma => kernel_rfl) (by as_aux_lemma => kernel_rfl) ?_
    refine RW.call (κ := .seq) (d := some 41) (r := (sq 4 6)) (g := 8) (args := #[]) (by as_aux_lemma => kernel_rfl) (nofun) (heads_spec (S := fun _ => True)) ?_
    rintro _ w3 hE4 rfl
    have H := H.ext hE4
    refine RW.fin 2 [4] [(4, .bool true)] (by as_aux_lemma => kernel_rfl) ?_
    refine WK.ret (v := .bool true) Try.func4 (by as_aux_lemma => kernel_rfl) (by as_aux_lemma => kernel_rfl) ?_
    exact ⟨_, rfl, H.done, rfl⟩
  · skip
    replace h2 := of_decide_eq_false h2
    refine RW.runP 4 [0, 1, 5, 6, 34] (sq 16 19) [(0, .slice a xs.length cc), (1, .int .i64 ticks), (5, .pointer (some ⟨cb, 0, none⟩)), (6, .int .i64 0), (34, .bool (decide ((ticks : Int) < 0)))] (by as_aux_lemma => kernel_rfl) (by as_aux_lemma => kernel_rfl) ?_
    refine RW.test (fun b_ => [(0, .slice a xs.length cc), (1, .int .i64 ticks), (5, .pointer (some ⟨cb, 0, none⟩)), (6, .int .i64 0), (34, .bool b_)]) (decide ((ticks : Int) < 0)) (fun h5 => ?_) (fun h5 => ?_)
    · skip
      replace h5 := of_decide_eq_true h5
      refine RW.fin 3 [0, 1, 5, 6, 37] [(0, .slice a xs.length cc), (1, .int .i64 ticks), (5, .pointer (some ⟨cb, 0, none⟩)), (6, .int .i64 0), (37, .bool true)] (by as_aux_lemma => kernel_rfl) ?_
      refine WK.run 2 [6] [.code (cd Try.prog 4 [2, 0, 1, 0, 0]), .code (cd Try.prog 4 [2, 0, 1, 0, 1]), .code (cd Try.prog 4 [3])] [(6, .int .i64 0)] (by as_aux_lemma => kernel_rfl) ?_
      refine WK.reg1 (l := sq 0 6) (by as_aux_lemma => kernel_rfl) (by as_aux_lemma => kernel_rfl) ?_
      refine RW.runP 3 [40] (sq 3 6) [(40, .bool true)] (by as_aux_lemma => kernel_rfl) (by as_aux_lemma => kernel_rfl) ?_
      refine RW.call (κ := .seq) (d := some 41) (r := (sq 4 6)) (g := 8) (args := #[]) (by as_aux_lemma => kernel_rfl) (nofun) (heads_spec (S := fun _ => True)) ?_
      rintro _ w6 hE7 rfl
      have H := H.ext hE7
      refine RW.fin 2 [4] [(4, .bool true)] (by as_aux_lemma => kernel_rfl) ?_
      refine WK.ret (v := .bool true) Try.func4 (by as_aux_lemma => kernel_rfl) (by as_aux_lemma => kernel_rfl) ?_
      exact ⟨_, rfl, H.done, rfl⟩
    · skip
      replace h5 := of_decide_eq_false h5
      refine RW.fin 3 [0, 1, 5, 6, 37] [(0, .slice a xs.length cc), (1, .int .i64 ticks), (5, .pointer (some ⟨cb, 0, none⟩)), (6, .int .i64 0), (37, .bool (decide ((ticks : Int) > 300)))] (by as_aux_lemma => kernel_rfl) ?_
      refine WK.cond1 (decide ((ticks : Int) > 300)) (by as_aux_lemma => kernel_rfl) (by as_aux_lemma => kernel_rfl) (fun h8 => ?_) (fun h8 => ?_)
      · skip
        replace h8 := of_decide_eq_true h8
        refine WK.run 1 [6] [.code (cd Try.prog 4 [2, 0, 1, 0, 0]), .code (cd Try.prog 4 [2, 0, 1, 0, 1]), .code (cd Try.prog 4 [3])] [(6, .int .i64 0)] (by as_aux_lemma => kernel_rfl) ?_
        refine WK.reg1 (l := sq 0 6) (by as_aux_lemma => kernel_rfl) (by as_aux_lemma => kernel_rfl) ?_
        refine RW.runP 3 [40] (sq 3 6) [(40, .bool true)] (by as_aux_lemma => kernel_rfl) (by as_aux_lemma => kernel_rfl) ?_
        refine RW.call (κ := .seq) (d := some 41) (r := (sq 4 6)) (g := 8) (args := #[]) (by as_aux_lemma => kernel_rfl) (nofun) (heads_spec (S := fun _ => True)) ?_
        rintro _ w9 hE10 rfl
        have H := H.ext hE10
        refine RW.fin 2 [4] [(4, .bool true)] (by as_aux_lemma => kernel_rfl) ?_
        refine WK.ret (v := .bool true) Try.func4 (by as_aux_lemma => kernel_rfl) (by as_aux_lemma => kernel_rfl) ?_
        exact ⟨_, rfl, H.done, rfl⟩
      · skip
        replace h8 := of_decide_eq_false h8
        omega

theorem rings_ok {S : Nat → Prop} {w : World} {xs : List Int} {a : Option Addr} {cc : Nat} (h : (Shape.slice (Shape.int .i64)).rep S w [.slice a xs.length cc] xs) {m : Nat} (hl : xs.length ≤ 100) (hm : m ≤ 300) :
    Calls Try.prog 4 #[.slice a xs.length cc, .int .i64 (m : Int)] w (Ret fun v w' => Ext w w' ∧ v = .bool true) := by
  refine WK.calls1 (fn := Try.f4) (n := 165) (σ := [(0, .slice a xs.length cc), (1, .int .i64 (m : Int))]) Try.func4 rfl (by as_aux_lemma => kernel_rfl) (by as_aux_lemma => kernel_rfl) (by as_aux_lemma => kernel_rfl) ?_
  have H := Hp.startF (w := w) (S := S) (G := [Rp (Shape.slice (Shape.int .i64)) [.slice a xs.length cc] xs]) (.rp h .nil)
  refine WK.run 3 [0, 1] [.code (cd Try.prog 4 [1, 0]), .code (cd Try.prog 4 [2])] [(0, .slice a xs.length cc), (1, .int .i64 (m : Int))] (by as_aux_lemma => kernel_rfl) ?_
  refine WK.reg1 (l := sq 0 6) (by as_aux_lemma => kernel_rfl) (by as_aux_lemma => kernel_rfl) ?_
  refine RW.callS (d := some 16) (r := (sq 1 6)) (g := 7) (args := #[.int .i64 1, .int .i64 1, .int .i64 1, .int .i64 1]) (by as_aux_lemma => kernel_rfl) (new_ok (S := Av S w [] (idsOf [] [])) (n := 1) (num := 1) (den := 1) (slack := 1) (by decide) (by decide) (by decide) (by decide)) ?_
  rintro _ w1 ⟨cb, nc, tc, na, ta, bs, rfl, hbs, H'⟩
  obtain ⟨b0, rfl⟩ := one_of hbs
  have H := H.back (M1 := []) (W1 := []) H'
  have H : Hp w S [] [(cb, .cells #[.slice na 1 nc, .int .i64 1, .int .i64 1, .int .i64 1, .slice ta 1 tc] 47 (0, 0)), (b0, mapO (Value.int .i64) (Value.int .i64) ([] : List (Int × Int × Nat)) 0)] [⟨Shape.mref, 50, .slice ta 1 tc, ([b0] : List Nat)⟩, ⟨Shape.int .i64, 3, .slice na 1 nc, ([((0 : Nat) : Int)] : List Int)⟩] [Rp (Shape.slice (Shape.int .i64)) [.slice a xs.length cc] xs] _ := H
  refine RW.fin 5 [0, 1, 5, 6] [(0, .slice a xs.length cc), (1, .int .i64 (m : Int)), (5, .pointer (some ⟨cb, 0, none⟩)), (6, .int .i64 0)] (by as_aux_lemma => kernel_rfl) ?_
  refine WK.run 2 [0, 1, 5, 6] [.code (cd Try.prog 4 [2, 0, 0]), .code (cd Try.prog 4 [2, 0, 1]), .code (cd Try.prog 4 [3])] [(0, .slice a xs.length cc), (1, .int .i64 (m : Int)), (5, .pointer (some ⟨cb, 0, none⟩)), (6, .int .i64 0)] (by as_aux_lemma => kernel_rfl) ?_
  refine WK.reg1 (l := sq 0 19) (by as_aux_lemma => kernel_rfl) (by as_aux_lemma => kernel_rfl) ?_
  refine RW.runP 12 [0, 1, 5, 6, 30] (sq 12 19) [(0, .slice a xs.length cc), (1, .int .i64 (m : Int)), (5, .pointer (some ⟨cb, 0, none⟩)), (6, .int .i64 0), (30, .bool (decide ((((xs.length : Nat) : Int) : Int) > 100)))] (by as_aux_lemma => kernel_rfl) (by as_aux_lemma => kernel_rfl) ?_
  refine RW.test (fun b_ => [(0, .slice a xs.length cc), (1, .int .i64 (m : Int)), (5, .pointer (some ⟨cb, 0, none⟩)), (6, .int .i64 0), (30, .bool b_)]) (decide ((((xs.length : Nat) : Int) : Int) > 100)) (fun h2 => ?_) (fun h2 => ?_)
  · skip
    replace h2 := of_decide_eq_true h2
    omega
  · skip
    replace h2 := of_decide_eq_false h2
    refine RW.runP 4 [0, 1, 5, 6, 34] (sq 16 19) [(0, .slice a xs.length cc), (1, .int .i64 (m : Int)), (5, .pointer (some ⟨cb, 0, none⟩)), (6, .int .i64 0), (34, .bool (decide (((m : Int) : Int) < 0)))] (by as_aux_lemma => kernel_rfl) (by as_aux_lemma => kernel_rfl) ?_
    refine RW.test (fun b_ => [(0, .slice a xs.length cc), (1, .int .i64 (m : Int)), (5, .pointer (some ⟨cb, 0, none⟩)), (6, .int .i64 0), (34, .bool b_)]) (decide (((m : Int) : Int) < 0)) (fun h3 => ?_) (fun h3 => ?_)
    · skip
      replace h3 := of_decide_eq_true h3
      omega
    · skip
      replace h3 := of_decide_eq_false h3
      refine RW.fin 3 [0, 1, 5, 6, 37] [(0, .slice a xs.length cc), (1, .int .i64 (m : Int)), (5, .pointer (some ⟨cb, 0, none⟩)), (6, .int .i64 0), (37, .bool (decide (((m : Int) : Int) > 300)))] (by as_aux_lemma => kernel_rfl) ?_
      refine WK.cond1 (decide (((m : Int) : Int) > 300)) (by as_aux_lemma => kernel_rfl) (by as_aux_lemma => kernel_rfl) (fun h4 => ?_) (fun h4 => ?_)
      · skip
        replace h4 := of_decide_eq_true h4
        omega
      · skip
        replace h4 := of_decide_eq_false h4
        refine WK.run 5 [0, 1, 5, 7] [.code (cd Try.prog 4 [3, 0, 1, 0]), .inBlock 0, .code (cd Try.prog 4 [4])] [(0, .slice a xs.length cc), (1, .int .i64 (m : Int)), (5, .pointer (some ⟨cb, 0, none⟩)), (7, .int .i64 0)] (by as_aux_lemma => kernel_rfl) ?_
        refine WK.loop (α := Nat × List (Int × Int × Nat) × Nat) (b := cd Try.prog 4 [3, 0, 1, 0, 0]) (by as_aux_lemma => kernel_rfl) (fun st_ => match st_ with | (i, L, c) => [(0, .slice a xs.length cc), (1, .int .i64 (m : Int)), (5, .pointer (some ⟨cb, 0, none⟩)), (7, .int .i64 (i : Int))]) (fun st_ w' => match st_ with | (i, L, c) => Hp w S [] [(cb, .cells #[.slice na 1 nc, .int .i64 1, .int .i64 1, .int .i64 1, .slice ta 1 tc] 47 (0, 0)), (b0, mapO (Value.int .i64) (Value.int .i64) L c)] [⟨Shape.mref, 50, .slice ta 1 tc, ([b0] : List Nat)⟩, ⟨Shape.int .i64, 3, .slice na 1 nc, ([((0 : Nat) : Int)] : List Int)⟩] [Rp (Shape.slice (Shape.int .i64)) [.slice a xs.length cc] xs] w' ∧ i ≤ xs.length ∧ Tm xs i 0 L c) (fun st_ => match st_ with | (i, L, c) => xs.length - i) (0, ([] : List (Int × Int × Nat)), 0) ⟨H, by omega, Tm.none xs⟩ (rfl) ?_
        rintro ⟨i, L, c⟩ w6 ⟨H, hinv0⟩ hback5
        refine WK.run 3 [0, 1, 5, 7, 46] [.code (cd Try.prog 4 [3, 0, 1, 0, 0, 0, 1]), .code (cd Try.prog 4 [3, 0, 1, 0, 0, 1]), .inLoop (cd Try.prog 4 [3, 0, 1, 0, 0]), .inBlock 0, .code (cd Try.prog 4 [4])] [(0, .slice a xs.length cc), (1, .int .i64 (m : Int)), (5, .pointer (some ⟨cb, 0, none⟩)), (7, .int .i64 (i : Int)), (46, .bool (decide (((i : Int) : Int) < ((xs.length : Nat) : Int))))] (by as_aux_lemma => kernel_rfl) ?_
        refine WK.cond1 (decide (((i : Int) : Int) < ((xs.length : Nat) : Int))) (by as_aux_lemma => kernel_rfl) (by as_aux_lemma => kernel_rfl) (fun h7 => ?_) (fun h7 => ?_)
        · skip
          replace h7 := of_decide_eq_true h7
          refine WK.run 4 [0, 1, 5, 7] [.code (cd Try.prog 4 [3, 0, 1, 0, 0, 1, 0, 0, 0]), .code (cd Try.prog 4 [3, 0, 1, 0, 0, 1, 0, 0, 1]), .inBlock 1, .code (cd Try.prog 4 [3, 0, 1, 0, 0, 2]), .inLoop (cd Try.prog 4 [3, 0, 1, 0, 0]), .inBlock 0, .code (cd Try.prog 4 [4])] [(0, .slice a xs.length cc), (1, .int .i64 (m : Int)), (5, .pointer (some ⟨cb, 0, none⟩)), (7, .int .i64 (i : Int))] (by as_aux_lemma => kernel_rfl) ?_
          refine WK.reg1 (l := sq 0 8) (by as_aux_lemma => kernel_rfl) (by as_aux_lemma => kernel_rfl) ?_
          refine RW.runP 4 [0, 1, 5, 7, 49, 50, 51, 52] (sq 4 8) [(0, .slice a xs.length cc), (1, .int .i64 (m : Int)), (5, .pointer (some ⟨cb, 0, none⟩)), (7, .int .i64 (i : Int)), (49, .pointer (some ⟨cb, 0, none⟩)), (50, .int .i64 (i : Int)), (51, .slice a xs.length cc), (52, .int .i64 (i : Int))] (by as_aux_lemma => kernel_rfl) (by as_aux_lemma => kernel_rfl) ?_
          have hx8 : i < xs.length := by omega
          refine RW.index (κ := .seq) (d := some 53) (r := (sq 5 8)) (T := 22) (e := 3) (ik := .i64) (ix := (i : Int)) (sh := (Shape.int .i64)) (x := xs[i]) (by as_aux_lemma => kernel_rfl) (by as_aux_lemma => kernel_rfl) H 0 rfl i (by omega) (List.getElem?_eq_getElem hx8) ?_
          intro b9 o10 es11 hr12 H
          have hb13 := Shape.i64_bd hr12
          obtain ⟨rfl, -⟩ := hr12
          refine RW.load (κ := .seq) (d := some 54) (r := (sq 6 8)) (T := 3) (b := b9) (o' := o10) (k := 0) (v := .int .i64 (xs[i])) (by as_aux_lemma => kernel_rfl) (H.fc 0 rfl) rfl (by as_aux_lemma => kernel_rfl) ?_
          have hxi : xs[i]? = some (xs[i]) := List.getElem?_eq_getElem (by omega)
          have hset := hinv0.2.set (by omega) hxi
          have hsb := hinv0.2.setB (by omega) (xs[i])
          rcases (show (0 ≤ (xs[i]) ∧ (xs[i]) ≤ 1048576) ∨ (xs[i]) < 0 ∨ 1048576 < (xs[i]) by omega) with hr | hr | hr
          · skip
            refine RW.callS (d := some 55) (r := (sq 7 8)) (g := 12) (args := #[.pointer (some ⟨cb, 0, none⟩), .int .i64 1, .int .i64 (i : Int), .int .i64 (xs[i])]) (by as_aux_lemma => kernel_rfl) (set_in (i := 0) (bs := [b0]) (now := ([((0 : Nat) : Int)] : List Int)) (i : Int) (xs[i]) ((H.lend (M1 := [(cb, .cells #[.slice na 1 nc, .int .i64 1, .int .i64 1, .int .i64 1, .slice ta 1 tc] 47 (0, 0)), (b0, mapO (Value.int .i64) (Value.int .i64) L c)]) (W1 := [⟨Shape.mref, 50, .slice ta 1 tc, ([b0] : List Nat)⟩])).pick [] rfl) (by decide) (by decide) rfl) ?_
            rintro v14 w15 ⟨hv, H'⟩
            have H := H.back (M1 := [(cb, .cells #[.slice na 1 nc, .int .i64 1, .int .i64 1, .int .i64 1, .slice ta 1 tc] 47 (0, 0)), (b0, mapO (Value.int .i64) (Value.int .i64) L c)]) (W1 := [⟨Shape.mref, 50, .slice ta 1 tc, ([b0] : List Nat)⟩]) H'
            obtain rfl : v14 = .int .i64 0 := by rw [hv, hsb]; rw [decide_eq_true hr]; rfl
            have H : Hp w S [] [(cb, .cells #[.slice na 1 nc, .int .i64 1, .int .i64 1, .int .i64 1, .slice ta 1 tc] 47 (0, 0)), (b0, mapO (Value.int .i64) (Value.int .i64) (setL L c (i : Int) (xs[i])) (setC L c (i : Int) (xs[i])))] [⟨Shape.mref, 50, .slice ta 1 tc, ([b0] : List Nat)⟩, ⟨Shape.int .i64, 3, .slice na 1 nc, ([((0 : Nat) : Int)] : List Int)⟩] [Fc b9 o10 [.int .i64 (xs[i])], Rp (Shape.slice (Shape.int .i64)) [.slice a xs.length cc] xs] _ := H
            refine RW.fin 1 [0, 1, 5, 7, 8] [(0, .slice a xs.length cc), (1, .int .i64 (m : Int)), (5, .pointer (some ⟨cb, 0, none⟩)), (7, .int .i64 (i : Int)), (8, .int .i64 0)] (by as_aux_lemma => kernel_rfl) ?_
            refine WK.run 1 [0, 1, 5, 7, 8] [.code (cd Try.prog 4 [3, 0, 1, 0, 0, 1, 0, 0, 1, 0]), .code (cd Try.prog 4 [3, 0, 1, 0, 0, 1, 0, 0, 2]), .inBlock 1, .code (cd Try.prog 4 [3, 0, 1, 0, 0, 2]), .inLoop (cd Try.prog 4 [3, 0, 1, 0, 0]), .inBlock 0, .code (cd Try.prog 4 [4])] [(0, .slice a xs.length cc), (1, .int .i64 (m : Int)), (5, .pointer (some ⟨cb, 0, none⟩)), (7, .int .i64 (i : Int)), (8, .int .i64 0)] (by as_aux_lemma => kernel_rfl) ?_
            refine WK.reg1 (l := sq 0 15) (by as_aux_lemma => kernel_rfl) (by as_aux_lemma => kernel_rfl) ?_
            refine RW.runP 4 [0, 1, 5, 7, 57, 58, 59] (sq 4 15) [(0, .slice a xs.length cc), (1, .int .i64 (m : Int)), (5, .pointer (some ⟨cb, 0, none⟩)), (7, .int .i64 (i : Int)), (57, .bool true), (58, .slice a xs.length cc), (59, .int .i64 (i : Int))] (by as_aux_lemma => kernel_rfl) (by as_aux_lemma => kernel_rfl) ?_
            have hx16 : i < xs.length := by omega
            refine RW.index (κ := .seq) (d := some 60) (r := (sq 5 15)) (T := 22) (e := 3) (ik := .i64) (ix := (i : Int)) (sh := (Shape.int .i64)) (x := xs[i]) (by as_aux_lemma => kernel_rfl) (by as_aux_lemma => kernel_rfl) H 1 rfl i (by omega) (List.getElem?_eq_getElem hx16) ?_
            intro b17 o18 es19 hr20 H
            have hb21 := Shape.i64_bd hr20
            obtain ⟨rfl, -⟩ := hr20
            refine RW.load (κ := .seq) (d := some 61) (r := (sq 6 15)) (T := 3) (b := b17) (o' := o18) (k := 0) (v := .int .i64 (xs[i])) (by as_aux_lemma => kernel_rfl) (H.fc 0 rfl) rfl (by as_aux_lemma => kernel_rfl) ?_
            refine RW.pv (κ := .seq) (d := some 62) (r := (sq 7 15)) (v' := .bool true) (v := .bool (decide ((xs[i] : Int) ≥ 0))) (by as_aux_lemma => kernel_rfl) (congrArg Value.bool (decide_eq_true (by omega))) ?_
            refine RW.runP 3 [0, 1, 5, 7, 57, 63, 64, 65] (sq 10 15) [(0, .slice a xs.length cc), (1, .int .i64 (m : Int)), (5, .pointer (some ⟨cb, 0, none⟩)), (7, .int .i64 (i : Int)), (57, .bool true), (63, .bool true), (64, .slice a xs.length cc), (65, .int .i64 (i : Int))] (by as_aux_lemma => kernel_rfl) (by as_aux_lemma => kernel_rfl) ?_
            have hx22 : i < xs.length := by omega
            refine RW.index (κ := .seq) (d := some 66) (r := (sq 11 15)) (T := 22) (e := 3) (ik := .i64) (ix := (i : Int)) (sh := (Shape.int .i64)) (x := xs[i]) (by as_aux_lemma => kernel_rfl) (by as_aux_lemma => kernel_rfl) H 2 rfl i (by omega) (List.getElem?_eq_getElem hx22) ?_
            intro b23 o24 es25 hr26 H
            have hb27 := Shape.i64_bd hr26
            obtain ⟨rfl, -⟩ := hr26
            refine RW.load (κ := .seq) (d := some 67) (r := (sq 12 15)) (T := 3) (b := b23) (o' := o24) (k := 0) (v := .int .i64 (xs[i])) (by as_aux_lemma => kernel_rfl) (H.fc 0 rfl) rfl (by as_aux_lemma => kernel_rfl) ?_
            refine RW.pv (κ := .seq) (d := some 68) (r := (sq 13 15)) (v' := .bool true) (v := .bool (decide ((xs[i] : Int) ≤ 1048576))) (by as_aux_lemma => kernel_rfl) (congrArg Value.bool (decide_eq_true (by omega))) ?_
            refine RW.fin 2 [0, 1, 5, 7, 70] [(0, .slice a xs.length cc), (1, .int .i64 (m : Int)), (5, .pointer (some ⟨cb, 0, none⟩)), (7, .int .i64 (i : Int)), (70, .bool false)] (by as_aux_lemma => kernel_rfl) ?_
            refine WK.run 3 [0, 1, 5, 7] [.code (cd Try.prog 4 [3, 0, 1, 0, 0, 2]), .inLoop (cd Try.prog 4 [3, 0, 1, 0, 0]), .inBlock 0, .code (cd Try.prog 4 [4])] [(0, .slice a xs.length cc), (1, .int .i64 (m : Int)), (5, .pointer (some ⟨cb, 0, none⟩)), (7, .int .i64 (i : Int))] (by as_aux_lemma => kernel_rfl) ?_
            refine WK.reg1 (l := sq 0 3) (by as_aux_lemma => kernel_rfl) (by as_aux_lemma => kernel_rfl) ?_
            refine RW.runP 1 [0, 1, 5, 7, 47] (sq 1 3) [(0, .slice a xs.length cc), (1, .int .i64 (m : Int)), (5, .pointer (some ⟨cb, 0, none⟩)), (7, .int .i64 (i : Int)), (47, .int .i64 (i : Int))] (by as_aux_lemma => kernel_rfl) (by as_aux_lemma => kernel_rfl) ?_
            refine RW.wr64 (κ := .seq) (d := some 48) (r := (sq 2 3)) (t := (i : Int) + 1) (by as_aux_lemma => kernel_rfl) (by omega) ?_
            refine RW.fin 1 [0, 1, 5, 7] [(0, .slice a xs.length cc), (1, .int .i64 (m : Int)), (5, .pointer (some ⟨cb, 0, none⟩)), (7, .int .i64 ((i : Int) + 1))] (by as_aux_lemma => kernel_rfl) ?_
            have H := H.pick [3] (G' := [Rp (Shape.slice (Shape.int .i64)) [.slice a xs.length cc] xs]) rfl
            exact WK.back (hback5 (i + 1, setL L c (i : Int) (xs[i]), setC L c (i : Int) (xs[i])) _ ⟨H, by omega, hset⟩ (by simp only []; omega)) (by as_aux_lemma => kernel_rfl)
          · skip
            refine RW.callS (d := some 55) (r := (sq 7 8)) (g := 12) (args := #[.pointer (some ⟨cb, 0, none⟩), .int .i64 1, .int .i64 (i : Int), .int .i64 (xs[i])]) (by as_aux_lemma => kernel_rfl) (set_in (i := 0) (bs := [b0]) (now := ([((0 : Nat) : Int)] : List Int)) (i : Int) (xs[i]) ((H.lend (M1 := [(cb, .cells #[.slice na 1 nc, .int .i64 1, .int .i64 1, .int .i64 1, .slice ta 1 tc] 47 (0, 0)), (b0, mapO (Value.int .i64) (Value.int .i64) L c)]) (W1 := [⟨Shape.mref, 50, .slice ta 1 tc, ([b0] : List Nat)⟩])).pick [] rfl) (by decide) (by decide) rfl) ?_
            rintro v28 w29 ⟨hv, H'⟩
            have H := H.back (M1 := [(cb, .cells #[.slice na 1 nc, .int .i64 1, .int .i64 1, .int .i64 1, .slice ta 1 tc] 47 (0, 0)), (b0, mapO (Value.int .i64) (Value.int .i64) L c)]) (W1 := [⟨Shape.mref, 50, .slice ta 1 tc, ([b0] : List Nat)⟩]) H'
            obtain rfl : v28 = .int .i64 2 := by rw [hv, hsb]; rw [decide_eq_false (by omega)]; rfl
            have H : Hp w S [] [(cb, .cells #[.slice na 1 nc, .int .i64 1, .int .i64 1, .int .i64 1, .slice ta 1 tc] 47 (0, 0)), (b0, mapO (Value.int .i64) (Value.int .i64) (setL L c (i : Int) (xs[i])) (setC L c (i : Int) (xs[i])))] [⟨Shape.mref, 50, .slice ta 1 tc, ([b0] : List Nat)⟩, ⟨Shape.int .i64, 3, .slice na 1 nc, ([((0 : Nat) : Int)] : List Int)⟩] [Fc b9 o10 [.int .i64 (xs[i])], Rp (Shape.slice (Shape.int .i64)) [.slice a xs.length cc] xs] _ := H
            refine RW.fin 1 [0, 1, 5, 7, 8] [(0, .slice a xs.length cc), (1, .int .i64 (m : Int)), (5, .pointer (some ⟨cb, 0, none⟩)), (7, .int .i64 (i : Int)), (8, .int .i64 2)] (by as_aux_lemma => kernel_rfl) ?_
            refine WK.run 1 [0, 1, 5, 7, 8] [.code (cd Try.prog 4 [3, 0, 1, 0, 0, 1, 0, 0, 1, 0]), .code (cd Try.prog 4 [3, 0, 1, 0, 0, 1, 0, 0, 2]), .inBlock 1, .code (cd Try.prog 4 [3, 0, 1, 0, 0, 2]), .inLoop (cd Try.prog 4 [3, 0, 1, 0, 0]), .inBlock 0, .code (cd Try.prog 4 [4])] [(0, .slice a xs.length cc), (1, .int .i64 (m : Int)), (5, .pointer (some ⟨cb, 0, none⟩)), (7, .int .i64 (i : Int)), (8, .int .i64 2)] (by as_aux_lemma => kernel_rfl) ?_
            refine WK.reg1 (l := sq 0 15) (by as_aux_lemma => kernel_rfl) (by as_aux_lemma => kernel_rfl) ?_
            refine RW.runP 4 [0, 1, 5, 7, 57, 58, 59] (sq 4 15) [(0, .slice a xs.length cc), (1, .int .i64 (m : Int)), (5, .pointer (some ⟨cb, 0, none⟩)), (7, .int .i64 (i : Int)), (57, .bool false), (58, .slice a xs.length cc), (59, .int .i64 (i : Int))] (by as_aux_lemma => kernel_rfl) (by as_aux_lemma => kernel_rfl) ?_
            have hx30 : i < xs.length := by omega
            refine RW.index (κ := .seq) (d := some 60) (r := (sq 5 15)) (T := 22) (e := 3) (ik := .i64) (ix := (i : Int)) (sh := (Shape.int .i64)) (x := xs[i]) (by as_aux_lemma => kernel_rfl) (by as_aux_lemma => kernel_rfl) H 1 rfl i (by omega) (List.getElem?_eq_getElem hx30) ?_
            intro b31 o32 es33 hr34 H
            have hb35 := Shape.i64_bd hr34
            obtain ⟨rfl, -⟩ := hr34
            refine RW.load (κ := .seq) (d := some 61) (r := (sq 6 15)) (T := 3) (b := b31) (o' := o32) (k := 0) (v := .int .i64 (xs[i])) (by as_aux_lemma => kernel_rfl) (H.fc 0 rfl) rfl (by as_aux_lemma => kernel_rfl) ?_
            refine RW.pv (κ := .seq) (d := some 62) (r := (sq 7 15)) (v' := .bool false) (v := .bool (decide ((xs[i] : Int) ≥ 0))) (by as_aux_lemma => kernel_rfl) (congrArg Value.bool (decide_eq_false (by omega))) ?_
            refine RW.fin 8 [0, 1, 5, 7, 70] [(0, .slice a xs.length cc), (1, .int .i64 (m : Int)), (5, .pointer (some ⟨cb, 0, none⟩)), (7, .int .i64 (i : Int)), (70, .bool false)] (by as_aux_lemma => kernel_rfl) ?_
            refine WK.run 3 [0, 1, 5, 7] [.code (cd Try.prog 4 [3, 0, 1, 0, 0, 2]), .inLoop (cd Try.prog 4 [3, 0, 1, 0, 0]), .inBlock 0, .code (cd Try.prog 4 [4])] [(0, .slice a xs.length cc), (1, .int .i64 (m : Int)), (5, .pointer (some ⟨cb, 0, none⟩)), (7, .int .i64 (i : Int))] (by as_aux_lemma => kernel_rfl) ?_
            refine WK.reg1 (l := sq 0 3) (by as_aux_lemma => kernel_rfl) (by as_aux_lemma => kernel_rfl) ?_
            refine RW.runP 1 [0, 1, 5, 7, 47] (sq 1 3) [(0, .slice a xs.length cc), (1, .int .i64 (m : Int)), (5, .pointer (some ⟨cb, 0, none⟩)), (7, .int .i64 (i : Int)), (47, .int .i64 (i : Int))] (by as_aux_lemma => kernel_rfl) (by as_aux_lemma => kernel_rfl) ?_
            refine RW.wr64 (κ := .seq) (d := some 48) (r := (sq 2 3)) (t := (i : Int) + 1) (by as_aux_lemma => kernel_rfl) (by omega) ?_
            refine RW.fin 1 [0, 1, 5, 7] [(0, .slice a xs.length cc), (1, .int .i64 (m : Int)), (5, .pointer (some ⟨cb, 0, none⟩)), (7, .int .i64 ((i : Int) + 1))] (by as_aux_lemma => kernel_rfl) ?_
            have H := H.pick [2] (G' := [Rp (Shape.slice (Shape.int .i64)) [.slice a xs.length cc] xs]) rfl
            exact WK.back (hback5 (i + 1, setL L c (i : Int) (xs[i]), setC L c (i : Int) (xs[i])) _ ⟨H, by omega, hset⟩ (by simp only []; omega)) (by as_aux_lemma => kernel_rfl)
          · skip
            refine RW.callS (d := some 55) (r := (sq 7 8)) (g := 12) (args := #[.pointer (some ⟨cb, 0, none⟩), .int .i64 1, .int .i64 (i : Int), .int .i64 (xs[i])]) (by as_aux_lemma => kernel_rfl) (set_in (i := 0) (bs := [b0]) (now := ([((0 : Nat) : Int)] : List Int)) (i : Int) (xs[i]) ((H.lend (M1 := [(cb, .cells #[.slice na 1 nc, .int .i64 1, .int .i64 1, .int .i64 1, .slice ta 1 tc] 47 (0, 0)), (b0, mapO (Value.int .i64) (Value.int .i64) L c)]) (W1 := [⟨Shape.mref, 50, .slice ta 1 tc, ([b0] : List Nat)⟩])).pick [] rfl) (by decide) (by decide) rfl) ?_
            rintro v36 w37 ⟨hv, H'⟩
            have H := H.back (M1 := [(cb, .cells #[.slice na 1 nc, .int .i64 1, .int .i64 1, .int .i64 1, .slice ta 1 tc] 47 (0, 0)), (b0, mapO (Value.int .i64) (Value.int .i64) L c)]) (W1 := [⟨Shape.mref, 50, .slice ta 1 tc, ([b0] : List Nat)⟩]) H'
            obtain rfl : v36 = .int .i64 2 := by rw [hv, hsb]; rw [decide_eq_false (by omega)]; rfl
            have H : Hp w S [] [(cb, .cells #[.slice na 1 nc, .int .i64 1, .int .i64 1, .int .i64 1, .slice ta 1 tc] 47 (0, 0)), (b0, mapO (Value.int .i64) (Value.int .i64) (setL L c (i : Int) (xs[i])) (setC L c (i : Int) (xs[i])))] [⟨Shape.mref, 50, .slice ta 1 tc, ([b0] : List Nat)⟩, ⟨Shape.int .i64, 3, .slice na 1 nc, ([((0 : Nat) : Int)] : List Int)⟩] [Fc b9 o10 [.int .i64 (xs[i])], Rp (Shape.slice (Shape.int .i64)) [.slice a xs.length cc] xs] _ := H
            refine RW.fin 1 [0, 1, 5, 7, 8] [(0, .slice a xs.length cc), (1, .int .i64 (m : Int)), (5, .pointer (some ⟨cb, 0, none⟩)), (7, .int .i64 (i : Int)), (8, .int .i64 2)] (by as_aux_lemma => kernel_rfl) ?_
            refine WK.run 1 [0, 1, 5, 7, 8] [.code (cd Try.prog 4 [3, 0, 1, 0, 0, 1, 0, 0, 1, 0]), .code (cd Try.prog 4 [3, 0, 1, 0, 0, 1, 0, 0, 2]), .inBlock 1, .code (cd Try.prog 4 [3, 0, 1, 0, 0, 2]), .inLoop (cd Try.prog 4 [3, 0, 1, 0, 0]), .inBlock 0, .code (cd Try.prog 4 [4])] [(0, .slice a xs.length cc), (1, .int .i64 (m : Int)), (5, .pointer (some ⟨cb, 0, none⟩)), (7, .int .i64 (i : Int)), (8, .int .i64 2)] (by as_aux_lemma => kernel_rfl) ?_
            refine WK.reg1 (l := sq 0 15) (by as_aux_lemma => kernel_rfl) (by as_aux_lemma => kernel_rfl) ?_
            refine RW.runP 4 [0, 1, 5, 7, 57, 58, 59] (sq 4 15) [(0, .slice a xs.length cc), (1, .int .i64 (m : Int)), (5, .pointer (some ⟨cb, 0, none⟩)), (7, .int .i64 (i : Int)), (57, .bool false), (58, .slice a xs.length cc), (59, .int .i64 (i : Int))] (by as_aux_lemma => kernel_rfl) (by as_aux_lemma => kernel_rfl) ?_
            have hx38 : i < xs.length := by omega
            refine RW.index (κ := .seq) (d := some 60) (r := (sq 5 15)) (T := 22) (e := 3) (ik := .i64) (ix := (i : Int)) (sh := (Shape.int .i64)) (x := xs[i]) (by as_aux_lemma => kernel_rfl) (by as_aux_lemma => kernel_rfl) H 1 rfl i (by omega) (List.getElem?_eq_getElem hx38) ?_
            intro b39 o40 es41 hr42 H
            have hb43 := Shape.i64_bd hr42
            obtain ⟨rfl, -⟩ := hr42
            refine RW.load (κ := .seq) (d := some 61) (r := (sq 6 15)) (T := 3) (b := b39) (o' := o40) (k := 0) (v := .int .i64 (xs[i])) (by as_aux_lemma => kernel_rfl) (H.fc 0 rfl) rfl (by as_aux_lemma => kernel_rfl) ?_
            refine RW.pv (κ := .seq) (d := some 62) (r := (sq 7 15)) (v' := .bool true) (v := .bool (decide ((xs[i] : Int) ≥ 0))) (by as_aux_lemma => kernel_rfl) (congrArg Value.bool (decide_eq_true (by omega))) ?_
            refine RW.runP 3 [0, 1, 5, 7, 57, 63, 64, 65] (sq 10 15) [(0, .slice a xs.length cc), (1, .int .i64 (m : Int)), (5, .pointer (some ⟨cb, 0, none⟩)), (7, .int .i64 (i : Int)), (57, .bool false), (63, .bool true), (64, .slice a xs.length cc), (65, .int .i64 (i : Int))] (by as_aux_lemma => kernel_rfl) (by as_aux_lemma => kernel_rfl) ?_
            have hx44 : i < xs.length := by omega
            refine RW.index (κ := .seq) (d := some 66) (r := (sq 11 15)) (T := 22) (e := 3) (ik := .i64) (ix := (i : Int)) (sh := (Shape.int .i64)) (x := xs[i]) (by as_aux_lemma => kernel_rfl) (by as_aux_lemma => kernel_rfl) H 2 rfl i (by omega) (List.getElem?_eq_getElem hx44) ?_
            intro b45 o46 es47 hr48 H
            have hb49 := Shape.i64_bd hr48
            obtain ⟨rfl, -⟩ := hr48
            refine RW.load (κ := .seq) (d := some 67) (r := (sq 12 15)) (T := 3) (b := b45) (o' := o46) (k := 0) (v := .int .i64 (xs[i])) (by as_aux_lemma => kernel_rfl) (H.fc 0 rfl) rfl (by as_aux_lemma => kernel_rfl) ?_
            refine RW.pv (κ := .seq) (d := some 68) (r := (sq 13 15)) (v' := .bool false) (v := .bool (decide ((xs[i] : Int) ≤ 1048576))) (by as_aux_lemma => kernel_rfl) (congrArg Value.bool (decide_eq_false (by omega))) ?_
            refine RW.fin 2 [0, 1, 5, 7, 70] [(0, .slice a xs.length cc), (1, .int .i64 (m : Int)), (5, .pointer (some ⟨cb, 0, none⟩)), (7, .int .i64 (i : Int)), (70, .bool false)] (by as_aux_lemma => kernel_rfl) ?_
            refine WK.run 3 [0, 1, 5, 7] [.code (cd Try.prog 4 [3, 0, 1, 0, 0, 2]), .inLoop (cd Try.prog 4 [3, 0, 1, 0, 0]), .inBlock 0, .code (cd Try.prog 4 [4])] [(0, .slice a xs.length cc), (1, .int .i64 (m : Int)), (5, .pointer (some ⟨cb, 0, none⟩)), (7, .int .i64 (i : Int))] (by as_aux_lemma => kernel_rfl) ?_
            refine WK.reg1 (l := sq 0 3) (by as_aux_lemma => kernel_rfl) (by as_aux_lemma => kernel_rfl) ?_
            refine RW.runP 1 [0, 1, 5, 7, 47] (sq 1 3) [(0, .slice a xs.length cc), (1, .int .i64 (m : Int)), (5, .pointer (some ⟨cb, 0, none⟩)), (7, .int .i64 (i : Int)), (47, .int .i64 (i : Int))] (by as_aux_lemma => kernel_rfl) (by as_aux_lemma => kernel_rfl) ?_
            refine RW.wr64 (κ := .seq) (d := some 48) (r := (sq 2 3)) (t := (i : Int) + 1) (by as_aux_lemma => kernel_rfl) (by omega) ?_
            refine RW.fin 1 [0, 1, 5, 7] [(0, .slice a xs.length cc), (1, .int .i64 (m : Int)), (5, .pointer (some ⟨cb, 0, none⟩)), (7, .int .i64 ((i : Int) + 1))] (by as_aux_lemma => kernel_rfl) ?_
            have H := H.pick [3] (G' := [Rp (Shape.slice (Shape.int .i64)) [.slice a xs.length cc] xs]) rfl
            exact WK.back (hback5 (i + 1, setL L c (i : Int) (xs[i]), setC L c (i : Int) (xs[i])) _ ⟨H, by omega, hset⟩ (by simp only []; omega)) (by as_aux_lemma => kernel_rfl)
        · skip
          replace h7 := of_decide_eq_false h7
          refine WK.run 2 [0, 1, 5] [.code (cd Try.prog 4 [4, 0]), .code (cd Try.prog 4 [5])] [(0, .slice a xs.length cc), (1, .int .i64 (m : Int)), (5, .pointer (some ⟨cb, 0, none⟩))] (by as_aux_lemma => kernel_rfl) ?_
          refine WK.reg1 (l := sq 0 4) (by as_aux_lemma => kernel_rfl) (by as_aux_lemma => kernel_rfl) ?_
          refine RW.runP 2 [0, 1, 5, 72] (sq 2 4) [(0, .slice a xs.length cc), (1, .int .i64 (m : Int)), (5, .pointer (some ⟨cb, 0, none⟩)), (72, .int .i64 ((xs.length : Nat) : Int))] (by as_aux_lemma => kernel_rfl) (by as_aux_lemma => kernel_rfl) ?_
          refine RW.makeW (Shape.int .i64) (κ := .seq) (d := some 73) (r := (sq 3 4)) (T := 22) (e := 3) (by_ := 8) (v0 := .int .i64 0) (0 : Int) (kl := .i64) (kc := .i64) (lv := ((xs.length : Nat) : Int)) (cv := ((xs.length : Nat) : Int)) (by as_aux_lemma => kernel_rfl) (nofun) (by as_aux_lemma => kernel_rfl) rfl H xs.length xs.length (by omega) (by omega) (by omega) (by omega) (by omega) (fun _ _ => Shape.int_mk (by decide)) ?_
          intro b50 w51 H
          have H : Hp w S [] [(cb, .cells #[.slice na 1 nc, .int .i64 1, .int .i64 1, .int .i64 1, .slice ta 1 tc] 47 (0, 0)), (b0, mapO (Value.int .i64) (Value.int .i64) L c)] [⟨Shape.int .i64, 3, .slice (some ⟨b50, 0, none⟩) xs.length xs.length, (List.replicate xs.length (0 : Int))⟩, ⟨Shape.mref, 50, .slice ta 1 tc, ([b0] : List Nat)⟩, ⟨Shape.int .i64, 3, .slice na 1 nc, ([((0 : Nat) : Int)] : List Int)⟩] [Rp (Shape.slice (Shape.int .i64)) [.slice a xs.length cc] xs] _ := H
          refine RW.fin 1 [0, 1, 5, 9] [(0, .slice a xs.length cc), (1, .int .i64 (m : Int)), (5, .pointer (some ⟨cb, 0, none⟩)), (9, .slice (some ⟨b50, 0, none⟩) xs.length xs.length)] (by as_aux_lemma => kernel_rfl) ?_
          refine WK.run 4 [0, 1, 5, 9, 10] [.code (cd Try.prog 4 [5, 0, 1, 0]), .inBlock 2, .code (cd Try.prog 4 [6])] [(0, .slice a xs.length cc), (1, .int .i64 (m : Int)), (5, .pointer (some ⟨cb, 0, none⟩)), (9, .slice (some ⟨b50, 0, none⟩) xs.length xs.length), (10, .int .i64 0)] (by as_aux_lemma => kernel_rfl) ?_
          have H : Hp w S [] [(cb, .cells #[.slice na 1 nc, .int .i64 1, .int .i64 1, .int .i64 1, .slice ta 1 tc] 47 (0, 0)), (b0, mapO (Value.int .i64) (Value.int .i64) L c)] [⟨Shape.int .i64, 3, .slice (some ⟨b50, 0, none⟩) xs.length xs.length, rungAt xs (((0 : Nat)) : Int)⟩, ⟨Shape.mref, 50, .slice ta 1 tc, ([b0] : List Nat)⟩, ⟨Shape.int .i64, 3, .slice na 1 nc, ([((0 : Nat) : Int)] : List Int)⟩] [Rp (Shape.slice (Shape.int .i64)) [.slice a xs.length cc] xs] w51 := by rw [show rungAt xs ((0 : Nat) : Int) = List.replicate xs.length (0 : Int) from rungAt_zero xs]; exact H
          refine WK.loop (α := Nat × List (Int × Int × Nat)) (b := cd Try.prog 4 [5, 0, 1, 0, 0]) (by as_aux_lemma => kernel_rfl) (fun st_ => match st_ with | (t, L) => [(0, .slice a xs.length cc), (1, .int .i64 (m : Int)), (5, .pointer (some ⟨cb, 0, none⟩)), (9, .slice (some ⟨b50, 0, none⟩) xs.length xs.length), (10, .int .i64 (t : Int))]) (fun st_ w' => match st_ with | (t, L) => Hp w S [] [(cb, .cells #[.slice na 1 nc, .int .i64 1, .int .i64 1, .int .i64 1, .slice ta 1 tc] 47 (0, 0)), (b0, mapO (Value.int .i64) (Value.int .i64) L c)] [⟨Shape.int .i64, 3, .slice (some ⟨b50, 0, none⟩) xs.length xs.length, rungAt xs ((t : Nat) : Int)⟩, ⟨Shape.mref, 50, .slice ta 1 tc, ([b0] : List Nat)⟩, ⟨Shape.int .i64, 3, .slice na 1 nc, ([((t : Nat) : Int)] : List Int)⟩] [Rp (Shape.slice (Shape.int .i64)) [.slice a xs.length cc] xs] w' ∧ t ≤ m + 1 ∧ Tm xs xs.length t L c) (fun st_ => match st_ with | (t, L) => m + 1 - t) (0, L) ⟨H, by omega, by rw [show xs.length = i by omega]; exact hinv0.2⟩ (rfl) ?_
          rintro ⟨t, L⟩ w53 ⟨H, hinv2⟩ hback52
          refine WK.run 3 [0, 1, 5, 9, 10, 76] [.code (cd Try.prog 4 [5, 0, 1, 0, 0, 0, 1]), .code (cd Try.prog 4 [5, 0, 1, 0, 0, 1]), .inLoop (cd Try.prog 4 [5, 0, 1, 0, 0]), .inBlock 2, .code (cd Try.prog 4 [6])] [(0, .slice a xs.length cc), (1, .int .i64 (m : Int)), (5, .pointer (some ⟨cb, 0, none⟩)), (9, .slice (some ⟨b50, 0, none⟩) xs.length xs.length), (10, .int .i64 (t : Int)), (76, .bool (decide (((t : Int) : Int) ≤ (m : Int))))] (by as_aux_lemma => kernel_rfl) ?_
          refine WK.cond1 (decide (((t : Int) : Int) ≤ (m : Int))) (by as_aux_lemma => kernel_rfl) (by as_aux_lemma => kernel_rfl) (fun h54 => ?_) (fun h54 => ?_)
          · skip
            replace h54 := of_decide_eq_true h54
            refine WK.run 4 [0, 1, 5, 9, 10] [.code (cd Try.prog 4 [5, 0, 1, 0, 0, 1, 0, 0, 0]), .code (cd Try.prog 4 [5, 0, 1, 0, 0, 1, 0, 0, 1]), .inBlock 3, .code (cd Try.prog 4 [5, 0, 1, 0, 0, 2]), .inLoop (cd Try.prog 4 [5, 0, 1, 0, 0]), .inBlock 2, .code (cd Try.prog 4 [6])] [(0, .slice a xs.length cc), (1, .int .i64 (m : Int)), (5, .pointer (some ⟨cb, 0, none⟩)), (9, .slice (some ⟨b50, 0, none⟩) xs.length xs.length), (10, .int .i64 (t : Int))] (by as_aux_lemma => kernel_rfl) ?_
            refine WK.reg1 (l := sq 0 3) (by as_aux_lemma => kernel_rfl) (by as_aux_lemma => kernel_rfl) ?_
            refine RW.runP 1 [0, 1, 5, 9, 10, 79] (sq 1 3) [(0, .slice a xs.length cc), (1, .int .i64 (m : Int)), (5, .pointer (some ⟨cb, 0, none⟩)), (9, .slice (some ⟨b50, 0, none⟩) xs.length xs.length), (10, .int .i64 (t : Int)), (79, .pointer (some ⟨cb, 0, none⟩))] (by as_aux_lemma => kernel_rfl) (by as_aux_lemma => kernel_rfl) ?_
            have H := H.perms (M' := [(cb, .cells #[.slice na 1 nc, .int .i64 1, .int .i64 1, .int .i64 1, .slice ta 1 tc] 47 (0, 0)), (b0, mapO (Value.int .i64) (Value.int .i64) L c)]) (W' := [⟨Shape.int .i64, 3, .slice na 1 nc, ([((t : Nat) : Int)] : List Int)⟩, ⟨Shape.int .i64, 3, .slice (some ⟨b50, 0, none⟩) xs.length xs.length, rungAt xs ((t : Nat) : Int)⟩, ⟨Shape.mref, 50, .slice ta 1 tc, ([b0] : List Nat)⟩]) (List.Perm.refl _) (List.perm_middle (l₁ := ([⟨Shape.int .i64, 3, .slice (some ⟨b50, 0, none⟩) xs.length xs.length, rungAt xs ((t : Nat) : Int)⟩, ⟨Shape.mref, 50, .slice ta 1 tc, ([b0] : List Nat)⟩] : List OwnS))).symm
            have H := H.perms (M' := [(cb, .cells #[.slice na 1 nc, .int .i64 1, .int .i64 1, .int .i64 1, .slice ta 1 tc] 47 (0, 0)), (b0, mapO (Value.int .i64) (Value.int .i64) L c)]) (W' := [⟨Shape.mref, 50, .slice ta 1 tc, ([b0] : List Nat)⟩, ⟨Shape.int .i64, 3, .slice na 1 nc, ([((t : Nat) : Int)] : List Int)⟩, ⟨Shape.int .i64, 3, .slice (some ⟨b50, 0, none⟩) xs.length xs.length, rungAt xs ((t : Nat) : Int)⟩]) (List.Perm.refl _) (List.perm_middle (l₁ := ([⟨Shape.int .i64, 3, .slice na 1 nc, ([((t : Nat) : Int)] : List Int)⟩, ⟨Shape.int .i64, 3, .slice (some ⟨b50, 0, none⟩) xs.length xs.length, rungAt xs ((t : Nat) : Int)⟩] : List OwnS))).symm
            refine RW.callS (d := some 80) (r := (sq 2 3)) (g := 13) (args := #[.pointer (some ⟨cb, 0, none⟩), .int .i64 1]) (by as_aux_lemma => kernel_rfl) (due_in (i := 0) (bs := [b0]) (now := ([((t : Nat) : Int)] : List Int)) ((H.lend (M1 := [(cb, .cells #[.slice na 1 nc, .int .i64 1, .int .i64 1, .int .i64 1, .slice ta 1 tc] 47 (0, 0)), (b0, mapO (Value.int .i64) (Value.int .i64) L c)]) (W1 := [⟨Shape.mref, 50, .slice ta 1 tc, ([b0] : List Nat)⟩, ⟨Shape.int .i64, 3, .slice na 1 nc, ([((t : Nat) : Int)] : List Int)⟩])).pick [] rfl) (by simp) (by simp) rfl hinv2.2.ok (by have := hinv2.2.len; omega) (fun e he => by obtain ⟨j, h1, h2, h3, h4, h5, h6⟩ := hinv2.2.mem e he; omega)) ?_
            rintro v55 w56 ⟨da, dc, ids, ys, rfl, hys0, hord, hids, H'⟩
            have H := H.back (M1 := [(cb, .cells #[.slice na 1 nc, .int .i64 1, .int .i64 1, .int .i64 1, .slice ta 1 tc] 47 (0, 0)), (b0, mapO (Value.int .i64) (Value.int .i64) L c)]) (W1 := [⟨Shape.mref, 50, .slice ta 1 tc, ([b0] : List Nat)⟩, ⟨Shape.int .i64, 3, .slice na 1 nc, ([((t : Nat) : Int)] : List Int)⟩]) H'
            have hys : ys.Perm (dueOf L (t : Int)) := hys0
            have hI := hinv2.2.due hys
            obtain ⟨hnd, hmem⟩ := hinv2.2.ids hys
            have hst := rung_step hinv2.2 (by omega) hys
            rw [← hids] at hI hnd hmem hst
            have hidl : ids.length ≤ 100 := by rw [hids, List.length_map, hys.length_eq]; exact Nat.le_trans (dueOf_len _ _) (by have := hinv2.2.len; omega)
            have H : Hp w S [] [(cb, .cells #[.slice na 1 nc, .int .i64 1, .int .i64 1, .int .i64 1, .slice ta 1 tc] 47 (0, 0)), (b0, mapO (Value.int .i64) (Value.int .i64) (delAll ids L) c)] [⟨Shape.int .i64, 3, .slice da ids.length dc, ids⟩, ⟨Shape.mref, 50, .slice ta 1 tc, ([b0] : List Nat)⟩, ⟨Shape.int .i64, 3, .slice na 1 nc, ([((t : Nat) : Int)] : List Int)⟩, ⟨Shape.int .i64, 3, .slice (some ⟨b50, 0, none⟩) xs.length xs.length, rungAt xs ((t : Nat) : Int)⟩] [Rp (Shape.slice (Shape.int .i64)) [.slice a xs.length cc] xs] _ := H
            refine RW.fin 1 [0, 1, 5, 9, 10, 11] [(0, .slice a xs.length cc), (1, .int .i64 (m : Int)), (5, .pointer (some ⟨cb, 0, none⟩)), (9, .slice (some ⟨b50, 0, none⟩) xs.length xs.length), (10, .int .i64 (t : Int)), (11, .slice da ids.length dc)] (by as_aux_lemma => kernel_rfl) ?_
            refine WK.run 4 [0, 1, 5, 9, 10, 11, 12] [.code (cd Try.prog 4 [5, 0, 1, 0, 0, 1, 0, 0, 1, 0, 1, 0]), .inBlock 4, .code (cd Try.prog 4 [5, 0, 1, 0, 0, 1, 0, 0, 2]), .inBlock 3, .code (cd Try.prog 4 [5, 0, 1, 0, 0, 2]), .inLoop (cd Try.prog 4 [5, 0, 1, 0, 0]), .inBlock 2, .code (cd Try.prog 4 [6])] [(0, .slice a xs.length cc), (1, .int .i64 (m : Int)), (5, .pointer (some ⟨cb, 0, none⟩)), (9, .slice (some ⟨b50, 0, none⟩) xs.length xs.length), (10, .int .i64 (t : Int)), (11, .slice da ids.length dc), (12, .int .i64 0)] (by as_aux_lemma => kernel_rfl) ?_
            have H : Hp w S [] [(cb, .cells #[.slice na 1 nc, .int .i64 1, .int .i64 1, .int .i64 1, .slice ta 1 tc] 47 (0, 0)), (b0, mapO (Value.int .i64) (Value.int .i64) (delAll ids L) c)] [⟨Shape.int .i64, 3, .slice da ids.length dc, ids⟩, ⟨Shape.mref, 50, .slice ta 1 tc, ([b0] : List Nat)⟩, ⟨Shape.int .i64, 3, .slice na 1 nc, ([((t : Nat) : Int)] : List Int)⟩, ⟨Shape.int .i64, 3, .slice (some ⟨b50, 0, none⟩) xs.length xs.length, bump (rungAt xs ((t : Nat) : Int)) (ids.take 0)⟩] [Rp (Shape.slice (Shape.int .i64)) [.slice a xs.length cc] xs] w56 := H
            refine WK.loop (α := Nat) (b := cd Try.prog 4 [5, 0, 1, 0, 0, 1, 0, 0, 1, 0, 1, 0, 0]) (by as_aux_lemma => kernel_rfl) (fun k => [(0, .slice a xs.length cc), (1, .int .i64 (m : Int)), (5, .pointer (some ⟨cb, 0, none⟩)), (9, .slice (some ⟨b50, 0, none⟩) xs.length xs.length), (10, .int .i64 (t : Int)), (11, .slice da ids.length dc), (12, .int .i64 (k : Int))]) (fun k w' => Hp w S [] [(cb, .cells #[.slice na 1 nc, .int .i64 1, .int .i64 1, .int .i64 1, .slice ta 1 tc] 47 (0, 0)), (b0, mapO (Value.int .i64) (Value.int .i64) (delAll ids L) c)] [⟨Shape.int .i64, 3, .slice da ids.length dc, ids⟩, ⟨Shape.mref, 50, .slice ta 1 tc, ([b0] : List Nat)⟩, ⟨Shape.int .i64, 3, .slice na 1 nc, ([((t : Nat) : Int)] : List Int)⟩, ⟨Shape.int .i64, 3, .slice (some ⟨b50, 0, none⟩) xs.length xs.length, bump (rungAt xs ((t : Nat) : Int)) (ids.take k)⟩] [Rp (Shape.slice (Shape.int .i64)) [.slice a xs.length cc] xs] w' ∧ k ≤ ids.length) (fun k => ids.length - k) 0 ⟨H, by omega⟩ (rfl) ?_
            rintro k w58 ⟨H, hinv4⟩ hback57
            refine WK.run 3 [0, 1, 5, 9, 10, 11, 12, 84] [.code (cd Try.prog 4 [5, 0, 1, 0, 0, 1, 0, 0, 1, 0, 1, 0, 0, 0, 1]), .code (cd Try.prog 4 [5, 0, 1, 0, 0, 1, 0, 0, 1, 0, 1, 0, 0, 1]), .inLoop (cd Try.prog 4 [5, 0, 1, 0, 0, 1, 0, 0, 1, 0, 1, 0, 0]), .inBlock 4, .code (cd Try.prog 4 [5, 0, 1, 0, 0, 1, 0, 0, 2]), .inBlock 3, .code (cd Try.prog 4 [5, 0, 1, 0, 0, 2]), .inLoop (cd Try.prog 4 [5, 0, 1, 0, 0]), .inBlock 2, .code (cd Try.prog 4 [6])] [(0, .slice a xs.length cc), (1, .int .i64 (m : Int)), (5, .pointer (some ⟨cb, 0, none⟩)), (9, .slice (some ⟨b50, 0, none⟩) xs.length xs.length), (10, .int .i64 (t : Int)), (11, .slice da ids.length dc), (12, .int .i64 (k : Int)), (84, .bool (decide (((k : Int) : Int) < ((ids.length : Nat) : Int))))] (by as_aux_lemma => kernel_rfl) ?_
            refine WK.cond1 (decide (((k : Int) : Int) < ((ids.length : Nat) : Int))) (by as_aux_lemma => kernel_rfl) (by as_aux_lemma => kernel_rfl) (fun h59 => ?_) (fun h59 => ?_)
            · skip
              replace h59 := of_decide_eq_true h59
              have hkm : ids[k] ∈ ids := List.getElem_mem _
              obtain ⟨e, he, he2, he3⟩ := (hmem _).1 hkm
              obtain ⟨j, hj1, hj2, hj3, hj4, hj5, hj6⟩ := hinv2.2.mem e he
              have hjk : ids[k].toNat = j := by omega
              have hxv : xs[ids[k].toNat]? = some (t : Int) := by rw [hjk, hj3, he2]
              have hjl : ids[k].toNat < xs.length := by omega
              have hrl : ids[k].toNat < (bump (rungAt xs ((t : Nat) : Int)) (ids.take k)).length := by rw [bump_len]; unfold rungAt; rw [List.length_map]; exact hjl
              have hbb := bump_bd (ids.take k) (rungAt xs ((t : Nat) : Int)) 1 (by omega) (rungAt_bd _ _) _ (List.getElem_mem hrl)
              have htk : (ids.take k).length ≤ 100 := by rw [List.length_take]; omega
              refine WK.run 5 [0, 1, 5, 9, 10, 11, 12] [.code (cd Try.prog 4 [5, 0, 1, 0, 0, 1, 0, 0, 1, 0, 1, 0, 0, 1, 0, 0, 0, 0]), .code (cd Try.prog 4 [5, 0, 1, 0, 0, 1, 0, 0, 1, 0, 1, 0, 0, 1, 0, 0, 0, 1]), .code (cd Try.prog 4 [5, 0, 1, 0, 0, 1, 0, 0, 1, 0, 1, 0, 0, 1, 0, 0, 1]), .inBlock 5, .code (cd Try.prog 4 [5, 0, 1, 0, 0, 1, 0, 0, 1, 0, 1, 0, 0, 2]), .inLoop (cd Try.prog 4 [5, 0, 1, 0, 0, 1, 0, 0, 1, 0, 1, 0, 0]), .inBlock 4, .code (cd Try.prog 4 [5, 0, 1, 0, 0, 1, 0, 0, 2]), .inBlock 3, .code (cd Try.prog 4 [5, 0, 1, 0, 0, 2]), .inLoop (cd Try.prog 4 [5, 0, 1, 0, 0]), .inBlock 2, .code (cd Try.prog 4 [6])] [(0, .slice a xs.length cc), (1, .int .i64 (m : Int)), (5, .pointer (some ⟨cb, 0, none⟩)), (9, .slice (some ⟨b50, 0, none⟩) xs.length xs.length), (10, .int .i64 (t : Int)), (11, .slice da ids.length dc), (12, .int .i64 (k : Int))] (by as_aux_lemma => kernel_rfl) ?_
              refine WK.reg1 (l := sq 0 40) (by as_aux_lemma => kernel_rfl) (by as_aux_lemma => kernel_rfl) ?_
              refine RW.runP 2 [0, 1, 5, 9, 10, 11, 12, 87, 88] (sq 2 40) [(0, .slice a xs.length cc), (1, .int .i64 (m : Int)), (5, .pointer (some ⟨cb, 0, none⟩)), (9, .slice (some ⟨b50, 0, none⟩) xs.length xs.length), (10, .int .i64 (t : Int)), (11, .slice da ids.length dc), (12, .int .i64 (k : Int)), (87, .slice da ids.length dc), (88, .int .i64 (k : Int))] (by as_aux_lemma => kernel_rfl) (by as_aux_lemma => kernel_rfl) ?_
              have hn61 : ids.length = ids.length := rfl
              have hx60 : k < ids.length := by omega
              refine RW.indexW (κ := .seq) (d := some 89) (r := (sq 3 40)) (T := 22) (e := 3) (m := 1) (ik := .i64) (ix := (k : Int)) (sh := (Shape.int .i64)) (xs := ids) (a := da) (len := ids.length) (cap := dc) (by as_aux_lemma => kernel_rfl) (by as_aux_lemma => kernel_rfl) rfl H k (by omega) hx60 hn61 ?_
              intro b62 es63 ha64 hcell65 hr66
              have hb67 := Shape.i64_bd hr66
              obtain ⟨rfl, -⟩ := hr66
              refine RW.load (κ := .seq) (d := some 90) (r := (sq 4 40)) (T := 3) (b := b62) (o' := k * 1) (k := 0) (v := .int .i64 (ids[k])) (by as_aux_lemma => kernel_rfl) hcell65 rfl (by as_aux_lemma => kernel_rfl) ?_
              refine RW.runP 2 [0, 1, 5, 9, 10, 11, 12, 92] (sq 6 40) [(0, .slice a xs.length cc), (1, .int .i64 (m : Int)), (5, .pointer (some ⟨cb, 0, none⟩)), (9, .slice (some ⟨b50, 0, none⟩) xs.length xs.length), (10, .int .i64 (t : Int)), (11, .slice da ids.length dc), (12, .int .i64 (k : Int)), (92, .bool (decide ((ids[k] : Int) < 0)))] (by as_aux_lemma => kernel_rfl) (by as_aux_lemma => kernel_rfl) ?_
              refine RW.test (fun b_ => [(0, .slice a xs.length cc), (1, .int .i64 (m : Int)), (5, .pointer (some ⟨cb, 0, none⟩)), (9, .slice (some ⟨b50, 0, none⟩) xs.length xs.length), (10, .int .i64 (t : Int)), (11, .slice da ids.length dc), (12, .int .i64 (k : Int)), (92, .bool b_)]) (decide ((ids[k] : Int) < 0)) (fun h68 => ?_) (fun h68 => ?_)
              · skip
                replace h68 := of_decide_eq_true h68
                omega
              · skip
                replace h68 := of_decide_eq_false h68
                refine RW.runP 2 [0, 1, 5, 9, 10, 11, 12, 92, 93, 94] (sq 8 40) [(0, .slice a xs.length cc), (1, .int .i64 (m : Int)), (5, .pointer (some ⟨cb, 0, none⟩)), (9, .slice (some ⟨b50, 0, none⟩) xs.length xs.length), (10, .int .i64 (t : Int)), (11, .slice da ids.length dc), (12, .int .i64 (k : Int)), (92, .bool false), (93, .slice da ids.length dc), (94, .int .i64 (k : Int))] (by as_aux_lemma => kernel_rfl) (by as_aux_lemma => kernel_rfl) ?_
                have hn70 : ids.length = ids.length := rfl
                have hx69 : k < ids.length := by omega
                refine RW.indexW (κ := .seq) (d := some 95) (r := (sq 9 40)) (T := 22) (e := 3) (m := 1) (ik := .i64) (ix := (k : Int)) (sh := (Shape.int .i64)) (xs := ids) (a := da) (len := ids.length) (cap := dc) (by as_aux_lemma => kernel_rfl) (by as_aux_lemma => kernel_rfl) rfl H k (by omega) hx69 hn70 ?_
                intro b71 es72 ha73 hcell74 hr75
                have hb76 := Shape.i64_bd hr75
                obtain ⟨rfl, -⟩ := hr75
                refine RW.load (κ := .seq) (d := some 96) (r := (sq 10 40)) (T := 3) (b := b71) (o' := k * 1) (k := 0) (v := .int .i64 (ids[k])) (by as_aux_lemma => kernel_rfl) hcell74 rfl (by as_aux_lemma => kernel_rfl) ?_
                refine RW.runP 5 [0, 1, 5, 9, 10, 11, 12, 101] (sq 15 40) [(0, .slice a xs.length cc), (1, .int .i64 (m : Int)), (5, .pointer (some ⟨cb, 0, none⟩)), (9, .slice (some ⟨b50, 0, none⟩) xs.length xs.length), (10, .int .i64 (t : Int)), (11, .slice da ids.length dc), (12, .int .i64 (k : Int)), (101, .bool (decide ((ids[k] : Int) ≥ ((xs.length : Nat) : Int))))] (by as_aux_lemma => kernel_rfl) (by as_aux_lemma => kernel_rfl) ?_
                refine RW.test (fun b_ => [(0, .slice a xs.length cc), (1, .int .i64 (m : Int)), (5, .pointer (some ⟨cb, 0, none⟩)), (9, .slice (some ⟨b50, 0, none⟩) xs.length xs.length), (10, .int .i64 (t : Int)), (11, .slice da ids.length dc), (12, .int .i64 (k : Int)), (101, .bool b_)]) (decide ((ids[k] : Int) ≥ ((xs.length : Nat) : Int))) (fun h77 => ?_) (fun h77 => ?_)
                · skip
                  replace h77 := of_decide_eq_true h77
                  omega
                · skip
                  replace h77 := of_decide_eq_false h77
                  refine RW.runP 3 [0, 1, 5, 9, 10, 11, 12, 101, 102, 103, 104] (sq 18 40) [(0, .slice a xs.length cc), (1, .int .i64 (m : Int)), (5, .pointer (some ⟨cb, 0, none⟩)), (9, .slice (some ⟨b50, 0, none⟩) xs.length xs.length), (10, .int .i64 (t : Int)), (11, .slice da ids.length dc), (12, .int .i64 (k : Int)), (101, .bool false), (102, .slice a xs.length cc), (103, .slice da ids.length dc), (104, .int .i64 (k : Int))] (by as_aux_lemma => kernel_rfl) (by as_aux_lemma => kernel_rfl) ?_
                  have hn79 : ids.length = ids.length := rfl
                  have hx78 : k < ids.length := by omega
                  refine RW.indexW (κ := .seq) (d := some 105) (r := (sq 19 40)) (T := 22) (e := 3) (m := 1) (ik := .i64) (ix := (k : Int)) (sh := (Shape.int .i64)) (xs := ids) (a := da) (len := ids.length) (cap := dc) (by as_aux_lemma => kernel_rfl) (by as_aux_lemma => kernel_rfl) rfl H k (by omega) hx78 hn79 ?_
                  intro b80 es81 ha82 hcell83 hr84
                  have hb85 := Shape.i64_bd hr84
                  obtain ⟨rfl, -⟩ := hr84
                  refine RW.load (κ := .seq) (d := some 106) (r := (sq 20 40)) (T := 3) (b := b80) (o' := k * 1) (k := 0) (v := .int .i64 (ids[k])) (by as_aux_lemma => kernel_rfl) hcell83 rfl (by as_aux_lemma => kernel_rfl) ?_
                  have hx86 : ids[k].toNat < xs.length := hjl
                  refine RW.index (κ := .seq) (d := some 107) (r := (sq 21 40)) (T := 22) (e := 3) (ik := .i64) (ix := ids[k]) (sh := (Shape.int .i64)) (x := (t : Int)) (by as_aux_lemma => kernel_rfl) (by as_aux_lemma => kernel_rfl) H 0 rfl (ids[k].toNat) (by omega) (hxv) ?_
                  intro b87 o88 es89 hr90 H
                  have hb91 := Shape.i64_bd hr90
                  obtain ⟨rfl, -⟩ := hr90
                  refine RW.load (κ := .seq) (d := some 108) (r := (sq 22 40)) (T := 3) (b := b87) (o' := o88) (k := 0) (v := .int .i64 (t : Int)) (by as_aux_lemma => kernel_rfl) (H.fc 0 rfl) rfl (by as_aux_lemma => kernel_rfl) ?_
                  refine RW.runP 4 [0, 1, 5, 9, 10, 11, 12, 112] (sq 26 40) [(0, .slice a xs.length cc), (1, .int .i64 (m : Int)), (5, .pointer (some ⟨cb, 0, none⟩)), (9, .slice (some ⟨b50, 0, none⟩) xs.length xs.length), (10, .int .i64 (t : Int)), (11, .slice da ids.length dc), (12, .int .i64 (k : Int)), (112, .bool (decide (((t : Int) : Int) > (t : Int))))] (by as_aux_lemma => kernel_rfl) (by as_aux_lemma => kernel_rfl) ?_
                  refine RW.test (fun b_ => [(0, .slice a xs.length cc), (1, .int .i64 (m : Int)), (5, .pointer (some ⟨cb, 0, none⟩)), (9, .slice (some ⟨b50, 0, none⟩) xs.length xs.length), (10, .int .i64 (t : Int)), (11, .slice da ids.length dc), (12, .int .i64 (k : Int)), (112, .bool b_)]) (decide (((t : Int) : Int) > (t : Int))) (fun h92 => ?_) (fun h92 => ?_)
                  · skip
                    replace h92 := of_decide_eq_true h92
                    omega
                  · skip
                    replace h92 := of_decide_eq_false h92
                    refine RW.runP 3 [0, 1, 5, 9, 10, 11, 12, 112, 115] (sq 29 40) [(0, .slice a xs.length cc), (1, .int .i64 (m : Int)), (5, .pointer (some ⟨cb, 0, none⟩)), (9, .slice (some ⟨b50, 0, none⟩) xs.length xs.length), (10, .int .i64 (t : Int)), (11, .slice da ids.length dc), (12, .int .i64 (k : Int)), (112, .bool false), (115, .bool (decide (((t : Int) : Int) > 0)))] (by as_aux_lemma => kernel_rfl) (by as_aux_lemma => kernel_rfl) ?_
                    refine RW.test (fun b_ => [(0, .slice a xs.length cc), (1, .int .i64 (m : Int)), (5, .pointer (some ⟨cb, 0, none⟩)), (9, .slice (some ⟨b50, 0, none⟩) xs.length xs.length), (10, .int .i64 (t : Int)), (11, .slice da ids.length dc), (12, .int .i64 (k : Int)), (112, .bool false), (115, .bool b_)]) (decide (((t : Int) : Int) > 0)) (fun h93 => ?_) (fun h93 => ?_)
                    · skip
                      replace h93 := of_decide_eq_true h93
                      refine RW.runP 3 [0, 1, 5, 9, 10, 11, 12, 112, 115, 116, 117, 118] (sq 32 40) [(0, .slice a xs.length cc), (1, .int .i64 (m : Int)), (5, .pointer (some ⟨cb, 0, none⟩)), (9, .slice (some ⟨b50, 0, none⟩) xs.length xs.length), (10, .int .i64 (t : Int)), (11, .slice da ids.length dc), (12, .int .i64 (k : Int)), (112, .bool false), (115, .bool true), (116, .slice a xs.length cc), (117, .slice da ids.length dc), (118, .int .i64 (k : Int))] (by as_aux_lemma => kernel_rfl) (by as_aux_lemma => kernel_rfl) ?_
                      have hn95 : ids.length = ids.length := rfl
                      have hx94 : k < ids.length := by omega
                      refine RW.indexW (κ := .seq) (d := some 119) (r := (sq 33 40)) (T := 22) (e := 3) (m := 1) (ik := .i64) (ix := (k : Int)) (sh := (Shape.int .i64)) (xs := ids) (a := da) (len := ids.length) (cap := dc) (by as_aux_lemma => kernel_rfl) (by as_aux_lemma => kernel_rfl) rfl H k (by omega) hx94 hn95 ?_
                      intro b96 es97 ha98 hcell99 hr100
                      have hb101 := Shape.i64_bd hr100
                      obtain ⟨rfl, -⟩ := hr100
                      refine RW.load (κ := .seq) (d := some 120) (r := (sq 34 40)) (T := 3) (b := b96) (o' := k * 1) (k := 0) (v := .int .i64 (ids[k])) (by as_aux_lemma => kernel_rfl) hcell99 rfl (by as_aux_lemma => kernel_rfl) ?_
                      have hx102 : ids[k].toNat < xs.length := hjl
                      refine RW.index (κ := .seq) (d := some 121) (r := (sq 35 40)) (T := 22) (e := 3) (ik := .i64) (ix := ids[k]) (sh := (Shape.int .i64)) (x := (t : Int)) (by as_aux_lemma => kernel_rfl) (by as_aux_lemma => kernel_rfl) H 1 rfl (ids[k].toNat) (by omega) (hxv) ?_
                      intro b103 o104 es105 hr106 H
                      have hb107 := Shape.i64_bd hr106
                      obtain ⟨rfl, -⟩ := hr106
                      refine RW.load (κ := .seq) (d := some 122) (r := (sq 36 40)) (T := 3) (b := b103) (o' := o104) (k := 0) (v := .int .i64 (t : Int)) (by as_aux_lemma => kernel_rfl) (H.fc 0 rfl) rfl (by as_aux_lemma => kernel_rfl) ?_
                      refine RW.fin 4 [0, 1, 5, 9, 10, 11, 12, 126] [(0, .slice a xs.length cc), (1, .int .i64 (m : Int)), (5, .pointer (some ⟨cb, 0, none⟩)), (9, .slice (some ⟨b50, 0, none⟩) xs.length xs.length), (10, .int .i64 (t : Int)), (11, .slice da ids.length dc), (12, .int .i64 (k : Int)), (126, .bool (decide (((t : Int) : Int) < (t : Int))))] (by as_aux_lemma => kernel_rfl) ?_
                      refine WK.cond1 (decide (((t : Int) : Int) < (t : Int))) (by as_aux_lemma => kernel_rfl) (by as_aux_lemma => kernel_rfl) (fun h108 => ?_) (fun h108 => ?_)
                      · skip
                        replace h108 := of_decide_eq_true h108
                        omega
                      · skip
                        replace h108 := of_decide_eq_false h108
                        refine WK.run 1 [0, 1, 5, 9, 10, 11, 12] [.code (cd Try.prog 4 [5, 0, 1, 0, 0, 1, 0, 0, 1, 0, 1, 0, 0, 1, 0, 0, 1]), .inBlock 5, .code (cd Try.prog 4 [5, 0, 1, 0, 0, 1, 0, 0, 1, 0, 1, 0, 0, 2]), .inLoop (cd Try.prog 4 [5, 0, 1, 0, 0, 1, 0, 0, 1, 0, 1, 0, 0]), .inBlock 4, .code (cd Try.prog 4 [5, 0, 1, 0, 0, 1, 0, 0, 2]), .inBlock 3, .code (cd Try.prog 4 [5, 0, 1, 0, 0, 2]), .inLoop (cd Try.prog 4 [5, 0, 1, 0, 0]), .inBlock 2, .code (cd Try.prog 4 [6])] [(0, .slice a xs.length cc), (1, .int .i64 (m : Int)), (5, .pointer (some ⟨cb, 0, none⟩)), (9, .slice (some ⟨b50, 0, none⟩) xs.length xs.length), (10, .int .i64 (t : Int)), (11, .slice da ids.length dc), (12, .int .i64 (k : Int))] (by as_aux_lemma => kernel_rfl) ?_
                        refine WK.reg1 (l := sq 0 10) (by as_aux_lemma => kernel_rfl) (by as_aux_lemma => kernel_rfl) ?_
                        refine RW.runP 3 [0, 1, 5, 9, 10, 11, 12, 127, 128, 129] (sq 3 10) [(0, .slice a xs.length cc), (1, .int .i64 (m : Int)), (5, .pointer (some ⟨cb, 0, none⟩)), (9, .slice (some ⟨b50, 0, none⟩) xs.length xs.length), (10, .int .i64 (t : Int)), (11, .slice da ids.length dc), (12, .int .i64 (k : Int)), (127, .slice (some ⟨b50, 0, none⟩) xs.length xs.length), (128, .slice da ids.length dc), (129, .int .i64 (k : Int))] (by as_aux_lemma => kernel_rfl) (by as_aux_lemma => kernel_rfl) ?_
                        have hn110 : ids.length = ids.length := rfl
                        have hx109 : k < ids.length := by omega
                        refine RW.indexW (κ := .seq) (d := some 130) (r := (sq 4 10)) (T := 22) (e := 3) (m := 1) (ik := .i64) (ix := (k : Int)) (sh := (Shape.int .i64)) (xs := ids) (a := da) (len := ids.length) (cap := dc) (by as_aux_lemma => kernel_rfl) (by as_aux_lemma => kernel_rfl) rfl H k (by omega) hx109 hn110 ?_
                        intro b111 es112 ha113 hcell114 hr115
                        have hb116 := Shape.i64_bd hr115
                        obtain ⟨rfl, -⟩ := hr115
                        refine RW.load (κ := .seq) (d := some 131) (r := (sq 5 10)) (T := 3) (b := b111) (o' := k * 1) (k := 0) (v := .int .i64 (ids[k])) (by as_aux_lemma => kernel_rfl) hcell114 rfl (by as_aux_lemma => kernel_rfl) ?_
                        have H := H.perms (M' := [(cb, .cells #[.slice na 1 nc, .int .i64 1, .int .i64 1, .int .i64 1, .slice ta 1 tc] 47 (0, 0)), (b0, mapO (Value.int .i64) (Value.int .i64) (delAll ids L) c)]) (W' := [⟨Shape.int .i64, 3, .slice (some ⟨b50, 0, none⟩) xs.length xs.length, bump (rungAt xs ((t : Nat) : Int)) (ids.take k)⟩, ⟨Shape.int .i64, 3, .slice da ids.length dc, ids⟩, ⟨Shape.mref, 50, .slice ta 1 tc, ([b0] : List Nat)⟩, ⟨Shape.int .i64, 3, .slice na 1 nc, ([((t : Nat) : Int)] : List Int)⟩]) (List.Perm.refl _) (List.perm_middle (l₁ := ([⟨Shape.int .i64, 3, .slice da ids.length dc, ids⟩, ⟨Shape.mref, 50, .slice ta 1 tc, ([b0] : List Nat)⟩, ⟨Shape.int .i64, 3, .slice na 1 nc, ([((t : Nat) : Int)] : List Int)⟩] : List OwnS))).symm
                        have hn118 : xs.length = (bump (rungAt xs ((t : Nat) : Int)) (ids.take k)).length := by rw [bump_len]; unfold rungAt; rw [List.length_map]
                        have hx117 : ids[k].toNat < (bump (rungAt xs ((t : Nat) : Int)) (ids.take k)).length := hrl
                        refine RW.indexW (κ := .seq) (d := some 132) (r := (sq 6 10)) (T := 22) (e := 3) (m := 1) (ik := .i64) (ix := ids[k]) (sh := (Shape.int .i64)) (xs := bump (rungAt xs ((t : Nat) : Int)) (ids.take k)) (a := (some ⟨b50, 0, none⟩)) (len := xs.length) (cap := xs.length) (by as_aux_lemma => kernel_rfl) (by as_aux_lemma => kernel_rfl) rfl H (ids[k].toNat) (by omega) hx117 hn118 ?_
                        intro b119 es120 ha121 hcell122 hr123
                        have hb124 := Shape.i64_bd hr123
                        obtain ⟨rfl, -⟩ := hr123
                        refine RW.load (κ := .seq) (d := some 133) (r := (sq 7 10)) (T := 3) (b := b119) (o' := (ids[k].toNat) * 1) (k := 0) (v := .int .i64 ((bump (rungAt xs ((t : Nat) : Int)) (ids.take k))[ids[k].toNat])) (by as_aux_lemma => kernel_rfl) hcell122 rfl (by as_aux_lemma => kernel_rfl) ?_
                        refine RW.wr64 (κ := .seq) (d := some 134) (r := (sq 8 10)) (t := ((bump (rungAt xs ((t : Nat) : Int)) (ids.take k))[ids[k].toNat]) + 1) (by as_aux_lemma => kernel_rfl) (by omega) ?_
                        have hn126 : xs.length = (bump (rungAt xs ((t : Nat) : Int)) (ids.take k)).length := by rw [bump_len]; unfold rungAt; rw [List.length_map]
                        have hx125 : ids[k].toNat < (bump (rungAt xs ((t : Nat) : Int)) (ids.take k)).length := hrl
                        refine RW.indexW (κ := .seq) (d := some 135) (r := (sq 9 10)) (T := 22) (e := 3) (m := 1) (ik := .i64) (ix := ids[k]) (sh := (Shape.int .i64)) (xs := bump (rungAt xs ((t : Nat) : Int)) (ids.take k)) (a := (some ⟨b50, 0, none⟩)) (len := xs.length) (cap := xs.length) (by as_aux_lemma => kernel_rfl) (by as_aux_lemma => kernel_rfl) rfl H (ids[k].toNat) (by omega) hx125 hn126 ?_
                        intro b127 es128 ha129 hcell130 hr131
                        have hb132 := Shape.i64_bd hr131
                        obtain ⟨rfl, -⟩ := hr131
                        refine RW.storeW (d := none) (r := (sq 10 10)) (e := 3) (m := 1) (b := b127) (k := ids[k].toNat) (v := .int .i64 (((bump (rungAt xs ((t : Nat) : Int)) (ids.take k))[ids[k].toNat]) + 1)) (by as_aux_lemma => kernel_rfl) rfl (by as_aux_lemma => kernel_rfl) H ha129 hx125 hn126 (((bump (rungAt xs ((t : Nat) : Int)) (ids.take k))[ids[k].toNat]) + 1) (Shape.i64_in (by first | omega | (simp <;> omega)) (by first | omega | (simp <;> omega))) ?_
                        intro w133 H
                        refine RW.fin 0 [0, 1, 5, 9, 10, 11, 12] [(0, .slice a xs.length cc), (1, .int .i64 (m : Int)), (5, .pointer (some ⟨cb, 0, none⟩)), (9, .slice (some ⟨b50, 0, none⟩) xs.length xs.length), (10, .int .i64 (t : Int)), (11, .slice da ids.length dc), (12, .int .i64 (k : Int))] (by as_aux_lemma => kernel_rfl) ?_
                        refine WK.run 1 [0, 1, 5, 9, 10, 11, 12] [.code (cd Try.prog 4 [5, 0, 1, 0, 0, 1, 0, 0, 1, 0, 1, 0, 0, 2]), .inLoop (cd Try.prog 4 [5, 0, 1, 0, 0, 1, 0, 0, 1, 0, 1, 0, 0]), .inBlock 4, .code (cd Try.prog 4 [5, 0, 1, 0, 0, 1, 0, 0, 2]), .inBlock 3, .code (cd Try.prog 4 [5, 0, 1, 0, 0, 2]), .inLoop (cd Try.prog 4 [5, 0, 1, 0, 0]), .inBlock 2, .code (cd Try.prog 4 [6])] [(0, .slice a xs.length cc), (1, .int .i64 (m : Int)), (5, .pointer (some ⟨cb, 0, none⟩)), (9, .slice (some ⟨b50, 0, none⟩) xs.length xs.length), (10, .int .i64 (t : Int)), (11, .slice da ids.length dc), (12, .int .i64 (k : Int))] (by as_aux_lemma => kernel_rfl) ?_
                        refine WK.reg1 (l := sq 0 3) (by as_aux_lemma => kernel_rfl) (by as_aux_lemma => kernel_rfl) ?_
                        refine RW.runP 1 [0, 1, 5, 9, 10, 11, 12, 85] (sq 1 3) [(0, .slice a xs.length cc), (1, .int .i64 (m : Int)), (5, .pointer (some ⟨cb, 0, none⟩)), (9, .slice (some ⟨b50, 0, none⟩) xs.length xs.length), (10, .int .i64 (t : Int)), (11, .slice da ids.length dc), (12, .int .i64 (k : Int)), (85, .int .i64 (k : Int))] (by as_aux_lemma => kernel_rfl) (by as_aux_lemma => kernel_rfl) ?_
                        refine RW.wr64 (κ := .seq) (d := some 86) (r := (sq 2 3)) (t := (k : Int) + 1) (by as_aux_lemma => kernel_rfl) (by omega) ?_
                        refine RW.fin 1 [0, 1, 5, 9, 10, 11, 12] [(0, .slice a xs.length cc), (1, .int .i64 (m : Int)), (5, .pointer (some ⟨cb, 0, none⟩)), (9, .slice (some ⟨b50, 0, none⟩) xs.length xs.length), (10, .int .i64 (t : Int)), (11, .slice da ids.length dc), (12, .int .i64 ((k : Int) + 1))] (by as_aux_lemma => kernel_rfl) ?_
                        have H : Hp w S [] [(cb, .cells #[.slice na 1 nc, .int .i64 1, .int .i64 1, .int .i64 1, .slice ta 1 tc] 47 (0, 0)), (b0, mapO (Value.int .i64) (Value.int .i64) (delAll ids L) c)] [⟨Shape.int .i64, 3, .slice (some ⟨b50, 0, none⟩) xs.length xs.length, bump (rungAt xs ((t : Nat) : Int)) (ids.take (k + 1))⟩, ⟨Shape.int .i64, 3, .slice da ids.length dc, ids⟩, ⟨Shape.mref, 50, .slice ta 1 tc, ([b0] : List Nat)⟩, ⟨Shape.int .i64, 3, .slice na 1 nc, ([((t : Nat) : Int)] : List Int)⟩] [Fc b103 o104 [.int .i64 (t : Int)], Fc b87 o88 [.int .i64 (t : Int)], Rp (Shape.slice (Shape.int .i64)) [.slice a xs.length cc] xs] w133 := by rw [List.take_succ_eq_append_getElem (show k < ids.length by omega), bump_app, List.getElem?_eq_getElem hrl]; exact H
                        
                        have H := H.pick [2] (G' := [Rp (Shape.slice (Shape.int .i64)) [.slice a xs.length cc] xs]) rfl
                        have H := H.perms (M' := [(cb, .cells #[.slice na 1 nc, .int .i64 1, .int .i64 1, .int .i64 1, .slice ta 1 tc] 47 (0, 0)), (b0, mapO (Value.int .i64) (Value.int .i64) (delAll ids L) c)]) (W' := [⟨Shape.int .i64, 3, .slice na 1 nc, ([((t : Nat) : Int)] : List Int)⟩, ⟨Shape.int .i64, 3, .slice (some ⟨b50, 0, none⟩) xs.length xs.length, bump (rungAt xs ((t : Nat) : Int)) (ids.take (k + 1))⟩, ⟨Shape.int .i64, 3, .slice da ids.length dc, ids⟩, ⟨Shape.mref, 50, .slice ta 1 tc, ([b0] : List Nat)⟩]) (List.Perm.refl _) (List.perm_middle (l₁ := ([⟨Shape.int .i64, 3, .slice (some ⟨b50, 0, none⟩) xs.length xs.length, bump (rungAt xs ((t : Nat) : Int)) (ids.take (k + 1))⟩, ⟨Shape.int .i64, 3, .slice da ids.length dc, ids⟩, ⟨Shape.mref, 50, .slice ta 1 tc, ([b0] : List Nat)⟩] : List OwnS))).symm
                        have H := H.perms (M' := [(cb, .cells #[.slice na 1 nc, .int .i64 1, .int .i64 1, .int .i64 1, .slice ta 1 tc] 47 (0, 0)), (b0, mapO (Value.int .i64) (Value.int .i64) (delAll ids L) c)]) (W' := [⟨Shape.mref, 50, .slice ta 1 tc, ([b0] : List Nat)⟩, ⟨Shape.int .i64, 3, .slice na 1 nc, ([((t : Nat) : Int)] : List Int)⟩, ⟨Shape.int .i64, 3, .slice (some ⟨b50, 0, none⟩) xs.length xs.length, bump (rungAt xs ((t : Nat) : Int)) (ids.take (k + 1))⟩, ⟨Shape.int .i64, 3, .slice da ids.length dc, ids⟩]) (List.Perm.refl _) (List.perm_middle (l₁ := ([⟨Shape.int .i64, 3, .slice na 1 nc, ([((t : Nat) : Int)] : List Int)⟩, ⟨Shape.int .i64, 3, .slice (some ⟨b50, 0, none⟩) xs.length xs.length, bump (rungAt xs ((t : Nat) : Int)) (ids.take (k + 1))⟩, ⟨Shape.int .i64, 3, .slice da ids.length dc, ids⟩] : List OwnS))).symm
                        have H := H.perms (M' := [(cb, .cells #[.slice na 1 nc, .int .i64 1, .int .i64 1, .int .i64 1, .slice ta 1 tc] 47 (0, 0)), (b0, mapO (Value.int .i64) (Value.int .i64) (delAll ids L) c)]) (W' := [⟨Shape.int .i64, 3, .slice da ids.length dc, ids⟩, ⟨Shape.mref, 50, .slice ta 1 tc, ([b0] : List Nat)⟩, ⟨Shape.int .i64, 3, .slice na 1 nc, ([((t : Nat) : Int)] : List Int)⟩, ⟨Shape.int .i64, 3, .slice (some ⟨b50, 0, none⟩) xs.length xs.length, bump (rungAt xs ((t : Nat) : Int)) (ids.take (k + 1))⟩]) (List.Perm.refl _) (List.perm_middle (l₁ := ([⟨Shape.mref, 50, .slice ta 1 tc, ([b0] : List Nat)⟩, ⟨Shape.int .i64, 3, .slice na 1 nc, ([((t : Nat) : Int)] : List Int)⟩, ⟨Shape.int .i64, 3, .slice (some ⟨b50, 0, none⟩) xs.length xs.length, bump (rungAt xs ((t : Nat) : Int)) (ids.take (k + 1))⟩] : List OwnS))).symm
                        exact WK.back (hback57 (k + 1) _ ⟨H, by omega⟩ (by first | omega | (simp only []; omega))) (by as_aux_lemma => kernel_rfl)
                    · skip
                      replace h93 := of_decide_eq_false h93
                      refine RW.fin 11 [0, 1, 5, 9, 10, 11, 12, 126] [(0, .slice a xs.length cc), (1, .int .i64 (m : Int)), (5, .pointer (some ⟨cb, 0, none⟩)), (9, .slice (some ⟨b50, 0, none⟩) xs.length xs.length), (10, .int .i64 (t : Int)), (11, .slice da ids.length dc), (12, .int .i64 (k : Int)), (126, .bool false)] (by as_aux_lemma => kernel_rfl) ?_
                      refine WK.run 2 [0, 1, 5, 9, 10, 11, 12] [.code (cd Try.prog 4 [5, 0, 1, 0, 0, 1, 0, 0, 1, 0, 1, 0, 0, 1, 0, 0, 1]), .inBlock 5, .code (cd Try.prog 4 [5, 0, 1, 0, 0, 1, 0, 0, 1, 0, 1, 0, 0, 2]), .inLoop (cd Try.prog 4 [5, 0, 1, 0, 0, 1, 0, 0, 1, 0, 1, 0, 0]), .inBlock 4, .code (cd Try.prog 4 [5, 0, 1, 0, 0, 1, 0, 0, 2]), .inBlock 3, .code (cd Try.prog 4 [5, 0, 1, 0, 0, 2]), .inLoop (cd Try.prog 4 [5, 0, 1, 0, 0]), .inBlock 2, .code (cd Try.prog 4 [6])] [(0, .slice a xs.length cc), (1, .int .i64 (m : Int)), (5, .pointer (some ⟨cb, 0, none⟩)), (9, .slice (some ⟨b50, 0, none⟩) xs.length xs.length), (10, .int .i64 (t : Int)), (11, .slice da ids.length dc), (12, .int .i64 (k : Int))] (by as_aux_lemma => kernel_rfl) ?_
                      refine WK.reg1 (l := sq 0 10) (by as_aux_lemma => kernel_rfl) (by as_aux_lemma => kernel_rfl) ?_
                      refine RW.runP 3 [0, 1, 5, 9, 10, 11, 12, 127, 128, 129] (sq 3 10) [(0, .slice a xs.length cc), (1, .int .i64 (m : Int)), (5, .pointer (some ⟨cb, 0, none⟩)), (9, .slice (some ⟨b50, 0, none⟩) xs.length xs.length), (10, .int .i64 (t : Int)), (11, .slice da ids.length dc), (12, .int .i64 (k : Int)), (127, .slice (some ⟨b50, 0, none⟩) xs.length xs.length), (128, .slice da ids.length dc), (129, .int .i64 (k : Int))] (by as_aux_lemma => kernel_rfl) (by as_aux_lemma => kernel_rfl) ?_
                      have hn135 : ids.length = ids.length := rfl
                      have hx134 : k < ids.length := by omega
                      refine RW.indexW (κ := .seq) (d := some 130) (r := (sq 4 10)) (T := 22) (e := 3) (m := 1) (ik := .i64) (ix := (k : Int)) (sh := (Shape.int .i64)) (xs := ids) (a := da) (len := ids.length) (cap := dc) (by as_aux_lemma => kernel_rfl) (by as_aux_lemma => kernel_rfl) rfl H k (by omega) hx134 hn135 ?_
                      intro b136 es137 ha138 hcell139 hr140
                      have hb141 := Shape.i64_bd hr140
                      obtain ⟨rfl, -⟩ := hr140
                      refine RW.load (κ := .seq) (d := some 131) (r := (sq 5 10)) (T := 3) (b := b136) (o' := k * 1) (k := 0) (v := .int .i64 (ids[k])) (by as_aux_lemma => kernel_rfl) hcell139 rfl (by as_aux_lemma => kernel_rfl) ?_
                      have H := H.perms (M' := [(cb, .cells #[.slice na 1 nc, .int .i64 1, .int .i64 1, .int .i64 1, .slice ta 1 tc] 47 (0, 0)), (b0, mapO (Value.int .i64) (Value.int .i64) (delAll ids L) c)]) (W' := [⟨Shape.int .i64, 3, .slice (some ⟨b50, 0, none⟩) xs.length xs.length, bump (rungAt xs ((t : Nat) : Int)) (ids.take k)⟩, ⟨Shape.int .i64, 3, .slice da ids.length dc, ids⟩, ⟨Shape.mref, 50, .slice ta 1 tc, ([b0] : List Nat)⟩, ⟨Shape.int .i64, 3, .slice na 1 nc, ([((t : Nat) : Int)] : List Int)⟩]) (List.Perm.refl _) (List.perm_middle (l₁ := ([⟨Shape.int .i64, 3, .slice da ids.length dc, ids⟩, ⟨Shape.mref, 50, .slice ta 1 tc, ([b0] : List Nat)⟩, ⟨Shape.int .i64, 3, .slice na 1 nc, ([((t : Nat) : Int)] : List Int)⟩] : List OwnS))).symm
                      have hn143 : xs.length = (bump (rungAt xs ((t : Nat) : Int)) (ids.take k)).length := by rw [bump_len]; unfold rungAt; rw [List.length_map]
                      have hx142 : ids[k].toNat < (bump (rungAt xs ((t : Nat) : Int)) (ids.take k)).length := hrl
                      refine RW.indexW (κ := .seq) (d := some 132) (r := (sq 6 10)) (T := 22) (e := 3) (m := 1) (ik := .i64) (ix := ids[k]) (sh := (Shape.int .i64)) (xs := bump (rungAt xs ((t : Nat) : Int)) (ids.take k)) (a := (some ⟨b50, 0, none⟩)) (len := xs.length) (cap := xs.length) (by as_aux_lemma => kernel_rfl) (by as_aux_lemma => kernel_rfl) rfl H (ids[k].toNat) (by omega) hx142 hn143 ?_
                      intro b144 es145 ha146 hcell147 hr148
                      have hb149 := Shape.i64_bd hr148
                      obtain ⟨rfl, -⟩ := hr148
                      refine RW.load (κ := .seq) (d := some 133) (r := (sq 7 10)) (T := 3) (b := b144) (o' := (ids[k].toNat) * 1) (k := 0) (v := .int .i64 ((bump (rungAt xs ((t : Nat) : Int)) (ids.take k))[ids[k].toNat])) (by as_aux_lemma => kernel_rfl) hcell147 rfl (by as_aux_lemma => kernel_rfl) ?_
                      refine RW.wr64 (κ := .seq) (d := some 134) (r := (sq 8 10)) (t := ((bump (rungAt xs ((t : Nat) : Int)) (ids.take k))[ids[k].toNat]) + 1) (by as_aux_lemma => kernel_rfl) (by omega) ?_
                      have hn151 : xs.length = (bump (rungAt xs ((t : Nat) : Int)) (ids.take k)).length := by rw [bump_len]; unfold rungAt; rw [List.length_map]
                      have hx150 : ids[k].toNat < (bump (rungAt xs ((t : Nat) : Int)) (ids.take k)).length := hrl
                      refine RW.indexW (κ := .seq) (d := some 135) (r := (sq 9 10)) (T := 22) (e := 3) (m := 1) (ik := .i64) (ix := ids[k]) (sh := (Shape.int .i64)) (xs := bump (rungAt xs ((t : Nat) : Int)) (ids.take k)) (a := (some ⟨b50, 0, none⟩)) (len := xs.length) (cap := xs.length) (by as_aux_lemma => kernel_rfl) (by as_aux_lemma => kernel_rfl) rfl H (ids[k].toNat) (by omega) hx150 hn151 ?_
                      intro b152 es153 ha154 hcell155 hr156
                      have hb157 := Shape.i64_bd hr156
                      obtain ⟨rfl, -⟩ := hr156
                      refine RW.storeW (d := none) (r := (sq 10 10)) (e := 3) (m := 1) (b := b152) (k := ids[k].toNat) (v := .int .i64 (((bump (rungAt xs ((t : Nat) : Int)) (ids.take k))[ids[k].toNat]) + 1)) (by as_aux_lemma => kernel_rfl) rfl (by as_aux_lemma => kernel_rfl) H ha154 hx150 hn151 (((bump (rungAt xs ((t : Nat) : Int)) (ids.take k))[ids[k].toNat]) + 1) (Shape.i64_in (by first | omega | (simp <;> omega)) (by first | omega | (simp <;> omega))) ?_
                      intro w158 H
                      refine RW.fin 0 [0, 1, 5, 9, 10, 11, 12] [(0, .slice a xs.length cc), (1, .int .i64 (m : Int)), (5, .pointer (some ⟨cb, 0, none⟩)), (9, .slice (some ⟨b50, 0, none⟩) xs.length xs.length), (10, .int .i64 (t : Int)), (11, .slice da ids.length dc), (12, .int .i64 (k : Int))] (by as_aux_lemma => kernel_rfl) ?_
                      refine WK.run 1 [0, 1, 5, 9, 10, 11, 12] [.code (cd Try.prog 4 [5, 0, 1, 0, 0, 1, 0, 0, 1, 0, 1, 0, 0, 2]), .inLoop (cd Try.prog 4 [5, 0, 1, 0, 0, 1, 0, 0, 1, 0, 1, 0, 0]), .inBlock 4, .code (cd Try.prog 4 [5, 0, 1, 0, 0, 1, 0, 0, 2]), .inBlock 3, .code (cd Try.prog 4 [5, 0, 1, 0, 0, 2]), .inLoop (cd Try.prog 4 [5, 0, 1, 0, 0]), .inBlock 2, .code (cd Try.prog 4 [6])] [(0, .slice a xs.length cc), (1, .int .i64 (m : Int)), (5, .pointer (some ⟨cb, 0, none⟩)), (9, .slice (some ⟨b50, 0, none⟩) xs.length xs.length), (10, .int .i64 (t : Int)), (11, .slice da ids.length dc), (12, .int .i64 (k : Int))] (by as_aux_lemma => kernel_rfl) ?_
                      refine WK.reg1 (l := sq 0 3) (by as_aux_lemma => kernel_rfl) (by as_aux_lemma => kernel_rfl) ?_
                      refine RW.runP 1 [0, 1, 5, 9, 10, 11, 12, 85] (sq 1 3) [(0, .slice a xs.length cc), (1, .int .i64 (m : Int)), (5, .pointer (some ⟨cb, 0, none⟩)), (9, .slice (some ⟨b50, 0, none⟩) xs.length xs.length), (10, .int .i64 (t : Int)), (11, .slice da ids.length dc), (12, .int .i64 (k : Int)), (85, .int .i64 (k : Int))] (by as_aux_lemma => kernel_rfl) (by as_aux_lemma => kernel_rfl) ?_
                      refine RW.wr64 (κ := .seq) (d := some 86) (r := (sq 2 3)) (t := (k : Int) + 1) (by as_aux_lemma => kernel_rfl) (by omega) ?_
                      refine RW.fin 1 [0, 1, 5, 9, 10, 11, 12] [(0, .slice a xs.length cc), (1, .int .i64 (m : Int)), (5, .pointer (some ⟨cb, 0, none⟩)), (9, .slice (some ⟨b50, 0, none⟩) xs.length xs.length), (10, .int .i64 (t : Int)), (11, .slice da ids.length dc), (12, .int .i64 ((k : Int) + 1))] (by as_aux_lemma => kernel_rfl) ?_
                      have H : Hp w S [] [(cb, .cells #[.slice na 1 nc, .int .i64 1, .int .i64 1, .int .i64 1, .slice ta 1 tc] 47 (0, 0)), (b0, mapO (Value.int .i64) (Value.int .i64) (delAll ids L) c)] [⟨Shape.int .i64, 3, .slice (some ⟨b50, 0, none⟩) xs.length xs.length, bump (rungAt xs ((t : Nat) : Int)) (ids.take (k + 1))⟩, ⟨Shape.int .i64, 3, .slice da ids.length dc, ids⟩, ⟨Shape.mref, 50, .slice ta 1 tc, ([b0] : List Nat)⟩, ⟨Shape.int .i64, 3, .slice na 1 nc, ([((t : Nat) : Int)] : List Int)⟩] [Fc b87 o88 [.int .i64 (t : Int)], Rp (Shape.slice (Shape.int .i64)) [.slice a xs.length cc] xs] w158 := by rw [List.take_succ_eq_append_getElem (show k < ids.length by omega), bump_app, List.getElem?_eq_getElem hrl]; exact H
                      
                      have H := H.pick [1] (G' := [Rp (Shape.slice (Shape.int .i64)) [.slice a xs.length cc] xs]) rfl
                      have H := H.perms (M' := [(cb, .cells #[.slice na 1 nc, .int .i64 1, .int .i64 1, .int .i64 1, .slice ta 1 tc] 47 (0, 0)), (b0, mapO (Value.int .i64) (Value.int .i64) (delAll ids L) c)]) (W' := [⟨Shape.int .i64, 3, .slice na 1 nc, ([((t : Nat) : Int)] : List Int)⟩, ⟨Shape.int .i64, 3, .slice (some ⟨b50, 0, none⟩) xs.length xs.length, bump (rungAt xs ((t : Nat) : Int)) (ids.take (k + 1))⟩, ⟨Shape.int .i64, 3, .slice da ids.length dc, ids⟩, ⟨Shape.mref, 50, .slice ta 1 tc, ([b0] : List Nat)⟩]) (List.Perm.refl _) (List.perm_middle (l₁ := ([⟨Shape.int .i64, 3, .slice (some ⟨b50, 0, none⟩) xs.length xs.length, bump (rungAt xs ((t : Nat) : Int)) (ids.take (k + 1))⟩, ⟨Shape.int .i64, 3, .slice da ids.length dc, ids⟩, ⟨Shape.mref, 50, .slice ta 1 tc, ([b0] : List Nat)⟩] : List OwnS))).symm
                      have H := H.perms (M' := [(cb, .cells #[.slice na 1 nc, .int .i64 1, .int .i64 1, .int .i64 1, .slice ta 1 tc] 47 (0, 0)), (b0, mapO (Value.int .i64) (Value.int .i64) (delAll ids L) c)]) (W' := [⟨Shape.mref, 50, .slice ta 1 tc, ([b0] : List Nat)⟩, ⟨Shape.int .i64, 3, .slice na 1 nc, ([((t : Nat) : Int)] : List Int)⟩, ⟨Shape.int .i64, 3, .slice (some ⟨b50, 0, none⟩) xs.length xs.length, bump (rungAt xs ((t : Nat) : Int)) (ids.take (k + 1))⟩, ⟨Shape.int .i64, 3, .slice da ids.length dc, ids⟩]) (List.Perm.refl _) (List.perm_middle (l₁ := ([⟨Shape.int .i64, 3, .slice na 1 nc, ([((t : Nat) : Int)] : List Int)⟩, ⟨Shape.int .i64, 3, .slice (some ⟨b50, 0, none⟩) xs.length xs.length, bump (rungAt xs ((t : Nat) : Int)) (ids.take (k + 1))⟩, ⟨Shape.int .i64, 3, .slice da ids.length dc, ids⟩] : List OwnS))).symm
                      have H := H.perms (M' := [(cb, .cells #[.slice na 1 nc, .int .i64 1, .int .i64 1, .int .i64 1, .slice ta 1 tc] 47 (0, 0)), (b0, mapO (Value.int .i64) (Value.int .i64) (delAll ids L) c)]) (W' := [⟨Shape.int .i64, 3, .slice da ids.length dc, ids⟩, ⟨Shape.mref, 50, .slice ta 1 tc, ([b0] : List Nat)⟩, ⟨Shape.int .i64, 3, .slice na 1 nc, ([((t : Nat) : Int)] : List Int)⟩, ⟨Shape.int .i64, 3, .slice (some ⟨b50, 0, none⟩) xs.length xs.length, bump (rungAt xs ((t : Nat) : Int)) (ids.take (k + 1))⟩]) (List.Perm.refl _) (List.perm_middle (l₁ := ([⟨Shape.mref, 50, .slice ta 1 tc, ([b0] : List Nat)⟩, ⟨Shape.int .i64, 3, .slice na 1 nc, ([((t : Nat) : Int)] : List Int)⟩, ⟨Shape.int .i64, 3, .slice (some ⟨b50, 0, none⟩) xs.length xs.length, bump (rungAt xs ((t : Nat) : Int)) (ids.take (k + 1))⟩] : List OwnS))).symm
                      exact WK.back (hback57 (k + 1) _ ⟨H, by omega⟩ (by first | omega | (simp only []; omega))) (by as_aux_lemma => kernel_rfl)
            · skip
              replace h59 := of_decide_eq_false h59
              have hkl : k = ids.length := by omega
              have H : Hp w S [] [(cb, .cells #[.slice na 1 nc, .int .i64 1, .int .i64 1, .int .i64 1, .slice ta 1 tc] 47 (0, 0)), (b0, mapO (Value.int .i64) (Value.int .i64) (delAll ids L) c)] [⟨Shape.int .i64, 3, .slice da ids.length dc, ids⟩, ⟨Shape.mref, 50, .slice ta 1 tc, ([b0] : List Nat)⟩, ⟨Shape.int .i64, 3, .slice na 1 nc, ([((t : Nat) : Int)] : List Int)⟩, ⟨Shape.int .i64, 3, .slice (some ⟨b50, 0, none⟩) xs.length xs.length, rungAt xs ((t + 1 : Nat) : Int)⟩] [Rp (Shape.slice (Shape.int .i64)) [.slice a xs.length cc] xs] w58 := by rw [show ((t + 1 : Nat) : Int) = (t : Int) + 1 by omega, ← hst]; rw [hkl, List.take_length] at H; exact H
              refine WK.run 2 [0, 1, 5, 9, 10] [.code (cd Try.prog 4 [5, 0, 1, 0, 0, 1, 0, 0, 2, 0]), .code (cd Try.prog 4 [5, 0, 1, 0, 0, 1, 0, 0, 3]), .inBlock 3, .code (cd Try.prog 4 [5, 0, 1, 0, 0, 2]), .inLoop (cd Try.prog 4 [5, 0, 1, 0, 0]), .inBlock 2, .code (cd Try.prog 4 [6])] [(0, .slice a xs.length cc), (1, .int .i64 (m : Int)), (5, .pointer (some ⟨cb, 0, none⟩)), (9, .slice (some ⟨b50, 0, none⟩) xs.length xs.length), (10, .int .i64 (t : Int))] (by as_aux_lemma => kernel_rfl) ?_
              refine WK.reg1 (l := sq 0 3) (by as_aux_lemma => kernel_rfl) (by as_aux_lemma => kernel_rfl) ?_
              refine RW.runP 1 [0, 1, 5, 9, 10, 136] (sq 1 3) [(0, .slice a xs.length cc), (1, .int .i64 (m : Int)), (5, .pointer (some ⟨cb, 0, none⟩)), (9, .slice (some ⟨b50, 0, none⟩) xs.length xs.length), (10, .int .i64 (t : Int)), (136, .pointer (some ⟨cb, 0, none⟩))] (by as_aux_lemma => kernel_rfl) (by as_aux_lemma => kernel_rfl) ?_
              have H := H.perms (M' := [(cb, .cells #[.slice na 1 nc, .int .i64 1, .int .i64 1, .int .i64 1, .slice ta 1 tc] 47 (0, 0)), (b0, mapO (Value.int .i64) (Value.int .i64) (delAll ids L) c)]) (W' := [⟨Shape.int .i64, 3, .slice na 1 nc, ([((t : Nat) : Int)] : List Int)⟩, ⟨Shape.int .i64, 3, .slice da ids.length dc, ids⟩, ⟨Shape.mref, 50, .slice ta 1 tc, ([b0] : List Nat)⟩, ⟨Shape.int .i64, 3, .slice (some ⟨b50, 0, none⟩) xs.length xs.length, rungAt xs ((t + 1 : Nat) : Int)⟩]) (List.Perm.refl _) (List.perm_middle (l₁ := ([⟨Shape.int .i64, 3, .slice da ids.length dc, ids⟩, ⟨Shape.mref, 50, .slice ta 1 tc, ([b0] : List Nat)⟩] : List OwnS))).symm
              refine RW.callS (d := some 137) (r := (sq 2 3)) (g := 9) (args := #[.pointer (some ⟨cb, 0, none⟩), .int .i64 1]) (by as_aux_lemma => kernel_rfl) (tick_spec (now := ([((t : Nat) : Int)] : List Int)) ((H.lend (M1 := [(cb, .cells #[.slice na 1 nc, .int .i64 1, .int .i64 1, .int .i64 1, .slice ta 1 tc] 47 (0, 0))]) (W1 := [⟨Shape.int .i64, 3, .slice na 1 nc, ([((t : Nat) : Int)] : List Int)⟩])).pick [] rfl) (COk_one (by omega)) 1) ?_
              rintro v159 w160 ⟨hv, H'⟩
              have H := H.back (M1 := [(cb, .cells #[.slice na 1 nc, .int .i64 1, .int .i64 1, .int .i64 1, .slice ta 1 tc] 47 (0, 0))]) (W1 := [⟨Shape.int .i64, 3, .slice na 1 nc, ([((t : Nat) : Int)] : List Int)⟩]) H'
              obtain rfl : v159 = .int .i64 0 := by rw [hv, (tick_one (show t ≤ 1000 by omega)).2]
              rw [(tick_one (show t ≤ 1000 by omega)).1] at H
              have H : Hp w S [] [(cb, .cells #[.slice na 1 nc, .int .i64 1, .int .i64 1, .int .i64 1, .slice ta 1 tc] 47 (0, 0)), (b0, mapO (Value.int .i64) (Value.int .i64) (delAll ids L) c)] [⟨Shape.int .i64, 3, .slice na 1 nc, ([((t + 1 : Nat) : Int)] : List Int)⟩, ⟨Shape.int .i64, 3, .slice da ids.length dc, ids⟩, ⟨Shape.mref, 50, .slice ta 1 tc, ([b0] : List Nat)⟩, ⟨Shape.int .i64, 3, .slice (some ⟨b50, 0, none⟩) xs.length xs.length, rungAt xs ((t + 1 : Nat) : Int)⟩] [Rp (Shape.slice (Shape.int .i64)) [.slice a xs.length cc] xs] _ := H
              refine RW.fin 1 [0, 1, 5, 9, 10, 138] [(0, .slice a xs.length cc), (1, .int .i64 (m : Int)), (5, .pointer (some ⟨cb, 0, none⟩)), (9, .slice (some ⟨b50, 0, none⟩) xs.length xs.length), (10, .int .i64 (t : Int)), (138, .bool false)] (by as_aux_lemma => kernel_rfl) ?_
              refine WK.run 3 [0, 1, 5, 9, 10] [.code (cd Try.prog 4 [5, 0, 1, 0, 0, 2]), .inLoop (cd Try.prog 4 [5, 0, 1, 0, 0]), .inBlock 2, .code (cd Try.prog 4 [6])] [(0, .slice a xs.length cc), (1, .int .i64 (m : Int)), (5, .pointer (some ⟨cb, 0, none⟩)), (9, .slice (some ⟨b50, 0, none⟩) xs.length xs.length), (10, .int .i64 (t : Int))] (by as_aux_lemma => kernel_rfl) ?_
              refine WK.reg1 (l := sq 0 3) (by as_aux_lemma => kernel_rfl) (by as_aux_lemma => kernel_rfl) ?_
              refine RW.runP 1 [0, 1, 5, 9, 10, 77] (sq 1 3) [(0, .slice a xs.length cc), (1, .int .i64 (m : Int)), (5, .pointer (some ⟨cb, 0, none⟩)), (9, .slice (some ⟨b50, 0, none⟩) xs.length xs.length), (10, .int .i64 (t : Int)), (77, .int .i64 (t : Int))] (by as_aux_lemma => kernel_rfl) (by as_aux_lemma => kernel_rfl) ?_
              refine RW.wr64 (κ := .seq) (d := some 78) (r := (sq 2 3)) (t := (t : Int) + 1) (by as_aux_lemma => kernel_rfl) (by omega) ?_
              refine RW.fin 1 [0, 1, 5, 9, 10] [(0, .slice a xs.length cc), (1, .int .i64 (m : Int)), (5, .pointer (some ⟨cb, 0, none⟩)), (9, .slice (some ⟨b50, 0, none⟩) xs.length xs.length), (10, .int .i64 ((t : Int) + 1))] (by as_aux_lemma => kernel_rfl) ?_
              have H := H.perms (M' := [(cb, .cells #[.slice na 1 nc, .int .i64 1, .int .i64 1, .int .i64 1, .slice ta 1 tc] 47 (0, 0)), (b0, mapO (Value.int .i64) (Value.int .i64) (delAll ids L) c)]) (W' := [⟨Shape.mref, 50, .slice ta 1 tc, ([b0] : List Nat)⟩, ⟨Shape.int .i64, 3, .slice na 1 nc, ([((t + 1 : Nat) : Int)] : List Int)⟩, ⟨Shape.int .i64, 3, .slice da ids.length dc, ids⟩, ⟨Shape.int .i64, 3, .slice (some ⟨b50, 0, none⟩) xs.length xs.length, rungAt xs ((t + 1 : Nat) : Int)⟩]) (List.Perm.refl _) (List.perm_middle (l₁ := ([⟨Shape.int .i64, 3, .slice na 1 nc, ([((t + 1 : Nat) : Int)] : List Int)⟩, ⟨Shape.int .i64, 3, .slice da ids.length dc, ids⟩] : List OwnS))).symm
              have H := H.perms (M' := [(cb, .cells #[.slice na 1 nc, .int .i64 1, .int .i64 1, .int .i64 1, .slice ta 1 tc] 47 (0, 0)), (b0, mapO (Value.int .i64) (Value.int .i64) (delAll ids L) c)]) (W' := [⟨Shape.int .i64, 3, .slice (some ⟨b50, 0, none⟩) xs.length xs.length, rungAt xs ((t + 1 : Nat) : Int)⟩, ⟨Shape.mref, 50, .slice ta 1 tc, ([b0] : List Nat)⟩, ⟨Shape.int .i64, 3, .slice na 1 nc, ([((t + 1 : Nat) : Int)] : List Int)⟩, ⟨Shape.int .i64, 3, .slice da ids.length dc, ids⟩]) (List.Perm.refl _) (List.perm_middle (l₁ := ([⟨Shape.mref, 50, .slice ta 1 tc, ([b0] : List Nat)⟩, ⟨Shape.int .i64, 3, .slice na 1 nc, ([((t + 1 : Nat) : Int)] : List Int)⟩, ⟨Shape.int .i64, 3, .slice da ids.length dc, ids⟩] : List OwnS))).symm
              have H := H.drop (M' := [(cb, .cells #[.slice na 1 nc, .int .i64 1, .int .i64 1, .int .i64 1, .slice ta 1 tc] 47 (0, 0)), (b0, mapO (Value.int .i64) (Value.int .i64) (delAll ids L) c)]) (W' := [⟨Shape.int .i64, 3, .slice (some ⟨b50, 0, none⟩) xs.length xs.length, rungAt xs (((t + 1) : Nat) : Int)⟩, ⟨Shape.mref, 50, .slice ta 1 tc, ([b0] : List Nat)⟩, ⟨Shape.int .i64, 3, .slice na 1 nc, ([(((t + 1) : Nat) : Int)] : List Int)⟩]) (by repeat (first | exact List.Sublist.refl _ | apply List.Sublist.cons_cons | apply List.Sublist.cons)) (by repeat (first | exact List.Sublist.refl _ | apply List.Sublist.cons_cons | apply List.Sublist.cons))
              exact WK.back (hback52 (t + 1, delAll ids L) _ ⟨H, by omega, hI⟩ (by simp only []; omega)) (by as_aux_lemma => kernel_rfl)
          · skip
            replace h54 := of_decide_eq_false h54
            refine WK.run 5 [0, 1, 9, 13] [.code (cd Try.prog 4 [6, 0, 1, 0]), .inBlock 6, .code (cd Try.prog 4 [7])] [(0, .slice a xs.length cc), (1, .int .i64 (m : Int)), (9, .slice (some ⟨b50, 0, none⟩) xs.length xs.length), (13, .int .i64 0)] (by as_aux_lemma => kernel_rfl) ?_
            refine WK.loop (α := Nat) (b := cd Try.prog 4 [6, 0, 1, 0, 0]) (by as_aux_lemma => kernel_rfl) (fun z => [(0, .slice a xs.length cc), (1, .int .i64 (m : Int)), (9, .slice (some ⟨b50, 0, none⟩) xs.length xs.length), (13, .int .i64 (z : Int))]) (fun z w' => Hp w S [] [(cb, .cells #[.slice na 1 nc, .int .i64 1, .int .i64 1, .int .i64 1, .slice ta 1 tc] 47 (0, 0)), (b0, mapO (Value.int .i64) (Value.int .i64) L c)] [⟨Shape.int .i64, 3, .slice (some ⟨b50, 0, none⟩) xs.length xs.length, rungAt xs ((t : Nat) : Int)⟩, ⟨Shape.mref, 50, .slice ta 1 tc, ([b0] : List Nat)⟩, ⟨Shape.int .i64, 3, .slice na 1 nc, ([((t : Nat) : Int)] : List Int)⟩] [Rp (Shape.slice (Shape.int .i64)) [.slice a xs.length cc] xs] w' ∧ z ≤ xs.length) (fun z => xs.length - z) 0 ⟨H, by omega⟩ (rfl) ?_
            rintro z w162 ⟨H, hinv6⟩ hback161
            refine WK.run 3 [0, 1, 9, 13, 142] [.code (cd Try.prog 4 [6, 0, 1, 0, 0, 0, 1]), .code (cd Try.prog 4 [6, 0, 1, 0, 0, 1]), .inLoop (cd Try.prog 4 [6, 0, 1, 0, 0]), .inBlock 6, .code (cd Try.prog 4 [7])] [(0, .slice a xs.length cc), (1, .int .i64 (m : Int)), (9, .slice (some ⟨b50, 0, none⟩) xs.length xs.length), (13, .int .i64 (z : Int)), (142, .bool (decide (((z : Int) : Int) < ((xs.length : Nat) : Int))))] (by as_aux_lemma => kernel_rfl) ?_
            refine WK.cond1 (decide (((z : Int) : Int) < ((xs.length : Nat) : Int))) (by as_aux_lemma => kernel_rfl) (by as_aux_lemma => kernel_rfl) (fun h163 => ?_) (fun h163 => ?_)
            · skip
              replace h163 := of_decide_eq_true h163
              refine WK.run 7 [0, 1, 9, 13, 14] [.code (cd Try.prog 4 [6, 0, 1, 0, 0, 1, 0, 0, 1, 0, 0]), .code (cd Try.prog 4 [6, 0, 1, 0, 0, 1, 0, 0, 1, 0, 1]), .code (cd Try.prog 4 [6, 0, 1, 0, 0, 1, 0, 0, 2]), .inBlock 7, .code (cd Try.prog 4 [6, 0, 1, 0, 0, 2]), .inLoop (cd Try.prog 4 [6, 0, 1, 0, 0]), .inBlock 6, .code (cd Try.prog 4 [7])] [(0, .slice a xs.length cc), (1, .int .i64 (m : Int)), (9, .slice (some ⟨b50, 0, none⟩) xs.length xs.length), (13, .int .i64 (z : Int)), (14, .int .i64 0)] (by as_aux_lemma => kernel_rfl) ?_
              refine WK.reg1 (l := sq 0 13) (by as_aux_lemma => kernel_rfl) (by as_aux_lemma => kernel_rfl) ?_
              refine RW.runP 2 [0, 1, 9, 13, 14, 145, 146] (sq 2 13) [(0, .slice a xs.length cc), (1, .int .i64 (m : Int)), (9, .slice (some ⟨b50, 0, none⟩) xs.length xs.length), (13, .int .i64 (z : Int)), (14, .int .i64 0), (145, .slice a xs.length cc), (146, .int .i64 (z : Int))] (by as_aux_lemma => kernel_rfl) (by as_aux_lemma => kernel_rfl) ?_
              have hx164 : z < xs.length := by omega
              refine RW.index (κ := .seq) (d := some 147) (r := (sq 3 13)) (T := 22) (e := 3) (ik := .i64) (ix := (z : Int)) (sh := (Shape.int .i64)) (x := xs[z]) (by as_aux_lemma => kernel_rfl) (by as_aux_lemma => kernel_rfl) H 0 rfl z (by omega) (List.getElem?_eq_getElem hx164) ?_
              intro b165 o166 es167 hr168 H
              have hb169 := Shape.i64_bd hr168
              obtain ⟨rfl, -⟩ := hr168
              refine RW.load (κ := .seq) (d := some 148) (r := (sq 4 13)) (T := 3) (b := b165) (o' := o166) (k := 0) (v := .int .i64 (xs[z])) (by as_aux_lemma => kernel_rfl) (H.fc 0 rfl) rfl (by as_aux_lemma => kernel_rfl) ?_
              refine RW.runP 2 [0, 1, 9, 13, 14, 150] (sq 6 13) [(0, .slice a xs.length cc), (1, .int .i64 (m : Int)), (9, .slice (some ⟨b50, 0, none⟩) xs.length xs.length), (13, .int .i64 (z : Int)), (14, .int .i64 0), (150, .bool (decide ((xs[z] : Int) ≥ 0)))] (by as_aux_lemma => kernel_rfl) (by as_aux_lemma => kernel_rfl) ?_
              refine RW.test (fun b_ => [(0, .slice a xs.length cc), (1, .int .i64 (m : Int)), (9, .slice (some ⟨b50, 0, none⟩) xs.length xs.length), (13, .int .i64 (z : Int)), (14, .int .i64 0), (150, .bool b_)]) (decide ((xs[z] : Int) ≥ 0)) (fun h170 => ?_) (fun h170 => ?_)
              · skip
                replace h170 := of_decide_eq_true h170
                refine RW.runP 2 [0, 1, 9, 13, 14, 150, 151, 152] (sq 8 13) [(0, .slice a xs.length cc), (1, .int .i64 (m : Int)), (9, .slice (some ⟨b50, 0, none⟩) xs.length xs.length), (13, .int .i64 (z : Int)), (14, .int .i64 0), (150, .bool true), (151, .slice a xs.length cc), (152, .int .i64 (z : Int))] (by as_aux_lemma => kernel_rfl) (by as_aux_lemma => kernel_rfl) ?_
                have hx171 : z < xs.length := by omega
                refine RW.index (κ := .seq) (d := some 153) (r := (sq 9 13)) (T := 22) (e := 3) (ik := .i64) (ix := (z : Int)) (sh := (Shape.int .i64)) (x := xs[z]) (by as_aux_lemma => kernel_rfl) (by as_aux_lemma => kernel_rfl) H 1 rfl z (by omega) (List.getElem?_eq_getElem hx171) ?_
                intro b172 o173 es174 hr175 H
                have hb176 := Shape.i64_bd hr175
                obtain ⟨rfl, -⟩ := hr175
                refine RW.load (κ := .seq) (d := some 154) (r := (sq 10 13)) (T := 3) (b := b172) (o' := o173) (k := 0) (v := .int .i64 (xs[z])) (by as_aux_lemma => kernel_rfl) (H.fc 0 rfl) rfl (by as_aux_lemma => kernel_rfl) ?_
                refine RW.fin 3 [0, 1, 9, 13, 14, 157] [(0, .slice a xs.length cc), (1, .int .i64 (m : Int)), (9, .slice (some ⟨b50, 0, none⟩) xs.length xs.length), (13, .int .i64 (z : Int)), (14, .int .i64 0), (157, .bool (decide ((xs[z] : Int) ≤ (m : Int))))] (by as_aux_lemma => kernel_rfl) ?_
                refine WK.cond1 (decide ((xs[z] : Int) ≤ (m : Int))) (by as_aux_lemma => kernel_rfl) (by as_aux_lemma => kernel_rfl) (fun h177 => ?_) (fun h177 => ?_)
                · skip
                  replace h177 := of_decide_eq_true h177
                  refine WK.run 2 [0, 1, 9, 13, 14] [.code (cd Try.prog 4 [6, 0, 1, 0, 0, 1, 0, 0, 2, 0]), .code (cd Try.prog 4 [6, 0, 1, 0, 0, 1, 0, 0, 3]), .inBlock 7, .code (cd Try.prog 4 [6, 0, 1, 0, 0, 2]), .inLoop (cd Try.prog 4 [6, 0, 1, 0, 0]), .inBlock 6, .code (cd Try.prog 4 [7])] [(0, .slice a xs.length cc), (1, .int .i64 (m : Int)), (9, .slice (some ⟨b50, 0, none⟩) xs.length xs.length), (13, .int .i64 (z : Int)), (14, .int .i64 1)] (by as_aux_lemma => kernel_rfl) ?_
                  refine WK.reg1 (l := sq 0 6) (by as_aux_lemma => kernel_rfl) (by as_aux_lemma => kernel_rfl) ?_
                  refine RW.runP 2 [0, 1, 9, 13, 14, 158, 159] (sq 2 6) [(0, .slice a xs.length cc), (1, .int .i64 (m : Int)), (9, .slice (some ⟨b50, 0, none⟩) xs.length xs.length), (13, .int .i64 (z : Int)), (14, .int .i64 1), (158, .slice (some ⟨b50, 0, none⟩) xs.length xs.length), (159, .int .i64 (z : Int))] (by as_aux_lemma => kernel_rfl) (by as_aux_lemma => kernel_rfl) ?_
                  have hn179 : xs.length = (rungAt xs ((t : Nat) : Int)).length := by unfold rungAt; rw [List.length_map]
                  have hx178 : z < (rungAt xs ((t : Nat) : Int)).length := by unfold rungAt; rw [List.length_map]; omega
                  refine RW.indexW (κ := .seq) (d := some 160) (r := (sq 3 6)) (T := 22) (e := 3) (m := 1) (ik := .i64) (ix := (z : Int)) (sh := (Shape.int .i64)) (xs := rungAt xs ((t : Nat) : Int)) (a := (some ⟨b50, 0, none⟩)) (len := xs.length) (cap := xs.length) (by as_aux_lemma => kernel_rfl) (by as_aux_lemma => kernel_rfl) rfl H z (by omega) hx178 hn179 ?_
                  intro b180 es181 ha182 hcell183 hr184
                  have hb185 := Shape.i64_bd hr184
                  obtain ⟨rfl, -⟩ := hr184
                  refine RW.load (κ := .seq) (d := some 161) (r := (sq 4 6)) (T := 3) (b := b180) (o' := z * 1) (k := 0) (v := .int .i64 ((rungAt xs ((t : Nat) : Int))[z])) (by as_aux_lemma => kernel_rfl) hcell183 rfl (by as_aux_lemma => kernel_rfl) ?_
                  refine RW.fin 2 [0, 1, 9, 13, 163] [(0, .slice a xs.length cc), (1, .int .i64 (m : Int)), (9, .slice (some ⟨b50, 0, none⟩) xs.length xs.length), (13, .int .i64 (z : Int)), (163, .bool (((rungAt xs ((t : Nat) : Int))[z]) != 1))] (by as_aux_lemma => kernel_rfl) ?_
                  refine WK.cond1 (((rungAt xs ((t : Nat) : Int))[z]) != 1) (by as_aux_lemma => kernel_rfl) (by as_aux_lemma => kernel_rfl) (fun h186 => ?_) (fun h186 => ?_)
                  · skip
                    replace h186 := bne_iff_ne.1 h186
                    have hzx : z < xs.length := by omega
                    have hv := fun hz => rungAt_get (at_ := xs) (t := ((t : Nat) : Int)) (z := z) hz hzx
                    have hte : t = m + 1 := by have := hinv2.1; omega
                    rw [hv] at h186
                    exfalso
                    revert h186
                    split <;> omega
                  · skip
                    replace h186 := (bne_eq_false_iff_eq.1 h186)
                    refine WK.run 2 [0, 1, 9, 13] [.code (cd Try.prog 4 [6, 0, 1, 0, 0, 2]), .inLoop (cd Try.prog 4 [6, 0, 1, 0, 0]), .inBlock 6, .code (cd Try.prog 4 [7])] [(0, .slice a xs.length cc), (1, .int .i64 (m : Int)), (9, .slice (some ⟨b50, 0, none⟩) xs.length xs.length), (13, .int .i64 (z : Int))] (by as_aux_lemma => kernel_rfl) ?_
                    refine WK.reg1 (l := sq 0 3) (by as_aux_lemma => kernel_rfl) (by as_aux_lemma => kernel_rfl) ?_
                    refine RW.runP 1 [0, 1, 9, 13, 143] (sq 1 3) [(0, .slice a xs.length cc), (1, .int .i64 (m : Int)), (9, .slice (some ⟨b50, 0, none⟩) xs.length xs.length), (13, .int .i64 (z : Int)), (143, .int .i64 (z : Int))] (by as_aux_lemma => kernel_rfl) (by as_aux_lemma => kernel_rfl) ?_
                    refine RW.wr64 (κ := .seq) (d := some 144) (r := (sq 2 3)) (t := (z : Int) + 1) (by as_aux_lemma => kernel_rfl) (by omega) ?_
                    refine RW.fin 1 [0, 1, 9, 13] [(0, .slice a xs.length cc), (1, .int .i64 (m : Int)), (9, .slice (some ⟨b50, 0, none⟩) xs.length xs.length), (13, .int .i64 ((z : Int) + 1))] (by as_aux_lemma => kernel_rfl) ?_
                    have H := H.pick [2] (G' := [Rp (Shape.slice (Shape.int .i64)) [.slice a xs.length cc] xs]) rfl
                    exact WK.back (hback161 (z + 1) _ ⟨H, by omega⟩ (by first | omega | (simp only []; omega))) (by as_aux_lemma => kernel_rfl)
                · skip
                  replace h177 := of_decide_eq_false h177
                  refine WK.run 2 [0, 1, 9, 13, 14] [.code (cd Try.prog 4 [6, 0, 1, 0, 0, 1, 0, 0, 2, 0]), .code (cd Try.prog 4 [6, 0, 1, 0, 0, 1, 0, 0, 3]), .inBlock 7, .code (cd Try.prog 4 [6, 0, 1, 0, 0, 2]), .inLoop (cd Try.prog 4 [6, 0, 1, 0, 0]), .inBlock 6, .code (cd Try.prog 4 [7])] [(0, .slice a xs.length cc), (1, .int .i64 (m : Int)), (9, .slice (some ⟨b50, 0, none⟩) xs.length xs.length), (13, .int .i64 (z : Int)), (14, .int .i64 0)] (by as_aux_lemma => kernel_rfl) ?_
                  refine WK.reg1 (l := sq 0 6) (by as_aux_lemma => kernel_rfl) (by as_aux_lemma => kernel_rfl) ?_
                  refine RW.runP 2 [0, 1, 9, 13, 14, 158, 159] (sq 2 6) [(0, .slice a xs.length cc), (1, .int .i64 (m : Int)), (9, .slice (some ⟨b50, 0, none⟩) xs.length xs.length), (13, .int .i64 (z : Int)), (14, .int .i64 0), (158, .slice (some ⟨b50, 0, none⟩) xs.length xs.length), (159, .int .i64 (z : Int))] (by as_aux_lemma => kernel_rfl) (by as_aux_lemma => kernel_rfl) ?_
                  have hn188 : xs.length = (rungAt xs ((t : Nat) : Int)).length := by unfold rungAt; rw [List.length_map]
                  have hx187 : z < (rungAt xs ((t : Nat) : Int)).length := by unfold rungAt; rw [List.length_map]; omega
                  refine RW.indexW (κ := .seq) (d := some 160) (r := (sq 3 6)) (T := 22) (e := 3) (m := 1) (ik := .i64) (ix := (z : Int)) (sh := (Shape.int .i64)) (xs := rungAt xs ((t : Nat) : Int)) (a := (some ⟨b50, 0, none⟩)) (len := xs.length) (cap := xs.length) (by as_aux_lemma => kernel_rfl) (by as_aux_lemma => kernel_rfl) rfl H z (by omega) hx187 hn188 ?_
                  intro b189 es190 ha191 hcell192 hr193
                  have hb194 := Shape.i64_bd hr193
                  obtain ⟨rfl, -⟩ := hr193
                  refine RW.load (κ := .seq) (d := some 161) (r := (sq 4 6)) (T := 3) (b := b189) (o' := z * 1) (k := 0) (v := .int .i64 ((rungAt xs ((t : Nat) : Int))[z])) (by as_aux_lemma => kernel_rfl) hcell192 rfl (by as_aux_lemma => kernel_rfl) ?_
                  refine RW.fin 2 [0, 1, 9, 13, 163] [(0, .slice a xs.length cc), (1, .int .i64 (m : Int)), (9, .slice (some ⟨b50, 0, none⟩) xs.length xs.length), (13, .int .i64 (z : Int)), (163, .bool (((rungAt xs ((t : Nat) : Int))[z]) != 0))] (by as_aux_lemma => kernel_rfl) ?_
                  refine WK.cond1 (((rungAt xs ((t : Nat) : Int))[z]) != 0) (by as_aux_lemma => kernel_rfl) (by as_aux_lemma => kernel_rfl) (fun h195 => ?_) (fun h195 => ?_)
                  · skip
                    replace h195 := bne_iff_ne.1 h195
                    have hzx : z < xs.length := by omega
                    have hv := fun hz => rungAt_get (at_ := xs) (t := ((t : Nat) : Int)) (z := z) hz hzx
                    have hte : t = m + 1 := by have := hinv2.1; omega
                    rw [hv] at h195
                    exfalso
                    revert h195
                    split <;> omega
                  · skip
                    replace h195 := (bne_eq_false_iff_eq.1 h195)
                    refine WK.run 2 [0, 1, 9, 13] [.code (cd Try.prog 4 [6, 0, 1, 0, 0, 2]), .inLoop (cd Try.prog 4 [6, 0, 1, 0, 0]), .inBlock 6, .code (cd Try.prog 4 [7])] [(0, .slice a xs.length cc), (1, .int .i64 (m : Int)), (9, .slice (some ⟨b50, 0, none⟩) xs.length xs.length), (13, .int .i64 (z : Int))] (by as_aux_lemma => kernel_rfl) ?_
                    refine WK.reg1 (l := sq 0 3) (by as_aux_lemma => kernel_rfl) (by as_aux_lemma => kernel_rfl) ?_
                    refine RW.runP 1 [0, 1, 9, 13, 143] (sq 1 3) [(0, .slice a xs.length cc), (1, .int .i64 (m : Int)), (9, .slice (some ⟨b50, 0, none⟩) xs.length xs.length), (13, .int .i64 (z : Int)), (143, .int .i64 (z : Int))] (by as_aux_lemma => kernel_rfl) (by as_aux_lemma => kernel_rfl) ?_
                    refine RW.wr64 (κ := .seq) (d := some 144) (r := (sq 2 3)) (t := (z : Int) + 1) (by as_aux_lemma => kernel_rfl) (by omega) ?_
                    refine RW.fin 1 [0, 1, 9, 13] [(0, .slice a xs.length cc), (1, .int .i64 (m : Int)), (9, .slice (some ⟨b50, 0, none⟩) xs.length xs.length), (13, .int .i64 ((z : Int) + 1))] (by as_aux_lemma => kernel_rfl) ?_
                    have H := H.pick [2] (G' := [Rp (Shape.slice (Shape.int .i64)) [.slice a xs.length cc] xs]) rfl
                    exact WK.back (hback161 (z + 1) _ ⟨H, by omega⟩ (by first | omega | (simp only []; omega))) (by as_aux_lemma => kernel_rfl)
              · skip
                replace h170 := of_decide_eq_false h170
                refine RW.fin 7 [0, 1, 9, 13, 14, 157] [(0, .slice a xs.length cc), (1, .int .i64 (m : Int)), (9, .slice (some ⟨b50, 0, none⟩) xs.length xs.length), (13, .int .i64 (z : Int)), (14, .int .i64 0), (157, .bool false)] (by as_aux_lemma => kernel_rfl) ?_
                refine WK.run 3 [0, 1, 9, 13, 14] [.code (cd Try.prog 4 [6, 0, 1, 0, 0, 1, 0, 0, 2, 0]), .code (cd Try.prog 4 [6, 0, 1, 0, 0, 1, 0, 0, 3]), .inBlock 7, .code (cd Try.prog 4 [6, 0, 1, 0, 0, 2]), .inLoop (cd Try.prog 4 [6, 0, 1, 0, 0]), .inBlock 6, .code (cd Try.prog 4 [7])] [(0, .slice a xs.length cc), (1, .int .i64 (m : Int)), (9, .slice (some ⟨b50, 0, none⟩) xs.length xs.length), (13, .int .i64 (z : Int)), (14, .int .i64 0)] (by as_aux_lemma => kernel_rfl) ?_
                refine WK.reg1 (l := sq 0 6) (by as_aux_lemma => kernel_rfl) (by as_aux_lemma => kernel_rfl) ?_
                refine RW.runP 2 [0, 1, 9, 13, 14, 158, 159] (sq 2 6) [(0, .slice a xs.length cc), (1, .int .i64 (m : Int)), (9, .slice (some ⟨b50, 0, none⟩) xs.length xs.length), (13, .int .i64 (z : Int)), (14, .int .i64 0), (158, .slice (some ⟨b50, 0, none⟩) xs.length xs.length), (159, .int .i64 (z : Int))] (by as_aux_lemma => kernel_rfl) (by as_aux_lemma => kernel_rfl) ?_
                have hn197 : xs.length = (rungAt xs ((t : Nat) : Int)).length := by unfold rungAt; rw [List.length_map]
                have hx196 : z < (rungAt xs ((t : Nat) : Int)).length := by unfold rungAt; rw [List.length_map]; omega
                refine RW.indexW (κ := .seq) (d := some 160) (r := (sq 3 6)) (T := 22) (e := 3) (m := 1) (ik := .i64) (ix := (z : Int)) (sh := (Shape.int .i64)) (xs := rungAt xs ((t : Nat) : Int)) (a := (some ⟨b50, 0, none⟩)) (len := xs.length) (cap := xs.length) (by as_aux_lemma => kernel_rfl) (by as_aux_lemma => kernel_rfl) rfl H z (by omega) hx196 hn197 ?_
                intro b198 es199 ha200 hcell201 hr202
                have hb203 := Shape.i64_bd hr202
                obtain ⟨rfl, -⟩ := hr202
                refine RW.load (κ := .seq) (d := some 161) (r := (sq 4 6)) (T := 3) (b := b198) (o' := z * 1) (k := 0) (v := .int .i64 ((rungAt xs ((t : Nat) : Int))[z])) (by as_aux_lemma => kernel_rfl) hcell201 rfl (by as_aux_lemma => kernel_rfl) ?_
                refine RW.fin 2 [0, 1, 9, 13, 163] [(0, .slice a xs.length cc), (1, .int .i64 (m : Int)), (9, .slice (some ⟨b50, 0, none⟩) xs.length xs.length), (13, .int .i64 (z : Int)), (163, .bool (((rungAt xs ((t : Nat) : Int))[z]) != 0))] (by as_aux_lemma => kernel_rfl) ?_
                refine WK.cond1 (((rungAt xs ((t : Nat) : Int))[z]) != 0) (by as_aux_lemma => kernel_rfl) (by as_aux_lemma => kernel_rfl) (fun h204 => ?_) (fun h204 => ?_)
                · skip
                  replace h204 := bne_iff_ne.1 h204
                  have hzx : z < xs.length := by omega
                  have hv := fun hz => rungAt_get (at_ := xs) (t := ((t : Nat) : Int)) (z := z) hz hzx
                  have hte : t = m + 1 := by have := hinv2.1; omega
                  rw [hv] at h204
                  exfalso
                  revert h204
                  split <;> omega
                · skip
                  replace h204 := (bne_eq_false_iff_eq.1 h204)
                  refine WK.run 2 [0, 1, 9, 13] [.code (cd Try.prog 4 [6, 0, 1, 0, 0, 2]), .inLoop (cd Try.prog 4 [6, 0, 1, 0, 0]), .inBlock 6, .code (cd Try.prog 4 [7])] [(0, .slice a xs.length cc), (1, .int .i64 (m : Int)), (9, .slice (some ⟨b50, 0, none⟩) xs.length xs.length), (13, .int .i64 (z : Int))] (by as_aux_lemma => kernel_rfl) ?_
                  refine WK.reg1 (l := sq 0 3) (by as_aux_lemma => kernel_rfl) (by as_aux_lemma => kernel_rfl) ?_
                  refine RW.runP 1 [0, 1, 9, 13, 143] (sq 1 3) [(0, .slice a xs.length cc), (1, .int .i64 (m : Int)), (9, .slice (some ⟨b50, 0, none⟩) xs.length xs.length), (13, .int .i64 (z : Int)), (143, .int .i64 (z : Int))] (by as_aux_lemma => kernel_rfl) (by as_aux_lemma => kernel_rfl) ?_
                  refine RW.wr64 (κ := .seq) (d := some 144) (r := (sq 2 3)) (t := (z : Int) + 1) (by as_aux_lemma => kernel_rfl) (by omega) ?_
                  refine RW.fin 1 [0, 1, 9, 13] [(0, .slice a xs.length cc), (1, .int .i64 (m : Int)), (9, .slice (some ⟨b50, 0, none⟩) xs.length xs.length), (13, .int .i64 ((z : Int) + 1))] (by as_aux_lemma => kernel_rfl) ?_
                  have H := H.pick [1] (G' := [Rp (Shape.slice (Shape.int .i64)) [.slice a xs.length cc] xs]) rfl
                  exact WK.back (hback161 (z + 1) _ ⟨H, by omega⟩ (by first | omega | (simp only []; omega))) (by as_aux_lemma => kernel_rfl)
            · skip
              replace h163 := of_decide_eq_false h163
              refine WK.run 2 [] [.code (cd Try.prog 4 [7, 0]), .code (cd Try.prog 4 [8])] [] (by as_aux_lemma => kernel_rfl) ?_
              refine WK.reg1 (l := sq 0 2) (by as_aux_lemma => kernel_rfl) (by as_aux_lemma => kernel_rfl) ?_
              refine RW.call (κ := .seq) (d := some 164) (r := (sq 1 2)) (g := 8) (args := #[]) (by as_aux_lemma => kernel_rfl) (nofun) (heads_spec (S := fun _ => True)) ?_
              rintro _ w205 hE206 rfl
              have H := H.ext hE206
              refine RW.fin 1 [4] [(4, .bool true)] (by as_aux_lemma => kernel_rfl) ?_
              refine WK.ret (v := .bool true) Try.func4 (by as_aux_lemma => kernel_rfl) (by as_aux_lemma => kernel_rfl) ?_
              exact ⟨_, rfl, H.done, rfl⟩


end Go.Proofs.Ytghnicaefbdjfaa
