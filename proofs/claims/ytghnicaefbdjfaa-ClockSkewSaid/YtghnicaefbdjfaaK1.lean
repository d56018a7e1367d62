import Derived.Test.YtghnicaefbdjfaaC7
namespace Go.Proofs.Ytghnicaefbdjfaa
open Go.BX

theorem minOf_le {l : List Int} {x : Int} (h : x ∈ l) : minOf l ≤ x := by
  have hf : ∀ (l : List Int) (a x : Int), (x = a ∨ x ∈ l) → l.foldl (fun m y => if y < m then y else m) a ≤ x := by
    intro l
    induction l with
    | nil => intro a x h; rcases h with h | h
             · subst h; exact Int.le_refl _
             · cases h
    | cons y l ih =>
      intro a x h
      show l.foldl (fun m y => if y < m then y else m) (if y < a then y else a) ≤ x
      have hb := ih (if y < a then y else a) (if y < a then y else a) (.inl rfl)
      rcases h with h | h
      · subst h
        refine Int.le_trans hb ?_
        split <;> omega
      · rcases List.mem_cons.1 h with h | h
        · subst h
          refine Int.le_trans hb ?_
          split <;> omega
        · exact ih _ x (.inr h)
  cases l with
  | nil => cases h
  | cons a l => exact hf l a x (by rcases List.mem_cons.1 h with h | h; exact .inl h; exact .inr h)
theorem others_mem {now : List Int} {i j : Nat} (hj : j < now.length) (h : j ≠ i ∨ now.length = 1) : now[j] ∈ othersOf now i := by
  unfold othersOf
  split
  · have hji : j ≠ i := by omega
    rcases Nat.lt_or_ge j i with hlt | hge
    · refine List.mem_append_left _ (List.mem_iff_getElem?.2 ⟨j, ?_⟩)
      rw [List.getElem?_take, if_pos hlt, List.getElem?_eq_getElem hj]
    · refine List.mem_append_right _ (List.mem_iff_getElem?.2 ⟨j - (i + 1), ?_⟩)
      rw [List.getElem?_drop, show i + 1 + (j - (i + 1)) = j by omega, List.getElem?_eq_getElem hj]
  · exact List.getElem_mem hj
structure SkInv (now : List Int) (num den slack : Int) (n k : Nat) : Prop where
  ok : COk now num den slack
  len : now.length = n
  sk : ∀ a b (ha : a < now.length) (hb : b < now.length), now[a] * den ≤ num * now[b] + den * slack + num
  top : ∀ x ∈ now, x ≤ k
theorem SkInv.new {n : Nat} {num den slack : Int} (hn : n ≤ 32) (hd : 1 ≤ den) (hm : den ≤ num ∧ num ≤ 1000) (hs : 0 ≤ slack ∧ slack ≤ 1000) : SkInv (List.replicate n 0) num den slack n 0 := by
  refine ⟨⟨by rw [List.length_replicate]; exact hn, hd, hm, hs, fun x hx => ?_⟩, List.length_replicate .., fun a b ha hb => ?_, fun x hx => ?_⟩
  · rw [(List.mem_replicate.1 hx).2]; decide
  · rw [List.getElem_replicate, List.getElem_replicate, Int.zero_mul, Int.mul_zero]
    have := Int.mul_nonneg (show 0 ≤ den by omega) hs.1
    omega
  · rw [(List.mem_replicate.1 hx).2]; decide
theorem SkInv.tick {now : List Int} {num den slack : Int} {n k : Nat} (h : SkInv now num den slack n k) (node : Int) : SkInv (tickE now num den slack node) num den slack n (k + 1) := by
  have hsame : SkInv now num den slack n (k + 1) := ⟨h.ok, h.len, h.sk, fun x hx => by have := h.top x hx; omega⟩
  unfold tickE
  split
  · rename_i hst
    obtain ⟨h0, h1, h2⟩ := st_zero hst
    unfold tickI
    split
    · rename_i hmay
      have hi : (node - 1).toNat < now.length := by omega
      generalize (node - 1).toNat = i at hmay hi
      have hmay := of_decide_eq_true hmay
      rw [List.getElem?_eq_getElem hi, Option.getD_some] at hmay ⊢
      obtain ⟨hlt, hle⟩ := hmay
      have hn0 := h.ok.hnow _ (List.getElem_mem hi)
      have hnum := h.ok.hnum
      have hden := h.ok.hden
      have hdm := Int.mul_comm slack den
      have hnn : 0 ≤ num := by omega
      refine ⟨⟨by rw [List.length_set]; exact h.ok.hlen, h.ok.hden, h.ok.hnum, h.ok.hsl, fun x hx => ?_⟩, by rw [List.length_set]; exact h.len, fun a b ha hb => ?_, fun x hx => ?_⟩
      · rcases List.mem_or_eq_of_mem_set hx with hx | hx
        · exact h.ok.hnow x hx
        · subst hx; omega
      · rw [List.length_set] at ha hb
        rw [List.getElem_set, List.getElem_set]
        by_cases hia : i = a
        · subst hia
          rw [if_pos rfl]
          by_cases hib : i = b
          · subst hib
            rw [if_pos rfl]
            have e1 := Int.mul_le_mul_of_nonneg_left hnum.1 (show 0 ≤ now[i] + 1 by omega)
            have e2 := Int.mul_nonneg (show 0 ≤ den by omega) h.ok.hsl.1
            have e3 := Int.mul_comm num (now[i] + 1)
            omega
          · rw [if_neg hib]
            have hm := minOf_le (others_mem (i := i) hb (.inl fun e => hib e.symm))
            have e1 := Int.mul_le_mul_of_nonneg_right hm hnn
            have e3 := Int.mul_comm num now[b]
            omega
        · rw [if_neg hia]
          have hs := h.sk a b ha hb
          split
          · rename_i hib
            subst hib
            have e3 : num * (now[i] + 1) = num * now[i] + num := by rw [Int.mul_add, Int.mul_one]
            omega
          · exact hs
      · rcases List.mem_or_eq_of_mem_set hx with hx | hx
        · have := h.top x hx; omega
        · subst hx; have := h.top _ (List.getElem_mem hi); omega
    · exact hsame
  · exact hsame
theorem SkInv.some {now : List Int} {num den slack : Int} {n k : Nat} (h : SkInv now num den slack n k) (hn : 1 ≤ n) (hk : k ≤ 2000) : ∃ a, a < now.length ∧ mayI now num den slack a = true := by
  have hm := minOf_mem (l := now) (by rw [h.len]; omega)
  obtain ⟨a, ha, he⟩ := List.mem_iff_getElem.1 hm
  refine ⟨a, ha, decide_eq_true ?_⟩
  rw [List.getElem?_eq_getElem ha, Option.getD_some]
  have ht := h.top _ (List.getElem_mem ha)
  refine ⟨by omega, ?_⟩
  have ho := minOf_le (others_sub (minOf_mem (others_pos ha)))
  have hn0 := h.ok.hnow _ (List.getElem_mem ha)
  have hnum := h.ok.hnum
  have hden := h.ok.hden
  rw [← he] at ho
  have e1 := Int.mul_le_mul_of_nonneg_left hnum.1 (show 0 ≤ now[a] + 1 by omega)
  have e2 := Int.mul_le_mul_of_nonneg_right ho (show 0 ≤ num by omega)
  have e4 : (now[a] + 1) * num = now[a] * num + num := by rw [Int.add_mul, Int.one_mul]
  have e5 := Int.mul_nonneg h.ok.hsl.1 (show 0 ≤ den by have := h.ok.hden; omega)
  omega

theorem sm_step {f : Nat → Bool} {j : Nat} {sm : Bool} (h : ∀ q, q < j → f q = true → sm = true) (hs : sm = false) : ∀ q, q < j + 1 → f q = true → f j = true := fun q hq hf => by
  rcases Nat.lt_or_ge q j with hlt | hge
  · have := h q hlt hf
    rw [hs] at this
    cases this
  · obtain rfl : q = j := by omega
    exact hf

theorem now_in {S : Nat → Prop} {w : World} {cb nc tn tc : Nat} {na ta : Option Addr} {now : List Int} {num den slack : Int} (hF : (Fc cb 0 [.slice na now.length nc, .int .i64 num, .int .i64 den, .int .i64 slack, .slice ta tn tc]).p S w) (hN : (Shape.slice (Shape.int .i64)).rep S w [.slice na now.length nc] now) {i : Nat} (hi : i < now.length) : Calls Try.prog 11 #[.pointer (some ⟨cb, 0, none⟩), .int .i64 ((i : Int) + 1)] w (Ret fun v w' => Ext w w' ∧ v = .int .i64 now[i]) :=
  (now_spec hF hN ((i : Int) + 1)).mono fun e w' h => by
    obtain ⟨v, he, hx, hv⟩ := h
    refine ⟨v, he, hx, hv.trans ?_⟩
    congr 1
    have hst : stE now.length ((i : Int) + 1) = 0 := by unfold stE; rw [if_neg (by omega), if_neg (by omega)]
    unfold nowE
    rw [if_pos hst, show ((i : Int) + 1 - 1).toNat = i by omega, List.getElem?_eq_getElem hi]
    rfl

theorem new_bad {S : Nat → Prop} {w : World} (nodes num den slack : Int) (hbad : ¬ (1 ≤ nodes ∧ nodes ≤ 32 ∧ 1 ≤ den ∧ den ≤ num ∧ num ≤ 1000 ∧ 0 ≤ slack ∧ slack ≤ 1000)) :
    Calls Try.prog 7 #[.int .i64 nodes, .int .i64 num, .int .i64 den, .int .i64 slack] w (Ret fun v w' => Ext w w' ∧ v = .tuple #[.pointer none, .int .i64 2]) := by
  refine WK.calls1 (fn := Try.f7) (n := 60) (σ := [(0, .int .i64 nodes), (1, .int .i64 num), (2, .int .i64 den), (3, .int .i64 slack)]) Try.func7 rfl (by as_aux_lemma => kernel_rfl) (by as_aux_lemma => kernel_rfl) (by as_aux_lemma => kernel_rfl) ?_
  have H := Hp.startF (w := w) (S := S) (G := []) .nil
  refine WK.run 4 [0, 1, 2, 3] [.code (cd Try.prog 7 [1, 0, 0]), .code (cd Try.prog 7 [1, 0, 1]), .code (cd Try.prog 7 [2])] [(0, .int .i64 nodes), (1, .int .i64 num), (2, .int .i64 den), (3, .int .i64 slack)] (by as_aux_lemma => kernel_rfl) ?_
  refine WK.reg1 (l := sq 0 27) (by as_aux_lemma => kernel_rfl) (by as_aux_lemma => kernel_rfl) ?_
  refine RW.runP 3 [0, 1, 2, 3, 13] (sq 3 27) [(0, .int .i64 nodes), (1, .int .i64 num), (2, .int .i64 den), (3, .int .i64 slack), (13, .bool (decide ((nodes : Int) < 1)))] (by as_aux_lemma => kernel_rfl) (by as_aux_lemma => kernel_rfl) ?_
  refine RW.test (fun b_ => [(0, .int .i64 nodes), (1, .int .i64 num), (2, .int .i64 den), (3, .int .i64 slack), (13, .bool b_)]) (decide ((nodes : Int) < 1)) (fun h1 => ?_) (fun h1 => ?_)
  · skip
    replace h1 := of_decide_eq_true h1
    refine RW.fin 24 [0, 1, 2, 3, 37] [(0, .int .i64 nodes), (1, .int .i64 num), (2, .int .i64 den), (3, .int .i64 slack), (37, .bool true)] (by as_aux_lemma => kernel_rfl) ?_
    refine WK.run 3 [8, 9] [.code (cd Try.prog 7 [1, 0, 1, 0, 1]), .code (cd Try.prog 7 [2])] [(8, .pointer none), (9, .int .i64 2)] (by as_aux_lemma => kernel_rfl) ?_
    refine WK.ret (v := .tuple #[.pointer none, .int .i64 2]) Try.func7 (by as_aux_lemma => kernel_rfl) (by as_aux_lemma => kernel_rfl) ?_
    exact ⟨_, rfl, H.done, rfl⟩
  · skip
    replace h1 := of_decide_eq_false h1
    refine RW.runP 4 [0, 1, 2, 3, 17] (sq 7 27) [(0, .int .i64 nodes), (1, .int .i64 num), (2, .int .i64 den), (3, .int .i64 slack), (17, .bool (decide ((nodes : Int) > 32)))] (by as_aux_lemma => kernel_rfl) (by as_aux_lemma => kernel_rfl) ?_
    refine RW.test (fun b_ => [(0, .int .i64 nodes), (1, .int .i64 num), (2, .int .i64 den), (3, .int .i64 slack), (17, .bool b_)]) (decide ((nodes : Int) > 32)) (fun h2 => ?_) (fun h2 => ?_)
    · skip
      replace h2 := of_decide_eq_true h2
      refine RW.fin 20 [0, 1, 2, 3, 37] [(0, .int .i64 nodes), (1, .int .i64 num), (2, .int .i64 den), (3, .int .i64 slack), (37, .bool true)] (by as_aux_lemma => kernel_rfl) ?_
      refine WK.run 3 [8, 9] [.code (cd Try.prog 7 [1, 0, 1, 0, 1]), .code (cd Try.prog 7 [2])] [(8, .pointer none), (9, .int .i64 2)] (by as_aux_lemma => kernel_rfl) ?_
      refine WK.ret (v := .tuple #[.pointer none, .int .i64 2]) Try.func7 (by as_aux_lemma => kernel_rfl) (by as_aux_lemma => kernel_rfl) ?_
      exact ⟨_, rfl, H.done, rfl⟩
    · skip
      replace h2 := of_decide_eq_false h2
      refine RW.runP 4 [0, 1, 2, 3, 21] (sq 11 27) [(0, .int .i64 nodes), (1, .int .i64 num), (2, .int .i64 den), (3, .int .i64 slack), (21, .bool (decide ((den : Int) < 1)))] (by as_aux_lemma => kernel_rfl) (by as_aux_lemma => kernel_rfl) ?_
      refine RW.test (fun b_ => [(0, .int .i64 nodes), (1, .int .i64 num), (2, .int .i64 den), (3, .int .i64 slack), (21, .bool b_)]) (decide ((den : Int) < 1)) (fun h3 => ?_) (fun h3 => ?_)
      · skip
        replace h3 := of_decide_eq_true h3
        refine RW.fin 16 [0, 1, 2, 3, 37] [(0, .int .i64 nodes), (1, .int .i64 num), (2, .int .i64 den), (3, .int .i64 slack), (37, .bool true)] (by as_aux_lemma => kernel_rfl) ?_
        refine WK.run 3 [8, 9] [.code (cd Try.prog 7 [1, 0, 1, 0, 1]), .code (cd Try.prog 7 [2])] [(8, .pointer none), (9, .int .i64 2)] (by as_aux_lemma => kernel_rfl) ?_
        refine WK.ret (v := .tuple #[.pointer none, .int .i64 2]) Try.func7 (by as_aux_lemma => kernel_rfl) (by as_aux_lemma => kernel_rfl) ?_
        exact ⟨_, rfl, H.done, rfl⟩
      · skip
        replace h3 := of_decide_eq_false h3
        refine RW.runP 5 [0, 1, 2, 3, 26] (sq 16 27) [(0, .int .i64 nodes), (1, .int .i64 num), (2, .int .i64 den), (3, .int .i64 slack), (26, .bool (decide ((den : Int) > num)))] (by as_aux_lemma => kernel_rfl) (by as_aux_lemma => kernel_rfl) ?_
        refine RW.test (fun b_ => [(0, .int .i64 nodes), (1, .int .i64 num), (2, .int .i64 den), (3, .int .i64 slack), (26, .bool b_)]) (decide ((den : Int) > num)) (fun h4 => ?_) (fun h4 => ?_)
        · skip
          replace h4 := of_decide_eq_true h4
          refine RW.fin 11 [0, 1, 2, 3, 37] [(0, .int .i64 nodes), (1, .int .i64 num), (2, .int .i64 den), (3, .int .i64 slack), (37, .bool true)] (by as_aux_lemma => kernel_rfl) ?_
          refine WK.run 3 [8, 9] [.code (cd Try.prog 7 [1, 0, 1, 0, 1]), .code (cd Try.prog 7 [2])] [(8, .pointer none), (9, .int .i64 2)] (by as_aux_lemma => kernel_rfl) ?_
          refine WK.ret (v := .tuple #[.pointer none, .int .i64 2]) Try.func7 (by as_aux_lemma => kernel_rfl) (by as_aux_lemma => kernel_rfl) ?_
          exact ⟨_, rfl, H.done, rfl⟩
        · skip
          replace h4 := of_decide_eq_false h4
          refine RW.runP 4 [0, 1, 2, 3, 30] (sq 20 27) [(0, .int .i64 nodes), (1, .int .i64 num), (2, .int .i64 den), (3, .int .i64 slack), (30, .bool (decide ((num : Int) > 1000)))] (by as_aux_lemma => kernel_rfl) (by as_aux_lemma => kernel_rfl) ?_
          refine RW.test (fun b_ => [(0, .int .i64 nodes), (1, .int .i64 num), (2, .int .i64 den), (3, .int .i64 slack), (30, .bool b_)]) (decide ((num : Int) > 1000)) (fun h5 => ?_) (fun h5 => ?_)
          · skip
            replace h5 := of_decide_eq_true h5
            refine RW.fin 7 [0, 1, 2, 3, 37] [(0, .int .i64 nodes), (1, .int .i64 num), (2, .int .i64 den), (3, .int .i64 slack), (37, .bool true)] (by as_aux_lemma => kernel_rfl) ?_
            refine WK.run 3 [8, 9] [.code (cd Try.prog 7 [1, 0, 1, 0, 1]), .code (cd Try.prog 7 [2])] [(8, .pointer none), (9, .int .i64 2)] (by as_aux_lemma => kernel_rfl) ?_
            refine WK.ret (v := .tuple #[.pointer none, .int .i64 2]) Try.func7 (by as_aux_lemma => kernel_rfl) (by as_aux_lemma => kernel_rfl) ?_
            exact ⟨_, rfl, H.done, rfl⟩
          · skip
            replace h5 := of_decide_eq_false h5
            refine RW.runP 4 [0, 1, 2, 3, 34] (sq 24 27) [(0, .int .i64 nodes), (1, .int .i64 num), (2, .int .i64 den), (3, .int .i64 slack), (34, .bool (decide ((slack : Int) < 0)))] (by as_aux_lemma => kernel_rfl) (by as_aux_lemma => kernel_rfl) ?_
            refine RW.test (fun b_ => [(0, .int .i64 nodes), (1, .int .i64 num), (2, .int .i64 den), (3, .int .i64 slack), (34, .bool b_)]) (decide ((slack : Int) < 0)) (fun h6 => ?_) (fun h6 => ?_)
            · skip
              replace h6 := of_decide_eq_true h6
              refine RW.fin 3 [0, 1, 2, 3, 37] [(0, .int .i64 nodes), (1, .int .i64 num), (2, .int .i64 den), (3, .int .i64 slack), (37, .bool true)] (by as_aux_lemma => kernel_rfl) ?_
              refine WK.run 3 [8, 9] [.code (cd Try.prog 7 [1, 0, 1, 0, 1]), .code (cd Try.prog 7 [2])] [(8, .pointer none), (9, .int .i64 2)] (by as_aux_lemma => kernel_rfl) ?_
              refine WK.ret (v := .tuple #[.pointer none, .int .i64 2]) Try.func7 (by as_aux_lemma => kernel_rfl) (by as_aux_lemma => kernel_rfl) ?_
              exact ⟨_, rfl, H.done, rfl⟩
            · skip
              replace h6 := of_decide_eq_false h6
              refine RW.fin 3 [0, 1, 2, 3, 37] [(0, .int .i64 nodes), (1, .int .i64 num), (2, .int .i64 den), (3, .int .i64 slack), (37, .bool (decide ((slack : Int) > 1000)))] (by as_aux_lemma => kernel_rfl) ?_
              refine WK.cond1 (decide ((slack : Int) > 1000)) (by as_aux_lemma => kernel_rfl) (by as_aux_lemma => kernel_rfl) (fun h7 => ?_) (fun h7 => ?_)
              · skip
                replace h7 := of_decide_eq_true h7
                refine WK.run 2 [8, 9] [.code (cd Try.prog 7 [1, 0, 1, 0, 1]), .code (cd Try.prog 7 [2])] [(8, .pointer none), (9, .int .i64 2)] (by as_aux_lemma => kernel_rfl) ?_
                refine WK.ret (v := .tuple #[.pointer none, .int .i64 2]) Try.func7 (by as_aux_lemma => kernel_rfl) (by as_aux_lemma => kernel_rfl) ?_
                exact ⟨_, rfl, H.done, rfl⟩
              · skip
                replace h7 := of_decide_eq_false h7
                omega

theorem skew_bad {S : Nat → Prop} {w : World} (nodes num den slack : Int) (hbad : ¬ (1 ≤ nodes ∧ nodes ≤ 32 ∧ 1 ≤ den ∧ den ≤ num ∧ num ≤ 1000 ∧ 0 ≤ slack ∧ slack ≤ 1000)) {xs : List Int} {a : Option Addr} {c : Nat} (h : (Shape.slice (Shape.int .i64)).rep S w [.slice a xs.length c] xs) :
    Calls Try.prog 3 #[.int .i64 nodes, .int .i64 num, .int .i64 den, .int .i64 slack, .slice a xs.length c] w (Ret fun v w' => Ext w w' ∧ v = .bool true) := by
  refine WK.calls1 (fn := Try.f3) (n := 92) (σ := [(0, .int .i64 nodes), (1, .int .i64 num), (2, .int .i64 den), (3, .int .i64 slack), (4, .slice a xs.length c)]) Try.func3 rfl (by as_aux_lemma => kernel_rfl) (by as_aux_lemma => kernel_rfl) (by as_aux_lemma => kernel_rfl) ?_
  have H := Hp.startF (w := w) (S := S) (G := [Rp (Shape.slice (Shape.int .i64)) [.slice a xs.length c] xs]) (.rp h .nil)
  refine WK.run 3 [0, 1, 2, 3, 4] [.code (cd Try.prog 3 [1, 0]), .code (cd Try.prog 3 [2])] [(0, .int .i64 nodes), (1, .int .i64 num), (2, .int .i64 den), (3, .int .i64 slack), (4, .slice a xs.length c)] (by as_aux_lemma => kernel_rfl) ?_
  refine WK.reg1 (l := sq 0 10) (by as_aux_lemma => kernel_rfl) (by as_aux_lemma => kernel_rfl) ?_
  refine RW.runP 4 [0, 1, 2, 3, 4, 18, 19, 20, 21] (sq 4 10) [(0, .int .i64 nodes), (1, .int .i64 num), (2, .int .i64 den), (3, .int .i64 slack), (4, .slice a xs.length c), (18, .int .i64 nodes), (19, .int .i64 num), (20, .int .i64 den), (21, .int .i64 slack)] (by as_aux_lemma => kernel_rfl) (by as_aux_lemma => kernel_rfl) ?_
  refine RW.call (κ := .seq) (d := some 22) (r := (sq 5 10)) (g := 7) (args := #[.int .i64 nodes, .int .i64 num, .int .i64 den, .int .i64 slack]) (by as_aux_lemma => kernel_rfl) (nofun) (new_bad (S := fun _ => True) nodes num den slack hbad) ?_
  rintro _ w1 hE2 rfl
  have H := H.ext hE2
  refine RW.fin 5 [0, 1, 2, 3, 4, 11, 12] [(0, .int .i64 nodes), (1, .int .i64 num), (2, .int .i64 den), (3, .int .i64 slack), (4, .slice a xs.length c), (11, .pointer none), (12, .int .i64 2)] (by as_aux_lemma => kernel_rfl) ?_
  refine WK.run 5 [11, 12] [.code (cd Try.prog 3 [2, 0, 1, 0, 0]), .code (cd Try.prog 3 [2, 0, 1, 0, 1]), .code (cd Try.prog 3 [3])] [(11, .pointer none), (12, .int .i64 2)] (by as_aux_lemma => kernel_rfl) ?_
  refine WK.reg1 (l := sq 0 9) (by as_aux_lemma => kernel_rfl) (by as_aux_lemma => kernel_rfl) ?_
  refine RW.runP 6 [41] (sq 6 9) [(41, .bool true)] (by as_aux_lemma => kernel_rfl) (by as_aux_lemma => kernel_rfl) ?_
  refine RW.call (κ := .seq) (d := some 42) (r := (sq 7 9)) (g := 8) (args := #[]) (by as_aux_lemma => kernel_rfl) (nofun) (heads_spec (S := fun _ => True)) ?_
  rintro _ w3 hE4 rfl
  have H := H.ext hE4
  refine RW.fin 2 [10] [(10, .bool true)] (by as_aux_lemma => kernel_rfl) ?_
  refine WK.ret (v := .bool true) Try.func3 (by as_aux_lemma => kernel_rfl) (by as_aux_lemma => kernel_rfl) ?_
  exact ⟨_, rfl, H.done, rfl⟩

theorem skew_long {S : Nat → Prop} {w : World} {n : Nat} {num den slack : Int} (hn : 1 ≤ n ∧ n ≤ 32) (hd : 1 ≤ den) (hm : den ≤ num ∧ num ≤ 1000) (hs : 0 ≤ slack ∧ slack ≤ 1000) {xs : List Int} {a : Option Addr} {c : Nat} (h : (Shape.slice (Shape.int .i64)).rep S w [.slice a xs.length c] xs) (hl : 2000 < xs.length) :
    Calls Try.prog 3 #[.int .i64 (n : Int), .int .i64 num, .int .i64 den, .int .i64 slack, .slice a xs.length c] w (Ret fun v w' => Ext w w' ∧ v = .bool true) := by
  refine WK.calls1 (fn := Try.f3) (n := 92) (σ := [(0, .int .i64 (n : Int)), (1, .int .i64 num), (2, .int .i64 den), (3, .int .i64 slack), (4, .slice a xs.length c)]) Try.func3 rfl (by as_aux_lemma => kernel_rfl) (by as_aux_lemma => kernel_rfl) (by as_aux_lemma => kernel_rfl) ?_
  have H := Hp.startF (w := w) (S := S) (G := [Rp (Shape.slice (Shape.int .i64)) [.slice a xs.length c] xs]) (.rp h .nil)
  refine WK.run 3 [0, 1, 2, 3, 4] [.code (cd Try.prog 3 [1, 0]), .code (cd Try.prog 3 [2])] [(0, .int .i64 (n : Int)), (1, .int .i64 num), (2, .int .i64 den), (3, .int .i64 slack), (4, .slice a xs.length c)] (by as_aux_lemma => kernel_rfl) ?_
  refine WK.reg1 (l := sq 0 10) (by as_aux_lemma => kernel_rfl) (by as_aux_lemma => kernel_rfl) ?_
  refine RW.runP 4 [0, 1, 2, 3, 4, 18, 19, 20, 21] (sq 4 10) [(0, .int .i64 (n : Int)), (1, .int .i64 num), (2, .int .i64 den), (3, .int .i64 slack), (4, .slice a xs.length c), (18, .int .i64 (n : Int)), (19, .int .i64 num), (20, .int .i64 den), (21, .int .i64 slack)] (by as_aux_lemma => kernel_rfl) (by as_aux_lemma => kernel_rfl) ?_
  refine RW.callS (d := some 22) (r := (sq 5 10)) (g := 7) (args := #[.int .i64 (n : Int), .int .i64 num, .int .i64 den, .int .i64 slack]) (by as_aux_lemma => kernel_rfl) (new_ok (S := Av S w [] (idsOf [] [])) hn hd hm hs) ?_
  rintro _ w1 ⟨cb, nc, tc, na, ta, bs, rfl, hbs, H'⟩
  have H := H.back (M1 := []) (W1 := []) H'
  obtain ⟨now, hnow⟩ : ∃ z, z = List.replicate n (0 : Int) := ⟨_, rfl⟩
  rw [← hnow] at H
  have H := H.drop (M' := [(cb, .cells #[.slice na now.length nc, .int .i64 num, .int .i64 den, .int .i64 slack, .slice ta bs.length tc] 47 (0, 0))]) (W' := [⟨Shape.int .i64, 3, .slice na now.length nc, now⟩]) (List.Sublist.cons_cons _ (List.nil_sublist _)) (List.Sublist.cons _ (List.Sublist.refl _))
  have H : Hp w S [] [(cb, .cells #[.slice na now.length nc, .int .i64 num, .int .i64 den, .int .i64 slack, .slice ta bs.length tc] 47 (0, 0))] [⟨Shape.int .i64, 3, .slice na now.length nc, now⟩] [Rp (Shape.slice (Shape.int .i64)) [.slice a xs.length c] xs] _ := H
  refine RW.fin 5 [0, 1, 2, 3, 4, 11, 12] [(0, .int .i64 (n : Int)), (1, .int .i64 num), (2, .int .i64 den), (3, .int .i64 slack), (4, .slice a xs.length c), (11, .pointer (some ⟨cb, 0, none⟩)), (12, .int .i64 0)] (by as_aux_lemma => kernel_rfl) ?_
  refine WK.run 3 [0, 1, 2, 3, 4, 11, 12, 35] [.code (cd Try.prog 3 [2, 0, 1]), .code (cd Try.prog 3 [3])] [(0, .int .i64 (n : Int)), (1, .int .i64 num), (2, .int .i64 den), (3, .int .i64 slack), (4, .slice a xs.length c), (11, .pointer (some ⟨cb, 0, none⟩)), (12, .int .i64 0), (35, .bool (decide ((((xs.length : Nat) : Int) : Int) > 2000)))] (by as_aux_lemma => kernel_rfl) ?_
  refine WK.cond1 (decide ((((xs.length : Nat) : Int) : Int) > 2000)) (by as_aux_lemma => kernel_rfl) (by as_aux_lemma => kernel_rfl) (fun h2 => ?_) (fun h2 => ?_)
  · skip
    replace h2 := of_decide_eq_true h2
    refine WK.run 1 [11, 12] [.code (cd Try.prog 3 [2, 0, 1, 0, 0]), .code (cd Try.prog 3 [2, 0, 1, 0, 1]), .code (cd Try.prog 3 [3])] [(11, .pointer (some ⟨cb, 0, none⟩)), (12, .int .i64 0)] (by as_aux_lemma => kernel_rfl) ?_
    refine WK.reg1 (l := sq 0 9) (by as_aux_lemma => kernel_rfl) (by as_aux_lemma => kernel_rfl) ?_
    refine RW.runP 6 [41] (sq 6 9) [(41, .bool true)] (by as_aux_lemma => kernel_rfl) (by as_aux_lemma => kernel_rfl) ?_
    refine RW.call (κ := .seq) (d := some 42) (r := (sq 7 9)) (g := 8) (args := #[]) (by as_aux_lemma => kernel_rfl) (nofun) (heads_spec (S := fun _ => True)) ?_
    rintro _ w3 hE4 rfl
    have H := H.ext hE4
    refine RW.fin 2 [10] [(10, .bool true)] (by as_aux_lemma => kernel_rfl) ?_
    refine WK.ret (v := .bool true) Try.func3 (by as_aux_lemma => kernel_rfl) (by as_aux_lemma => kernel_rfl) ?_
    exact ⟨_, rfl, H.done, rfl⟩
  · skip
    replace h2 := of_decide_eq_false h2
    omega

theorem skew_ok {S : Nat → Prop} {w : World} {n : Nat} {num den slack : Int} (hn : 1 ≤ n ∧ n ≤ 32) (hd : 1 ≤ den) (hm : den ≤ num ∧ num ≤ 1000) (hs : 0 ≤ slack ∧ slack ≤ 1000) {xs : List Int} {a : Option Addr} {c : Nat} (h : (Shape.slice (Shape.int .i64)).rep S w [.slice a xs.length c] xs) (hl : xs.length ≤ 2000) :
    Calls Try.prog 3 #[.int .i64 (n : Int), .int .i64 num, .int .i64 den, .int .i64 slack, .slice a xs.length c] w (Ret fun v w' => Ext w w' ∧ v = .bool true) := by
  refine WK.calls1 (fn := Try.f3) (n := 92) (σ := [(0, .int .i64 (n : Int)), (1, .int .i64 num), (2, .int .i64 den), (3, .int .i64 slack), (4, .slice a xs.length c)]) Try.func3 rfl (by as_aux_lemma => kernel_rfl) (by as_aux_lemma => kernel_rfl) (by as_aux_lemma => kernel_rfl) ?_
  have H := Hp.startF (w := w) (S := S) (G := [Rp (Shape.slice (Shape.int .i64)) [.slice a xs.length c] xs]) (.rp h .nil)
  refine WK.run 3 [0, 1, 2, 3, 4] [.code (cd Try.prog 3 [1, 0]), .code (cd Try.prog 3 [2])] [(0, .int .i64 (n : Int)), (1, .int .i64 num), (2, .int .i64 den), (3, .int .i64 slack), (4, .slice a xs.length c)] (by as_aux_lemma => kernel_rfl) ?_
  refine WK.reg1 (l := sq 0 10) (by as_aux_lemma => kernel_rfl) (by as_aux_lemma => kernel_rfl) ?_
  refine RW.runP 4 [0, 1, 2, 3, 4, 18, 19, 20, 21] (sq 4 10) [(0, .int .i64 (n : Int)), (1, .int .i64 num), (2, .int .i64 den), (3, .int .i64 slack), (4, .slice a xs.length c), (18, .int .i64 (n : Int)), (19, .int .i64 num), (20, .int .i64 den), (21, .int .i64 slack)] (by as_aux_lemma => kernel_rfl) (by as_aux_lemma => kernel_rfl) ?_
  refine RW.callS (d := some 22) (r := (sq 5 10)) (g := 7) (args := #[.int .i64 (n : Int), .int .i64 num, .int .i64 den, .int .i64 slack]) (by as_aux_lemma => kernel_rfl) (new_ok (S := Av S w [] (idsOf [] [])) hn hd hm hs) ?_
  rintro _ w1 ⟨cb, nc, tc, na, ta, bs, rfl, hbs, H'⟩
  have H := H.back (M1 := []) (W1 := []) H'
  obtain ⟨now, hnow⟩ : ∃ z, z = List.replicate n (0 : Int) := ⟨_, rfl⟩
  rw [← hnow] at H
  have H := H.drop (M' := [(cb, .cells #[.slice na now.length nc, .int .i64 num, .int .i64 den, .int .i64 slack, .slice ta bs.length tc] 47 (0, 0))]) (W' := [⟨Shape.int .i64, 3, .slice na now.length nc, now⟩]) (List.Sublist.cons_cons _ (List.nil_sublist _)) (List.Sublist.cons _ (List.Sublist.refl _))
  have H : Hp w S [] [(cb, .cells #[.slice na now.length nc, .int .i64 num, .int .i64 den, .int .i64 slack, .slice ta bs.length tc] 47 (0, 0))] [⟨Shape.int .i64, 3, .slice na now.length nc, now⟩] [Rp (Shape.slice (Shape.int .i64)) [.slice a xs.length c] xs] _ := H
  refine RW.fin 5 [0, 1, 2, 3, 4, 11, 12] [(0, .int .i64 (n : Int)), (1, .int .i64 num), (2, .int .i64 den), (3, .int .i64 slack), (4, .slice a xs.length c), (11, .pointer (some ⟨cb, 0, none⟩)), (12, .int .i64 0)] (by as_aux_lemma => kernel_rfl) ?_
  refine WK.run 3 [0, 1, 2, 3, 4, 11, 12, 35] [.code (cd Try.prog 3 [2, 0, 1]), .code (cd Try.prog 3 [3])] [(0, .int .i64 (n : Int)), (1, .int .i64 num), (2, .int .i64 den), (3, .int .i64 slack), (4, .slice a xs.length c), (11, .pointer (some ⟨cb, 0, none⟩)), (12, .int .i64 0), (35, .bool (decide ((((xs.length : Nat) : Int) : Int) > 2000)))] (by as_aux_lemma => kernel_rfl) ?_
  refine WK.cond1 (decide ((((xs.length : Nat) : Int) : Int) > 2000)) (by as_aux_lemma => kernel_rfl) (by as_aux_lemma => kernel_rfl) (fun h2 => ?_) (fun h2 => ?_)
  · skip
    replace h2 := of_decide_eq_true h2
    omega
  · skip
    replace h2 := of_decide_eq_false h2
    refine WK.run 5 [0, 1, 2, 3, 4, 11, 13] [.code (cd Try.prog 3 [3, 0, 1, 0]), .inBlock 0, .code (cd Try.prog 3 [4])] [(0, .int .i64 (n : Int)), (1, .int .i64 num), (2, .int .i64 den), (3, .int .i64 slack), (4, .slice a xs.length c), (11, .pointer (some ⟨cb, 0, none⟩)), (13, .int .i64 0)] (by as_aux_lemma => kernel_rfl) ?_
    refine WK.loop (α := Nat × List Int) (b := cd Try.prog 3 [3, 0, 1, 0, 0]) (by as_aux_lemma => kernel_rfl) (fun st_ => match st_ with | (i, now) => [(0, .int .i64 (n : Int)), (1, .int .i64 num), (2, .int .i64 den), (3, .int .i64 slack), (4, .slice a xs.length c), (11, .pointer (some ⟨cb, 0, none⟩)), (13, .int .i64 (i : Int))]) (fun st_ w' => match st_ with | (i, now) => Hp w S [] [(cb, .cells #[.slice na now.length nc, .int .i64 num, .int .i64 den, .int .i64 slack, .slice ta bs.length tc] 47 (0, 0))] [⟨Shape.int .i64, 3, .slice na now.length nc, now⟩] [Rp (Shape.slice (Shape.int .i64)) [.slice a xs.length c] xs] w' ∧ i ≤ xs.length ∧ SkInv now num den slack n i) (fun st_ => match st_ with | (i, now) => xs.length - i) (0, now) ⟨H, by omega, by rw [hnow]; exact SkInv.new hn.2 hd hm hs⟩ (rfl) ?_
    rintro ⟨i, now⟩ w4 ⟨H, hinv0⟩ hback3
    refine WK.run 3 [0, 1, 2, 3, 4, 11, 13, 47] [.code (cd Try.prog 3 [3, 0, 1, 0, 0, 0, 1]), .code (cd Try.prog 3 [3, 0, 1, 0, 0, 1]), .inLoop (cd Try.prog 3 [3, 0, 1, 0, 0]), .inBlock 0, .code (cd Try.prog 3 [4])] [(0, .int .i64 (n : Int)), (1, .int .i64 num), (2, .int .i64 den), (3, .int .i64 slack), (4, .slice a xs.length c), (11, .pointer (some ⟨cb, 0, none⟩)), (13, .int .i64 (i : Int)), (47, .bool (decide (((i : Int) : Int) < ((xs.length : Nat) : Int))))] (by as_aux_lemma => kernel_rfl) ?_
    refine WK.cond1 (decide (((i : Int) : Int) < ((xs.length : Nat) : Int))) (by as_aux_lemma => kernel_rfl) (by as_aux_lemma => kernel_rfl) (fun h5 => ?_) (fun h5 => ?_)
    · skip
      replace h5 := of_decide_eq_true h5
      refine WK.run 4 [0, 1, 2, 3, 4, 11, 13] [.code (cd Try.prog 3 [3, 0, 1, 0, 0, 1, 0, 0, 0]), .code (cd Try.prog 3 [3, 0, 1, 0, 0, 1, 0, 0, 1]), .inBlock 1, .code (cd Try.prog 3 [3, 0, 1, 0, 0, 2]), .inLoop (cd Try.prog 3 [3, 0, 1, 0, 0]), .inBlock 0, .code (cd Try.prog 3 [4])] [(0, .int .i64 (n : Int)), (1, .int .i64 num), (2, .int .i64 den), (3, .int .i64 slack), (4, .slice a xs.length c), (11, .pointer (some ⟨cb, 0, none⟩)), (13, .int .i64 (i : Int))] (by as_aux_lemma => kernel_rfl) ?_
      refine WK.reg1 (l := sq 0 6) (by as_aux_lemma => kernel_rfl) (by as_aux_lemma => kernel_rfl) ?_
      refine RW.runP 3 [0, 1, 2, 3, 4, 11, 13, 50, 51, 52] (sq 3 6) [(0, .int .i64 (n : Int)), (1, .int .i64 num), (2, .int .i64 den), (3, .int .i64 slack), (4, .slice a xs.length c), (11, .pointer (some ⟨cb, 0, none⟩)), (13, .int .i64 (i : Int)), (50, .pointer (some ⟨cb, 0, none⟩)), (51, .slice a xs.length c), (52, .int .i64 (i : Int))] (by as_aux_lemma => kernel_rfl) (by as_aux_lemma => kernel_rfl) ?_
      have hx6 : i < xs.length := by omega
      refine RW.index (κ := .seq) (d := some 53) (r := (sq 4 6)) (T := 22) (e := 3) (ik := .i64) (ix := (i : Int)) (sh := (Shape.int .i64)) (x := xs[i]) (by as_aux_lemma => kernel_rfl) (by as_aux_lemma => kernel_rfl) H 0 rfl i (by omega) (List.getElem?_eq_getElem hx6) ?_
      intro b7 o8 es9 hr10 H
      have hb11 := Shape.i64_bd hr10
      obtain ⟨rfl, -⟩ := hr10
      refine RW.load (κ := .seq) (d := some 54) (r := (sq 5 6)) (T := 3) (b := b7) (o' := o8) (k := 0) (v := .int .i64 (xs[i])) (by as_aux_lemma => kernel_rfl) (H.fc 0 rfl) rfl (by as_aux_lemma => kernel_rfl) ?_
      refine RW.callS (d := some 55) (r := (sq 6 6)) (g := 9) (args := #[.pointer (some ⟨cb, 0, none⟩), .int .i64 (xs[i])]) (by as_aux_lemma => kernel_rfl) (tick_spec ((H.lend (M1 := [(cb, .cells #[.slice na now.length nc, .int .i64 num, .int .i64 den, .int .i64 slack, .slice ta bs.length tc] 47 (0, 0))]) (W1 := [⟨Shape.int .i64, 3, .slice na now.length nc, now⟩])).pick [] rfl) hinv0.2.ok (xs[i])) ?_
      rintro v12 w13 ⟨hv, H'⟩
      have H := H.back (M1 := [(cb, .cells #[.slice na now.length nc, .int .i64 num, .int .i64 den, .int .i64 slack, .slice ta bs.length tc] 47 (0, 0))]) (W1 := [⟨Shape.int .i64, 3, .slice na now.length nc, now⟩]) H'
      have hI := hinv0.2.tick (xs[i])
      have hle := tickE_len now num den slack (xs[i])
      obtain ⟨now', hnow'⟩ : ∃ z, z = tickE now num den slack (xs[i]) := ⟨_, rfl⟩
      rw [← hnow'] at H hI hle
      rw [← hle] at H
      have H : Hp w S [] [(cb, .cells #[.slice na now'.length nc, .int .i64 num, .int .i64 den, .int .i64 slack, .slice ta bs.length tc] 47 (0, 0))] [⟨Shape.int .i64, 3, .slice na now'.length nc, now'⟩] [Fc b7 o8 [.int .i64 (xs[i])], Rp (Shape.slice (Shape.int .i64)) [.slice a xs.length c] xs] _ := H
      refine RW.fin 0 [0, 1, 2, 3, 4, 11, 13] [(0, .int .i64 (n : Int)), (1, .int .i64 num), (2, .int .i64 den), (3, .int .i64 slack), (4, .slice a xs.length c), (11, .pointer (some ⟨cb, 0, none⟩)), (13, .int .i64 (i : Int))] (by as_aux_lemma => kernel_rfl) ?_
      refine WK.run 6 [0, 1, 2, 3, 4, 11, 13, 14, 15] [.code (cd Try.prog 3 [3, 0, 1, 0, 0, 1, 0, 0, 2, 0, 1, 0]), .inBlock 2, .code (cd Try.prog 3 [3, 0, 1, 0, 0, 1, 0, 0, 3]), .inBlock 1, .code (cd Try.prog 3 [3, 0, 1, 0, 0, 2]), .inLoop (cd Try.prog 3 [3, 0, 1, 0, 0]), .inBlock 0, .code (cd Try.prog 3 [4])] [(0, .int .i64 (n : Int)), (1, .int .i64 num), (2, .int .i64 den), (3, .int .i64 slack), (4, .slice a xs.length c), (11, .pointer (some ⟨cb, 0, none⟩)), (13, .int .i64 (i : Int)), (14, .bool false), (15, .int .i64 1)] (by as_aux_lemma => kernel_rfl) ?_
      refine WK.loop (α := Nat × Bool) (b := cd Try.prog 3 [3, 0, 1, 0, 0, 1, 0, 0, 2, 0, 1, 0, 0]) (by as_aux_lemma => kernel_rfl) (fun st_ => match st_ with | (j, sm) => [(0, .int .i64 (n : Int)), (1, .int .i64 num), (2, .int .i64 den), (3, .int .i64 slack), (4, .slice a xs.length c), (11, .pointer (some ⟨cb, 0, none⟩)), (13, .int .i64 (i : Int)), (14, .bool sm), (15, .int .i64 ((j : Int) + 1))]) (fun st_ w' => match st_ with | (j, sm) => Hp w S [] [(cb, .cells #[.slice na now'.length nc, .int .i64 num, .int .i64 den, .int .i64 slack, .slice ta bs.length tc] 47 (0, 0))] [⟨Shape.int .i64, 3, .slice na now'.length nc, now'⟩] [Fc b7 o8 [.int .i64 (xs[i])], Rp (Shape.slice (Shape.int .i64)) [.slice a xs.length c] xs] w' ∧ j ≤ n ∧ ∀ q, q < j → mayI now' num den slack q = true → sm = true) (fun st_ => match st_ with | (j, sm) => n - j) (0, false) ⟨H, by omega, by intro q hq; omega⟩ (rfl) ?_
      rintro ⟨j, sm⟩ w15 ⟨H, hinv1⟩ hback14
      refine WK.run 3 [0, 1, 2, 3, 4, 11, 13, 14, 15, 58] [.code (cd Try.prog 3 [3, 0, 1, 0, 0, 1, 0, 0, 2, 0, 1, 0, 0, 0, 1]), .code (cd Try.prog 3 [3, 0, 1, 0, 0, 1, 0, 0, 2, 0, 1, 0, 0, 1]), .inLoop (cd Try.prog 3 [3, 0, 1, 0, 0, 1, 0, 0, 2, 0, 1, 0, 0]), .inBlock 2, .code (cd Try.prog 3 [3, 0, 1, 0, 0, 1, 0, 0, 3]), .inBlock 1, .code (cd Try.prog 3 [3, 0, 1, 0, 0, 2]), .inLoop (cd Try.prog 3 [3, 0, 1, 0, 0]), .inBlock 0, .code (cd Try.prog 3 [4])] [(0, .int .i64 (n : Int)), (1, .int .i64 num), (2, .int .i64 den), (3, .int .i64 slack), (4, .slice a xs.length c), (11, .pointer (some ⟨cb, 0, none⟩)), (13, .int .i64 (i : Int)), (14, .bool sm), (15, .int .i64 ((j : Int) + 1)), (58, .bool (decide ((((j : Int) + 1) : Int) ≤ (n : Int))))] (by as_aux_lemma => kernel_rfl) ?_
      refine WK.cond1 (decide ((((j : Int) + 1) : Int) ≤ (n : Int))) (by as_aux_lemma => kernel_rfl) (by as_aux_lemma => kernel_rfl) (fun h16 => ?_) (fun h16 => ?_)
      · skip
        replace h16 := of_decide_eq_true h16
        refine WK.run 4 [0, 1, 2, 3, 4, 11, 13, 14, 15] [.code (cd Try.prog 3 [3, 0, 1, 0, 0, 1, 0, 0, 2, 0, 1, 0, 0, 1, 0, 0, 0]), .code (cd Try.prog 3 [3, 0, 1, 0, 0, 1, 0, 0, 2, 0, 1, 0, 0, 1, 0, 0, 1]), .inBlock 3, .code (cd Try.prog 3 [3, 0, 1, 0, 0, 1, 0, 0, 2, 0, 1, 0, 0, 2]), .inLoop (cd Try.prog 3 [3, 0, 1, 0, 0, 1, 0, 0, 2, 0, 1, 0, 0]), .inBlock 2, .code (cd Try.prog 3 [3, 0, 1, 0, 0, 1, 0, 0, 3]), .inBlock 1, .code (cd Try.prog 3 [3, 0, 1, 0, 0, 2]), .inLoop (cd Try.prog 3 [3, 0, 1, 0, 0]), .inBlock 0, .code (cd Try.prog 3 [4])] [(0, .int .i64 (n : Int)), (1, .int .i64 num), (2, .int .i64 den), (3, .int .i64 slack), (4, .slice a xs.length c), (11, .pointer (some ⟨cb, 0, none⟩)), (13, .int .i64 (i : Int)), (14, .bool sm), (15, .int .i64 ((j : Int) + 1))] (by as_aux_lemma => kernel_rfl) ?_
        refine WK.reg1 (l := sq 0 7) (by as_aux_lemma => kernel_rfl) (by as_aux_lemma => kernel_rfl) ?_
        refine RW.runP 2 [0, 1, 2, 3, 4, 11, 13, 14, 15, 62] (sq 2 7) [(0, .int .i64 (n : Int)), (1, .int .i64 num), (2, .int .i64 den), (3, .int .i64 slack), (4, .slice a xs.length c), (11, .pointer (some ⟨cb, 0, none⟩)), (13, .int .i64 (i : Int)), (14, .bool sm), (15, .int .i64 ((j : Int) + 1)), (62, .bool sm)] (by as_aux_lemma => kernel_rfl) (by as_aux_lemma => kernel_rfl) ?_
        refine RW.test (fun b_ => [(0, .int .i64 (n : Int)), (1, .int .i64 num), (2, .int .i64 den), (3, .int .i64 slack), (4, .slice a xs.length c), (11, .pointer (some ⟨cb, 0, none⟩)), (13, .int .i64 (i : Int)), (14, .bool sm), (15, .int .i64 ((j : Int) + 1)), (62, .bool b_)]) sm (fun h17 => ?_) (fun h17 => ?_)
        · skip
          refine RW.fin 5 [0, 1, 2, 3, 4, 11, 13, 14, 15] [(0, .int .i64 (n : Int)), (1, .int .i64 num), (2, .int .i64 den), (3, .int .i64 slack), (4, .slice a xs.length c), (11, .pointer (some ⟨cb, 0, none⟩)), (13, .int .i64 (i : Int)), (14, .bool true), (15, .int .i64 ((j : Int) + 1))] (by as_aux_lemma => kernel_rfl) ?_
          refine WK.run 3 [0, 1, 2, 3, 4, 11, 13, 14, 15, 16] [.code (cd Try.prog 3 [3, 0, 1, 0, 0, 1, 0, 0, 2, 0, 1, 0, 0, 1, 0, 0, 2, 0]), .inBlock 4, .inBlock 3, .code (cd Try.prog 3 [3, 0, 1, 0, 0, 1, 0, 0, 2, 0, 1, 0, 0, 2]), .inLoop (cd Try.prog 3 [3, 0, 1, 0, 0, 1, 0, 0, 2, 0, 1, 0, 0]), .inBlock 2, .code (cd Try.prog 3 [3, 0, 1, 0, 0, 1, 0, 0, 3]), .inBlock 1, .code (cd Try.prog 3 [3, 0, 1, 0, 0, 2]), .inLoop (cd Try.prog 3 [3, 0, 1, 0, 0]), .inBlock 0, .code (cd Try.prog 3 [4])] [(0, .int .i64 (n : Int)), (1, .int .i64 num), (2, .int .i64 den), (3, .int .i64 slack), (4, .slice a xs.length c), (11, .pointer (some ⟨cb, 0, none⟩)), (13, .int .i64 (i : Int)), (14, .bool true), (15, .int .i64 ((j : Int) + 1)), (16, .int .i64 1)] (by as_aux_lemma => kernel_rfl) ?_
          refine WK.loop (α := Nat) (b := cd Try.prog 3 [3, 0, 1, 0, 0, 1, 0, 0, 2, 0, 1, 0, 0, 1, 0, 0, 2, 0, 0]) (by as_aux_lemma => kernel_rfl) (fun k => [(0, .int .i64 (n : Int)), (1, .int .i64 num), (2, .int .i64 den), (3, .int .i64 slack), (4, .slice a xs.length c), (11, .pointer (some ⟨cb, 0, none⟩)), (13, .int .i64 (i : Int)), (14, .bool true), (15, .int .i64 ((j : Int) + 1)), (16, .int .i64 ((k : Int) + 1))]) (fun k w' => Hp w S [] [(cb, .cells #[.slice na now'.length nc, .int .i64 num, .int .i64 den, .int .i64 slack, .slice ta bs.length tc] 47 (0, 0))] [⟨Shape.int .i64, 3, .slice na now'.length nc, now'⟩] [Fc b7 o8 [.int .i64 (xs[i])], Rp (Shape.slice (Shape.int .i64)) [.slice a xs.length c] xs] w' ∧ k ≤ n) (fun k => n - k) 0 ⟨H, by omega⟩ (rfl) ?_
          rintro k w19 ⟨H, hinv2⟩ hback18
          refine WK.run 3 [0, 1, 2, 3, 4, 11, 13, 14, 15, 16, 69] [.code (cd Try.prog 3 [3, 0, 1, 0, 0, 1, 0, 0, 2, 0, 1, 0, 0, 1, 0, 0, 2, 0, 0, 0, 1]), .code (cd Try.prog 3 [3, 0, 1, 0, 0, 1, 0, 0, 2, 0, 1, 0, 0, 1, 0, 0, 2, 0, 0, 1]), .inLoop (cd Try.prog 3 [3, 0, 1, 0, 0, 1, 0, 0, 2, 0, 1, 0, 0, 1, 0, 0, 2, 0, 0]), .inBlock 4, .inBlock 3, .code (cd Try.prog 3 [3, 0, 1, 0, 0, 1, 0, 0, 2, 0, 1, 0, 0, 2]), .inLoop (cd Try.prog 3 [3, 0, 1, 0, 0, 1, 0, 0, 2, 0, 1, 0, 0]), .inBlock 2, .code (cd Try.prog 3 [3, 0, 1, 0, 0, 1, 0, 0, 3]), .inBlock 1, .code (cd Try.prog 3 [3, 0, 1, 0, 0, 2]), .inLoop (cd Try.prog 3 [3, 0, 1, 0, 0]), .inBlock 0, .code (cd Try.prog 3 [4])] [(0, .int .i64 (n : Int)), (1, .int .i64 num), (2, .int .i64 den), (3, .int .i64 slack), (4, .slice a xs.length c), (11, .pointer (some ⟨cb, 0, none⟩)), (13, .int .i64 (i : Int)), (14, .bool true), (15, .int .i64 ((j : Int) + 1)), (16, .int .i64 ((k : Int) + 1)), (69, .bool (decide ((((k : Int) + 1) : Int) ≤ (n : Int))))] (by as_aux_lemma => kernel_rfl) ?_
          refine WK.cond1 (decide ((((k : Int) + 1) : Int) ≤ (n : Int))) (by as_aux_lemma => kernel_rfl) (by as_aux_lemma => kernel_rfl) (fun h20 => ?_) (fun h20 => ?_)
          · skip
            replace h20 := of_decide_eq_true h20
            have hjl : j < now'.length := by have := hI.len; omega
            have hkl : k < now'.length := by have := hI.len; omega
            have hb1 := hI.ok.hnow _ (List.getElem_mem hjl)
            have hb2 := hI.ok.hnow _ (List.getElem_mem hkl)
            have hb3 := hI.ok.hnum
            have hb4 := hI.ok.hden
            have hb5 := hI.ok.hsl
            have hp1 := prod_bd (a := now'[j]) (b := den) (A := 1048576) (B := 1000) hb1 ⟨by omega, by omega⟩
            have hp2 := prod_bd (a := num) (b := now'[k]) (A := 1000) (B := 1048576) ⟨by omega, by omega⟩ hb2
            have hp3 := prod_bd (a := den) (b := slack) (A := 1000) (B := 1000) ⟨by omega, by omega⟩ hb5
            have hsk := hI.sk j k hjl hkl
            refine WK.run 4 [0, 1, 2, 3, 4, 11, 13, 14, 15, 16] [.code (cd Try.prog 3 [3, 0, 1, 0, 0, 1, 0, 0, 2, 0, 1, 0, 0, 1, 0, 0, 2, 0, 0, 1, 0, 0, 0]), .code (cd Try.prog 3 [3, 0, 1, 0, 0, 1, 0, 0, 2, 0, 1, 0, 0, 1, 0, 0, 2, 0, 0, 1, 0, 0, 1]), .inBlock 5, .code (cd Try.prog 3 [3, 0, 1, 0, 0, 1, 0, 0, 2, 0, 1, 0, 0, 1, 0, 0, 2, 0, 0, 2]), .inLoop (cd Try.prog 3 [3, 0, 1, 0, 0, 1, 0, 0, 2, 0, 1, 0, 0, 1, 0, 0, 2, 0, 0]), .inBlock 4, .inBlock 3, .code (cd Try.prog 3 [3, 0, 1, 0, 0, 1, 0, 0, 2, 0, 1, 0, 0, 2]), .inLoop (cd Try.prog 3 [3, 0, 1, 0, 0, 1, 0, 0, 2, 0, 1, 0, 0]), .inBlock 2, .code (cd Try.prog 3 [3, 0, 1, 0, 0, 1, 0, 0, 3]), .inBlock 1, .code (cd Try.prog 3 [3, 0, 1, 0, 0, 2]), .inLoop (cd Try.prog 3 [3, 0, 1, 0, 0]), .inBlock 0, .code (cd Try.prog 3 [4])] [(0, .int .i64 (n : Int)), (1, .int .i64 num), (2, .int .i64 den), (3, .int .i64 slack), (4, .slice a xs.length c), (11, .pointer (some ⟨cb, 0, none⟩)), (13, .int .i64 (i : Int)), (14, .bool true), (15, .int .i64 ((j : Int) + 1)), (16, .int .i64 ((k : Int) + 1))] (by as_aux_lemma => kernel_rfl) ?_
            refine WK.reg1 (l := sq 0 17) (by as_aux_lemma => kernel_rfl) (by as_aux_lemma => kernel_rfl) ?_
            refine RW.runP 2 [0, 1, 2, 3, 4, 11, 13, 14, 15, 16, 72, 73] (sq 2 17) [(0, .int .i64 (n : Int)), (1, .int .i64 num), (2, .int .i64 den), (3, .int .i64 slack), (4, .slice a xs.length c), (11, .pointer (some ⟨cb, 0, none⟩)), (13, .int .i64 (i : Int)), (14, .bool true), (15, .int .i64 ((j : Int) + 1)), (16, .int .i64 ((k : Int) + 1)), (72, .pointer (some ⟨cb, 0, none⟩)), (73, .int .i64 ((j : Int) + 1))] (by as_aux_lemma => kernel_rfl) (by as_aux_lemma => kernel_rfl) ?_
            refine RW.call (κ := .seq) (d := some 74) (r := (sq 3 17)) (g := 11) (args := #[.pointer (some ⟨cb, 0, none⟩), .int .i64 ((j : Int) + 1)]) (by as_aux_lemma => kernel_rfl) (nofun) (now_in (S := fun _ => True) (H.viewM 0 rfl (by simp)) (H.view 0 rfl) (i := j) (by omega)) ?_
            rintro _ w21 hE22 rfl
            have H := H.ext hE22
            refine RW.runP 1 [0, 1, 2, 3, 4, 11, 13, 14, 15, 16, 74, 75] (sq 4 17) [(0, .int .i64 (n : Int)), (1, .int .i64 num), (2, .int .i64 den), (3, .int .i64 slack), (4, .slice a xs.length c), (11, .pointer (some ⟨cb, 0, none⟩)), (13, .int .i64 (i : Int)), (14, .bool true), (15, .int .i64 ((j : Int) + 1)), (16, .int .i64 ((k : Int) + 1)), (74, .int .i64 (now'[j])), (75, .int .i64 den)] (by as_aux_lemma => kernel_rfl) (by as_aux_lemma => kernel_rfl) ?_
            refine RW.wr64 (κ := .seq) (d := some 76) (r := (sq 5 17)) (t := (now'[j]) * den) (by as_aux_lemma => kernel_rfl) (by omega) ?_
            refine RW.runP 3 [0, 1, 2, 3, 4, 11, 13, 14, 15, 16, 76, 77, 78, 79] (sq 8 17) [(0, .int .i64 (n : Int)), (1, .int .i64 num), (2, .int .i64 den), (3, .int .i64 slack), (4, .slice a xs.length c), (11, .pointer (some ⟨cb, 0, none⟩)), (13, .int .i64 (i : Int)), (14, .bool true), (15, .int .i64 ((j : Int) + 1)), (16, .int .i64 ((k : Int) + 1)), (76, .int .i64 ((now'[j]) * den)), (77, .int .i64 num), (78, .pointer (some ⟨cb, 0, none⟩)), (79, .int .i64 ((k : Int) + 1))] (by as_aux_lemma => kernel_rfl) (by as_aux_lemma => kernel_rfl) ?_
            refine RW.call (κ := .seq) (d := some 80) (r := (sq 9 17)) (g := 11) (args := #[.pointer (some ⟨cb, 0, none⟩), .int .i64 ((k : Int) + 1)]) (by as_aux_lemma => kernel_rfl) (nofun) (now_in (S := fun _ => True) (H.viewM 0 rfl (by simp)) (H.view 0 rfl) (i := k) (by omega)) ?_
            rintro _ w23 hE24 rfl
            have H := H.ext hE24
            refine RW.wr64 (κ := .seq) (d := some 81) (r := (sq 10 17)) (t := num * (now'[k])) (by as_aux_lemma => kernel_rfl) (by omega) ?_
            refine RW.runP 2 [0, 1, 2, 3, 4, 11, 13, 14, 15, 16, 76, 81, 82, 83] (sq 12 17) [(0, .int .i64 (n : Int)), (1, .int .i64 num), (2, .int .i64 den), (3, .int .i64 slack), (4, .slice a xs.length c), (11, .pointer (some ⟨cb, 0, none⟩)), (13, .int .i64 (i : Int)), (14, .bool true), (15, .int .i64 ((j : Int) + 1)), (16, .int .i64 ((k : Int) + 1)), (76, .int .i64 ((now'[j]) * den)), (81, .int .i64 (num * (now'[k]))), (82, .int .i64 den), (83, .int .i64 slack)] (by as_aux_lemma => kernel_rfl) (by as_aux_lemma => kernel_rfl) ?_
            refine RW.wr64 (κ := .seq) (d := some 84) (r := (sq 13 17)) (t := den * slack) (by as_aux_lemma => kernel_rfl) (by omega) ?_
            refine RW.wr64 (κ := .seq) (d := some 85) (r := (sq 14 17)) (t := (num * (now'[k])) + (den * slack)) (by as_aux_lemma => kernel_rfl) (by omega) ?_
            refine RW.runP 1 [0, 1, 2, 3, 4, 11, 13, 14, 15, 16, 76, 85, 86] (sq 15 17) [(0, .int .i64 (n : Int)), (1, .int .i64 num), (2, .int .i64 den), (3, .int .i64 slack), (4, .slice a xs.length c), (11, .pointer (some ⟨cb, 0, none⟩)), (13, .int .i64 (i : Int)), (14, .bool true), (15, .int .i64 ((j : Int) + 1)), (16, .int .i64 ((k : Int) + 1)), (76, .int .i64 ((now'[j]) * den)), (85, .int .i64 ((num * (now'[k])) + (den * slack))), (86, .int .i64 num)] (by as_aux_lemma => kernel_rfl) (by as_aux_lemma => kernel_rfl) ?_
            refine RW.wr64 (κ := .seq) (d := some 87) (r := (sq 16 17)) (t := ((num * (now'[k])) + (den * slack)) + num) (by as_aux_lemma => kernel_rfl) (by omega) ?_
            refine RW.fin 1 [0, 1, 2, 3, 4, 11, 13, 14, 15, 16, 88] [(0, .int .i64 (n : Int)), (1, .int .i64 num), (2, .int .i64 den), (3, .int .i64 slack), (4, .slice a xs.length c), (11, .pointer (some ⟨cb, 0, none⟩)), (13, .int .i64 (i : Int)), (14, .bool true), (15, .int .i64 ((j : Int) + 1)), (16, .int .i64 ((k : Int) + 1)), (88, .bool (decide (((now'[j]) * den : Int) > ((num * (now'[k])) + (den * slack)) + num)))] (by as_aux_lemma => kernel_rfl) ?_
            refine WK.cond1 (decide (((now'[j]) * den : Int) > ((num * (now'[k])) + (den * slack)) + num)) (by as_aux_lemma => kernel_rfl) (by as_aux_lemma => kernel_rfl) (fun h25 => ?_) (fun h25 => ?_)
            · skip
              replace h25 := of_decide_eq_true h25
              omega
            · skip
              replace h25 := of_decide_eq_false h25
              refine WK.run 2 [0, 1, 2, 3, 4, 11, 13, 14, 15, 16] [.code (cd Try.prog 3 [3, 0, 1, 0, 0, 1, 0, 0, 2, 0, 1, 0, 0, 1, 0, 0, 2, 0, 0, 2]), .inLoop (cd Try.prog 3 [3, 0, 1, 0, 0, 1, 0, 0, 2, 0, 1, 0, 0, 1, 0, 0, 2, 0, 0]), .inBlock 4, .inBlock 3, .code (cd Try.prog 3 [3, 0, 1, 0, 0, 1, 0, 0, 2, 0, 1, 0, 0, 2]), .inLoop (cd Try.prog 3 [3, 0, 1, 0, 0, 1, 0, 0, 2, 0, 1, 0, 0]), .inBlock 2, .code (cd Try.prog 3 [3, 0, 1, 0, 0, 1, 0, 0, 3]), .inBlock 1, .code (cd Try.prog 3 [3, 0, 1, 0, 0, 2]), .inLoop (cd Try.prog 3 [3, 0, 1, 0, 0]), .inBlock 0, .code (cd Try.prog 3 [4])] [(0, .int .i64 (n : Int)), (1, .int .i64 num), (2, .int .i64 den), (3, .int .i64 slack), (4, .slice a xs.length c), (11, .pointer (some ⟨cb, 0, none⟩)), (13, .int .i64 (i : Int)), (14, .bool true), (15, .int .i64 ((j : Int) + 1)), (16, .int .i64 ((k : Int) + 1))] (by as_aux_lemma => kernel_rfl) ?_
              refine WK.reg1 (l := sq 0 3) (by as_aux_lemma => kernel_rfl) (by as_aux_lemma => kernel_rfl) ?_
              refine RW.runP 1 [0, 1, 2, 3, 4, 11, 13, 14, 15, 16, 70] (sq 1 3) [(0, .int .i64 (n : Int)), (1, .int .i64 num), (2, .int .i64 den), (3, .int .i64 slack), (4, .slice a xs.length c), (11, .pointer (some ⟨cb, 0, none⟩)), (13, .int .i64 (i : Int)), (14, .bool true), (15, .int .i64 ((j : Int) + 1)), (16, .int .i64 ((k : Int) + 1)), (70, .int .i64 ((k : Int) + 1))] (by as_aux_lemma => kernel_rfl) (by as_aux_lemma => kernel_rfl) ?_
              refine RW.wr64 (κ := .seq) (d := some 71) (r := (sq 2 3)) (t := ((k : Int) + 1) + 1) (by as_aux_lemma => kernel_rfl) (by omega) ?_
              refine RW.fin 1 [0, 1, 2, 3, 4, 11, 13, 14, 15, 16] [(0, .int .i64 (n : Int)), (1, .int .i64 num), (2, .int .i64 den), (3, .int .i64 slack), (4, .slice a xs.length c), (11, .pointer (some ⟨cb, 0, none⟩)), (13, .int .i64 (i : Int)), (14, .bool true), (15, .int .i64 ((j : Int) + 1)), (16, .int .i64 (((k : Int) + 1) + 1))] (by as_aux_lemma => kernel_rfl) ?_
              exact WK.back (hback18 (k + 1) _ ⟨H, by omega⟩ (by first | omega | (simp only []; omega))) (by simp)
          · skip
            replace h20 := of_decide_eq_false h20
            refine WK.run 2 [0, 1, 2, 3, 4, 11, 13, 14, 15] [.code (cd Try.prog 3 [3, 0, 1, 0, 0, 1, 0, 0, 2, 0, 1, 0, 0, 2]), .inLoop (cd Try.prog 3 [3, 0, 1, 0, 0, 1, 0, 0, 2, 0, 1, 0, 0]), .inBlock 2, .code (cd Try.prog 3 [3, 0, 1, 0, 0, 1, 0, 0, 3]), .inBlock 1, .code (cd Try.prog 3 [3, 0, 1, 0, 0, 2]), .inLoop (cd Try.prog 3 [3, 0, 1, 0, 0]), .inBlock 0, .code (cd Try.prog 3 [4])] [(0, .int .i64 (n : Int)), (1, .int .i64 num), (2, .int .i64 den), (3, .int .i64 slack), (4, .slice a xs.length c), (11, .pointer (some ⟨cb, 0, none⟩)), (13, .int .i64 (i : Int)), (14, .bool true), (15, .int .i64 ((j : Int) + 1))] (by as_aux_lemma => kernel_rfl) ?_
            refine WK.reg1 (l := sq 0 3) (by as_aux_lemma => kernel_rfl) (by as_aux_lemma => kernel_rfl) ?_
            refine RW.runP 1 [0, 1, 2, 3, 4, 11, 13, 14, 15, 59] (sq 1 3) [(0, .int .i64 (n : Int)), (1, .int .i64 num), (2, .int .i64 den), (3, .int .i64 slack), (4, .slice a xs.length c), (11, .pointer (some ⟨cb, 0, none⟩)), (13, .int .i64 (i : Int)), (14, .bool true), (15, .int .i64 ((j : Int) + 1)), (59, .int .i64 ((j : Int) + 1))] (by as_aux_lemma => kernel_rfl) (by as_aux_lemma => kernel_rfl) ?_
            refine RW.wr64 (κ := .seq) (d := some 60) (r := (sq 2 3)) (t := ((j : Int) + 1) + 1) (by as_aux_lemma => kernel_rfl) (by omega) ?_
            refine RW.fin 1 [0, 1, 2, 3, 4, 11, 13, 14, 15] [(0, .int .i64 (n : Int)), (1, .int .i64 num), (2, .int .i64 den), (3, .int .i64 slack), (4, .slice a xs.length c), (11, .pointer (some ⟨cb, 0, none⟩)), (13, .int .i64 (i : Int)), (14, .bool true), (15, .int .i64 (((j : Int) + 1) + 1))] (by as_aux_lemma => kernel_rfl) ?_
            exact WK.back (hback14 (j + 1, true) _ ⟨H, by omega, by first | exact fun _ _ _ => rfl | exact sm_step (f := fun q => mayI now' num den slack q) hinv1.2 (by assumption)⟩ (by first | omega | (simp only []; omega))) (by simp)
        · skip
          refine RW.runP 2 [0, 1, 2, 3, 4, 11, 13, 14, 15, 62, 63, 64] (sq 4 7) [(0, .int .i64 (n : Int)), (1, .int .i64 num), (2, .int .i64 den), (3, .int .i64 slack), (4, .slice a xs.length c), (11, .pointer (some ⟨cb, 0, none⟩)), (13, .int .i64 (i : Int)), (14, .bool sm), (15, .int .i64 ((j : Int) + 1)), (62, .bool false), (63, .pointer (some ⟨cb, 0, none⟩)), (64, .int .i64 ((j : Int) + 1))] (by as_aux_lemma => kernel_rfl) (by as_aux_lemma => kernel_rfl) ?_
          refine RW.call (κ := .seq) (d := some 65) (r := (sq 5 7)) (g := 10) (args := #[.pointer (some ⟨cb, 0, none⟩), .int .i64 ((j : Int) + 1)]) (by as_aux_lemma => kernel_rfl) (nofun) (may_in (S := fun _ => True) (H.viewM 0 rfl (by simp)) (H.view 0 rfl) hI.ok (i := j) (by have := hI.len; omega)) ?_
          rintro _ w26 hE27 rfl
          have H := H.ext hE27
          refine RW.fin 2 [0, 1, 2, 3, 4, 11, 13, 14, 15] [(0, .int .i64 (n : Int)), (1, .int .i64 num), (2, .int .i64 den), (3, .int .i64 slack), (4, .slice a xs.length c), (11, .pointer (some ⟨cb, 0, none⟩)), (13, .int .i64 (i : Int)), (14, .bool (mayI now' num den slack j)), (15, .int .i64 ((j : Int) + 1))] (by as_aux_lemma => kernel_rfl) ?_
          refine WK.run 3 [0, 1, 2, 3, 4, 11, 13, 14, 15, 16] [.code (cd Try.prog 3 [3, 0, 1, 0, 0, 1, 0, 0, 2, 0, 1, 0, 0, 1, 0, 0, 2, 0]), .inBlock 4, .inBlock 3, .code (cd Try.prog 3 [3, 0, 1, 0, 0, 1, 0, 0, 2, 0, 1, 0, 0, 2]), .inLoop (cd Try.prog 3 [3, 0, 1, 0, 0, 1, 0, 0, 2, 0, 1, 0, 0]), .inBlock 2, .code (cd Try.prog 3 [3, 0, 1, 0, 0, 1, 0, 0, 3]), .inBlock 1, .code (cd Try.prog 3 [3, 0, 1, 0, 0, 2]), .inLoop (cd Try.prog 3 [3, 0, 1, 0, 0]), .inBlock 0, .code (cd Try.prog 3 [4])] [(0, .int .i64 (n : Int)), (1, .int .i64 num), (2, .int .i64 den), (3, .int .i64 slack), (4, .slice a xs.length c), (11, .pointer (some ⟨cb, 0, none⟩)), (13, .int .i64 (i : Int)), (14, .bool (mayI now' num den slack j)), (15, .int .i64 ((j : Int) + 1)), (16, .int .i64 1)] (by as_aux_lemma => kernel_rfl) ?_
          refine WK.loop (α := Nat) (b := cd Try.prog 3 [3, 0, 1, 0, 0, 1, 0, 0, 2, 0, 1, 0, 0, 1, 0, 0, 2, 0, 0]) (by as_aux_lemma => kernel_rfl) (fun k => [(0, .int .i64 (n : Int)), (1, .int .i64 num), (2, .int .i64 den), (3, .int .i64 slack), (4, .slice a xs.length c), (11, .pointer (some ⟨cb, 0, none⟩)), (13, .int .i64 (i : Int)), (14, .bool (mayI now' num den slack j)), (15, .int .i64 ((j : Int) + 1)), (16, .int .i64 ((k : Int) + 1))]) (fun k w' => Hp w S [] [(cb, .cells #[.slice na now'.length nc, .int .i64 num, .int .i64 den, .int .i64 slack, .slice ta bs.length tc] 47 (0, 0))] [⟨Shape.int .i64, 3, .slice na now'.length nc, now'⟩] [Fc b7 o8 [.int .i64 (xs[i])], Rp (Shape.slice (Shape.int .i64)) [.slice a xs.length c] xs] w' ∧ k ≤ n) (fun k => n - k) 0 ⟨H, by omega⟩ (rfl) ?_
          rintro k w29 ⟨H, hinv2⟩ hback28
          refine WK.run 3 [0, 1, 2, 3, 4, 11, 13, 14, 15, 16, 69] [.code (cd Try.prog 3 [3, 0, 1, 0, 0, 1, 0, 0, 2, 0, 1, 0, 0, 1, 0, 0, 2, 0, 0, 0, 1]), .code (cd Try.prog 3 [3, 0, 1, 0, 0, 1, 0, 0, 2, 0, 1, 0, 0, 1, 0, 0, 2, 0, 0, 1]), .inLoop (cd Try.prog 3 [3, 0, 1, 0, 0, 1, 0, 0, 2, 0, 1, 0, 0, 1, 0, 0, 2, 0, 0]), .inBlock 4, .inBlock 3, .code (cd Try.prog 3 [3, 0, 1, 0, 0, 1, 0, 0, 2, 0, 1, 0, 0, 2]), .inLoop (cd Try.prog 3 [3, 0, 1, 0, 0, 1, 0, 0, 2, 0, 1, 0, 0]), .inBlock 2, .code (cd Try.prog 3 [3, 0, 1, 0, 0, 1, 0, 0, 3]), .inBlock 1, .code (cd Try.prog 3 [3, 0, 1, 0, 0, 2]), .inLoop (cd Try.prog 3 [3, 0, 1, 0, 0]), .inBlock 0, .code (cd Try.prog 3 [4])] [(0, .int .i64 (n : Int)), (1, .int .i64 num), (2, .int .i64 den), (3, .int .i64 slack), (4, .slice a xs.length c), (11, .pointer (some ⟨cb, 0, none⟩)), (13, .int .i64 (i : Int)), (14, .bool (mayI now' num den slack j)), (15, .int .i64 ((j : Int) + 1)), (16, .int .i64 ((k : Int) + 1)), (69, .bool (decide ((((k : Int) + 1) : Int) ≤ (n : Int))))] (by as_aux_lemma => kernel_rfl) ?_
          refine WK.cond1 (decide ((((k : Int) + 1) : Int) ≤ (n : Int))) (by as_aux_lemma => kernel_rfl) (by as_aux_lemma => kernel_rfl) (fun h30 => ?_) (fun h30 => ?_)
          · skip
            replace h30 := of_decide_eq_true h30
            have hjl : j < now'.length := by have := hI.len; omega
            have hkl : k < now'.length := by have := hI.len; omega
            have hb1 := hI.ok.hnow _ (List.getElem_mem hjl)
            have hb2 := hI.ok.hnow _ (List.getElem_mem hkl)
            have hb3 := hI.ok.hnum
            have hb4 := hI.ok.hden
            have hb5 := hI.ok.hsl
            have hp1 := prod_bd (a := now'[j]) (b := den) (A := 1048576) (B := 1000) hb1 ⟨by omega, by omega⟩
            have hp2 := prod_bd (a := num) (b := now'[k]) (A := 1000) (B := 1048576) ⟨by omega, by omega⟩ hb2
            have hp3 := prod_bd (a := den) (b := slack) (A := 1000) (B := 1000) ⟨by omega, by omega⟩ hb5
            have hsk := hI.sk j k hjl hkl
            refine WK.run 4 [0, 1, 2, 3, 4, 11, 13, 14, 15, 16] [.code (cd Try.prog 3 [3, 0, 1, 0, 0, 1, 0, 0, 2, 0, 1, 0, 0, 1, 0, 0, 2, 0, 0, 1, 0, 0, 0]), .code (cd Try.prog 3 [3, 0, 1, 0, 0, 1, 0, 0, 2, 0, 1, 0, 0, 1, 0, 0, 2, 0, 0, 1, 0, 0, 1]), .inBlock 5, .code (cd Try.prog 3 [3, 0, 1, 0, 0, 1, 0, 0, 2, 0, 1, 0, 0, 1, 0, 0, 2, 0, 0, 2]), .inLoop (cd Try.prog 3 [3, 0, 1, 0, 0, 1, 0, 0, 2, 0, 1, 0, 0, 1, 0, 0, 2, 0, 0]), .inBlock 4, .inBlock 3, .code (cd Try.prog 3 [3, 0, 1, 0, 0, 1, 0, 0, 2, 0, 1, 0, 0, 2]), .inLoop (cd Try.prog 3 [3, 0, 1, 0, 0, 1, 0, 0, 2, 0, 1, 0, 0]), .inBlock 2, .code (cd Try.prog 3 [3, 0, 1, 0, 0, 1, 0, 0, 3]), .inBlock 1, .code (cd Try.prog 3 [3, 0, 1, 0, 0, 2]), .inLoop (cd Try.prog 3 [3, 0, 1, 0, 0]), .inBlock 0, .code (cd Try.prog 3 [4])] [(0, .int .i64 (n : Int)), (1, .int .i64 num), (2, .int .i64 den), (3, .int .i64 slack), (4, .slice a xs.length c), (11, .pointer (some ⟨cb, 0, none⟩)), (13, .int .i64 (i : Int)), (14, .bool (mayI now' num den slack j)), (15, .int .i64 ((j : Int) + 1)), (16, .int .i64 ((k : Int) + 1))] (by as_aux_lemma => kernel_rfl) ?_
            refine WK.reg1 (l := sq 0 17) (by as_aux_lemma => kernel_rfl) (by as_aux_lemma => kernel_rfl) ?_
            refine RW.runP 2 [0, 1, 2, 3, 4, 11, 13, 14, 15, 16, 72, 73] (sq 2 17) [(0, .int .i64 (n : Int)), (1, .int .i64 num), (2, .int .i64 den), (3, .int .i64 slack), (4, .slice a xs.length c), (11, .pointer (some ⟨cb, 0, none⟩)), (13, .int .i64 (i : Int)), (14, .bool (mayI now' num den slack j)), (15, .int .i64 ((j : Int) + 1)), (16, .int .i64 ((k : Int) + 1)), (72, .pointer (some ⟨cb, 0, none⟩)), (73, .int .i64 ((j : Int) + 1))] (by as_aux_lemma => kernel_rfl) (by as_aux_lemma => kernel_rfl) ?_
            refine RW.call (κ := .seq) (d := some 74) (r := (sq 3 17)) (g := 11) (args := #[.pointer (some ⟨cb, 0, none⟩), .int .i64 ((j : Int) + 1)]) (by as_aux_lemma => kernel_rfl) (nofun) (now_in (S := fun _ => True) (H.viewM 0 rfl (by simp)) (H.view 0 rfl) (i := j) (by omega)) ?_
            rintro _ w31 hE32 rfl
            have H := H.ext hE32
            refine RW.runP 1 [0, 1, 2, 3, 4, 11, 13, 14, 15, 16, 74, 75] (sq 4 17) [(0, .int .i64 (n : Int)), (1, .int .i64 num), (2, .int .i64 den), (3, .int .i64 slack), (4, .slice a xs.length c), (11, .pointer (some ⟨cb, 0, none⟩)), (13, .int .i64 (i : Int)), (14, .bool (mayI now' num den slack j)), (15, .int .i64 ((j : Int) + 1)), (16, .int .i64 ((k : Int) + 1)), (74, .int .i64 (now'[j])), (75, .int .i64 den)] (by as_aux_lemma => kernel_rfl) (by as_aux_lemma => kernel_rfl) ?_
            refine RW.wr64 (κ := .seq) (d := some 76) (r := (sq 5 17)) (t := (now'[j]) * den) (by as_aux_lemma => kernel_rfl) (by omega) ?_
            refine RW.runP 3 [0, 1, 2, 3, 4, 11, 13, 14, 15, 16, 76, 77, 78, 79] (sq 8 17) [(0, .int .i64 (n : Int)), (1, .int .i64 num), (2, .int .i64 den), (3, .int .i64 slack), (4, .slice a xs.length c), (11, .pointer (some ⟨cb, 0, none⟩)), (13, .int .i64 (i : Int)), (14, .bool (mayI now' num den slack j)), (15, .int .i64 ((j : Int) + 1)), (16, .int .i64 ((k : Int) + 1)), (76, .int .i64 ((now'[j]) * den)), (77, .int .i64 num), (78, .pointer (some ⟨cb, 0, none⟩)), (79, .int .i64 ((k : Int) + 1))] (by as_aux_lemma => kernel_rfl) (by as_aux_lemma => kernel_rfl) ?_
            refine RW.call (κ := .seq) (d := some 80) (r := (sq 9 17)) (g := 11) (args := #[.pointer (some ⟨cb, 0, none⟩), .int .i64 ((k : Int) + 1)]) (by as_aux_lemma => kernel_rfl) (nofun) (now_in (S := fun _ => True) (H.viewM 0 rfl (by simp)) (H.view 0 rfl) (i := k) (by omega)) ?_
            rintro _ w33 hE34 rfl
            have H := H.ext hE34
            refine RW.wr64 (κ := .seq) (d := some 81) (r := (sq 10 17)) (t := num * (now'[k])) (by as_aux_lemma => kernel_rfl) (by omega) ?_
            refine RW.runP 2 [0, 1, 2, 3, 4, 11, 13, 14, 15, 16, 76, 81, 82, 83] (sq 12 17) [(0, .int .i64 (n : Int)), (1, .int .i64 num), (2, .int .i64 den), (3, .int .i64 slack), (4, .slice a xs.length c), (11, .pointer (some ⟨cb, 0, none⟩)), (13, .int .i64 (i : Int)), (14, .bool (mayI now' num den slack j)), (15, .int .i64 ((j : Int) + 1)), (16, .int .i64 ((k : Int) + 1)), (76, .int .i64 ((now'[j]) * den)), (81, .int .i64 (num * (now'[k]))), (82, .int .i64 den), (83, .int .i64 slack)] (by as_aux_lemma => kernel_rfl) (by as_aux_lemma => kernel_rfl) ?_
            refine RW.wr64 (κ := .seq) (d := some 84) (r := (sq 13 17)) (t := den * slack) (by as_aux_lemma => kernel_rfl) (by omega) ?_
            refine RW.wr64 (κ := .seq) (d := some 85) (r := (sq 14 17)) (t := (num * (now'[k])) + (den * slack)) (by as_aux_lemma => kernel_rfl) (by omega) ?_
            refine RW.runP 1 [0, 1, 2, 3, 4, 11, 13, 14, 15, 16, 76, 85, 86] (sq 15 17) [(0, .int .i64 (n : Int)), (1, .int .i64 num), (2, .int .i64 den), (3, .int .i64 slack), (4, .slice a xs.length c), (11, .pointer (some ⟨cb, 0, none⟩)), (13, .int .i64 (i : Int)), (14, .bool (mayI now' num den slack j)), (15, .int .i64 ((j : Int) + 1)), (16, .int .i64 ((k : Int) + 1)), (76, .int .i64 ((now'[j]) * den)), (85, .int .i64 ((num * (now'[k])) + (den * slack))), (86, .int .i64 num)] (by as_aux_lemma => kernel_rfl) (by as_aux_lemma => kernel_rfl) ?_
            refine RW.wr64 (κ := .seq) (d := some 87) (r := (sq 16 17)) (t := ((num * (now'[k])) + (den * slack)) + num) (by as_aux_lemma => kernel_rfl) (by omega) ?_
            refine RW.fin 1 [0, 1, 2, 3, 4, 11, 13, 14, 15, 16, 88] [(0, .int .i64 (n : Int)), (1, .int .i64 num), (2, .int .i64 den), (3, .int .i64 slack), (4, .slice a xs.length c), (11, .pointer (some ⟨cb, 0, none⟩)), (13, .int .i64 (i : Int)), (14, .bool (mayI now' num den slack j)), (15, .int .i64 ((j : Int) + 1)), (16, .int .i64 ((k : Int) + 1)), (88, .bool (decide (((now'[j]) * den : Int) > ((num * (now'[k])) + (den * slack)) + num)))] (by as_aux_lemma => kernel_rfl) ?_
            refine WK.cond1 (decide (((now'[j]) * den : Int) > ((num * (now'[k])) + (den * slack)) + num)) (by as_aux_lemma => kernel_rfl) (by as_aux_lemma => kernel_rfl) (fun h35 => ?_) (fun h35 => ?_)
            · skip
              replace h35 := of_decide_eq_true h35
              omega
            · skip
              replace h35 := of_decide_eq_false h35
              refine WK.run 2 [0, 1, 2, 3, 4, 11, 13, 14, 15, 16] [.code (cd Try.prog 3 [3, 0, 1, 0, 0, 1, 0, 0, 2, 0, 1, 0, 0, 1, 0, 0, 2, 0, 0, 2]), .inLoop (cd Try.prog 3 [3, 0, 1, 0, 0, 1, 0, 0, 2, 0, 1, 0, 0, 1, 0, 0, 2, 0, 0]), .inBlock 4, .inBlock 3, .code (cd Try.prog 3 [3, 0, 1, 0, 0, 1, 0, 0, 2, 0, 1, 0, 0, 2]), .inLoop (cd Try.prog 3 [3, 0, 1, 0, 0, 1, 0, 0, 2, 0, 1, 0, 0]), .inBlock 2, .code (cd Try.prog 3 [3, 0, 1, 0, 0, 1, 0, 0, 3]), .inBlock 1, .code (cd Try.prog 3 [3, 0, 1, 0, 0, 2]), .inLoop (cd Try.prog 3 [3, 0, 1, 0, 0]), .inBlock 0, .code (cd Try.prog 3 [4])] [(0, .int .i64 (n : Int)), (1, .int .i64 num), (2, .int .i64 den), (3, .int .i64 slack), (4, .slice a xs.length c), (11, .pointer (some ⟨cb, 0, none⟩)), (13, .int .i64 (i : Int)), (14, .bool (mayI now' num den slack j)), (15, .int .i64 ((j : Int) + 1)), (16, .int .i64 ((k : Int) + 1))] (by as_aux_lemma => kernel_rfl) ?_
              refine WK.reg1 (l := sq 0 3) (by as_aux_lemma => kernel_rfl) (by as_aux_lemma => kernel_rfl) ?_
              refine RW.runP 1 [0, 1, 2, 3, 4, 11, 13, 14, 15, 16, 70] (sq 1 3) [(0, .int .i64 (n : Int)), (1, .int .i64 num), (2, .int .i64 den), (3, .int .i64 slack), (4, .slice a xs.length c), (11, .pointer (some ⟨cb, 0, none⟩)), (13, .int .i64 (i : Int)), (14, .bool (mayI now' num den slack j)), (15, .int .i64 ((j : Int) + 1)), (16, .int .i64 ((k : Int) + 1)), (70, .int .i64 ((k : Int) + 1))] (by as_aux_lemma => kernel_rfl) (by as_aux_lemma => kernel_rfl) ?_
              refine RW.wr64 (κ := .seq) (d := some 71) (r := (sq 2 3)) (t := ((k : Int) + 1) + 1) (by as_aux_lemma => kernel_rfl) (by omega) ?_
              refine RW.fin 1 [0, 1, 2, 3, 4, 11, 13, 14, 15, 16] [(0, .int .i64 (n : Int)), (1, .int .i64 num), (2, .int .i64 den), (3, .int .i64 slack), (4, .slice a xs.length c), (11, .pointer (some ⟨cb, 0, none⟩)), (13, .int .i64 (i : Int)), (14, .bool (mayI now' num den slack j)), (15, .int .i64 ((j : Int) + 1)), (16, .int .i64 (((k : Int) + 1) + 1))] (by as_aux_lemma => kernel_rfl) ?_
              exact WK.back (hback28 (k + 1) _ ⟨H, by omega⟩ (by first | omega | (simp only []; omega))) (by simp)
          · skip
            replace h30 := of_decide_eq_false h30
            refine WK.run 2 [0, 1, 2, 3, 4, 11, 13, 14, 15] [.code (cd Try.prog 3 [3, 0, 1, 0, 0, 1, 0, 0, 2, 0, 1, 0, 0, 2]), .inLoop (cd Try.prog 3 [3, 0, 1, 0, 0, 1, 0, 0, 2, 0, 1, 0, 0]), .inBlock 2, .code (cd Try.prog 3 [3, 0, 1, 0, 0, 1, 0, 0, 3]), .inBlock 1, .code (cd Try.prog 3 [3, 0, 1, 0, 0, 2]), .inLoop (cd Try.prog 3 [3, 0, 1, 0, 0]), .inBlock 0, .code (cd Try.prog 3 [4])] [(0, .int .i64 (n : Int)), (1, .int .i64 num), (2, .int .i64 den), (3, .int .i64 slack), (4, .slice a xs.length c), (11, .pointer (some ⟨cb, 0, none⟩)), (13, .int .i64 (i : Int)), (14, .bool (mayI now' num den slack j)), (15, .int .i64 ((j : Int) + 1))] (by as_aux_lemma => kernel_rfl) ?_
            refine WK.reg1 (l := sq 0 3) (by as_aux_lemma => kernel_rfl) (by as_aux_lemma => kernel_rfl) ?_
            refine RW.runP 1 [0, 1, 2, 3, 4, 11, 13, 14, 15, 59] (sq 1 3) [(0, .int .i64 (n : Int)), (1, .int .i64 num), (2, .int .i64 den), (3, .int .i64 slack), (4, .slice a xs.length c), (11, .pointer (some ⟨cb, 0, none⟩)), (13, .int .i64 (i : Int)), (14, .bool (mayI now' num den slack j)), (15, .int .i64 ((j : Int) + 1)), (59, .int .i64 ((j : Int) + 1))] (by as_aux_lemma => kernel_rfl) (by as_aux_lemma => kernel_rfl) ?_
            refine RW.wr64 (κ := .seq) (d := some 60) (r := (sq 2 3)) (t := ((j : Int) + 1) + 1) (by as_aux_lemma => kernel_rfl) (by omega) ?_
            refine RW.fin 1 [0, 1, 2, 3, 4, 11, 13, 14, 15] [(0, .int .i64 (n : Int)), (1, .int .i64 num), (2, .int .i64 den), (3, .int .i64 slack), (4, .slice a xs.length c), (11, .pointer (some ⟨cb, 0, none⟩)), (13, .int .i64 (i : Int)), (14, .bool (mayI now' num den slack j)), (15, .int .i64 (((j : Int) + 1) + 1))] (by as_aux_lemma => kernel_rfl) ?_
            exact WK.back (hback14 (j + 1, mayI now' num den slack j) _ ⟨H, by omega, by first | exact fun _ _ _ => rfl | exact sm_step (f := fun q => mayI now' num den slack q) hinv1.2 (by assumption)⟩ (by first | omega | (simp only []; omega))) (by simp)
      · skip
        replace h16 := of_decide_eq_false h16
        refine WK.run 3 [0, 1, 2, 3, 4, 11, 13, 90] [.code (cd Try.prog 3 [3, 0, 1, 0, 0, 1, 0, 0, 4]), .inBlock 1, .code (cd Try.prog 3 [3, 0, 1, 0, 0, 2]), .inLoop (cd Try.prog 3 [3, 0, 1, 0, 0]), .inBlock 0, .code (cd Try.prog 3 [4])] [(0, .int .i64 (n : Int)), (1, .int .i64 num), (2, .int .i64 den), (3, .int .i64 slack), (4, .slice a xs.length c), (11, .pointer (some ⟨cb, 0, none⟩)), (13, .int .i64 (i : Int)), (90, .bool (!sm))] (by as_aux_lemma => kernel_rfl) ?_
        refine WK.cond1 (!sm) (by as_aux_lemma => kernel_rfl) (by as_aux_lemma => kernel_rfl) (fun h36 => ?_) (fun h36 => ?_)
        · skip
          replace h36 : (sm) = false := by revert h36; cases (sm) <;> simp
          obtain ⟨q, hq1, hq2⟩ := hI.some hn.1 (by omega)
          have hq3 := hinv1.2 q (by have := hI.len; omega) hq2
          simp_all
        · skip
          replace h36 : (sm) = true := by revert h36; cases (sm) <;> simp
          refine WK.run 2 [0, 1, 2, 3, 4, 11, 13] [.code (cd Try.prog 3 [3, 0, 1, 0, 0, 2]), .inLoop (cd Try.prog 3 [3, 0, 1, 0, 0]), .inBlock 0, .code (cd Try.prog 3 [4])] [(0, .int .i64 (n : Int)), (1, .int .i64 num), (2, .int .i64 den), (3, .int .i64 slack), (4, .slice a xs.length c), (11, .pointer (some ⟨cb, 0, none⟩)), (13, .int .i64 (i : Int))] (by as_aux_lemma => kernel_rfl) ?_
          refine WK.reg1 (l := sq 0 3) (by as_aux_lemma => kernel_rfl) (by as_aux_lemma => kernel_rfl) ?_
          refine RW.runP 1 [0, 1, 2, 3, 4, 11, 13, 48] (sq 1 3) [(0, .int .i64 (n : Int)), (1, .int .i64 num), (2, .int .i64 den), (3, .int .i64 slack), (4, .slice a xs.length c), (11, .pointer (some ⟨cb, 0, none⟩)), (13, .int .i64 (i : Int)), (48, .int .i64 (i : Int))] (by as_aux_lemma => kernel_rfl) (by as_aux_lemma => kernel_rfl) ?_
          refine RW.wr64 (κ := .seq) (d := some 49) (r := (sq 2 3)) (t := (i : Int) + 1) (by as_aux_lemma => kernel_rfl) (by omega) ?_
          refine RW.fin 1 [0, 1, 2, 3, 4, 11, 13] [(0, .int .i64 (n : Int)), (1, .int .i64 num), (2, .int .i64 den), (3, .int .i64 slack), (4, .slice a xs.length c), (11, .pointer (some ⟨cb, 0, none⟩)), (13, .int .i64 ((i : Int) + 1))] (by as_aux_lemma => kernel_rfl) ?_
          have H := H.pick [1] (G' := [Rp (Shape.slice (Shape.int .i64)) [.slice a xs.length c] xs]) rfl
          exact WK.back (hback3 (i + 1, now') _ ⟨H, by omega, hI⟩ (by first | omega | (simp only []; omega))) (by as_aux_lemma => kernel_rfl)
    · skip
      replace h5 := of_decide_eq_false h5
      refine WK.run 2 [] [.code (cd Try.prog 3 [4, 0]), .code (cd Try.prog 3 [5])] [] (by as_aux_lemma => kernel_rfl) ?_
      refine WK.reg1 (l := sq 0 2) (by as_aux_lemma => kernel_rfl) (by as_aux_lemma => kernel_rfl) ?_
      refine RW.call (κ := .seq) (d := some 91) (r := (sq 1 2)) (g := 8) (args := #[]) (by as_aux_lemma => kernel_rfl) (nofun) (heads_spec (S := fun _ => True)) ?_
      rintro _ w37 hE38 rfl
      have H := H.ext hE38
      refine RW.fin 1 [10] [(10, .bool true)] (by as_aux_lemma => kernel_rfl) ?_
      refine WK.ret (v := .bool true) Try.func3 (by as_aux_lemma => kernel_rfl) (by as_aux_lemma => kernel_rfl) ?_
      exact ⟨_, rfl, H.done, rfl⟩


end Go.Proofs.Ytghnicaefbdjfaa
