import Derived.Test.YthbegjaoifghlaaQ6
namespace Go.Proofs.Ythbegjaoifghlaa
open Go.BX

theorem mem_ins {x y : Int} : ∀ {xs : List Int}, y ∈ ins x xs ↔ y = x ∨ y ∈ xs
  | [] => by simp [ins]
  | z :: r => by
    unfold ins
    split
    · simp
    · simp only [List.mem_cons, mem_ins (xs := r)]
      constructor
      · rintro (h | h | h)
        · exact .inr (.inl h)
        · exact .inl h
        · exact .inr (.inr h)
      · rintro (h | h | h)
        · exact .inr (.inl h)
        · exact .inl h
        · exact .inr (.inr h)
theorem rises_cons {x l : Int} {r : List Int} (h1 : l < x) (h2 : x ≤ 32) (h3 : risesFrom x r = true) : risesFrom l (x :: r) = true := by
  unfold risesFrom
  rw [if_neg (by omega)]; exact h3
theorem rises_ins {x : Int} : ∀ {xs : List Int} {l : Int}, risesFrom l xs = true → l < x → x ≤ 32 → x ∉ xs → risesFrom l (ins x xs) = true
  | [], l, _, h1, h2, _ => rises_cons h1 h2 rfl
  | y :: r, l, h, h1, h2, h3 => by
    obtain ⟨k1, k2, k3⟩ := rises_head h
    have hne : x ≠ y := fun e => h3 (e ▸ List.mem_cons_self ..)
    unfold ins
    split
    · exact rises_cons h1 h2 (rises_cons (by omega) k2 k3)
    · exact rises_cons k1 k2 (rises_ins k3 (by omega) h2 fun hm => h3 (List.mem_cons_of_mem _ hm))
theorem rises_low {xs : List Int} {l l' : Int} (h : risesFrom l xs = true) (hl : l' ≤ l) : risesFrom l' xs = true := by
  cases xs with
  | nil => rfl
  | cons x r =>
    obtain ⟨k1, k2, k3⟩ := rises_head h
    exact rises_cons (by omega) k2 k3
theorem rises_filter {p : Int → Bool} : ∀ {xs : List Int} {l : Int}, risesFrom l xs = true → risesFrom l (xs.filter p) = true
  | [], _, _ => rfl
  | x :: r, l, h => by
    obtain ⟨k1, k2, k3⟩ := rises_head h
    rw [List.filter_cons]
    split
    · exact rises_cons k1 k2 (rises_filter k3)
    · exact rises_low (rises_filter k3) (by omega)
theorem common_all {a b : List Int} (h : ∀ x ∈ a, x ∈ b) : common a b = a.length := by
  unfold common
  rw [List.filter_eq_self.2 fun x hx => by simpa using h x hx]
theorem common_nil {a b : List Int} : common a b = 0 ↔ ∀ x ∈ a, x ∉ b := by
  unfold common
  rw [List.length_eq_zero_iff, List.filter_eq_nil_iff]
  simp
theorem len_sub {a b : List Int} {l : Int} (h : risesFrom l a = true) (hs : ∀ x ∈ a, x ∈ b) : a.length ≤ b.length := by
  have := common_le2 (b := b) h
  rwa [common_all hs] at this
theorem drp_len {x : Int} : ∀ {xs : List Int} {l : Int}, risesFrom l xs = true → x ∈ xs → (drp x xs).length + 1 = xs.length
  | [], _, _, h => by cases h
  | y :: r, l, h, hx => by
    obtain ⟨k1, k2, k3⟩ := rises_head h
    unfold drp
    rw [List.filter_cons]
    by_cases e : y = x
    · subst e
      have hn : y ∉ r := fun hm => by have := (rises_gt k3 hm).1; omega
      have e2 := filter_ne hn
      simp [e2]
    · have hx' : x ∈ r := by
        rcases List.mem_cons.1 hx with h | h
        · exact absurd h.symm e
        · exact h
      have := drp_len k3 hx'
      unfold drp at this
      simp [e, this]
theorem mem_drp {x y : Int} {xs : List Int} : y ∈ drp x xs ↔ y ∈ xs ∧ y ≠ x := by
  unfold drp
  rw [List.mem_filter]
  simp
theorem count_part (a : List Int) (p : Int → Bool) : ∀ V : List Int, common V a + (V.filter p).length ≤ common (V.filter p) a + V.length
  | [] => by simp [common]
  | x :: r => by
    have ih := count_part a p r
    rw [common_cons]
    by_cases hp : p x = true
    · rw [List.filter_cons_of_pos hp, common_cons]
      simp only [List.length_cons]; omega
    · rw [List.filter_cons_of_neg hp]
      simp only [List.length_cons]
      split <;> omega
theorem meets_pair {C D : Conf} {a b : List Int} (hm : meetsB C D = true) (ha : majB C a = true) (hb : majB D b = true) : ∃ x ∈ a, x ∈ b ∧ x ∈ C.voters ∧ x ∈ D.voters := by
  unfold meetsB at hm
  simp only [Bool.and_eq_true, decide_eq_true_eq] at hm
  obtain ⟨⟨hC, hD⟩, hsum⟩ := hm
  obtain ⟨_, rC, _, _⟩ := okConf_iff.1 hC
  obtain ⟨_, rD, _, _⟩ := okConf_iff.1 hD
  have h1 := of_decide_eq_true ha
  have h2 := of_decide_eq_true hb
  generalize hF : C.voters.filter (fun x => decide (x ∈ D.voters)) = F at *
  generalize hG : D.voters.filter (fun x => decide (x ∈ C.voters)) = G at *
  have hk : common C.voters D.voters = F.length := by rw [← hF]; rfl
  have mF : ∀ x, x ∈ F ↔ x ∈ C.voters ∧ x ∈ D.voters := fun x => by rw [← hF, List.mem_filter]; simp
  have mG : ∀ x, x ∈ G ↔ x ∈ D.voters ∧ x ∈ C.voters := fun x => by rw [← hG, List.mem_filter]; simp
  have rF : risesFrom 0 F = true := hF ▸ rises_filter rC
  have rG : risesFrom 0 G = true := hG ▸ rises_filter rD
  have l1 : F.length ≤ G.length := len_sub rF fun x hx => (mG x).2 ⟨((mF x).1 hx).2, ((mF x).1 hx).1⟩
  have l2 : G.length ≤ F.length := len_sub rG fun x hx => (mF x).2 ⟨((mG x).1 hx).2, ((mG x).1 hx).1⟩
  have l3 : common G b ≤ common F b := len_sub (l := 0) (rises_filter rG) fun x hx => by
    obtain ⟨k1, k2⟩ := List.mem_filter.1 hx
    exact List.mem_filter.2 ⟨(mF x).2 ⟨((mG x).1 k1).2, ((mG x).1 k1).1⟩, k2⟩
  have c1 := count_part a (fun x => decide (x ∈ D.voters)) C.voters
  have c2 := count_part b (fun x => decide (x ∈ C.voters)) D.voters
  rw [hF] at c1
  rw [hG] at c2
  have c3 := meet_count a b F
  rw [hk] at hsum
  have e1 : leastOf C F.length ≤ common F a := by
    unfold leastOf; simp only []; split <;> omega
  have e2 : leastOf D F.length ≤ common F b := by
    unfold leastOf; simp only []; split <;> omega
  have h4 : 0 < (F.filter (fun x => decide (x ∈ a) && decide (x ∈ b))).length := by omega
  obtain ⟨x, hx⟩ := List.exists_mem_of_length_pos h4
  obtain ⟨k1, k2⟩ := List.mem_filter.1 hx
  simp only [Bool.and_eq_true, decide_eq_true_eq] at k2
  exact ⟨x, k2.1, k2.2, ((mF x).1 k1).1, ((mF x).1 k1).2⟩
theorem meetsB_of {C D : Conf} {k n m : Nat} (hC : okConf C = true) (hD : okConf D = true) (hk : common C.voters D.voters = k) (hn : C.voters.length = n) (hm : D.voters.length = m) (h : (n = k ∧ m ≤ k + 1) ∨ (m = k ∧ n ≤ k + 1)) (hk1 : k ≤ n) (hk2 : k ≤ m) : meetsB C D = true := by
  unfold meetsB
  rw [hC, hD, hk]
  simp only [Bool.true_and, decide_eq_true_eq]
  unfold leastOf
  rw [hn, hm]
  simp only []
  split <;> split <;> omega
theorem step_law {C D : Conf} {Z : CStep} (h : (D, (0 : Int)) = stepOf C Z) : okConf C = true ∧ okConf D = true ∧ meetsB C D = true ∧ meetsB C C = true ∧ meetsB D C = true := by
  unfold stepOf at h
  split at h
  · simp at h
  · rename_i hok
    have hok : stepOk C Z.node = true := by simpa using hok
    unfold stepOk at hok
    simp only [Bool.and_eq_true, decide_eq_true_eq] at hok
    obtain ⟨⟨hC, hz1⟩, hz2⟩ := hok
    obtain ⟨c1, c2, c3, c4⟩ := okConf_iff.1 hC
    have hdis := common_nil.1 c4
    have hCC : meetsB C C = true := meetsB_of hC hC (common_all fun x hx => hx) rfl rfl (by omega) (by omega) (by omega)
    suffices hs : okConf D = true ∧ common C.voters D.voters ≤ C.voters.length ∧ ((common C.voters D.voters = C.voters.length ∧ common D.voters C.voters = C.voters.length ∧ D.voters.length ≤ C.voters.length + 1 ∧ C.voters.length ≤ D.voters.length) ∨ (common C.voters D.voters = D.voters.length ∧ common D.voters C.voters = D.voters.length ∧ C.voters.length ≤ D.voters.length + 1 ∧ D.voters.length ≤ C.voters.length)) by
      obtain ⟨hD, _, hs⟩ := hs
      refine ⟨hC, hD, ?_, hCC, ?_⟩
      · exact meetsB_of hC hD rfl rfl rfl (by omega) (by omega) (by omega)
      · exact meetsB_of hD hC rfl rfl rfl (by omega) (by omega) (by omega)
    split at h
    · rename_i hc
      obtain ⟨rfl, -⟩ := Prod.mk.inj h
      have hcc : common C.voters C.voters = C.voters.length := common_all fun x hx => hx
      refine ⟨okConf_iff.2 ⟨c1, c2, rises_ins c3 (by omega) hz2 hc.2.2, common_nil.2 fun x hx hm => ?_⟩, by simp only [hcc]; omega, .inl ⟨hcc, hcc, Nat.le_succ _, Nat.le_refl _⟩⟩
      rcases mem_ins.1 hm with rfl | hm
      · exact hc.2.1 hx
      · exact hdis x hx hm
    · split at h
      · rename_i hc
        obtain ⟨rfl, -⟩ := Prod.mk.inj h
        have hxv : Z.node ∉ C.voters := fun hx => hdis _ hx hc.2
        have hcc : common C.voters (ins Z.node C.voters) = C.voters.length := common_all fun x hx => mem_ins.2 (.inr hx)
        have hr := rises_ins c2 (by omega) hz2 hxv
        have hl := ins_length (x := Z.node) (xs := C.voters)
        have hc2 : common (ins Z.node C.voters) C.voters = C.voters.length := by
          have k1 := common_le2 (b := C.voters) hr
          have k2 : C.voters.length ≤ common (ins Z.node C.voters) C.voters := len_sub c2 fun x hx => List.mem_filter.2 ⟨mem_ins.2 (.inr hx), by simpa using hx⟩
          omega
        refine ⟨okConf_iff.2 ⟨by simp only [hl]; omega, hr, rises_filter c3, common_nil.2 fun x hx hm => ?_⟩, by simp only [hcc]; omega, .inl ⟨hcc, hc2, by simp only [hl]; omega, by simp only [hl]; omega⟩⟩
        obtain ⟨k1, k2⟩ := mem_drp.1 hm
        rcases mem_ins.1 hx with rfl | hx
        · exact k2 rfl
        · exact hdis x hx k1
      · split at h
        · rename_i hc
          obtain ⟨rfl, -⟩ := Prod.mk.inj h
          have hdl : common (drp Z.node C.voters) C.voters = (drp Z.node C.voters).length := common_all fun x hx => (mem_drp.1 hx).1
          have hr : risesFrom 0 (drp Z.node C.voters) = true := rises_filter c2
          have hdl2 : common C.voters (drp Z.node C.voters) = (drp Z.node C.voters).length := by
            have k1 : common C.voters (drp Z.node C.voters) ≤ (drp Z.node C.voters).length := common_le2 c2
            have k2 : (drp Z.node C.voters).length ≤ common C.voters (drp Z.node C.voters) := len_sub hr fun x hx => List.mem_filter.2 ⟨(mem_drp.1 hx).1, by simpa using hx⟩
            omega
          have hlen : (drp Z.node C.voters).length ≤ C.voters.length ∧ C.voters.length ≤ (drp Z.node C.voters).length + 1 ∧ (drp Z.node C.voters).length ≠ 0 := by
            by_cases hx : Z.node ∈ C.voters
            · have := drp_len c2 hx
              rcases hc.2 with hq | hq
              · exact absurd hq (hdis _ hx)
              · omega
            · have : drp Z.node C.voters = C.voters := filter_ne hx
              rw [this]
              omega
          refine ⟨okConf_iff.2 ⟨hlen.2.2, hr, rises_filter c3, common_nil.2 fun x hx hm => hdis x (mem_drp.1 hx).1 (mem_drp.1 hm).1⟩, by simp only [hdl2]; omega, .inr ⟨hdl2, hdl, hlen.2.1, hlen.1⟩⟩
        · simp at h

theorem meetslaw_spec {S : Nat → Prop} {w : World} {cs : List Value} {C : Conf} (h : confS.rep S w cs C) {zs : List Value} {Z : CStep} (hz : cstepS.rep S w zs Z) {xs ys : List Int} {a b : Option Addr} {c c2 : Nat} (ha : (Shape.slice (.int .i64)).rep S w [.slice a xs.length c] xs) (hb : (Shape.slice (.int .i64)).rep S w [.slice b ys.length c2] ys) :
    Calls Try.prog 5 #[.agg cs.toArray, .agg zs.toArray, .slice a xs.length c, .slice b ys.length c2] w (Ret fun v w' => Ext w w' ∧ v = .bool true) := by
  obtain ⟨a0C, k0C, a1C, k1C, rfl, hvC, hlC⟩ := conf_open h
  obtain ⟨rfl, hb1Z, hb2Z⟩ := cstep_open hz
  have hlen := Shape.slice_len ha
  refine WK.calls1 (fn := Try.f5) (n := 87) (σ := [(0, .agg #[.slice a0C C.voters.length k0C, .slice a1C C.learners.length k1C]), (1, .agg #[.int .i64 Z.kind, .int .i64 Z.node]), (2, .slice a xs.length c), (3, .slice b ys.length c2)]) Try.func5 rfl (by as_aux_lemma => kernel_rfl) (by as_aux_lemma => kernel_rfl) (by as_aux_lemma => kernel_rfl) ?_
  have H := Hp.startF (w := w) (S := S) (G := [Rp (Shape.slice (Shape.int .i64)) [.slice a0C C.voters.length k0C] C.voters, Rp (Shape.slice (Shape.int .i64)) [.slice a1C C.learners.length k1C] C.learners, Rp (Shape.slice (Shape.int .i64)) [.slice a xs.length c] xs, Rp (Shape.slice (Shape.int .i64)) [.slice b ys.length c2] ys]) (.rp hvC (.rp hlC (.rp ha (.rp hb .nil))))
  refine WK.run 1 [0, 1, 2, 3] [.code (cd Try.prog 5 [0]), .code (cd Try.prog 5 [1])] [(0, .agg #[.slice a0C C.voters.length k0C, .slice a1C C.learners.length k1C]), (1, .agg #[.int .i64 Z.kind, .int .i64 Z.node]), (2, .slice a xs.length c), (3, .slice b ys.length c2)] (by as_aux_lemma => kernel_rfl) ?_
  refine WK.reg1 (l := sq 0 3) (by as_aux_lemma => kernel_rfl) (by as_aux_lemma => kernel_rfl) ?_
  refine RW.new (κ := .seq) (d := some 4) (r := (sq 1 3)) (o := .cells #[.slice a0C C.voters.length k0C, .slice a1C C.learners.length k1C] 24 (0, 0)) (v := fun b => .pointer (some ⟨b, 0, none⟩)) (fun b => by as_aux_lemma => kernel_rfl) (nofun) H ?_
  intro b1 w2 H
  refine RW.new (κ := .seq) (d := some 5) (r := (sq 2 3)) (o := .cells #[.int .i64 Z.kind, .int .i64 Z.node] 34 (0, 0)) (v := fun b => .pointer (some ⟨b, 0, none⟩)) (fun b => by as_aux_lemma => kernel_rfl) (nofun) H ?_
  intro b3 w4 H
  refine RW.fin 1 [2, 3, 4, 5] [(2, .slice a xs.length c), (3, .slice b ys.length c2), (4, .pointer (some ⟨b1, 0, none⟩)), (5, .pointer (some ⟨b3, 0, none⟩))] (by as_aux_lemma => kernel_rfl) ?_
  refine WK.run 1 [2, 3, 4, 5] [.code (cd Try.prog 5 [1, 0]), .code (cd Try.prog 5 [2])] [(2, .slice a xs.length c), (3, .slice b ys.length c2), (4, .pointer (some ⟨b1, 0, none⟩)), (5, .pointer (some ⟨b3, 0, none⟩))] (by as_aux_lemma => kernel_rfl) ?_
  refine WK.reg1 (l := sq 0 9) (by as_aux_lemma => kernel_rfl) (by as_aux_lemma => kernel_rfl) ?_
  refine RW.load (κ := .seq) (d := some 13) (r := (sq 1 9)) (T := 24) (b := b1) (o' := 0) (k := 0) (v := .agg #[.slice a0C C.voters.length k0C, .slice a1C C.learners.length k1C]) (by as_aux_lemma => kernel_rfl) (H.cells 1 rfl) rfl (by as_aux_lemma => kernel_rfl) ?_
  refine RW.load (κ := .seq) (d := some 14) (r := (sq 2 9)) (T := 34) (b := b3) (o' := 0) (k := 0) (v := .agg #[.int .i64 Z.kind, .int .i64 Z.node]) (by as_aux_lemma => kernel_rfl) (H.cells 0 rfl) rfl (by as_aux_lemma => kernel_rfl) ?_
  refine RW.call (κ := .seq) (d := some 15) (r := (sq 3 9)) (g := 13) (args := #[.agg #[.slice a0C C.voters.length k0C, .slice a1C C.learners.length k1C], .agg #[.int .i64 Z.kind, .int .i64 Z.node]]) (by as_aux_lemma => kernel_rfl) (nofun) (step_spec (C := C) (Z := Z) (conf_mk (H.rp 0 rfl) (H.rp 1 rfl)) (cstep_mk (Shape.int_mk ⟨by simp [IntKind.min, IntKind.max, IntKind.signed, IntKind.bits]; omega, by simp [IntKind.min, IntKind.max, IntKind.signed, IntKind.bits]; omega⟩) (Shape.int_mk ⟨by simp [IntKind.min, IntKind.max, IntKind.signed, IntKind.bits]; omega, by simp [IntKind.min, IntKind.max, IntKind.signed, IntKind.bits]; omega⟩))) ?_
  rintro _ w5 hE8 ⟨_, D6, e7, rfl, hr9, hD10⟩
  obtain ⟨a11, k12, a13, k14, rfl, hv15, hl16⟩ := conf_open hr9
  have H2 := H.addN hE8 (F := Rp (Shape.slice (Shape.int .i64)) [.slice a11 D6.voters.length k12] D6.voters) hv15
  have H := H2.add (F := Rp (Shape.slice (Shape.int .i64)) [.slice a13 D6.learners.length k14] D6.learners) ((H.addN hE8 (F := Rp (Shape.slice (Shape.int .i64)) [.slice a13 D6.learners.length k14] D6.learners) hl16).rp 0 rfl)
  refine RW.runP 3 [2, 3, 4, 16, 17] (sq 6 9) [(2, .slice a xs.length c), (3, .slice b ys.length c2), (4, .pointer (some ⟨b1, 0, none⟩)), (16, .agg #[.slice a11 D6.voters.length k12, .slice a13 D6.learners.length k14]), (17, .int .i64 e7)] (by as_aux_lemma => kernel_rfl) (by as_aux_lemma => kernel_rfl) ?_
  refine RW.new (κ := .seq) (d := some 9) (r := (sq 7 9)) (o := .cells #[.slice none 0 0, .slice none 0 0] 24 (0, 0)) (v := fun b => .pointer (some ⟨b, 0, none⟩)) (fun b => by as_aux_lemma => kernel_rfl) (nofun) H ?_
  intro b17 w18 H
  refine RW.store (d := none) (r := (sq 8 9)) (T := 24) (b := b17) (k := 0) (v := .agg #[.slice a11 D6.voters.length k12, .slice a13 D6.learners.length k14]) (c' := #[.slice a11 D6.voters.length k12, .slice a13 D6.learners.length k14]) (M' := [(b17, .cells #[.slice a11 D6.voters.length k12, .slice a13 D6.learners.length k14] 24 (0, 0)), (b3, .cells #[.int .i64 Z.kind, .int .i64 Z.node] 34 (0, 0)), (b1, .cells #[.slice a0C C.voters.length k0C, .slice a1C C.learners.length k1C] 24 (0, 0))]) (by as_aux_lemma => kernel_rfl) H 0 rfl (by as_aux_lemma => kernel_rfl) (by as_aux_lemma => kernel_rfl) ?_
  intro w19 H
  refine RW.fin 1 [2, 3, 4, 9, 10] [(2, .slice a xs.length c), (3, .slice b ys.length c2), (4, .pointer (some ⟨b1, 0, none⟩)), (9, .pointer (some ⟨b17, 0, none⟩)), (10, .int .i64 e7)] (by as_aux_lemma => kernel_rfl) ?_
  refine WK.run 3 [2, 3, 4, 9, 19] [.code (cd Try.prog 5 [2, 0, 1]), .code (cd Try.prog 5 [3])] [(2, .slice a xs.length c), (3, .slice b ys.length c2), (4, .pointer (some ⟨b1, 0, none⟩)), (9, .pointer (some ⟨b17, 0, none⟩)), (19, .bool (e7 != 0))] (by as_aux_lemma => kernel_rfl) ?_
  refine WK.cond1 (e7 != 0) (by as_aux_lemma => kernel_rfl) (by as_aux_lemma => kernel_rfl) (fun h20 => ?_) (fun h20 => ?_)
  · skip
    replace h20 := bne_iff_ne.1 h20
    refine WK.run 1 [] [.code (cd Try.prog 5 [2, 0, 1, 0, 0]), .code (cd Try.prog 5 [2, 0, 1, 0, 1]), .code (cd Try.prog 5 [3])] [] (by as_aux_lemma => kernel_rfl) ?_
    refine WK.reg1 (l := sq 0 2) (by as_aux_lemma => kernel_rfl) (by as_aux_lemma => kernel_rfl) ?_
    refine RW.call (κ := .seq) (d := some 20) (r := (sq 1 2)) (g := 9) (args := #[]) (by as_aux_lemma => kernel_rfl) (nofun) (heads_spec (S := fun _ => True)) ?_
    rintro _ w21 hE22 rfl
    have H := H.ext hE22
    refine RW.fin 1 [8] [(8, .bool true)] (by as_aux_lemma => kernel_rfl) ?_
    refine WK.ret (v := .bool true) Try.func5 (by as_aux_lemma => kernel_rfl) (by as_aux_lemma => kernel_rfl) ?_
    exact ⟨_, rfl, H.done, rfl⟩
  · skip
    replace h20 := (bne_eq_false_iff_eq.1 h20)
    have hlaw := step_law (D := D6) (C := C) (Z := Z) (by rw [← hD10, h20])
    have hlC := ok_len hlaw.1
    have hlD := ok_len hlaw.2.1
    refine WK.run 3 [2, 3, 4, 9] [.code (cd Try.prog 5 [3, 0, 0]), .code (cd Try.prog 5 [3, 0, 1]), .code (cd Try.prog 5 [4])] [(2, .slice a xs.length c), (3, .slice b ys.length c2), (4, .pointer (some ⟨b1, 0, none⟩)), (9, .pointer (some ⟨b17, 0, none⟩))] (by as_aux_lemma => kernel_rfl) ?_
    refine WK.reg1 (l := sq 0 26) (by as_aux_lemma => kernel_rfl) (by as_aux_lemma => kernel_rfl) ?_
    refine RW.load (κ := .seq) (d := some 21) (r := (sq 1 26)) (T := 24) (b := b1) (o' := 0) (k := 0) (v := .agg #[.slice a0C C.voters.length k0C, .slice a1C C.learners.length k1C]) (by as_aux_lemma => kernel_rfl) (H.cells 2 rfl) rfl (by as_aux_lemma => kernel_rfl) ?_
    refine RW.call (κ := .seq) (d := some 22) (r := (sq 2 26)) (g := 7) (args := #[.agg #[.slice a0C C.voters.length k0C, .slice a1C C.learners.length k1C]]) (by as_aux_lemma => kernel_rfl) (nofun) (check_spec (C := C) (conf_mk (H.rp 2 rfl) (H.rp 3 rfl))) ?_
    rintro _ w23 hE24 rfl
    have H := H.ext hE24
    refine RW.runP 2 [2, 3, 4, 9, 24] (sq 4 26) [(2, .slice a xs.length c), (3, .slice b ys.length c2), (4, .pointer (some ⟨b1, 0, none⟩)), (9, .pointer (some ⟨b17, 0, none⟩)), (24, .bool ((errOf (okConf C)) != 0))] (by as_aux_lemma => kernel_rfl) (by as_aux_lemma => kernel_rfl) ?_
    refine RW.test (fun b_ => [(2, .slice a xs.length c), (3, .slice b ys.length c2), (4, .pointer (some ⟨b1, 0, none⟩)), (9, .pointer (some ⟨b17, 0, none⟩)), (24, .bool b_)]) ((errOf (okConf C)) != 0) (fun h25 => ?_) (fun h25 => ?_)
    · skip
      replace h25 := bne_iff_ne.1 h25
      exact absurd (by rw [hlaw.1]; rfl) h25
    · skip
      replace h25 := (bne_eq_false_iff_eq.1 h25)
      refine RW.load (κ := .seq) (d := some 25) (r := (sq 5 26)) (T := 24) (b := b17) (o' := 0) (k := 0) (v := .agg #[.slice a11 D6.voters.length k12, .slice a13 D6.learners.length k14]) (by as_aux_lemma => kernel_rfl) (H.cells 0 rfl) rfl (by as_aux_lemma => kernel_rfl) ?_
      refine RW.call (κ := .seq) (d := some 26) (r := (sq 6 26)) (g := 7) (args := #[.agg #[.slice a11 D6.voters.length k12, .slice a13 D6.learners.length k14]]) (by as_aux_lemma => kernel_rfl) (nofun) (check_spec (C := D6) (conf_mk (H.rp 1 rfl) (H.rp 0 rfl))) ?_
      rintro _ w26 hE27 rfl
      have H := H.ext hE27
      refine RW.runP 3 [2, 3, 4, 9, 29] (sq 9 26) [(2, .slice a xs.length c), (3, .slice b ys.length c2), (4, .pointer (some ⟨b1, 0, none⟩)), (9, .pointer (some ⟨b17, 0, none⟩)), (29, .bool ((errOf (okConf D6)) != 0))] (by as_aux_lemma => kernel_rfl) (by as_aux_lemma => kernel_rfl) ?_
      refine RW.test (fun b_ => [(2, .slice a xs.length c), (3, .slice b ys.length c2), (4, .pointer (some ⟨b1, 0, none⟩)), (9, .pointer (some ⟨b17, 0, none⟩)), (29, .bool b_)]) ((errOf (okConf D6)) != 0) (fun h28 => ?_) (fun h28 => ?_)
      · skip
        replace h28 := bne_iff_ne.1 h28
        exact absurd (by rw [hlaw.2.1]; rfl) h28
      · skip
        replace h28 := (bne_eq_false_iff_eq.1 h28)
        refine RW.load (κ := .seq) (d := some 30) (r := (sq 10 26)) (T := 24) (b := b1) (o' := 0) (k := 0) (v := .agg #[.slice a0C C.voters.length k0C, .slice a1C C.learners.length k1C]) (by as_aux_lemma => kernel_rfl) (H.cells 2 rfl) rfl (by as_aux_lemma => kernel_rfl) ?_
        refine RW.load (κ := .seq) (d := some 31) (r := (sq 11 26)) (T := 24) (b := b17) (o' := 0) (k := 0) (v := .agg #[.slice a11 D6.voters.length k12, .slice a13 D6.learners.length k14]) (by as_aux_lemma => kernel_rfl) (H.cells 0 rfl) rfl (by as_aux_lemma => kernel_rfl) ?_
        refine RW.call (κ := .seq) (d := some 32) (r := (sq 12 26)) (g := 16) (args := #[.agg #[.slice a0C C.voters.length k0C, .slice a1C C.learners.length k1C], .agg #[.slice a11 D6.voters.length k12, .slice a13 D6.learners.length k14]]) (by as_aux_lemma => kernel_rfl) (nofun) (meets_spec (C := C) (D := D6) (conf_mk (H.rp 2 rfl) (H.rp 3 rfl)) (conf_mk (H.rp 1 rfl) (H.rp 0 rfl))) ?_
        rintro _ w29 hE30 rfl
        have H := H.ext hE30
        refine RW.runP 3 [2, 3, 4, 9, 35] (sq 15 26) [(2, .slice a xs.length c), (3, .slice b ys.length c2), (4, .pointer (some ⟨b1, 0, none⟩)), (9, .pointer (some ⟨b17, 0, none⟩)), (35, .bool (!(meetsB C D6)))] (by as_aux_lemma => kernel_rfl) (by as_aux_lemma => kernel_rfl) ?_
        refine RW.test (fun b_ => [(2, .slice a xs.length c), (3, .slice b ys.length c2), (4, .pointer (some ⟨b1, 0, none⟩)), (9, .pointer (some ⟨b17, 0, none⟩)), (35, .bool b_)]) (!(meetsB C D6)) (fun h31 => ?_) (fun h31 => ?_)
        · skip
          replace h31 : (meetsB C D6) = false := by revert h31; cases (meetsB C D6) <;> simp
          exact absurd (hlaw.2.2.1.symm.trans h31) (by decide)
        · skip
          replace h31 : (meetsB C D6) = true := by revert h31; cases (meetsB C D6) <;> simp
          refine RW.load (κ := .seq) (d := some 36) (r := (sq 16 26)) (T := 24) (b := b1) (o' := 0) (k := 0) (v := .agg #[.slice a0C C.voters.length k0C, .slice a1C C.learners.length k1C]) (by as_aux_lemma => kernel_rfl) (H.cells 2 rfl) rfl (by as_aux_lemma => kernel_rfl) ?_
          refine RW.load (κ := .seq) (d := some 37) (r := (sq 17 26)) (T := 24) (b := b1) (o' := 0) (k := 0) (v := .agg #[.slice a0C C.voters.length k0C, .slice a1C C.learners.length k1C]) (by as_aux_lemma => kernel_rfl) (H.cells 2 rfl) rfl (by as_aux_lemma => kernel_rfl) ?_
          refine RW.call (κ := .seq) (d := some 38) (r := (sq 18 26)) (g := 16) (args := #[.agg #[.slice a0C C.voters.length k0C, .slice a1C C.learners.length k1C], .agg #[.slice a0C C.voters.length k0C, .slice a1C C.learners.length k1C]]) (by as_aux_lemma => kernel_rfl) (nofun) (meets_spec (C := C) (D := C) (conf_mk (H.rp 2 rfl) (H.rp 3 rfl)) (conf_mk (H.rp 2 rfl) (H.rp 3 rfl))) ?_
          rintro _ w32 hE33 rfl
          have H := H.ext hE33
          refine RW.runP 3 [2, 3, 4, 9, 41] (sq 21 26) [(2, .slice a xs.length c), (3, .slice b ys.length c2), (4, .pointer (some ⟨b1, 0, none⟩)), (9, .pointer (some ⟨b17, 0, none⟩)), (41, .bool (!(meetsB C C)))] (by as_aux_lemma => kernel_rfl) (by as_aux_lemma => kernel_rfl) ?_
          refine RW.test (fun b_ => [(2, .slice a xs.length c), (3, .slice b ys.length c2), (4, .pointer (some ⟨b1, 0, none⟩)), (9, .pointer (some ⟨b17, 0, none⟩)), (41, .bool b_)]) (!(meetsB C C)) (fun h34 => ?_) (fun h34 => ?_)
          · skip
            replace h34 : (meetsB C C) = false := by revert h34; cases (meetsB C C) <;> simp
            exact absurd (hlaw.2.2.2.1.symm.trans h34) (by decide)
          · skip
            replace h34 : (meetsB C C) = true := by revert h34; cases (meetsB C C) <;> simp
            refine RW.load (κ := .seq) (d := some 42) (r := (sq 22 26)) (T := 24) (b := b17) (o' := 0) (k := 0) (v := .agg #[.slice a11 D6.voters.length k12, .slice a13 D6.learners.length k14]) (by as_aux_lemma => kernel_rfl) (H.cells 0 rfl) rfl (by as_aux_lemma => kernel_rfl) ?_
            refine RW.load (κ := .seq) (d := some 43) (r := (sq 23 26)) (T := 24) (b := b1) (o' := 0) (k := 0) (v := .agg #[.slice a0C C.voters.length k0C, .slice a1C C.learners.length k1C]) (by as_aux_lemma => kernel_rfl) (H.cells 2 rfl) rfl (by as_aux_lemma => kernel_rfl) ?_
            refine RW.call (κ := .seq) (d := some 44) (r := (sq 24 26)) (g := 16) (args := #[.agg #[.slice a11 D6.voters.length k12, .slice a13 D6.learners.length k14], .agg #[.slice a0C C.voters.length k0C, .slice a1C C.learners.length k1C]]) (by as_aux_lemma => kernel_rfl) (nofun) (meets_spec (C := D6) (D := C) (conf_mk (H.rp 1 rfl) (H.rp 0 rfl)) (conf_mk (H.rp 2 rfl) (H.rp 3 rfl))) ?_
            rintro _ w35 hE36 rfl
            have H := H.ext hE36
            refine RW.fin 2 [2, 3, 4, 9, 46] [(2, .slice a xs.length c), (3, .slice b ys.length c2), (4, .pointer (some ⟨b1, 0, none⟩)), (9, .pointer (some ⟨b17, 0, none⟩)), (46, .bool (!(meetsB D6 C)))] (by as_aux_lemma => kernel_rfl) ?_
            refine WK.cond1 (!(meetsB D6 C)) (by as_aux_lemma => kernel_rfl) (by as_aux_lemma => kernel_rfl) (fun h37 => ?_) (fun h37 => ?_)
            · skip
              replace h37 : (meetsB D6 C) = false := by revert h37; cases (meetsB D6 C) <;> simp
              exact absurd (hlaw.2.2.2.2.symm.trans h37) (by decide)
            · skip
              replace h37 : (meetsB D6 C) = true := by revert h37; cases (meetsB D6 C) <;> simp
              refine WK.run 3 [2, 3, 4, 9] [.code (cd Try.prog 5 [4, 0, 0]), .code (cd Try.prog 5 [4, 0, 1]), .code (cd Try.prog 5 [5])] [(2, .slice a xs.length c), (3, .slice b ys.length c2), (4, .pointer (some ⟨b1, 0, none⟩)), (9, .pointer (some ⟨b17, 0, none⟩))] (by as_aux_lemma => kernel_rfl) ?_
              refine WK.reg1 (l := sq 0 10) (by as_aux_lemma => kernel_rfl) (by as_aux_lemma => kernel_rfl) ?_
              refine RW.load (κ := .seq) (d := some 47) (r := (sq 1 10)) (T := 24) (b := b1) (o' := 0) (k := 0) (v := .agg #[.slice a0C C.voters.length k0C, .slice a1C C.learners.length k1C]) (by as_aux_lemma => kernel_rfl) (H.cells 2 rfl) rfl (by as_aux_lemma => kernel_rfl) ?_
              refine RW.runP 1 [2, 3, 4, 9, 47, 48] (sq 2 10) [(2, .slice a xs.length c), (3, .slice b ys.length c2), (4, .pointer (some ⟨b1, 0, none⟩)), (9, .pointer (some ⟨b17, 0, none⟩)), (47, .agg #[.slice a0C C.voters.length k0C, .slice a1C C.learners.length k1C]), (48, .slice a xs.length c)] (by as_aux_lemma => kernel_rfl) (by as_aux_lemma => kernel_rfl) ?_
              refine RW.call (κ := .seq) (d := some 49) (r := (sq 3 10)) (g := 8) (args := #[.agg #[.slice a0C C.voters.length k0C, .slice a1C C.learners.length k1C], .slice a xs.length c]) (by as_aux_lemma => kernel_rfl) (nofun) (majority_spec (xs := xs) (C := C) (conf_mk (H.rp 2 rfl) (H.rp 3 rfl)) (H.rp 4 rfl) (by first | omega | simp)) ?_
              rintro _ w38 hE39 rfl
              have H := H.ext hE39
              refine RW.runP 2 [2, 3, 4, 9, 51] (sq 5 10) [(2, .slice a xs.length c), (3, .slice b ys.length c2), (4, .pointer (some ⟨b1, 0, none⟩)), (9, .pointer (some ⟨b17, 0, none⟩)), (51, .bool (!(majB C xs)))] (by as_aux_lemma => kernel_rfl) (by as_aux_lemma => kernel_rfl) ?_
              refine RW.test (fun b_ => [(2, .slice a xs.length c), (3, .slice b ys.length c2), (4, .pointer (some ⟨b1, 0, none⟩)), (9, .pointer (some ⟨b17, 0, none⟩)), (51, .bool b_)]) (!(majB C xs)) (fun h40 => ?_) (fun h40 => ?_)
              · skip
                replace h40 : (majB C xs) = false := by revert h40; cases (majB C xs) <;> simp
                refine RW.fin 5 [2, 3, 4, 9, 56] [(2, .slice a xs.length c), (3, .slice b ys.length c2), (4, .pointer (some ⟨b1, 0, none⟩)), (9, .pointer (some ⟨b17, 0, none⟩)), (56, .bool true)] (by as_aux_lemma => kernel_rfl) ?_
                refine WK.run 2 [] [.code (cd Try.prog 5 [4, 0, 1, 0, 0]), .code (cd Try.prog 5 [4, 0, 1, 0, 1]), .code (cd Try.prog 5 [5])] [] (by as_aux_lemma => kernel_rfl) ?_
                refine WK.reg1 (l := sq 0 2) (by as_aux_lemma => kernel_rfl) (by as_aux_lemma => kernel_rfl) ?_
                refine RW.call (κ := .seq) (d := some 57) (r := (sq 1 2)) (g := 9) (args := #[]) (by as_aux_lemma => kernel_rfl) (nofun) (heads_spec (S := fun _ => True)) ?_
                rintro _ w41 hE42 rfl
                have H := H.ext hE42
                refine RW.fin 1 [8] [(8, .bool true)] (by as_aux_lemma => kernel_rfl) ?_
                refine WK.ret (v := .bool true) Try.func5 (by as_aux_lemma => kernel_rfl) (by as_aux_lemma => kernel_rfl) ?_
                exact ⟨_, rfl, H.done, rfl⟩
              · skip
                replace h40 : (majB C xs) = true := by revert h40; cases (majB C xs) <;> simp
                refine RW.load (κ := .seq) (d := some 52) (r := (sq 6 10)) (T := 24) (b := b17) (o' := 0) (k := 0) (v := .agg #[.slice a11 D6.voters.length k12, .slice a13 D6.learners.length k14]) (by as_aux_lemma => kernel_rfl) (H.cells 0 rfl) rfl (by as_aux_lemma => kernel_rfl) ?_
                refine RW.runP 1 [2, 3, 4, 9, 51, 52, 53] (sq 7 10) [(2, .slice a xs.length c), (3, .slice b ys.length c2), (4, .pointer (some ⟨b1, 0, none⟩)), (9, .pointer (some ⟨b17, 0, none⟩)), (51, .bool false), (52, .agg #[.slice a11 D6.voters.length k12, .slice a13 D6.learners.length k14]), (53, .slice b ys.length c2)] (by as_aux_lemma => kernel_rfl) (by as_aux_lemma => kernel_rfl) ?_
                refine RW.call (κ := .seq) (d := some 54) (r := (sq 8 10)) (g := 8) (args := #[.agg #[.slice a11 D6.voters.length k12, .slice a13 D6.learners.length k14], .slice b ys.length c2]) (by as_aux_lemma => kernel_rfl) (nofun) (majority_spec (xs := ys) (C := D6) (conf_mk (H.rp 1 rfl) (H.rp 0 rfl)) (H.rp 5 rfl) (by first | omega | simp)) ?_
                rintro _ w43 hE44 rfl
                have H := H.ext hE44
                refine RW.fin 2 [2, 3, 4, 9, 56] [(2, .slice a xs.length c), (3, .slice b ys.length c2), (4, .pointer (some ⟨b1, 0, none⟩)), (9, .pointer (some ⟨b17, 0, none⟩)), (56, .bool (!(majB D6 ys)))] (by as_aux_lemma => kernel_rfl) ?_
                refine WK.cond1 (!(majB D6 ys)) (by as_aux_lemma => kernel_rfl) (by as_aux_lemma => kernel_rfl) (fun h45 => ?_) (fun h45 => ?_)
                · skip
                  replace h45 : (majB D6 ys) = false := by revert h45; cases (majB D6 ys) <;> simp
                  refine WK.run 1 [] [.code (cd Try.prog 5 [4, 0, 1, 0, 0]), .code (cd Try.prog 5 [4, 0, 1, 0, 1]), .code (cd Try.prog 5 [5])] [] (by as_aux_lemma => kernel_rfl) ?_
                  refine WK.reg1 (l := sq 0 2) (by as_aux_lemma => kernel_rfl) (by as_aux_lemma => kernel_rfl) ?_
                  refine RW.call (κ := .seq) (d := some 57) (r := (sq 1 2)) (g := 9) (args := #[]) (by as_aux_lemma => kernel_rfl) (nofun) (heads_spec (S := fun _ => True)) ?_
                  rintro _ w46 hE47 rfl
                  have H := H.ext hE47
                  refine RW.fin 1 [8] [(8, .bool true)] (by as_aux_lemma => kernel_rfl) ?_
                  refine WK.ret (v := .bool true) Try.func5 (by as_aux_lemma => kernel_rfl) (by as_aux_lemma => kernel_rfl) ?_
                  exact ⟨_, rfl, H.done, rfl⟩
                · skip
                  replace h45 : (majB D6 ys) = true := by revert h45; cases (majB D6 ys) <;> simp
                  refine WK.run 5 [2, 3, 4, 9, 11] [.code (cd Try.prog 5 [5, 0, 1, 0]), .inBlock 0, .code (cd Try.prog 5 [6])] [(2, .slice a xs.length c), (3, .slice b ys.length c2), (4, .pointer (some ⟨b1, 0, none⟩)), (9, .pointer (some ⟨b17, 0, none⟩)), (11, .int .i64 0)] (by as_aux_lemma => kernel_rfl) ?_
                  refine WK.loop (α := Nat) (b := cd Try.prog 5 [5, 0, 1, 0, 0]) (by as_aux_lemma => kernel_rfl) (fun k => [(2, .slice a xs.length c), (3, .slice b ys.length c2), (4, .pointer (some ⟨b1, 0, none⟩)), (9, .pointer (some ⟨b17, 0, none⟩)), (11, .int .i64 (k : Int))]) (fun k w' => Hp w S [] [(b17, .cells #[.slice a11 D6.voters.length k12, .slice a13 D6.learners.length k14] 24 (0, 0)), (b3, .cells #[.int .i64 Z.kind, .int .i64 Z.node] 34 (0, 0)), (b1, .cells #[.slice a0C C.voters.length k0C, .slice a1C C.learners.length k1C] 24 (0, 0))] [] [Rp (Shape.slice (Shape.int .i64)) [.slice a13 D6.learners.length k14] D6.learners, Rp (Shape.slice (Shape.int .i64)) [.slice a11 D6.voters.length k12] D6.voters, Rp (Shape.slice (Shape.int .i64)) [.slice a0C C.voters.length k0C] C.voters, Rp (Shape.slice (Shape.int .i64)) [.slice a1C C.learners.length k1C] C.learners, Rp (Shape.slice (Shape.int .i64)) [.slice a xs.length c] xs, Rp (Shape.slice (Shape.int .i64)) [.slice b ys.length c2] ys] w' ∧ k ≤ xs.length ∧ ∀ x ∈ xs.take k, ¬ (x ∈ ys ∧ x ∈ C.voters ∧ x ∈ D6.voters)) (fun k => xs.length - k) 0 ⟨H, by simp⟩ rfl ?_
                  rintro k w49 ⟨H, hinv0⟩ hback48
                  refine WK.run 3 [2, 3, 4, 9, 11, 61] [.code (cd Try.prog 5 [5, 0, 1, 0, 0, 0, 1]), .code (cd Try.prog 5 [5, 0, 1, 0, 0, 1]), .inLoop (cd Try.prog 5 [5, 0, 1, 0, 0]), .inBlock 0, .code (cd Try.prog 5 [6])] [(2, .slice a xs.length c), (3, .slice b ys.length c2), (4, .pointer (some ⟨b1, 0, none⟩)), (9, .pointer (some ⟨b17, 0, none⟩)), (11, .int .i64 (k : Int)), (61, .bool (decide (((k : Int) : Int) < ((xs.length : Nat) : Int))))] (by as_aux_lemma => kernel_rfl) ?_
                  refine WK.cond1 (decide (((k : Int) : Int) < ((xs.length : Nat) : Int))) (by as_aux_lemma => kernel_rfl) (by as_aux_lemma => kernel_rfl) (fun h50 => ?_) (fun h50 => ?_)
                  · skip
                    replace h50 := of_decide_eq_true h50
                    refine WK.run 4 [2, 3, 4, 9, 11] [.code (cd Try.prog 5 [5, 0, 1, 0, 0, 1, 0, 0, 0]), .code (cd Try.prog 5 [5, 0, 1, 0, 0, 1, 0, 0, 1]), .inBlock 1, .code (cd Try.prog 5 [5, 0, 1, 0, 0, 2]), .inLoop (cd Try.prog 5 [5, 0, 1, 0, 0]), .inBlock 0, .code (cd Try.prog 5 [6])] [(2, .slice a xs.length c), (3, .slice b ys.length c2), (4, .pointer (some ⟨b1, 0, none⟩)), (9, .pointer (some ⟨b17, 0, none⟩)), (11, .int .i64 (k : Int))] (by as_aux_lemma => kernel_rfl) ?_
                    refine WK.draw1 22 [(0, .qui), (1, .qui), (2, .qui), (3, .qui), (4, .qui), (5, .chn), (6, .qui), (7, .qui), (8, .qui), (9, .qui), (10, .qui), (11, .qui), (12, .chn), (13, .qui), (14, .qui), (15, .qui), (16, .qui), (17, .qui), (18, .qui), (19, .chn), (20, .qui), (21, .qui)] [(0, .qui), (1, .qui), (2, .qui), (3, .qui), (4, .qui), (5, .chn), (6, .qui), (7, .qui), (8, .qui), (9, .qui), (10, .qui), (11, .qui), (12, .chn), (13, .qui), (14, .qui), (15, .qui), (16, .qui), (17, .qui), (18, .qui), (19, .chn), (20, .qui), (21, .qui)] Try_mixed (by as_aux_lemma => kernel_rfl) (by as_aux_lemma => kernel_rfl) (by as_aux_lemma => kernel_rfl) ?_
                    have H := H.draw
                    generalize ({ w49 with drawn := w49.drawn + 1 } : World) = w51 at H ⊢
                    refine RW.runP 2 [2, 3, 4, 9, 11, 64, 65] [(2, .qui), (3, .qui), (4, .qui), (5, .chn), (6, .qui), (7, .qui), (8, .qui), (9, .qui), (10, .qui), (11, .qui), (12, .chn), (13, .qui), (14, .qui), (15, .qui), (16, .qui), (17, .qui), (18, .qui), (19, .chn), (20, .qui), (21, .qui)] [(2, .slice a xs.length c), (3, .slice b ys.length c2), (4, .pointer (some ⟨b1, 0, none⟩)), (9, .pointer (some ⟨b17, 0, none⟩)), (11, .int .i64 (k : Int)), (64, .slice a xs.length c), (65, .int .i64 (k : Int))] (by as_aux_lemma => kernel_rfl) (by as_aux_lemma => kernel_rfl) ?_
                    have hx52 : k < xs.length := by omega
                    refine RW.index (κ := .qui) (d := some 66) (r := [(3, .qui), (4, .qui), (5, .chn), (6, .qui), (7, .qui), (8, .qui), (9, .qui), (10, .qui), (11, .qui), (12, .chn), (13, .qui), (14, .qui), (15, .qui), (16, .qui), (17, .qui), (18, .qui), (19, .chn), (20, .qui), (21, .qui)]) (T := 22) (e := 3) (ik := .i64) (ix := (k : Int)) (sh := (Shape.int .i64)) (x := xs[k]) (by as_aux_lemma => kernel_rfl) (by as_aux_lemma => kernel_rfl) H 4 rfl k (by omega) (List.getElem?_eq_getElem hx52) ?_
                    intro b53 o54 es55 hr56 H
                    have hb57 := Shape.i64_bd hr56
                    obtain ⟨rfl, -⟩ := hr56
                    refine RW.load (κ := .qui) (d := some 67) (r := [(4, .qui), (5, .chn), (6, .qui), (7, .qui), (8, .qui), (9, .qui), (10, .qui), (11, .qui), (12, .chn), (13, .qui), (14, .qui), (15, .qui), (16, .qui), (17, .qui), (18, .qui), (19, .chn), (20, .qui), (21, .qui)]) (T := 3) (b := b53) (o' := o54) (k := 0) (v := .int .i64 (xs[k])) (by as_aux_lemma => kernel_rfl) (H.fc 0 rfl) rfl (by as_aux_lemma => kernel_rfl) ?_
                    refine RW.runP 1 [2, 3, 4, 9, 11, 67, 68] [(5, .chn), (6, .qui), (7, .qui), (8, .qui), (9, .qui), (10, .qui), (11, .qui), (12, .chn), (13, .qui), (14, .qui), (15, .qui), (16, .qui), (17, .qui), (18, .qui), (19, .chn), (20, .qui), (21, .qui)] [(2, .slice a xs.length c), (3, .slice b ys.length c2), (4, .pointer (some ⟨b1, 0, none⟩)), (9, .pointer (some ⟨b17, 0, none⟩)), (11, .int .i64 (k : Int)), (67, .int .i64 (xs[k])), (68, .slice b ys.length c2)] (by as_aux_lemma => kernel_rfl) (by as_aux_lemma => kernel_rfl) ?_
                    refine RW.call (κ := .chn) (d := some 69) (r := [(6, .qui), (7, .qui), (8, .qui), (9, .qui), (10, .qui), (11, .qui), (12, .chn), (13, .qui), (14, .qui), (15, .qui), (16, .qui), (17, .qui), (18, .qui), (19, .chn), (20, .qui), (21, .qui)]) (g := 10) (args := #[.int .i64 (xs[k]), .slice b ys.length c2]) (by as_aux_lemma => kernel_rfl) (nofun) (in_spec (xs[k]) (H.rp 6 rfl)) ?_
                    rintro _ w58 hE59 rfl
                    have H := H.ext hE59
                    refine RW.runP 1 [2, 3, 4, 9, 11, 70] [(7, .qui), (8, .qui), (9, .qui), (10, .qui), (11, .qui), (12, .chn), (13, .qui), (14, .qui), (15, .qui), (16, .qui), (17, .qui), (18, .qui), (19, .chn), (20, .qui), (21, .qui)] [(2, .slice a xs.length c), (3, .slice b ys.length c2), (4, .pointer (some ⟨b1, 0, none⟩)), (9, .pointer (some ⟨b17, 0, none⟩)), (11, .int .i64 (k : Int)), (70, .bool (decide (xs[k] ∈ ys)))] (by as_aux_lemma => kernel_rfl) (by as_aux_lemma => kernel_rfl) ?_
                    refine RW.test (fun b_ => [(2, .slice a xs.length c), (3, .slice b ys.length c2), (4, .pointer (some ⟨b1, 0, none⟩)), (9, .pointer (some ⟨b17, 0, none⟩)), (11, .int .i64 (k : Int)), (70, .bool b_)]) (decide (xs[k] ∈ ys)) (fun h60 => ?_) (fun h60 => ?_)
                    · skip
                      replace h60 := of_decide_eq_true h60
                      refine RW.load (κ := .qui) (d := some 71) (r := [(8, .qui), (9, .qui), (10, .qui), (11, .qui), (12, .chn), (13, .qui), (14, .qui), (15, .qui), (16, .qui), (17, .qui), (18, .qui), (19, .chn), (20, .qui), (21, .qui)]) (T := 24) (b := b1) (o' := 0) (k := 0) (v := .agg #[.slice a0C C.voters.length k0C, .slice a1C C.learners.length k1C]) (by as_aux_lemma => kernel_rfl) (H.cells 2 rfl) rfl (by as_aux_lemma => kernel_rfl) ?_
                      refine RW.runP 2 [2, 3, 4, 9, 11, 70, 71, 72, 73] [(10, .qui), (11, .qui), (12, .chn), (13, .qui), (14, .qui), (15, .qui), (16, .qui), (17, .qui), (18, .qui), (19, .chn), (20, .qui), (21, .qui)] [(2, .slice a xs.length c), (3, .slice b ys.length c2), (4, .pointer (some ⟨b1, 0, none⟩)), (9, .pointer (some ⟨b17, 0, none⟩)), (11, .int .i64 (k : Int)), (70, .bool true), (71, .agg #[.slice a0C C.voters.length k0C, .slice a1C C.learners.length k1C]), (72, .slice a xs.length c), (73, .int .i64 (k : Int))] (by as_aux_lemma => kernel_rfl) (by as_aux_lemma => kernel_rfl) ?_
                      have hx61 : k < xs.length := by omega
                      refine RW.index (κ := .qui) (d := some 74) (r := [(11, .qui), (12, .chn), (13, .qui), (14, .qui), (15, .qui), (16, .qui), (17, .qui), (18, .qui), (19, .chn), (20, .qui), (21, .qui)]) (T := 22) (e := 3) (ik := .i64) (ix := (k : Int)) (sh := (Shape.int .i64)) (x := xs[k]) (by as_aux_lemma => kernel_rfl) (by as_aux_lemma => kernel_rfl) H 5 rfl k (by omega) (List.getElem?_eq_getElem hx61) ?_
                      intro b62 o63 es64 hr65 H
                      have hb66 := Shape.i64_bd hr65
                      obtain ⟨rfl, -⟩ := hr65
                      refine RW.load (κ := .qui) (d := some 75) (r := [(12, .chn), (13, .qui), (14, .qui), (15, .qui), (16, .qui), (17, .qui), (18, .qui), (19, .chn), (20, .qui), (21, .qui)]) (T := 3) (b := b62) (o' := o63) (k := 0) (v := .int .i64 (xs[k])) (by as_aux_lemma => kernel_rfl) (H.fc 0 rfl) rfl (by as_aux_lemma => kernel_rfl) ?_
                      refine RW.call (κ := .chn) (d := some 76) (r := [(13, .qui), (14, .qui), (15, .qui), (16, .qui), (17, .qui), (18, .qui), (19, .chn), (20, .qui), (21, .qui)]) (g := 11) (args := #[.agg #[.slice a0C C.voters.length k0C, .slice a1C C.learners.length k1C], .int .i64 (xs[k])]) (by as_aux_lemma => kernel_rfl) (nofun) (votes_spec (C := C) (conf_mk (H.rp 4 rfl) (H.rp 5 rfl)) (xs[k])) ?_
                      rintro _ w67 hE68 rfl
                      have H := H.ext hE68
                      refine RW.runP 1 [2, 3, 4, 9, 11, 70, 77] [(14, .qui), (15, .qui), (16, .qui), (17, .qui), (18, .qui), (19, .chn), (20, .qui), (21, .qui)] [(2, .slice a xs.length c), (3, .slice b ys.length c2), (4, .pointer (some ⟨b1, 0, none⟩)), (9, .pointer (some ⟨b17, 0, none⟩)), (11, .int .i64 (k : Int)), (70, .bool true), (77, .bool (decide (xs[k] ∈ C.voters)))] (by as_aux_lemma => kernel_rfl) (by as_aux_lemma => kernel_rfl) ?_
                      refine RW.test (fun b_ => [(2, .slice a xs.length c), (3, .slice b ys.length c2), (4, .pointer (some ⟨b1, 0, none⟩)), (9, .pointer (some ⟨b17, 0, none⟩)), (11, .int .i64 (k : Int)), (70, .bool true), (77, .bool b_)]) (decide (xs[k] ∈ C.voters)) (fun h69 => ?_) (fun h69 => ?_)
                      · skip
                        replace h69 := of_decide_eq_true h69
                        refine RW.load (κ := .qui) (d := some 78) (r := [(15, .qui), (16, .qui), (17, .qui), (18, .qui), (19, .chn), (20, .qui), (21, .qui)]) (T := 24) (b := b17) (o' := 0) (k := 0) (v := .agg #[.slice a11 D6.voters.length k12, .slice a13 D6.learners.length k14]) (by as_aux_lemma => kernel_rfl) (H.cells 0 rfl) rfl (by as_aux_lemma => kernel_rfl) ?_
                        refine RW.runP 2 [2, 3, 4, 9, 11, 70, 77, 78, 79, 80] [(17, .qui), (18, .qui), (19, .chn), (20, .qui), (21, .qui)] [(2, .slice a xs.length c), (3, .slice b ys.length c2), (4, .pointer (some ⟨b1, 0, none⟩)), (9, .pointer (some ⟨b17, 0, none⟩)), (11, .int .i64 (k : Int)), (70, .bool true), (77, .bool true), (78, .agg #[.slice a11 D6.voters.length k12, .slice a13 D6.learners.length k14]), (79, .slice a xs.length c), (80, .int .i64 (k : Int))] (by as_aux_lemma => kernel_rfl) (by as_aux_lemma => kernel_rfl) ?_
                        have hx70 : k < xs.length := by omega
                        refine RW.index (κ := .qui) (d := some 81) (r := [(18, .qui), (19, .chn), (20, .qui), (21, .qui)]) (T := 22) (e := 3) (ik := .i64) (ix := (k : Int)) (sh := (Shape.int .i64)) (x := xs[k]) (by as_aux_lemma => kernel_rfl) (by as_aux_lemma => kernel_rfl) H 6 rfl k (by omega) (List.getElem?_eq_getElem hx70) ?_
                        intro b71 o72 es73 hr74 H
                        have hb75 := Shape.i64_bd hr74
                        obtain ⟨rfl, -⟩ := hr74
                        refine RW.load (κ := .qui) (d := some 82) (r := [(19, .chn), (20, .qui), (21, .qui)]) (T := 3) (b := b71) (o' := o72) (k := 0) (v := .int .i64 (xs[k])) (by as_aux_lemma => kernel_rfl) (H.fc 0 rfl) rfl (by as_aux_lemma => kernel_rfl) ?_
                        refine RW.call (κ := .chn) (d := some 83) (r := [(20, .qui), (21, .qui)]) (g := 11) (args := #[.agg #[.slice a11 D6.voters.length k12, .slice a13 D6.learners.length k14], .int .i64 (xs[k])]) (by as_aux_lemma => kernel_rfl) (nofun) (votes_spec (C := D6) (conf_mk (H.rp 4 rfl) (H.rp 3 rfl)) (xs[k])) ?_
                        rintro _ w76 hE77 rfl
                        have H := H.ext hE77
                        refine RW.fin 2 [2, 3, 4, 9, 11, 85] [(2, .slice a xs.length c), (3, .slice b ys.length c2), (4, .pointer (some ⟨b1, 0, none⟩)), (9, .pointer (some ⟨b17, 0, none⟩)), (11, .int .i64 (k : Int)), (85, .bool (decide (xs[k] ∈ D6.voters)))] (by as_aux_lemma => kernel_rfl) ?_
                        refine WK.cond1 (decide (xs[k] ∈ D6.voters)) (by as_aux_lemma => kernel_rfl) (by as_aux_lemma => kernel_rfl) (fun h78 => ?_) (fun h78 => ?_)
                        · skip
                          replace h78 := of_decide_eq_true h78
                          refine WK.run 1 [] [.code (cd Try.prog 5 [5, 0, 1, 0, 0, 1, 0, 0, 1, 0, 0]), .code (cd Try.prog 5 [5, 0, 1, 0, 0, 1, 0, 0, 1, 0, 1]), .inBlock 1, .code (cd Try.prog 5 [5, 0, 1, 0, 0, 2]), .inLoop (cd Try.prog 5 [5, 0, 1, 0, 0]), .inBlock 0, .code (cd Try.prog 5 [6])] [] (by as_aux_lemma => kernel_rfl) ?_
                          refine WK.reg1 (l := sq 0 2) (by as_aux_lemma => kernel_rfl) (by as_aux_lemma => kernel_rfl) ?_
                          refine RW.call (κ := .seq) (d := some 86) (r := (sq 1 2)) (g := 9) (args := #[]) (by as_aux_lemma => kernel_rfl) (nofun) (heads_spec (S := fun _ => True)) ?_
                          rintro _ w79 hE80 rfl
                          have H := H.ext hE80
                          refine RW.fin 1 [8] [(8, .bool true)] (by as_aux_lemma => kernel_rfl) ?_
                          refine WK.ret (v := .bool true) Try.func5 (by as_aux_lemma => kernel_rfl) (by as_aux_lemma => kernel_rfl) ?_
                          exact ⟨_, rfl, H.done, rfl⟩
                        · skip
                          replace h78 := of_decide_eq_false h78
                          refine WK.run 2 [2, 3, 4, 9, 11] [.code (cd Try.prog 5 [5, 0, 1, 0, 0, 2]), .inLoop (cd Try.prog 5 [5, 0, 1, 0, 0]), .inBlock 0, .code (cd Try.prog 5 [6])] [(2, .slice a xs.length c), (3, .slice b ys.length c2), (4, .pointer (some ⟨b1, 0, none⟩)), (9, .pointer (some ⟨b17, 0, none⟩)), (11, .int .i64 (k : Int))] (by as_aux_lemma => kernel_rfl) ?_
                          refine WK.reg1 (l := sq 0 3) (by as_aux_lemma => kernel_rfl) (by as_aux_lemma => kernel_rfl) ?_
                          refine RW.runP 1 [2, 3, 4, 9, 11, 62] (sq 1 3) [(2, .slice a xs.length c), (3, .slice b ys.length c2), (4, .pointer (some ⟨b1, 0, none⟩)), (9, .pointer (some ⟨b17, 0, none⟩)), (11, .int .i64 (k : Int)), (62, .int .i64 (k : Int))] (by as_aux_lemma => kernel_rfl) (by as_aux_lemma => kernel_rfl) ?_
                          refine RW.wr64 (κ := .seq) (d := some 63) (r := (sq 2 3)) (t := (k : Int) + 1) (by as_aux_lemma => kernel_rfl) (by omega) ?_
                          refine RW.fin 1 [2, 3, 4, 9, 11] [(2, .slice a xs.length c), (3, .slice b ys.length c2), (4, .pointer (some ⟨b1, 0, none⟩)), (9, .pointer (some ⟨b17, 0, none⟩)), (11, .int .i64 ((k : Int) + 1))] (by as_aux_lemma => kernel_rfl) ?_
                          have H := H.pick [3, 4, 5, 6, 7, 8] (G' := [Rp (Shape.slice (Shape.int .i64)) [.slice a13 D6.learners.length k14] D6.learners, Rp (Shape.slice (Shape.int .i64)) [.slice a11 D6.voters.length k12] D6.voters, Rp (Shape.slice (Shape.int .i64)) [.slice a0C C.voters.length k0C] C.voters, Rp (Shape.slice (Shape.int .i64)) [.slice a1C C.learners.length k1C] C.learners, Rp (Shape.slice (Shape.int .i64)) [.slice a xs.length c] xs, Rp (Shape.slice (Shape.int .i64)) [.slice b ys.length c2] ys]) rfl
                          exact WK.back (hback48 (k + 1) _ ⟨H, by omega, fun x hx => by rcases (take_succ_mem (by omega)).1 hx with hx | rfl; exact hinv0.2 x hx; rintro ⟨q1, q2, q3⟩; simp_all⟩ (by first | omega | (simp only []; omega))) (by as_aux_lemma => kernel_rfl)
                      · skip
                        replace h69 := of_decide_eq_false h69
                        refine RW.fin 8 [2, 3, 4, 9, 11, 85] [(2, .slice a xs.length c), (3, .slice b ys.length c2), (4, .pointer (some ⟨b1, 0, none⟩)), (9, .pointer (some ⟨b17, 0, none⟩)), (11, .int .i64 (k : Int)), (85, .bool false)] (by as_aux_lemma => kernel_rfl) ?_
                        refine WK.run 3 [2, 3, 4, 9, 11] [.code (cd Try.prog 5 [5, 0, 1, 0, 0, 2]), .inLoop (cd Try.prog 5 [5, 0, 1, 0, 0]), .inBlock 0, .code (cd Try.prog 5 [6])] [(2, .slice a xs.length c), (3, .slice b ys.length c2), (4, .pointer (some ⟨b1, 0, none⟩)), (9, .pointer (some ⟨b17, 0, none⟩)), (11, .int .i64 (k : Int))] (by as_aux_lemma => kernel_rfl) ?_
                        refine WK.reg1 (l := sq 0 3) (by as_aux_lemma => kernel_rfl) (by as_aux_lemma => kernel_rfl) ?_
                        refine RW.runP 1 [2, 3, 4, 9, 11, 62] (sq 1 3) [(2, .slice a xs.length c), (3, .slice b ys.length c2), (4, .pointer (some ⟨b1, 0, none⟩)), (9, .pointer (some ⟨b17, 0, none⟩)), (11, .int .i64 (k : Int)), (62, .int .i64 (k : Int))] (by as_aux_lemma => kernel_rfl) (by as_aux_lemma => kernel_rfl) ?_
                        refine RW.wr64 (κ := .seq) (d := some 63) (r := (sq 2 3)) (t := (k : Int) + 1) (by as_aux_lemma => kernel_rfl) (by omega) ?_
                        refine RW.fin 1 [2, 3, 4, 9, 11] [(2, .slice a xs.length c), (3, .slice b ys.length c2), (4, .pointer (some ⟨b1, 0, none⟩)), (9, .pointer (some ⟨b17, 0, none⟩)), (11, .int .i64 ((k : Int) + 1))] (by as_aux_lemma => kernel_rfl) ?_
                        have H := H.pick [2, 3, 4, 5, 6, 7] (G' := [Rp (Shape.slice (Shape.int .i64)) [.slice a13 D6.learners.length k14] D6.learners, Rp (Shape.slice (Shape.int .i64)) [.slice a11 D6.voters.length k12] D6.voters, Rp (Shape.slice (Shape.int .i64)) [.slice a0C C.voters.length k0C] C.voters, Rp (Shape.slice (Shape.int .i64)) [.slice a1C C.learners.length k1C] C.learners, Rp (Shape.slice (Shape.int .i64)) [.slice a xs.length c] xs, Rp (Shape.slice (Shape.int .i64)) [.slice b ys.length c2] ys]) rfl
                        exact WK.back (hback48 (k + 1) _ ⟨H, by omega, fun x hx => by rcases (take_succ_mem (by omega)).1 hx with hx | rfl; exact hinv0.2 x hx; rintro ⟨q1, q2, q3⟩; simp_all⟩ (by first | omega | (simp only []; omega))) (by as_aux_lemma => kernel_rfl)
                    · skip
                      replace h60 := of_decide_eq_false h60
                      refine RW.fin 15 [2, 3, 4, 9, 11, 85] [(2, .slice a xs.length c), (3, .slice b ys.length c2), (4, .pointer (some ⟨b1, 0, none⟩)), (9, .pointer (some ⟨b17, 0, none⟩)), (11, .int .i64 (k : Int)), (85, .bool false)] (by as_aux_lemma => kernel_rfl) ?_
                      refine WK.run 3 [2, 3, 4, 9, 11] [.code (cd Try.prog 5 [5, 0, 1, 0, 0, 2]), .inLoop (cd Try.prog 5 [5, 0, 1, 0, 0]), .inBlock 0, .code (cd Try.prog 5 [6])] [(2, .slice a xs.length c), (3, .slice b ys.length c2), (4, .pointer (some ⟨b1, 0, none⟩)), (9, .pointer (some ⟨b17, 0, none⟩)), (11, .int .i64 (k : Int))] (by as_aux_lemma => kernel_rfl) ?_
                      refine WK.reg1 (l := sq 0 3) (by as_aux_lemma => kernel_rfl) (by as_aux_lemma => kernel_rfl) ?_
                      refine RW.runP 1 [2, 3, 4, 9, 11, 62] (sq 1 3) [(2, .slice a xs.length c), (3, .slice b ys.length c2), (4, .pointer (some ⟨b1, 0, none⟩)), (9, .pointer (some ⟨b17, 0, none⟩)), (11, .int .i64 (k : Int)), (62, .int .i64 (k : Int))] (by as_aux_lemma => kernel_rfl) (by as_aux_lemma => kernel_rfl) ?_
                      refine RW.wr64 (κ := .seq) (d := some 63) (r := (sq 2 3)) (t := (k : Int) + 1) (by as_aux_lemma => kernel_rfl) (by omega) ?_
                      refine RW.fin 1 [2, 3, 4, 9, 11] [(2, .slice a xs.length c), (3, .slice b ys.length c2), (4, .pointer (some ⟨b1, 0, none⟩)), (9, .pointer (some ⟨b17, 0, none⟩)), (11, .int .i64 ((k : Int) + 1))] (by as_aux_lemma => kernel_rfl) ?_
                      have H := H.pick [1, 2, 3, 4, 5, 6] (G' := [Rp (Shape.slice (Shape.int .i64)) [.slice a13 D6.learners.length k14] D6.learners, Rp (Shape.slice (Shape.int .i64)) [.slice a11 D6.voters.length k12] D6.voters, Rp (Shape.slice (Shape.int .i64)) [.slice a0C C.voters.length k0C] C.voters, Rp (Shape.slice (Shape.int .i64)) [.slice a1C C.learners.length k1C] C.learners, Rp (Shape.slice (Shape.int .i64)) [.slice a xs.length c] xs, Rp (Shape.slice (Shape.int .i64)) [.slice b ys.length c2] ys]) rfl
                      exact WK.back (hback48 (k + 1) _ ⟨H, by omega, fun x hx => by rcases (take_succ_mem (by omega)).1 hx with hx | rfl; exact hinv0.2 x hx; rintro ⟨q1, q2, q3⟩; simp_all⟩ (by first | omega | (simp only []; omega))) (by as_aux_lemma => kernel_rfl)
                  · skip
                    replace h50 := of_decide_eq_false h50
                    refine WK.run 3 [8] [.code (cd Try.prog 5 [7])] [(8, .bool false)] (by as_aux_lemma => kernel_rfl) ?_
                    refine WK.ret (v := .bool false) Try.func5 (by as_aux_lemma => kernel_rfl) (by as_aux_lemma => kernel_rfl) ?_
                    exfalso
                    obtain ⟨x, h1, h2, h3⟩ := meets_pair (C := C) (a := xs) (b := ys) hlaw.2.2.1 (by assumption) (by assumption)
                    exact hinv0.2 x (by rw [List.take_of_length_le (by omega)]; exact h1) ⟨h2, h3⟩


end Go.Proofs.Ythbegjaoifghlaa
