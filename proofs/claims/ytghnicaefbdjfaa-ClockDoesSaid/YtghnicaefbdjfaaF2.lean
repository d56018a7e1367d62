import Derived.Test.YtghnicaefbdjfaaF1
namespace Go.Proofs.Ytghnicaefbdjfaa
open Go.BX

theorem rtick_in {S : Nat → Prop} {w : World} {O : List Nat} {rb rc tn rtc : Nat} {ra rta : Option Addr} {now : List Int} {num den slack : Int} (H0 : Hp w S O [(rb, .cells #[.slice ra now.length rc, .int .i64 num, .int .i64 den, .int .i64 slack, .slice rta tn rtc] 64 (0, 0))] [⟨Shape.int .i64, 3, .slice ra now.length rc, now⟩] [] w) (hC : COk now num den slack) {i : Nat} (hi : i < now.length) :
    Calls Try.prog 16 #[.pointer (some ⟨rb, 0, none⟩), .int .i64 ((i : Int) + 1)] w (Ret fun v w' => v = .int .i64 (if mayI now num den slack i = true then 0 else 170) ∧ Hp w S O [(rb, .cells #[.slice ra now.length rc, .int .i64 num, .int .i64 den, .int .i64 slack, .slice rta tn rtc] 64 (0, 0))] [⟨Shape.int .i64, 3, .slice ra now.length rc, tickI now num den slack i⟩] [] w') := by
  have hnl := hC.hlen
  have hnow : now[i]? = some now[i] := List.getElem?_eq_getElem hi
  obtain ⟨hn0, hn1⟩ := hC.hnow now[i] (List.getElem_mem hi)
  refine WK.calls1 (fn := Try.f16) (n := 23) (σ := [(0, .pointer (some ⟨rb, 0, none⟩)), (1, .int .i64 ((i : Int) + 1))]) Try.func16 rfl (by as_aux_lemma => kernel_rfl) (by as_aux_lemma => kernel_rfl) (by as_aux_lemma => kernel_rfl) ?_
  have H := H0
  refine WK.run 4 [0, 1] [.code (cd Try.prog 16 [1, 0, 0]), .code (cd Try.prog 16 [1, 0, 1]), .code (cd Try.prog 16 [2])] [(0, .pointer (some ⟨rb, 0, none⟩)), (1, .int .i64 ((i : Int) + 1))] (by as_aux_lemma => kernel_rfl) ?_
  refine WK.reg1 (l := sq 0 4) (by as_aux_lemma => kernel_rfl) (by as_aux_lemma => kernel_rfl) ?_
  refine RW.runP 2 [0, 1, 5, 6] (sq 2 4) [(0, .pointer (some ⟨rb, 0, none⟩)), (1, .int .i64 ((i : Int) + 1)), (5, .pointer (some ⟨rb, 0, none⟩)), (6, .int .i64 ((i : Int) + 1))] (by as_aux_lemma => kernel_rfl) (by as_aux_lemma => kernel_rfl) ?_
  refine RW.call (κ := .seq) (d := some 7) (r := (sq 3 4)) (g := 31) (args := #[.pointer (some ⟨rb, 0, none⟩), .int .i64 ((i : Int) + 1)]) (by as_aux_lemma => kernel_rfl) (nofun) (has_spec (S := fun _ => True) (now := now) (H.viewM 0 rfl (by simp)) ((i : Int) + 1)) ?_
  rintro _ w1 hE2 rfl
  have H := H.ext hE2
  rw [show hasE now.length ((i : Int) + 1) = true from decide_eq_true (by omega)]
  refine RW.fin 1 [0, 1, 8] [(0, .pointer (some ⟨rb, 0, none⟩)), (1, .int .i64 ((i : Int) + 1)), (8, .bool false)] (by as_aux_lemma => kernel_rfl) ?_
  refine WK.run 4 [0, 1] [.code (cd Try.prog 16 [2, 0, 0]), .code (cd Try.prog 16 [2, 0, 1]), .code (cd Try.prog 16 [3])] [(0, .pointer (some ⟨rb, 0, none⟩)), (1, .int .i64 ((i : Int) + 1))] (by as_aux_lemma => kernel_rfl) ?_
  refine WK.reg1 (l := sq 0 4) (by as_aux_lemma => kernel_rfl) (by as_aux_lemma => kernel_rfl) ?_
  refine RW.runP 2 [0, 1, 9, 10] (sq 2 4) [(0, .pointer (some ⟨rb, 0, none⟩)), (1, .int .i64 ((i : Int) + 1)), (9, .pointer (some ⟨rb, 0, none⟩)), (10, .int .i64 ((i : Int) + 1))] (by as_aux_lemma => kernel_rfl) (by as_aux_lemma => kernel_rfl) ?_
  refine RW.call (κ := .seq) (d := some 11) (r := (sq 3 4)) (g := 15) (args := #[.pointer (some ⟨rb, 0, none⟩), .int .i64 ((i : Int) + 1)]) (by as_aux_lemma => kernel_rfl) (nofun) (rmay_in (S := fun _ => True) (H.viewM 0 rfl (by simp)) (H.view 0 rfl) hC (i := i) (by omega)) ?_
  rintro _ w3 hE4 rfl
  have H := H.ext hE4
  refine RW.fin 1 [0, 1, 12] [(0, .pointer (some ⟨rb, 0, none⟩)), (1, .int .i64 ((i : Int) + 1)), (12, .bool (!(mayI now num den slack i)))] (by as_aux_lemma => kernel_rfl) ?_
  refine WK.cond1 (!(mayI now num den slack i)) (by as_aux_lemma => kernel_rfl) (by as_aux_lemma => kernel_rfl) (fun h5 => ?_) (fun h5 => ?_)
  · skip
    replace h5 : (mayI now num den slack i) = false := by revert h5; cases (mayI now num den slack i) <;> simp
    refine WK.run 2 [4] [.code (cd Try.prog 16 [2, 0, 1, 0, 1]), .code (cd Try.prog 16 [3])] [(4, .int .i64 170)] (by as_aux_lemma => kernel_rfl) ?_
    refine WK.ret (v := .int .i64 170) Try.func16 (by as_aux_lemma => kernel_rfl) (by as_aux_lemma => kernel_rfl) ?_
    refine ⟨_, rfl, ?_, ?_⟩
    · rw [if_neg (by simp_all)]
    · unfold tickI
      rw [if_neg (by simp_all)]
      exact H
  · skip
    replace h5 : (mayI now num den slack i) = true := by revert h5; cases (mayI now num den slack i) <;> simp
    refine WK.run 2 [0, 1] [.code (cd Try.prog 16 [3, 0]), .code (cd Try.prog 16 [4])] [(0, .pointer (some ⟨rb, 0, none⟩)), (1, .int .i64 ((i : Int) + 1))] (by as_aux_lemma => kernel_rfl) ?_
    refine WK.reg1 (l := sq 0 11) (by as_aux_lemma => kernel_rfl) (by as_aux_lemma => kernel_rfl) ?_
    refine RW.runP 3 [1, 15] (sq 3 11) [(1, .int .i64 ((i : Int) + 1)), (15, .pointer (some ⟨rb, 0, none⟩))] (by as_aux_lemma => kernel_rfl) (by as_aux_lemma => kernel_rfl) ?_
    refine RW.load (κ := .seq) (d := some 16) (r := (sq 4 11)) (T := 22) (b := rb) (o' := 0) (k := 0) (v := .slice ra now.length rc) (by as_aux_lemma => kernel_rfl) (H.cells 0 rfl) rfl (by as_aux_lemma => kernel_rfl) ?_
    refine RW.runP 1 [16, 17] (sq 5 11) [(16, .slice ra now.length rc), (17, .int .i64 ((i : Int) + 1))] (by as_aux_lemma => kernel_rfl) (by as_aux_lemma => kernel_rfl) ?_
    refine RW.pv (κ := .seq) (d := some 18) (r := (sq 6 11)) (v' := .int .i64 (i : Int)) (v := .int .i64 (IntKind.i64.wrap (((i : Int) + 1) - 1))) (by as_aux_lemma => kernel_rfl) (by rw [IntKind.wrap_i64]; congr 1; omega) ?_
    have hn7 : now.length = now.length := rfl
    have hx6 : i < now.length := by omega
    refine RW.indexW (κ := .seq) (d := some 19) (r := (sq 7 11)) (T := 22) (e := 3) (m := 1) (ik := .i64) (ix := (i : Int)) (sh := (Shape.int .i64)) (xs := now) (a := ra) (len := now.length) (cap := rc) (by as_aux_lemma => kernel_rfl) (by as_aux_lemma => kernel_rfl) rfl H i (by omega) hx6 hn7 ?_
    intro b8 es9 ha10 hcell11 hr12
    have hb13 := Shape.i64_bd hr12
    obtain ⟨rfl, -⟩ := hr12
    refine RW.load (κ := .seq) (d := some 20) (r := (sq 8 11)) (T := 3) (b := b8) (o' := i * 1) (k := 0) (v := .int .i64 (now[i])) (by as_aux_lemma => kernel_rfl) hcell11 rfl (by as_aux_lemma => kernel_rfl) ?_
    refine RW.wr64 (κ := .seq) (d := some 21) (r := (sq 9 11)) (t := (now[i]) + 1) (by as_aux_lemma => kernel_rfl) (by omega) ?_
    have hn15 : now.length = now.length := rfl
    have hx14 : i < now.length := by omega
    refine RW.indexW (κ := .seq) (d := some 22) (r := (sq 10 11)) (T := 22) (e := 3) (m := 1) (ik := .i64) (ix := (i : Int)) (sh := (Shape.int .i64)) (xs := now) (a := ra) (len := now.length) (cap := rc) (by as_aux_lemma => kernel_rfl) (by as_aux_lemma => kernel_rfl) rfl H i (by omega) hx14 hn15 ?_
    intro b16 es17 ha18 hcell19 hr20
    have hb21 := Shape.i64_bd hr20
    obtain ⟨rfl, -⟩ := hr20
    refine RW.storeW (d := none) (r := (sq 11 11)) (e := 3) (m := 1) (b := b16) (k := i) (v := .int .i64 ((now[i]) + 1)) (by as_aux_lemma => kernel_rfl) rfl (by as_aux_lemma => kernel_rfl) H ha18 hx14 hn15 ((now[i]) + 1) (Shape.i64_in (by first | omega | (simp <;> omega)) (by first | omega | (simp <;> omega))) ?_
    intro w22 H
    refine RW.fin 0 [] [] (by as_aux_lemma => kernel_rfl) ?_
    refine WK.run 2 [4] [.code (cd Try.prog 16 [5])] [(4, .int .i64 0)] (by as_aux_lemma => kernel_rfl) ?_
    refine WK.ret (v := .int .i64 0) Try.func16 (by as_aux_lemma => kernel_rfl) (by as_aux_lemma => kernel_rfl) ?_
    refine ⟨_, rfl, ?_, ?_⟩
    · rw [if_pos (by simp_all)]
    · unfold tickI
      rw [if_pos (by simp_all), hnow, Option.getD_some]
      exact H

theorem rtick_out {S : Nat → Prop} {w : World} {rb rc tn rtc : Nat} {ra rta : Option Addr} {now : List Int} {num den slack : Int} (hF : (Fc rb 0 [.slice ra now.length rc, .int .i64 num, .int .i64 den, .int .i64 slack, .slice rta tn rtc]).p S w) {node : Int} (hst : ¬ (1 ≤ node ∧ node ≤ (now.length : Int))) :
    Calls Try.prog 16 #[.pointer (some ⟨rb, 0, none⟩), .int .i64 node] w (Ret fun v w' => Ext w w' ∧ v = .int .i64 2) := by
  refine WK.calls1 (fn := Try.f16) (n := 23) (σ := [(0, .pointer (some ⟨rb, 0, none⟩)), (1, .int .i64 node)]) Try.func16 rfl (by as_aux_lemma => kernel_rfl) (by as_aux_lemma => kernel_rfl) (by as_aux_lemma => kernel_rfl) ?_
  have H := Hp.startF (w := w) (S := S) (G := [Fc rb 0 [.slice ra now.length rc, .int .i64 num, .int .i64 den, .int .i64 slack, .slice rta tn rtc]]) (.cons hF .nil)
  refine WK.run 4 [0, 1] [.code (cd Try.prog 16 [1, 0, 0]), .code (cd Try.prog 16 [1, 0, 1]), .code (cd Try.prog 16 [2])] [(0, .pointer (some ⟨rb, 0, none⟩)), (1, .int .i64 node)] (by as_aux_lemma => kernel_rfl) ?_
  refine WK.reg1 (l := sq 0 4) (by as_aux_lemma => kernel_rfl) (by as_aux_lemma => kernel_rfl) ?_
  refine RW.runP 2 [0, 1, 5, 6] (sq 2 4) [(0, .pointer (some ⟨rb, 0, none⟩)), (1, .int .i64 node), (5, .pointer (some ⟨rb, 0, none⟩)), (6, .int .i64 node)] (by as_aux_lemma => kernel_rfl) (by as_aux_lemma => kernel_rfl) ?_
  refine RW.call (κ := .seq) (d := some 7) (r := (sq 3 4)) (g := 31) (args := #[.pointer (some ⟨rb, 0, none⟩), .int .i64 node]) (by as_aux_lemma => kernel_rfl) (nofun) (has_spec (S := fun _ => True) (now := now) (H.viewF 0 rfl) node) ?_
  rintro _ w1 hE2 rfl
  have H := H.ext hE2
  refine RW.fin 1 [0, 1, 8] [(0, .pointer (some ⟨rb, 0, none⟩)), (1, .int .i64 node), (8, .bool (!(hasE now.length node)))] (by as_aux_lemma => kernel_rfl) ?_
  refine WK.cond1 (!(hasE now.length node)) (by as_aux_lemma => kernel_rfl) (by as_aux_lemma => kernel_rfl) (fun h3 => ?_) (fun h3 => ?_)
  · skip
    replace h3 : (hasE now.length node) = false := by revert h3; cases (hasE now.length node) <;> simp
    replace h3 := of_decide_eq_false h3
    refine WK.run 2 [4] [.code (cd Try.prog 16 [1, 0, 1, 0, 1]), .code (cd Try.prog 16 [2])] [(4, .int .i64 2)] (by as_aux_lemma => kernel_rfl) ?_
    refine WK.ret (v := .int .i64 2) Try.func16 (by as_aux_lemma => kernel_rfl) (by as_aux_lemma => kernel_rfl) ?_
    exact ⟨_, rfl, H.done, rfl⟩
  · skip
    replace h3 : (hasE now.length node) = true := by revert h3; cases (hasE now.length node) <;> simp
    replace h3 := of_decide_eq_true h3
    exact absurd h3 hst

theorem rtick_spec {S : Nat → Prop} {w : World} {O : List Nat} {rb rc tn rtc : Nat} {ra rta : Option Addr} {now : List Int} {num den slack : Int} (H0 : Hp w S O [(rb, .cells #[.slice ra now.length rc, .int .i64 num, .int .i64 den, .int .i64 slack, .slice rta tn rtc] 64 (0, 0))] [⟨Shape.int .i64, 3, .slice ra now.length rc, now⟩] [] w) (hC : COk now num den slack) (hn : 0 < now.length) (node : Int) : Calls Try.prog 16 #[.pointer (some ⟨rb, 0, none⟩), .int .i64 node] w (Ret fun v w' => v = .int .i64 (tickR now num den slack node) ∧ Hp w S O [(rb, .cells #[.slice ra now.length rc, .int .i64 num, .int .i64 den, .int .i64 slack, .slice rta tn rtc] 64 (0, 0))] [⟨Shape.int .i64, 3, .slice ra now.length rc, tickE now num den slack node⟩] [] w') := by
  by_cases h : 1 ≤ node ∧ node ≤ (now.length : Int)
  · have hs := has_st h
    obtain ⟨i, rfl⟩ : ∃ i : Nat, node = (i : Int) + 1 := ⟨(node - 1).toNat, by omega⟩
    have := rtick_in H0 hC (i := i) (by omega)
    have e : ((i : Int) + 1 - 1).toNat = i := by omega
    simp only [tickR, tickE, mayE, if_pos hs, e]
    exact this
  · have hs := hasnt_st h
    simp only [tickR, tickE, if_neg hs]
    have h2 : stE now.length node = 2 := by
      unfold stE
      rw [if_neg (by omega), if_pos (by omega)]
    rw [h2]
    refine (rtick_out (S := fun _ => True) (H0.viewM 0 rfl (by simp)) h).mono fun e w' hh => ?_
    obtain ⟨v, he, hx, hv⟩ := hh
    exact ⟨v, he, hv, H0.ext hx⟩

theorem rnew_ok {S : Nat → Prop} {w : World} {n : Nat} {num den slack : Int} (hn : 1 ≤ n ∧ n ≤ 32) (hd : 1 ≤ den) (hm : den ≤ num ∧ num ≤ 1000) (hs : 0 ≤ slack ∧ slack ≤ 1000) :
    Calls Try.prog 14 #[.int .i64 (n : Int), .int .i64 num, .int .i64 den, .int .i64 slack] w (Ret fun v w' => ∃ (rb rc : Nat) (ra : Option Addr), v = .tuple #[.pointer (some ⟨rb, 0, none⟩), .int .i64 0] ∧ Hp w S [] [(rb, .cells #[.slice ra (List.replicate n (0 : Int)).length rc, .int .i64 num, .int .i64 den, .int .i64 slack, .slice none 0 0] 64 (0, 0))] [⟨Shape.int .i64, 3, .slice ra (List.replicate n (0 : Int)).length rc, List.replicate n 0⟩] [] w') := by
  refine WK.calls1 (fn := Try.f14) (n := 44) (σ := [(0, .int .i64 (n : Int)), (1, .int .i64 num), (2, .int .i64 den), (3, .int .i64 slack)]) Try.func14 rfl (by as_aux_lemma => kernel_rfl) (by as_aux_lemma => kernel_rfl) (by as_aux_lemma => kernel_rfl) ?_
  have H := Hp.startF (w := w) (S := S) (G := []) .nil
  refine WK.run 4 [0, 1, 2, 3] [.code (cd Try.prog 14 [1, 0, 0]), .code (cd Try.prog 14 [1, 0, 1]), .code (cd Try.prog 14 [2])] [(0, .int .i64 (n : Int)), (1, .int .i64 num), (2, .int .i64 den), (3, .int .i64 slack)] (by as_aux_lemma => kernel_rfl) ?_
  refine WK.reg1 (l := sq 0 27) (by as_aux_lemma => kernel_rfl) (by as_aux_lemma => kernel_rfl) ?_
  refine RW.runP 3 [0, 1, 2, 3, 12] (sq 3 27) [(0, .int .i64 (n : Int)), (1, .int .i64 num), (2, .int .i64 den), (3, .int .i64 slack), (12, .bool (decide (((n : Int) : Int) < 1)))] (by as_aux_lemma => kernel_rfl) (by as_aux_lemma => kernel_rfl) ?_
  refine RW.test (fun b_ => [(0, .int .i64 (n : Int)), (1, .int .i64 num), (2, .int .i64 den), (3, .int .i64 slack), (12, .bool b_)]) (decide (((n : Int) : Int) < 1)) (fun h1 => ?_) (fun h1 => ?_)
  · skip
    replace h1 := of_decide_eq_true h1
    omega
  · skip
    replace h1 := of_decide_eq_false h1
    refine RW.runP 4 [0, 1, 2, 3, 16] (sq 7 27) [(0, .int .i64 (n : Int)), (1, .int .i64 num), (2, .int .i64 den), (3, .int .i64 slack), (16, .bool (decide (((n : Int) : Int) > 32)))] (by as_aux_lemma => kernel_rfl) (by as_aux_lemma => kernel_rfl) ?_
    refine RW.test (fun b_ => [(0, .int .i64 (n : Int)), (1, .int .i64 num), (2, .int .i64 den), (3, .int .i64 slack), (16, .bool b_)]) (decide (((n : Int) : Int) > 32)) (fun h2 => ?_) (fun h2 => ?_)
    · skip
      replace h2 := of_decide_eq_true h2
      omega
    · skip
      replace h2 := of_decide_eq_false h2
      refine RW.runP 4 [0, 1, 2, 3, 20] (sq 11 27) [(0, .int .i64 (n : Int)), (1, .int .i64 num), (2, .int .i64 den), (3, .int .i64 slack), (20, .bool (decide ((den : Int) < 1)))] (by as_aux_lemma => kernel_rfl) (by as_aux_lemma => kernel_rfl) ?_
      refine RW.test (fun b_ => [(0, .int .i64 (n : Int)), (1, .int .i64 num), (2, .int .i64 den), (3, .int .i64 slack), (20, .bool b_)]) (decide ((den : Int) < 1)) (fun h3 => ?_) (fun h3 => ?_)
      · skip
        replace h3 := of_decide_eq_true h3
        omega
      · skip
        replace h3 := of_decide_eq_false h3
        refine RW.runP 5 [0, 1, 2, 3, 25] (sq 16 27) [(0, .int .i64 (n : Int)), (1, .int .i64 num), (2, .int .i64 den), (3, .int .i64 slack), (25, .bool (decide ((num : Int) < den)))] (by as_aux_lemma => kernel_rfl) (by as_aux_lemma => kernel_rfl) ?_
        refine RW.test (fun b_ => [(0, .int .i64 (n : Int)), (1, .int .i64 num), (2, .int .i64 den), (3, .int .i64 slack), (25, .bool b_)]) (decide ((num : Int) < den)) (fun h4 => ?_) (fun h4 => ?_)
        · skip
          replace h4 := of_decide_eq_true h4
          omega
        · skip
          replace h4 := of_decide_eq_false h4
          refine RW.runP 4 [0, 1, 2, 3, 29] (sq 20 27) [(0, .int .i64 (n : Int)), (1, .int .i64 num), (2, .int .i64 den), (3, .int .i64 slack), (29, .bool (decide ((num : Int) > 1000)))] (by as_aux_lemma => kernel_rfl) (by as_aux_lemma => kernel_rfl) ?_
          refine RW.test (fun b_ => [(0, .int .i64 (n : Int)), (1, .int .i64 num), (2, .int .i64 den), (3, .int .i64 slack), (29, .bool b_)]) (decide ((num : Int) > 1000)) (fun h5 => ?_) (fun h5 => ?_)
          · skip
            replace h5 := of_decide_eq_true h5
            omega
          · skip
            replace h5 := of_decide_eq_false h5
            refine RW.runP 4 [0, 1, 2, 3, 33] (sq 24 27) [(0, .int .i64 (n : Int)), (1, .int .i64 num), (2, .int .i64 den), (3, .int .i64 slack), (33, .bool (decide ((slack : Int) < 0)))] (by as_aux_lemma => kernel_rfl) (by as_aux_lemma => kernel_rfl) ?_
            refine RW.test (fun b_ => [(0, .int .i64 (n : Int)), (1, .int .i64 num), (2, .int .i64 den), (3, .int .i64 slack), (33, .bool b_)]) (decide ((slack : Int) < 0)) (fun h6 => ?_) (fun h6 => ?_)
            · skip
              replace h6 := of_decide_eq_true h6
              omega
            · skip
              replace h6 := of_decide_eq_false h6
              refine RW.fin 3 [0, 1, 2, 3, 36] [(0, .int .i64 (n : Int)), (1, .int .i64 num), (2, .int .i64 den), (3, .int .i64 slack), (36, .bool (decide ((slack : Int) > 1000)))] (by as_aux_lemma => kernel_rfl) ?_
              refine WK.cond1 (decide ((slack : Int) > 1000)) (by as_aux_lemma => kernel_rfl) (by as_aux_lemma => kernel_rfl) (fun h7 => ?_) (fun h7 => ?_)
              · skip
                replace h7 := of_decide_eq_true h7
                omega
              · skip
                replace h7 := of_decide_eq_false h7
                refine WK.run 2 [0, 1, 2, 3] [.code (cd Try.prog 14 [2, 0]), .code (cd Try.prog 14 [3])] [(0, .int .i64 (n : Int)), (1, .int .i64 num), (2, .int .i64 den), (3, .int .i64 slack)] (by as_aux_lemma => kernel_rfl) ?_
                refine WK.reg1 (l := sq 0 9) (by as_aux_lemma => kernel_rfl) (by as_aux_lemma => kernel_rfl) ?_
                refine RW.runP 1 [1, 2, 3, 37] (sq 1 9) [(1, .int .i64 num), (2, .int .i64 den), (3, .int .i64 slack), (37, .int .i64 (n : Int))] (by as_aux_lemma => kernel_rfl) (by as_aux_lemma => kernel_rfl) ?_
                refine RW.makeW (Shape.int .i64) (κ := .seq) (d := some 38) (r := (sq 2 9)) (T := 22) (e := 3) (by_ := 8) (v0 := .int .i64 0) (0 : Int) (kl := .i64) (kc := .i64) (lv := (n : Int)) (cv := (n : Int)) (by as_aux_lemma => kernel_rfl) (nofun) (by as_aux_lemma => kernel_rfl) rfl H n n (by omega) (by omega) (by omega) (by omega) (by omega) (fun _ _ => Shape.int_mk (by decide)) ?_
                intro b8 w9 H
                have H : Hp w S [] [] [⟨Shape.int .i64, 3, .slice (some ⟨b8, 0, none⟩) n n, (List.replicate n (0 : Int))⟩] [] _ := H
                refine RW.runP 4 [42] (sq 6 9) [(42, .agg #[.slice (some ⟨b8, 0, none⟩) n n, .int .i64 num, .int .i64 den, .int .i64 slack, .slice none 0 0])] (by as_aux_lemma => kernel_rfl) (by as_aux_lemma => kernel_rfl) ?_
                refine RW.new (κ := .seq) (d := some 43) (r := (sq 7 9)) (o := .cells #[.slice (some ⟨b8, 0, none⟩) n n, .int .i64 num, .int .i64 den, .int .i64 slack, .slice none 0 0] 64 (0, 0)) (v := fun b => .pointer (some ⟨b, 0, none⟩)) (fun b => by as_aux_lemma => kernel_rfl) (nofun) H ?_
                intro b10 w11 H
                refine RW.fin 2 [8, 9] [(8, .pointer (some ⟨b10, 0, none⟩)), (9, .int .i64 0)] (by as_aux_lemma => kernel_rfl) ?_
                refine WK.ret (v := .tuple #[.pointer (some ⟨b10, 0, none⟩), .int .i64 0]) Try.func14 (by as_aux_lemma => kernel_rfl) (by as_aux_lemma => kernel_rfl) ?_
                exact ⟨_, rfl, _, _, _, rfl, by rw [List.length_replicate]; exact H⟩

theorem rnew_bad {S : Nat → Prop} {w : World} (nodes num den slack : Int) (hbad : ¬ (1 ≤ nodes ∧ nodes ≤ 32 ∧ 1 ≤ den ∧ den ≤ num ∧ num ≤ 1000 ∧ 0 ≤ slack ∧ slack ≤ 1000)) :
    Calls Try.prog 14 #[.int .i64 nodes, .int .i64 num, .int .i64 den, .int .i64 slack] w (Ret fun v w' => Ext w w' ∧ v = .tuple #[.pointer none, .int .i64 2]) := by
  refine WK.calls1 (fn := Try.f14) (n := 44) (σ := [(0, .int .i64 nodes), (1, .int .i64 num), (2, .int .i64 den), (3, .int .i64 slack)]) Try.func14 rfl (by as_aux_lemma => kernel_rfl) (by as_aux_lemma => kernel_rfl) (by as_aux_lemma => kernel_rfl) ?_
  have H := Hp.startF (w := w) (S := S) (G := []) .nil
  refine WK.run 4 [0, 1, 2, 3] [.code (cd Try.prog 14 [1, 0, 0]), .code (cd Try.prog 14 [1, 0, 1]), .code (cd Try.prog 14 [2])] [(0, .int .i64 nodes), (1, .int .i64 num), (2, .int .i64 den), (3, .int .i64 slack)] (by as_aux_lemma => kernel_rfl) ?_
  refine WK.reg1 (l := sq 0 27) (by as_aux_lemma => kernel_rfl) (by as_aux_lemma => kernel_rfl) ?_
  refine RW.runP 3 [0, 1, 2, 3, 12] (sq 3 27) [(0, .int .i64 nodes), (1, .int .i64 num), (2, .int .i64 den), (3, .int .i64 slack), (12, .bool (decide ((nodes : Int) < 1)))] (by as_aux_lemma => kernel_rfl) (by as_aux_lemma => kernel_rfl) ?_
  refine RW.test (fun b_ => [(0, .int .i64 nodes), (1, .int .i64 num), (2, .int .i64 den), (3, .int .i64 slack), (12, .bool b_)]) (decide ((nodes : Int) < 1)) (fun h1 => ?_) (fun h1 => ?_)
  · skip
    replace h1 := of_decide_eq_true h1
    refine RW.fin 24 [0, 1, 2, 3, 36] [(0, .int .i64 nodes), (1, .int .i64 num), (2, .int .i64 den), (3, .int .i64 slack), (36, .bool true)] (by as_aux_lemma => kernel_rfl) ?_
    refine WK.run 3 [8, 9] [.code (cd Try.prog 14 [1, 0, 1, 0, 1]), .code (cd Try.prog 14 [2])] [(8, .pointer none), (9, .int .i64 2)] (by as_aux_lemma => kernel_rfl) ?_
    refine WK.ret (v := .tuple #[.pointer none, .int .i64 2]) Try.func14 (by as_aux_lemma => kernel_rfl) (by as_aux_lemma => kernel_rfl) ?_
    exact ⟨_, rfl, H.done, rfl⟩
  · skip
    replace h1 := of_decide_eq_false h1
    refine RW.runP 4 [0, 1, 2, 3, 16] (sq 7 27) [(0, .int .i64 nodes), (1, .int .i64 num), (2, .int .i64 den), (3, .int .i64 slack), (16, .bool (decide ((nodes : Int) > 32)))] (by as_aux_lemma => kernel_rfl) (by as_aux_lemma => kernel_rfl) ?_
    refine RW.test (fun b_ => [(0, .int .i64 nodes), (1, .int .i64 num), (2, .int .i64 den), (3, .int .i64 slack), (16, .bool b_)]) (decide ((nodes : Int) > 32)) (fun h2 => ?_) (fun h2 => ?_)
    · skip
      replace h2 := of_decide_eq_true h2
      refine RW.fin 20 [0, 1, 2, 3, 36] [(0, .int .i64 nodes), (1, .int .i64 num), (2, .int .i64 den), (3, .int .i64 slack), (36, .bool true)] (by as_aux_lemma => kernel_rfl) ?_
      refine WK.run 3 [8, 9] [.code (cd Try.prog 14 [1, 0, 1, 0, 1]), .code (cd Try.prog 14 [2])] [(8, .pointer none), (9, .int .i64 2)] (by as_aux_lemma => kernel_rfl) ?_
      refine WK.ret (v := .tuple #[.pointer none, .int .i64 2]) Try.func14 (by as_aux_lemma => kernel_rfl) (by as_aux_lemma => kernel_rfl) ?_
      exact ⟨_, rfl, H.done, rfl⟩
    · skip
      replace h2 := of_decide_eq_false h2
      refine RW.runP 4 [0, 1, 2, 3, 20] (sq 11 27) [(0, .int .i64 nodes), (1, .int .i64 num), (2, .int .i64 den), (3, .int .i64 slack), (20, .bool (decide ((den : Int) < 1)))] (by as_aux_lemma => kernel_rfl) (by as_aux_lemma => kernel_rfl) ?_
      refine RW.test (fun b_ => [(0, .int .i64 nodes), (1, .int .i64 num), (2, .int .i64 den), (3, .int .i64 slack), (20, .bool b_)]) (decide ((den : Int) < 1)) (fun h3 => ?_) (fun h3 => ?_)
      · skip
        replace h3 := of_decide_eq_true h3
        refine RW.fin 16 [0, 1, 2, 3, 36] [(0, .int .i64 nodes), (1, .int .i64 num), (2, .int .i64 den), (3, .int .i64 slack), (36, .bool true)] (by as_aux_lemma => kernel_rfl) ?_
        refine WK.run 3 [8, 9] [.code (cd Try.prog 14 [1, 0, 1, 0, 1]), .code (cd Try.prog 14 [2])] [(8, .pointer none), (9, .int .i64 2)] (by as_aux_lemma => kernel_rfl) ?_
        refine WK.ret (v := .tuple #[.pointer none, .int .i64 2]) Try.func14 (by as_aux_lemma => kernel_rfl) (by as_aux_lemma => kernel_rfl) ?_
        exact ⟨_, rfl, H.done, rfl⟩
      · skip
        replace h3 := of_decide_eq_false h3
        refine RW.runP 5 [0, 1, 2, 3, 25] (sq 16 27) [(0, .int .i64 nodes), (1, .int .i64 num), (2, .int .i64 den), (3, .int .i64 slack), (25, .bool (decide ((num : Int) < den)))] (by as_aux_lemma => kernel_rfl) (by as_aux_lemma => kernel_rfl) ?_
        refine RW.test (fun b_ => [(0, .int .i64 nodes), (1, .int .i64 num), (2, .int .i64 den), (3, .int .i64 slack), (25, .bool b_)]) (decide ((num : Int) < den)) (fun h4 => ?_) (fun h4 => ?_)
        · skip
          replace h4 := of_decide_eq_true h4
          refine RW.fin 11 [0, 1, 2, 3, 36] [(0, .int .i64 nodes), (1, .int .i64 num), (2, .int .i64 den), (3, .int .i64 slack), (36, .bool true)] (by as_aux_lemma => kernel_rfl) ?_
          refine WK.run 3 [8, 9] [.code (cd Try.prog 14 [1, 0, 1, 0, 1]), .code (cd Try.prog 14 [2])] [(8, .pointer none), (9, .int .i64 2)] (by as_aux_lemma => kernel_rfl) ?_
          refine WK.ret (v := .tuple #[.pointer none, .int .i64 2]) Try.func14 (by as_aux_lemma => kernel_rfl) (by as_aux_lemma => kernel_rfl) ?_
          exact ⟨_, rfl, H.done, rfl⟩
        · skip
          replace h4 := of_decide_eq_false h4
          refine RW.runP 4 [0, 1, 2, 3, 29] (sq 20 27) [(0, .int .i64 nodes), (1, .int .i64 num), (2, .int .i64 den), (3, .int .i64 slack), (29, .bool (decide ((num : Int) > 1000)))] (by as_aux_lemma => kernel_rfl) (by as_aux_lemma => kernel_rfl) ?_
          refine RW.test (fun b_ => [(0, .int .i64 nodes), (1, .int .i64 num), (2, .int .i64 den), (3, .int .i64 slack), (29, .bool b_)]) (decide ((num : Int) > 1000)) (fun h5 => ?_) (fun h5 => ?_)
          · skip
            replace h5 := of_decide_eq_true h5
            refine RW.fin 7 [0, 1, 2, 3, 36] [(0, .int .i64 nodes), (1, .int .i64 num), (2, .int .i64 den), (3, .int .i64 slack), (36, .bool true)] (by as_aux_lemma => kernel_rfl) ?_
            refine WK.run 3 [8, 9] [.code (cd Try.prog 14 [1, 0, 1, 0, 1]), .code (cd Try.prog 14 [2])] [(8, .pointer none), (9, .int .i64 2)] (by as_aux_lemma => kernel_rfl) ?_
            refine WK.ret (v := .tuple #[.pointer none, .int .i64 2]) Try.func14 (by as_aux_lemma => kernel_rfl) (by as_aux_lemma => kernel_rfl) ?_
            exact ⟨_, rfl, H.done, rfl⟩
          · skip
            replace h5 := of_decide_eq_false h5
            refine RW.runP 4 [0, 1, 2, 3, 33] (sq 24 27) [(0, .int .i64 nodes), (1, .int .i64 num), (2, .int .i64 den), (3, .int .i64 slack), (33, .bool (decide ((slack : Int) < 0)))] (by as_aux_lemma => kernel_rfl) (by as_aux_lemma => kernel_rfl) ?_
            refine RW.test (fun b_ => [(0, .int .i64 nodes), (1, .int .i64 num), (2, .int .i64 den), (3, .int .i64 slack), (33, .bool b_)]) (decide ((slack : Int) < 0)) (fun h6 => ?_) (fun h6 => ?_)
            · skip
              replace h6 := of_decide_eq_true h6
              refine RW.fin 3 [0, 1, 2, 3, 36] [(0, .int .i64 nodes), (1, .int .i64 num), (2, .int .i64 den), (3, .int .i64 slack), (36, .bool true)] (by as_aux_lemma => kernel_rfl) ?_
              refine WK.run 3 [8, 9] [.code (cd Try.prog 14 [1, 0, 1, 0, 1]), .code (cd Try.prog 14 [2])] [(8, .pointer none), (9, .int .i64 2)] (by as_aux_lemma => kernel_rfl) ?_
              refine WK.ret (v := .tuple #[.pointer none, .int .i64 2]) Try.func14 (by as_aux_lemma => kernel_rfl) (by as_aux_lemma => kernel_rfl) ?_
              exact ⟨_, rfl, H.done, rfl⟩
            · skip
              replace h6 := of_decide_eq_false h6
              refine RW.fin 3 [0, 1, 2, 3, 36] [(0, .int .i64 nodes), (1, .int .i64 num), (2, .int .i64 den), (3, .int .i64 slack), (36, .bool (decide ((slack : Int) > 1000)))] (by as_aux_lemma => kernel_rfl) ?_
              refine WK.cond1 (decide ((slack : Int) > 1000)) (by as_aux_lemma => kernel_rfl) (by as_aux_lemma => kernel_rfl) (fun h7 => ?_) (fun h7 => ?_)
              · skip
                replace h7 := of_decide_eq_true h7
                refine WK.run 2 [8, 9] [.code (cd Try.prog 14 [1, 0, 1, 0, 1]), .code (cd Try.prog 14 [2])] [(8, .pointer none), (9, .int .i64 2)] (by as_aux_lemma => kernel_rfl) ?_
                refine WK.ret (v := .tuple #[.pointer none, .int .i64 2]) Try.func14 (by as_aux_lemma => kernel_rfl) (by as_aux_lemma => kernel_rfl) ?_
                exact ⟨_, rfl, H.done, rfl⟩
              · skip
                replace h7 := of_decide_eq_false h7
                omega

def isT (node id : Int) (t : Rt) : Bool := decide (t.node = node ∧ t.id = id)
abbrev prR (t : Rt) : Int × Int := (t.id, t.when)
def onN (node : Int) (ts : List Rt) : List (Int × Int) := (ts.filter fun t => decide (t.node = node)).map prR
theorem eraseP_at {α : Type} {p : α → Bool} : ∀ {l : List α} {k : Nat}, (∀ j x, j < k → l[j]? = some x → p x = false) → (∃ x, l[k]? = some x ∧ p x = true) → l.eraseP p = l.take k ++ l.drop (k + 1)
  | [], _, _, ⟨x, h, _⟩ => by simp at h
  | a :: l, 0, _, ⟨x, h, hp⟩ => by
    simp only [List.getElem?_cons_zero, Option.some.injEq] at h
    subst h
    simp [List.eraseP_cons, hp]
  | a :: l, k + 1, hn, ⟨x, h, hp⟩ => by
    have ha := hn 0 a (by omega) rfl
    rw [List.eraseP_cons_of_neg (by simp [ha]), eraseP_at (k := k) (fun j x hj hx => hn (j + 1) x (by omega) hx) ⟨x, h, hp⟩]
    rfl
theorem none_any {α : Type} {p : α → Bool} {l : List α} (h : ∀ j x, j < l.length → l[j]? = some x → p x = false) : l.any p = false ∧ l.eraseP p = l := by
  have h' : ∀ x ∈ l, p x = false := fun x hx => by
    obtain ⟨j, hj, he⟩ := List.mem_iff_getElem.1 hx
    exact h j x hj (by rw [List.getElem?_eq_getElem hj, he])
  exact ⟨List.any_eq_false.2 fun x hx => by rw [h' x hx]; decide, List.eraseP_of_forall_not fun x hx => by rw [h' x hx]; decide⟩
theorem erase_len (node id : Int) (ts : List Rt) : (ts.eraseP (isT node id)).length ≤ ts.length := List.length_eraseP_le
theorem onN_take {node : Int} {ts : List Rt} {k : Nat} (hk : k < ts.length) : onN node (ts.take (k + 1)) = onN node (ts.take k) ++ (if ts[k].node = node then [prR ts[k]] else []) := by
  unfold onN
  rw [List.take_succ_eq_append_getElem hk, List.filter_append, List.map_append]
  congr 1
  by_cases h : ts[k].node = node
  · simp [h]
  · simp [h]
theorem any_take {p : Rt → Bool} {ts : List Rt} {k : Nat} (hk : k < ts.length) : (ts.take (k + 1)).any p = ((ts.take k).any p || p ts[k]) := by
  rw [List.take_succ_eq_append_getElem hk, List.any_append]
  simp
theorem th_a {th : Bool} {x : Rt} {node id : Int} (h : ¬ x.node = node) : th = (th || isT node id x) := by
  rw [show isT node id x = false from decide_eq_false fun hh => h hh.1, Bool.or_false]
theorem th_b {th b : Bool} (h : th = true) : true = (th || b) := by rw [h]; rfl
theorem th_c {th : Bool} {x : Rt} {node id : Int} (h : x.node = node) (ht : th = false) : (x.id == id) = (th || isT node id x) := by
  rw [ht, Bool.false_or]
  unfold isT
  by_cases hi : x.id = id
  · rw [decide_eq_true ⟨h, hi⟩]; simpa using hi
  · rw [decide_eq_false fun hh => hi hh.2]; simpa using hi
def rsetB (n : Nat) (ts : List Rt) (node id at_ : Int) : Bool := decide (¬ (1 ≤ node ∧ node ≤ (n : Int)) ∨ at_ < 0 ∨ at_ > 1048576 ∨ (1000 ≤ (onN node ts).length ∧ ts.any (isT node id) = false))
def rsetT (n : Nat) (ts : List Rt) (node id at_ : Int) : List Rt := if rsetB n ts node id at_ = true then ts else ts.eraseP (isT node id) ++ [⟨node, id, at_⟩]

theorem rcan_spec {S : Nat → Prop} {w : World} {O : List Nat} {rb rc rtc : Nat} {ra rta : Option Addr} {now : List Int} {num den slack : Int} {ts : List Rt} (H0 : Hp w S O [(rb, .cells #[.slice ra now.length rc, .int .i64 num, .int .i64 den, .int .i64 slack, .slice rta ts.length rtc] 64 (0, 0))] [⟨rtS, 66, .slice rta ts.length rtc, ts⟩] [] w) (htl : ts.length ≤ 40000) (node id : Int) :
    Calls Try.prog 19 #[.pointer (some ⟨rb, 0, none⟩), .int .i64 node, .int .i64 id] w (Ret fun v w' => v = .bool (ts.any (isT node id)) ∧ ∃ (a : Option Addr) (c : Nat), Hp w S O [(rb, .cells #[.slice ra now.length rc, .int .i64 num, .int .i64 den, .int .i64 slack, .slice a ((ts.eraseP (isT node id)).length) c] 64 (0, 0))] [⟨rtS, 66, .slice a ((ts.eraseP (isT node id)).length) c, (ts.eraseP (isT node id))⟩] [] w') := by
  refine WK.calls1 (fn := Try.f19) (n := 58) (σ := [(0, .pointer (some ⟨rb, 0, none⟩)), (1, .int .i64 node), (2, .int .i64 id)]) Try.func19 rfl (by as_aux_lemma => kernel_rfl) (by as_aux_lemma => kernel_rfl) (by as_aux_lemma => kernel_rfl) ?_
  have H := H0
  refine WK.run 6 [0, 1, 2, 7] [.code (cd Try.prog 19 [1, 0, 1, 0]), .inBlock 0, .code (cd Try.prog 19 [2])] [(0, .pointer (some ⟨rb, 0, none⟩)), (1, .int .i64 node), (2, .int .i64 id), (7, .int .i64 0)] (by as_aux_lemma => kernel_rfl) ?_
  refine WK.loop (α := Nat) (b := cd Try.prog 19 [1, 0, 1, 0, 0]) (by as_aux_lemma => kernel_rfl) (fun k => [(0, .pointer (some ⟨rb, 0, none⟩)), (1, .int .i64 node), (2, .int .i64 id), (7, .int .i64 (k : Int))]) (fun k w' => Hp w S O [(rb, .cells #[.slice ra now.length rc, .int .i64 num, .int .i64 den, .int .i64 slack, .slice rta ts.length rtc] 64 (0, 0))] [⟨rtS, 66, .slice rta ts.length rtc, ts⟩] [] w' ∧ k ≤ ts.length ∧ ∀ j t, j < k → ts[j]? = some t → isT node id t = false) (fun k => ts.length - k) 0 ⟨H, by omega, fun j t hj => by omega⟩ (rfl) ?_
  rintro k w2 ⟨H, hinv0⟩ hback1
  refine WK.run 2 [0, 1, 2, 7] [.code (cd Try.prog 19 [1, 0, 1, 0, 0, 0, 0]), .code (cd Try.prog 19 [1, 0, 1, 0, 0, 0, 1]), .code (cd Try.prog 19 [1, 0, 1, 0, 0, 1]), .inLoop (cd Try.prog 19 [1, 0, 1, 0, 0]), .inBlock 0, .code (cd Try.prog 19 [2])] [(0, .pointer (some ⟨rb, 0, none⟩)), (1, .int .i64 node), (2, .int .i64 id), (7, .int .i64 (k : Int))] (by as_aux_lemma => kernel_rfl) ?_
  refine WK.reg1 (l := sq 0 7) (by as_aux_lemma => kernel_rfl) (by as_aux_lemma => kernel_rfl) ?_
  refine RW.runP 4 [0, 1, 2, 7, 8, 11] (sq 4 7) [(0, .pointer (some ⟨rb, 0, none⟩)), (1, .int .i64 node), (2, .int .i64 id), (7, .int .i64 (k : Int)), (8, .int .i64 (k : Int)), (11, .pointer (some ⟨rb, 4, none⟩))] (by as_aux_lemma => kernel_rfl) (by as_aux_lemma => kernel_rfl) ?_
  refine RW.load (κ := .seq) (d := some 12) (r := (sq 5 7)) (T := 62) (b := rb) (o' := 4) (k := 4) (v := .slice rta ts.length rtc) (by as_aux_lemma => kernel_rfl) (H.cells 0 rfl) rfl (by as_aux_lemma => kernel_rfl) ?_
  refine RW.fin 2 [0, 1, 2, 7, 14] [(0, .pointer (some ⟨rb, 0, none⟩)), (1, .int .i64 node), (2, .int .i64 id), (7, .int .i64 (k : Int)), (14, .bool (decide (((k : Int) : Int) < ((ts.length : Nat) : Int))))] (by as_aux_lemma => kernel_rfl) ?_
  refine WK.cond1 (decide (((k : Int) : Int) < ((ts.length : Nat) : Int))) (by as_aux_lemma => kernel_rfl) (by as_aux_lemma => kernel_rfl) (fun h3 => ?_) (fun h3 => ?_)
  · skip
    replace h3 := of_decide_eq_true h3
    have hkl : k < ts.length := by omega
    refine WK.run 4 [0, 1, 2, 7] [.code (cd Try.prog 19 [1, 0, 1, 0, 0, 1, 0, 0, 0]), .code (cd Try.prog 19 [1, 0, 1, 0, 0, 1, 0, 0, 1]), .inBlock 1, .code (cd Try.prog 19 [1, 0, 1, 0, 0, 2]), .inLoop (cd Try.prog 19 [1, 0, 1, 0, 0]), .inBlock 0, .code (cd Try.prog 19 [2])] [(0, .pointer (some ⟨rb, 0, none⟩)), (1, .int .i64 node), (2, .int .i64 id), (7, .int .i64 (k : Int))] (by as_aux_lemma => kernel_rfl) ?_
    refine WK.reg1 (l := sq 0 22) (by as_aux_lemma => kernel_rfl) (by as_aux_lemma => kernel_rfl) ?_
    refine RW.runP 3 [0, 1, 2, 7, 19] (sq 3 22) [(0, .pointer (some ⟨rb, 0, none⟩)), (1, .int .i64 node), (2, .int .i64 id), (7, .int .i64 (k : Int)), (19, .pointer (some ⟨rb, 4, none⟩))] (by as_aux_lemma => kernel_rfl) (by as_aux_lemma => kernel_rfl) ?_
    refine RW.load (κ := .seq) (d := some 20) (r := (sq 4 22)) (T := 62) (b := rb) (o' := 4) (k := 4) (v := .slice rta ts.length rtc) (by as_aux_lemma => kernel_rfl) (H.cells 0 rfl) rfl (by as_aux_lemma => kernel_rfl) ?_
    refine RW.runP 1 [0, 1, 2, 7, 20, 21] (sq 5 22) [(0, .pointer (some ⟨rb, 0, none⟩)), (1, .int .i64 node), (2, .int .i64 id), (7, .int .i64 (k : Int)), (20, .slice rta ts.length rtc), (21, .int .i64 (k : Int))] (by as_aux_lemma => kernel_rfl) (by as_aux_lemma => kernel_rfl) ?_
    have hn5 : ts.length = ts.length := rfl
    have hx4 : k < ts.length := by omega
    refine RW.indexW (κ := .seq) (d := some 22) (r := (sq 6 22)) (T := 62) (e := 66) (m := 3) (ik := .i64) (ix := (k : Int)) (sh := rtS) (xs := ts) (a := rta) (len := ts.length) (cap := rtc) (by as_aux_lemma => kernel_rfl) (by as_aux_lemma => kernel_rfl) rfl H k (by omega) hx4 hn5 ?_
    intro b6 es7 ha8 hcell9 hr10
    obtain ⟨rfl, hf12, hf13, hf14⟩ := rt_open hr10
    refine RW.runP 1 [0, 1, 2, 7, 23] (sq 7 22) [(0, .pointer (some ⟨rb, 0, none⟩)), (1, .int .i64 node), (2, .int .i64 id), (7, .int .i64 (k : Int)), (23, .pointer (some ⟨b6, k * 3, none⟩))] (by as_aux_lemma => kernel_rfl) (by as_aux_lemma => kernel_rfl) ?_
    refine RW.load (κ := .seq) (d := some 24) (r := (sq 8 22)) (T := 3) (b := b6) (o' := k * 3) (k := 0) (v := .int .i64 ((ts[k]).node)) (by as_aux_lemma => kernel_rfl) hcell9 rfl (by as_aux_lemma => kernel_rfl) ?_
    refine RW.runP 3 [0, 1, 2, 7, 27] (sq 11 22) [(0, .pointer (some ⟨rb, 0, none⟩)), (1, .int .i64 node), (2, .int .i64 id), (7, .int .i64 (k : Int)), (27, .bool (((ts[k]).node) == node))] (by as_aux_lemma => kernel_rfl) (by as_aux_lemma => kernel_rfl) ?_
    refine RW.test (fun b_ => [(0, .pointer (some ⟨rb, 0, none⟩)), (1, .int .i64 node), (2, .int .i64 id), (7, .int .i64 (k : Int)), (27, .bool b_)]) (((ts[k]).node) == node) (fun h15 => ?_) (fun h15 => ?_)
    · skip
      replace h15 := eq_of_beq h15
      refine RW.runP 3 [0, 1, 2, 7, 27, 30] (sq 14 22) [(0, .pointer (some ⟨rb, 0, none⟩)), (1, .int .i64 node), (2, .int .i64 id), (7, .int .i64 (k : Int)), (27, .bool true), (30, .pointer (some ⟨rb, 4, none⟩))] (by as_aux_lemma => kernel_rfl) (by as_aux_lemma => kernel_rfl) ?_
      refine RW.load (κ := .seq) (d := some 31) (r := (sq 15 22)) (T := 62) (b := rb) (o' := 4) (k := 4) (v := .slice rta ts.length rtc) (by as_aux_lemma => kernel_rfl) (H.cells 0 rfl) rfl (by as_aux_lemma => kernel_rfl) ?_
      refine RW.runP 1 [0, 1, 2, 7, 27, 31, 32] (sq 16 22) [(0, .pointer (some ⟨rb, 0, none⟩)), (1, .int .i64 node), (2, .int .i64 id), (7, .int .i64 (k : Int)), (27, .bool true), (31, .slice rta ts.length rtc), (32, .int .i64 (k : Int))] (by as_aux_lemma => kernel_rfl) (by as_aux_lemma => kernel_rfl) ?_
      have hn17 : ts.length = ts.length := rfl
      have hx16 : k < ts.length := by omega
      refine RW.indexW (κ := .seq) (d := some 33) (r := (sq 17 22)) (T := 62) (e := 66) (m := 3) (ik := .i64) (ix := (k : Int)) (sh := rtS) (xs := ts) (a := rta) (len := ts.length) (cap := rtc) (by as_aux_lemma => kernel_rfl) (by as_aux_lemma => kernel_rfl) rfl H k (by omega) hx16 hn17 ?_
      intro b18 es19 ha20 hcell21 hr22
      obtain ⟨rfl, hf24, hf25, hf26⟩ := rt_open hr22
      refine RW.runP 1 [0, 1, 2, 7, 27, 34] (sq 18 22) [(0, .pointer (some ⟨rb, 0, none⟩)), (1, .int .i64 node), (2, .int .i64 id), (7, .int .i64 (k : Int)), (27, .bool true), (34, .pointer (some ⟨b18, k * 3 + 1, none⟩))] (by as_aux_lemma => kernel_rfl) (by as_aux_lemma => kernel_rfl) ?_
      refine RW.load (κ := .seq) (d := some 35) (r := (sq 19 22)) (T := 3) (b := b18) (o' := k * 3 + 1) (k := 1) (v := .int .i64 ((ts[k]).id)) (by as_aux_lemma => kernel_rfl) hcell21 rfl (by as_aux_lemma => kernel_rfl) ?_
      refine RW.fin 3 [0, 1, 2, 7, 38] [(0, .pointer (some ⟨rb, 0, none⟩)), (1, .int .i64 node), (2, .int .i64 id), (7, .int .i64 (k : Int)), (38, .bool (((ts[k]).id) == id))] (by as_aux_lemma => kernel_rfl) ?_
      refine WK.cond1 (((ts[k]).id) == id) (by as_aux_lemma => kernel_rfl) (by as_aux_lemma => kernel_rfl) (fun h27 => ?_) (fun h27 => ?_)
      · skip
        replace h27 := eq_of_beq h27
        have her : ts.eraseP (isT node id) = ts.take k ++ ts.drop (k + 1) := eraseP_at hinv0.2 ⟨ts[k], List.getElem?_eq_getElem hkl, decide_eq_true (by constructor <;> assumption)⟩
        refine WK.run 1 [0, 7] [.code (cd Try.prog 19 [1, 0, 1, 0, 0, 1, 0, 0, 1, 0, 0]), .code (cd Try.prog 19 [1, 0, 1, 0, 0, 1, 0, 0, 1, 0, 1]), .inBlock 1, .code (cd Try.prog 19 [1, 0, 1, 0, 0, 2]), .inLoop (cd Try.prog 19 [1, 0, 1, 0, 0]), .inBlock 0, .code (cd Try.prog 19 [2])] [(0, .pointer (some ⟨rb, 0, none⟩)), (7, .int .i64 (k : Int))] (by as_aux_lemma => kernel_rfl) ?_
        refine WK.drawP1 16 [0, 2, 3, 4, 6, 9, 10, 11, 13] [(52, .int .i64 (k : Int)), (50, .pointer (some ⟨rb, 4, none⟩)), (49, .pointer (some ⟨rb, 0, none⟩)), (48, .pointer (some ⟨rb, 0, none⟩)), (45, .int .i64 (k : Int)), (43, .pointer (some ⟨rb, 4, none⟩)), (42, .pointer (some ⟨rb, 0, none⟩)), (41, .pointer (some ⟨rb, 0, none⟩)), (39, .pointer (some ⟨rb, 0, none⟩)), (0, .pointer (some ⟨rb, 0, none⟩)), (7, .int .i64 (k : Int))] [(5, .qui), (7, .qui), (12, .qui), (14, .qui), (15, .qui), (1, .chn), (8, .chn)] [(5, .qui), (7, .qui), (12, .qui), (14, .qui), (15, .qui), (1, .chn), (8, .chn), (16, .seq), (17, .seq), (18, .seq), (19, .seq)] Try_mixed (by as_aux_lemma => kernel_rfl) (by as_aux_lemma => kernel_rfl) (by as_aux_lemma => kernel_rfl) (by as_aux_lemma => kernel_rfl) ?_
        have H := H.draw
        generalize ({ w2 with drawn := w2.drawn + 1 } : World) = w28 at H ⊢
        refine RW.load (κ := .qui) (d := some 44) (r := [(7, .qui), (12, .qui), (14, .qui), (15, .qui), (1, .chn), (8, .chn), (16, .seq), (17, .seq), (18, .seq), (19, .seq)]) (T := 62) (b := rb) (o' := 4) (k := 4) (v := .slice rta ts.length rtc) (by as_aux_lemma => kernel_rfl) (H.cells 0 rfl) rfl (by as_aux_lemma => kernel_rfl) ?_
        have H : Hp w S O [(rb, .cells #[.slice ra now.length rc, .int .i64 num, .int .i64 den, .int .i64 slack, .slice rta ts.length rtc] 64 (0, 0))] [] [Rp (Shape.slice rtS) [.slice rta ts.length rtc] ts] _ := H.freezeW 0 rfl
        refine RW.slice (κ := .qui) (d := some 46) (r := [(12, .qui), (14, .qui), (15, .qui), (1, .chn), (8, .chn), (16, .seq), (17, .seq), (18, .seq), (19, .seq)]) (T := 62) (e := 66) (sh := rtS) (a := rta) (len := ts.length) (cap := rtc) (zs := (ts.take k)) (lv := none) (hv := (some (.int .i64 (k : Int)))) (by as_aux_lemma => kernel_rfl) (by as_aux_lemma => kernel_rfl) H 0 rfl 0 k .nil (.mk (by omega)) (by omega) (by omega) (by rw [List.drop_zero]) ?_
        intro a29 H
        refine RW.load (κ := .qui) (d := some 51) (r := [(14, .qui), (15, .qui), (1, .chn), (8, .chn), (16, .seq), (17, .seq), (18, .seq), (19, .seq)]) (T := 62) (b := rb) (o' := 4) (k := 4) (v := .slice rta ts.length rtc) (by as_aux_lemma => kernel_rfl) (H.cells 0 rfl) rfl (by as_aux_lemma => kernel_rfl) ?_
        refine RW.wr64 (κ := .qui) (d := some 53) (r := [(15, .qui), (1, .chn), (8, .chn), (16, .seq), (17, .seq), (18, .seq), (19, .seq)]) (t := (k : Int) + 1) (by as_aux_lemma => kernel_rfl) (by omega) ?_
        refine RW.slice (κ := .qui) (d := some 54) (r := [(1, .chn), (8, .chn), (16, .seq), (17, .seq), (18, .seq), (19, .seq)]) (T := 62) (e := 66) (sh := rtS) (a := rta) (len := ts.length) (cap := rtc) (zs := (ts.drop (k + 1))) (lv := (some (.int .i64 ((k : Int) + 1)))) (hv := none) (by as_aux_lemma => kernel_rfl) (by as_aux_lemma => kernel_rfl) H 1 rfl (k + 1) ts.length (.mk (by omega)) .nil (by omega) (by omega) (by rw [List.take_of_length_le (Nat.le_refl _)]) ?_
        intro a30 H
        refine RW.new (κ := .chn) (d := some 40) (r := [(8, .chn), (16, .seq), (17, .seq), (18, .seq), (19, .seq)]) (o := .cells #[] 66 (0, 0)) (v := fun b => .slice (some ⟨b, 0, none⟩) 0 0) (fun b => by as_aux_lemma => kernel_rfl) (nofun) H ?_
        intro b31 w32 H
        have H := H.toOwn (sh := rtS) (xs := []) (cap := 0) (by rfl) (Nat.le_refl _) (Nat.zero_le _) (by simp) EsP.nil
        have H : Hp w S O [(rb, .cells #[.slice ra now.length rc, .int .i64 num, .int .i64 den, .int .i64 slack, .slice rta ts.length rtc] 64 (0, 0))] [⟨rtS, 66, .slice (some ⟨b31, 0, none⟩) 0 0, []⟩] [Rp (Shape.slice rtS) [.slice a30 ((ts.drop (k + 1)).length) (rtc - (k + 1))] (ts.drop (k + 1)), Rp (Shape.slice rtS) [.slice a29 ((ts.take k).length) rtc] (ts.take k), Rp (Shape.slice rtS) [.slice rta ts.length rtc] ts] _ := H
        refine RW.appendO (κ := .chn) (d := some 47) (r := [(16, .seq), (17, .seq), (18, .seq), (19, .seq)]) (T := 62) (ty := 62) (e := 66) (m := 3) (by_ := 24) (a0 := (some ⟨b31, 0, none⟩)) (a2 := a29) (l2 := ((ts.take k).length)) (c2 := rtc) (ys := (ts.take k)) (by as_aux_lemma => kernel_rfl) (nofun) (.inr ⟨_, rfl⟩) (by as_aux_lemma => kernel_rfl) rfl H 0 rfl 1 rfl (by rw [List.length_take]; omega) ?_
        intro a33 c34 w36 H hc35
        have H : Hp w S O [(rb, .cells #[.slice ra now.length rc, .int .i64 num, .int .i64 den, .int .i64 slack, .slice rta ts.length rtc] 64 (0, 0))] [⟨rtS, 66, .slice a33 ((ts.take k).length) c34, (ts.take k)⟩] [Rp (Shape.slice rtS) [.slice a30 ((ts.drop (k + 1)).length) (rtc - (k + 1))] (ts.drop (k + 1)), Rp (Shape.slice rtS) [.slice a29 ((ts.take k).length) rtc] (ts.take k), Rp (Shape.slice rtS) [.slice rta ts.length rtc] ts] _ := H
        refine RW.appendW (d := some 55) (r := [(17, .seq), (18, .seq), (19, .seq)]) (T := 62) (ty := 62) (e := 66) (m := 3) (by_ := 24) (v := .slice a33 ((ts.take k).length) c34) (a2 := a30) (l2 := ((ts.drop (k + 1)).length)) (c2 := (rtc - (k + 1))) (zs := (ts.eraseP (isT node id))) (by as_aux_lemma => kernel_rfl) (by as_aux_lemma => kernel_rfl) rfl H 0 rfl 0 rfl (her.symm) (by have := erase_len node id ts; omega) ?_
        intro a37 c38 w40 H hc39
        have H : Hp w S O [(rb, .cells #[.slice ra now.length rc, .int .i64 num, .int .i64 den, .int .i64 slack, .slice rta ts.length rtc] 64 (0, 0))] [⟨rtS, 66, .slice a37 ((ts.eraseP (isT node id)).length) c38, (ts.eraseP (isT node id))⟩] [Rp (Shape.slice rtS) [.slice a30 ((ts.drop (k + 1)).length) (rtc - (k + 1))] (ts.drop (k + 1)), Rp (Shape.slice rtS) [.slice a29 ((ts.take k).length) rtc] (ts.take k), Rp (Shape.slice rtS) [.slice rta ts.length rtc] ts] _ := H
        refine RW.runP 2 [55, 57] [(19, .seq)] [(55, .slice a37 ((ts.eraseP (isT node id)).length) c38), (57, .pointer (some ⟨rb, 4, none⟩))] (by as_aux_lemma => kernel_rfl) (by as_aux_lemma => kernel_rfl) ?_
        refine RW.store (d := none) (r := []) (T := 62) (b := rb) (k := 4) (v := .slice a37 ((ts.eraseP (isT node id)).length) c38) (c' := #[.slice ra now.length rc, .int .i64 num, .int .i64 den, .int .i64 slack, .slice a37 ((ts.eraseP (isT node id)).length) c38]) (M' := [(rb, .cells #[.slice ra now.length rc, .int .i64 num, .int .i64 den, .int .i64 slack, .slice a37 ((ts.eraseP (isT node id)).length) c38] 64 (0, 0))]) (by as_aux_lemma => kernel_rfl) H 0 rfl (by as_aux_lemma => kernel_rfl) (by as_aux_lemma => kernel_rfl) ?_
        intro w41 H
        refine RW.fin 0 [] [] (by as_aux_lemma => kernel_rfl) ?_
        refine WK.run 2 [6] [.code (cd Try.prog 19 [1, 0, 1, 0, 0, 1, 0, 0, 1, 0, 2]), .inBlock 1, .code (cd Try.prog 19 [1, 0, 1, 0, 0, 2]), .inLoop (cd Try.prog 19 [1, 0, 1, 0, 0]), .inBlock 0, .code (cd Try.prog 19 [2])] [(6, .bool true)] (by as_aux_lemma => kernel_rfl) ?_
        refine WK.ret (v := .bool true) Try.func19 (by as_aux_lemma => kernel_rfl) (by as_aux_lemma => kernel_rfl) ?_
        refine ⟨_, rfl, ?_, _, _, H.pick [] rfl⟩
        rw [show ts.any (isT node id) = true from List.any_eq_true.2 ⟨ts[k], List.getElem_mem hkl, decide_eq_true (by constructor <;> assumption)⟩]
      · skip
        replace h27 := ne_of_beq_false h27
        refine WK.run 2 [0, 1, 2, 7] [.code (cd Try.prog 19 [1, 0, 1, 0, 0, 2]), .inLoop (cd Try.prog 19 [1, 0, 1, 0, 0]), .inBlock 0, .code (cd Try.prog 19 [2])] [(0, .pointer (some ⟨rb, 0, none⟩)), (1, .int .i64 node), (2, .int .i64 id), (7, .int .i64 (k : Int))] (by as_aux_lemma => kernel_rfl) ?_
        refine WK.reg1 (l := sq 0 3) (by as_aux_lemma => kernel_rfl) (by as_aux_lemma => kernel_rfl) ?_
        refine RW.runP 1 [0, 1, 2, 7, 15] (sq 1 3) [(0, .pointer (some ⟨rb, 0, none⟩)), (1, .int .i64 node), (2, .int .i64 id), (7, .int .i64 (k : Int)), (15, .int .i64 (k : Int))] (by as_aux_lemma => kernel_rfl) (by as_aux_lemma => kernel_rfl) ?_
        refine RW.wr64 (κ := .seq) (d := some 16) (r := (sq 2 3)) (t := (k : Int) + 1) (by as_aux_lemma => kernel_rfl) (by omega) ?_
        refine RW.fin 1 [0, 1, 2, 7] [(0, .pointer (some ⟨rb, 0, none⟩)), (1, .int .i64 node), (2, .int .i64 id), (7, .int .i64 ((k : Int) + 1))] (by as_aux_lemma => kernel_rfl) ?_
        exact WK.back (hback1 (k + 1) _ ⟨H, by omega, fun j t hj ht => by
              rcases Nat.lt_or_ge j k with hlt | hge
              · exact hinv0.2 j t hlt ht
              · obtain rfl : j = k := by omega
                rw [List.getElem?_eq_getElem hkl] at ht
                cases ht
                exact decide_eq_false (by rintro ⟨q1, q2⟩; contradiction)⟩ (by first | omega | (simp only []; omega))) (by as_aux_lemma => kernel_rfl)
    · skip
      replace h15 := ne_of_beq_false h15
      refine RW.fin 11 [0, 1, 2, 7, 38] [(0, .pointer (some ⟨rb, 0, none⟩)), (1, .int .i64 node), (2, .int .i64 id), (7, .int .i64 (k : Int)), (38, .bool false)] (by as_aux_lemma => kernel_rfl) ?_
      refine WK.run 3 [0, 1, 2, 7] [.code (cd Try.prog 19 [1, 0, 1, 0, 0, 2]), .inLoop (cd Try.prog 19 [1, 0, 1, 0, 0]), .inBlock 0, .code (cd Try.prog 19 [2])] [(0, .pointer (some ⟨rb, 0, none⟩)), (1, .int .i64 node), (2, .int .i64 id), (7, .int .i64 (k : Int))] (by as_aux_lemma => kernel_rfl) ?_
      refine WK.reg1 (l := sq 0 3) (by as_aux_lemma => kernel_rfl) (by as_aux_lemma => kernel_rfl) ?_
      refine RW.runP 1 [0, 1, 2, 7, 15] (sq 1 3) [(0, .pointer (some ⟨rb, 0, none⟩)), (1, .int .i64 node), (2, .int .i64 id), (7, .int .i64 (k : Int)), (15, .int .i64 (k : Int))] (by as_aux_lemma => kernel_rfl) (by as_aux_lemma => kernel_rfl) ?_
      refine RW.wr64 (κ := .seq) (d := some 16) (r := (sq 2 3)) (t := (k : Int) + 1) (by as_aux_lemma => kernel_rfl) (by omega) ?_
      refine RW.fin 1 [0, 1, 2, 7] [(0, .pointer (some ⟨rb, 0, none⟩)), (1, .int .i64 node), (2, .int .i64 id), (7, .int .i64 ((k : Int) + 1))] (by as_aux_lemma => kernel_rfl) ?_
      exact WK.back (hback1 (k + 1) _ ⟨H, by omega, fun j t hj ht => by
            rcases Nat.lt_or_ge j k with hlt | hge
            · exact hinv0.2 j t hlt ht
            · obtain rfl : j = k := by omega
              rw [List.getElem?_eq_getElem hkl] at ht
              cases ht
              exact decide_eq_false (by rintro ⟨q1, q2⟩; contradiction)⟩ (by first | omega | (simp only []; omega))) (by as_aux_lemma => kernel_rfl)
  · skip
    replace h3 := of_decide_eq_false h3
    refine WK.run 3 [6] [.code (cd Try.prog 19 [3])] [(6, .bool false)] (by as_aux_lemma => kernel_rfl) ?_
    refine WK.ret (v := .bool false) Try.func19 (by as_aux_lemma => kernel_rfl) (by as_aux_lemma => kernel_rfl) ?_
    obtain ⟨hn1, hn2⟩ := none_any (p := isT node id) (l := ts) fun j x hj hx => hinv0.2 j x (by omega) hx
    refine ⟨_, rfl, ?_, _, _, by rw [hn2]; exact H.pick [] rfl⟩
    rw [hn1]

theorem rset_spec {S : Nat → Prop} {w : World} {O : List Nat} {rb rc rtc : Nat} {ra rta : Option Addr} {now : List Int} {num den slack : Int} {ts : List Rt} (H0 : Hp w S O [(rb, .cells #[.slice ra now.length rc, .int .i64 num, .int .i64 den, .int .i64 slack, .slice rta ts.length rtc] 64 (0, 0))] [⟨rtS, 66, .slice rta ts.length rtc, ts⟩] [] w) (htl : ts.length ≤ 40000) (node id at_ : Int) (hib : (-9223372036854775808 ≤ node ∧ node ≤ 9223372036854775807) ∧ -9223372036854775808 ≤ id ∧ id ≤ 9223372036854775807) :
    Calls Try.prog 17 #[.pointer (some ⟨rb, 0, none⟩), .int .i64 node, .int .i64 id, .int .i64 at_] w (Ret fun v w' => v = .int .i64 (if rsetB now.length ts node id at_ = true then 2 else 0) ∧ ∃ (a : Option Addr) (c : Nat), Hp w S O [(rb, .cells #[.slice ra now.length rc, .int .i64 num, .int .i64 den, .int .i64 slack, .slice a ((rsetT now.length ts node id at_).length) c] 64 (0, 0))] [⟨rtS, 66, .slice a ((rsetT now.length ts node id at_).length) c, (rsetT now.length ts node id at_)⟩] [] w') := by
  refine WK.calls1 (fn := Try.f17) (n := 81) (σ := [(0, .pointer (some ⟨rb, 0, none⟩)), (1, .int .i64 node), (2, .int .i64 id), (3, .int .i64 at_)]) Try.func17 rfl (by as_aux_lemma => kernel_rfl) (by as_aux_lemma => kernel_rfl) (by as_aux_lemma => kernel_rfl) ?_
  have H := H0
  refine WK.run 4 [0, 1, 2, 3] [.code (cd Try.prog 17 [1, 0, 0]), .code (cd Try.prog 17 [1, 0, 1]), .code (cd Try.prog 17 [2])] [(0, .pointer (some ⟨rb, 0, none⟩)), (1, .int .i64 node), (2, .int .i64 id), (3, .int .i64 at_)] (by as_aux_lemma => kernel_rfl) ?_
  refine WK.reg1 (l := sq 0 12) (by as_aux_lemma => kernel_rfl) (by as_aux_lemma => kernel_rfl) ?_
  refine RW.runP 2 [0, 1, 2, 3, 12, 13] (sq 2 12) [(0, .pointer (some ⟨rb, 0, none⟩)), (1, .int .i64 node), (2, .int .i64 id), (3, .int .i64 at_), (12, .pointer (some ⟨rb, 0, none⟩)), (13, .int .i64 node)] (by as_aux_lemma => kernel_rfl) (by as_aux_lemma => kernel_rfl) ?_
  refine RW.call (κ := .seq) (d := some 14) (r := (sq 3 12)) (g := 31) (args := #[.pointer (some ⟨rb, 0, none⟩), .int .i64 node]) (by as_aux_lemma => kernel_rfl) (nofun) (has_spec (S := fun _ => True) (now := now) (H.viewM 0 rfl (by simp)) node) ?_
  rintro _ w1 hE2 rfl
  have H := H.ext hE2
  refine RW.runP 2 [0, 1, 2, 3, 16] (sq 5 12) [(0, .pointer (some ⟨rb, 0, none⟩)), (1, .int .i64 node), (2, .int .i64 id), (3, .int .i64 at_), (16, .bool (!(hasE now.length node)))] (by as_aux_lemma => kernel_rfl) (by as_aux_lemma => kernel_rfl) ?_
  refine RW.test (fun b_ => [(0, .pointer (some ⟨rb, 0, none⟩)), (1, .int .i64 node), (2, .int .i64 id), (3, .int .i64 at_), (16, .bool b_)]) (!(hasE now.length node)) (fun h3 => ?_) (fun h3 => ?_)
  · skip
    replace h3 : (hasE now.length node) = false := by revert h3; cases (hasE now.length node) <;> simp
    replace h3 := of_decide_eq_false h3
    refine RW.fin 7 [0, 1, 2, 3, 23] [(0, .pointer (some ⟨rb, 0, none⟩)), (1, .int .i64 node), (2, .int .i64 id), (3, .int .i64 at_), (23, .bool true)] (by as_aux_lemma => kernel_rfl) ?_
    refine WK.run 3 [8] [.code (cd Try.prog 17 [1, 0, 1, 0, 1]), .code (cd Try.prog 17 [2])] [(8, .int .i64 2)] (by as_aux_lemma => kernel_rfl) ?_
    refine WK.ret (v := .int .i64 2) Try.func17 (by as_aux_lemma => kernel_rfl) (by as_aux_lemma => kernel_rfl) ?_
    have hb : rsetB now.length ts node id at_ = true := decide_eq_true (by first | (left; assumption) | (right; left; omega) | (right; right; left; omega) | (right; right; right; refine ⟨by omega, ?_⟩; simp_all))
    refine ⟨_, rfl, by rw [hb]; rfl, ?_⟩
    unfold rsetT
    rw [hb]
    exact ⟨_, _, H.pick [] rfl⟩
  · skip
    replace h3 : (hasE now.length node) = true := by revert h3; cases (hasE now.length node) <;> simp
    replace h3 := of_decide_eq_true h3
    refine RW.runP 4 [0, 1, 2, 3, 20] (sq 9 12) [(0, .pointer (some ⟨rb, 0, none⟩)), (1, .int .i64 node), (2, .int .i64 id), (3, .int .i64 at_), (20, .bool (decide ((at_ : Int) < 0)))] (by as_aux_lemma => kernel_rfl) (by as_aux_lemma => kernel_rfl) ?_
    refine RW.test (fun b_ => [(0, .pointer (some ⟨rb, 0, none⟩)), (1, .int .i64 node), (2, .int .i64 id), (3, .int .i64 at_), (20, .bool b_)]) (decide ((at_ : Int) < 0)) (fun h4 => ?_) (fun h4 => ?_)
    · skip
      replace h4 := of_decide_eq_true h4
      refine RW.fin 3 [0, 1, 2, 3, 23] [(0, .pointer (some ⟨rb, 0, none⟩)), (1, .int .i64 node), (2, .int .i64 id), (3, .int .i64 at_), (23, .bool true)] (by as_aux_lemma => kernel_rfl) ?_
      refine WK.run 3 [8] [.code (cd Try.prog 17 [1, 0, 1, 0, 1]), .code (cd Try.prog 17 [2])] [(8, .int .i64 2)] (by as_aux_lemma => kernel_rfl) ?_
      refine WK.ret (v := .int .i64 2) Try.func17 (by as_aux_lemma => kernel_rfl) (by as_aux_lemma => kernel_rfl) ?_
      have hb : rsetB now.length ts node id at_ = true := decide_eq_true (by first | (left; assumption) | (right; left; omega) | (right; right; left; omega) | (right; right; right; refine ⟨by omega, ?_⟩; simp_all))
      refine ⟨_, rfl, by rw [hb]; rfl, ?_⟩
      unfold rsetT
      rw [hb]
      exact ⟨_, _, H.pick [] rfl⟩
    · skip
      replace h4 := of_decide_eq_false h4
      refine RW.fin 3 [0, 1, 2, 3, 23] [(0, .pointer (some ⟨rb, 0, none⟩)), (1, .int .i64 node), (2, .int .i64 id), (3, .int .i64 at_), (23, .bool (decide ((at_ : Int) > 1048576)))] (by as_aux_lemma => kernel_rfl) ?_
      refine WK.cond1 (decide ((at_ : Int) > 1048576)) (by as_aux_lemma => kernel_rfl) (by as_aux_lemma => kernel_rfl) (fun h5 => ?_) (fun h5 => ?_)
      · skip
        replace h5 := of_decide_eq_true h5
        refine WK.run 2 [8] [.code (cd Try.prog 17 [1, 0, 1, 0, 1]), .code (cd Try.prog 17 [2])] [(8, .int .i64 2)] (by as_aux_lemma => kernel_rfl) ?_
        refine WK.ret (v := .int .i64 2) Try.func17 (by as_aux_lemma => kernel_rfl) (by as_aux_lemma => kernel_rfl) ?_
        have hb : rsetB now.length ts node id at_ = true := decide_eq_true (by first | (left; assumption) | (right; left; omega) | (right; right; left; omega) | (right; right; right; refine ⟨by omega, ?_⟩; simp_all))
        refine ⟨_, rfl, by rw [hb]; rfl, ?_⟩
        unfold rsetT
        rw [hb]
        exact ⟨_, _, H.pick [] rfl⟩
      · skip
        replace h5 := of_decide_eq_false h5
        refine WK.run 9 [0, 1, 2, 3, 9, 10, 11] [.code (cd Try.prog 17 [4, 0, 1, 0]), .inBlock 0, .code (cd Try.prog 17 [5])] [(0, .pointer (some ⟨rb, 0, none⟩)), (1, .int .i64 node), (2, .int .i64 id), (3, .int .i64 at_), (9, .int .i64 0), (10, .bool false), (11, .int .i64 0)] (by as_aux_lemma => kernel_rfl) ?_
        refine WK.loop (α := Nat × Nat × Bool) (b := cd Try.prog 17 [4, 0, 1, 0, 0]) (by as_aux_lemma => kernel_rfl) (fun st_ => match st_ with | (k, m, th) => [(0, .pointer (some ⟨rb, 0, none⟩)), (1, .int .i64 node), (2, .int .i64 id), (3, .int .i64 at_), (9, .int .i64 (m : Int)), (10, .bool th), (11, .int .i64 (k : Int))]) (fun st_ w' => match st_ with | (k, m, th) => Hp w S O [(rb, .cells #[.slice ra now.length rc, .int .i64 num, .int .i64 den, .int .i64 slack, .slice rta ts.length rtc] 64 (0, 0))] [⟨rtS, 66, .slice rta ts.length rtc, ts⟩] [] w' ∧ k ≤ ts.length ∧ m ≤ k ∧ m = (onN node (ts.take k)).length ∧ th = (ts.take k).any (isT node id)) (fun st_ => match st_ with | (k, m, th) => ts.length - k) (0, 0, false) ⟨H, by omega, by omega, rfl, rfl⟩ (rfl) ?_
        rintro ⟨k, m, th⟩ w7 ⟨H, hinv0⟩ hback6
        refine WK.run 2 [0, 1, 2, 3, 9, 10, 11] [.code (cd Try.prog 17 [4, 0, 1, 0, 0, 0, 0]), .code (cd Try.prog 17 [4, 0, 1, 0, 0, 0, 1]), .code (cd Try.prog 17 [4, 0, 1, 0, 0, 1]), .inLoop (cd Try.prog 17 [4, 0, 1, 0, 0]), .inBlock 0, .code (cd Try.prog 17 [5])] [(0, .pointer (some ⟨rb, 0, none⟩)), (1, .int .i64 node), (2, .int .i64 id), (3, .int .i64 at_), (9, .int .i64 (m : Int)), (10, .bool th), (11, .int .i64 (k : Int))] (by as_aux_lemma => kernel_rfl) ?_
        refine WK.reg1 (l := sq 0 7) (by as_aux_lemma => kernel_rfl) (by as_aux_lemma => kernel_rfl) ?_
        refine RW.runP 4 [0, 1, 2, 3, 9, 10, 11, 24, 27] (sq 4 7) [(0, .pointer (some ⟨rb, 0, none⟩)), (1, .int .i64 node), (2, .int .i64 id), (3, .int .i64 at_), (9, .int .i64 (m : Int)), (10, .bool th), (11, .int .i64 (k : Int)), (24, .int .i64 (k : Int)), (27, .pointer (some ⟨rb, 4, none⟩))] (by as_aux_lemma => kernel_rfl) (by as_aux_lemma => kernel_rfl) ?_
        refine RW.load (κ := .seq) (d := some 28) (r := (sq 5 7)) (T := 62) (b := rb) (o' := 4) (k := 4) (v := .slice rta ts.length rtc) (by as_aux_lemma => kernel_rfl) (H.cells 0 rfl) rfl (by as_aux_lemma => kernel_rfl) ?_
        refine RW.fin 2 [0, 1, 2, 3, 9, 10, 11, 30] [(0, .pointer (some ⟨rb, 0, none⟩)), (1, .int .i64 node), (2, .int .i64 id), (3, .int .i64 at_), (9, .int .i64 (m : Int)), (10, .bool th), (11, .int .i64 (k : Int)), (30, .bool (decide (((k : Int) : Int) < ((ts.length : Nat) : Int))))] (by as_aux_lemma => kernel_rfl) ?_
        refine WK.cond1 (decide (((k : Int) : Int) < ((ts.length : Nat) : Int))) (by as_aux_lemma => kernel_rfl) (by as_aux_lemma => kernel_rfl) (fun h8 => ?_) (fun h8 => ?_)
        · skip
          replace h8 := of_decide_eq_true h8
          have hkl : k < ts.length := by omega
          refine WK.run 4 [0, 1, 2, 3, 9, 10, 11] [.code (cd Try.prog 17 [4, 0, 1, 0, 0, 1, 0, 0, 0]), .code (cd Try.prog 17 [4, 0, 1, 0, 0, 1, 0, 0, 1]), .inBlock 1, .code (cd Try.prog 17 [4, 0, 1, 0, 0, 2]), .inLoop (cd Try.prog 17 [4, 0, 1, 0, 0]), .inBlock 0, .code (cd Try.prog 17 [5])] [(0, .pointer (some ⟨rb, 0, none⟩)), (1, .int .i64 node), (2, .int .i64 id), (3, .int .i64 at_), (9, .int .i64 (m : Int)), (10, .bool th), (11, .int .i64 (k : Int))] (by as_aux_lemma => kernel_rfl) ?_
          refine WK.reg1 (l := sq 0 10) (by as_aux_lemma => kernel_rfl) (by as_aux_lemma => kernel_rfl) ?_
          refine RW.runP 3 [0, 1, 2, 3, 9, 10, 11, 35] (sq 3 10) [(0, .pointer (some ⟨rb, 0, none⟩)), (1, .int .i64 node), (2, .int .i64 id), (3, .int .i64 at_), (9, .int .i64 (m : Int)), (10, .bool th), (11, .int .i64 (k : Int)), (35, .pointer (some ⟨rb, 4, none⟩))] (by as_aux_lemma => kernel_rfl) (by as_aux_lemma => kernel_rfl) ?_
          refine RW.load (κ := .seq) (d := some 36) (r := (sq 4 10)) (T := 62) (b := rb) (o' := 4) (k := 4) (v := .slice rta ts.length rtc) (by as_aux_lemma => kernel_rfl) (H.cells 0 rfl) rfl (by as_aux_lemma => kernel_rfl) ?_
          refine RW.runP 1 [0, 1, 2, 3, 9, 10, 11, 36, 37] (sq 5 10) [(0, .pointer (some ⟨rb, 0, none⟩)), (1, .int .i64 node), (2, .int .i64 id), (3, .int .i64 at_), (9, .int .i64 (m : Int)), (10, .bool th), (11, .int .i64 (k : Int)), (36, .slice rta ts.length rtc), (37, .int .i64 (k : Int))] (by as_aux_lemma => kernel_rfl) (by as_aux_lemma => kernel_rfl) ?_
          have hn10 : ts.length = ts.length := rfl
          have hx9 : k < ts.length := by omega
          refine RW.indexW (κ := .seq) (d := some 38) (r := (sq 6 10)) (T := 62) (e := 66) (m := 3) (ik := .i64) (ix := (k : Int)) (sh := rtS) (xs := ts) (a := rta) (len := ts.length) (cap := rtc) (by as_aux_lemma => kernel_rfl) (by as_aux_lemma => kernel_rfl) rfl H k (by omega) hx9 hn10 ?_
          intro b11 es12 ha13 hcell14 hr15
          obtain ⟨rfl, hf17, hf18, hf19⟩ := rt_open hr15
          refine RW.runP 1 [0, 1, 2, 3, 9, 10, 11, 39] (sq 7 10) [(0, .pointer (some ⟨rb, 0, none⟩)), (1, .int .i64 node), (2, .int .i64 id), (3, .int .i64 at_), (9, .int .i64 (m : Int)), (10, .bool th), (11, .int .i64 (k : Int)), (39, .pointer (some ⟨b11, k * 3, none⟩))] (by as_aux_lemma => kernel_rfl) (by as_aux_lemma => kernel_rfl) ?_
          refine RW.load (κ := .seq) (d := some 40) (r := (sq 8 10)) (T := 3) (b := b11) (o' := k * 3) (k := 0) (v := .int .i64 ((ts[k]).node)) (by as_aux_lemma => kernel_rfl) hcell14 rfl (by as_aux_lemma => kernel_rfl) ?_
          refine RW.fin 2 [0, 1, 2, 3, 9, 10, 11, 42] [(0, .pointer (some ⟨rb, 0, none⟩)), (1, .int .i64 node), (2, .int .i64 id), (3, .int .i64 at_), (9, .int .i64 (m : Int)), (10, .bool th), (11, .int .i64 (k : Int)), (42, .bool (((ts[k]).node) == node))] (by as_aux_lemma => kernel_rfl) ?_
          refine WK.cond1 (((ts[k]).node) == node) (by as_aux_lemma => kernel_rfl) (by as_aux_lemma => kernel_rfl) (fun h20 => ?_) (fun h20 => ?_)
          · skip
            replace h20 := eq_of_beq h20
            refine WK.run 1 [0, 1, 2, 3, 9, 10, 11] [.code (cd Try.prog 17 [4, 0, 1, 0, 0, 1, 0, 0, 1, 0, 0]), .code (cd Try.prog 17 [4, 0, 1, 0, 0, 1, 0, 0, 1, 0, 1]), .inBlock 1, .code (cd Try.prog 17 [4, 0, 1, 0, 0, 2]), .inLoop (cd Try.prog 17 [4, 0, 1, 0, 0]), .inBlock 0, .code (cd Try.prog 17 [5])] [(0, .pointer (some ⟨rb, 0, none⟩)), (1, .int .i64 node), (2, .int .i64 id), (3, .int .i64 at_), (9, .int .i64 (m : Int)), (10, .bool th), (11, .int .i64 (k : Int))] (by as_aux_lemma => kernel_rfl) ?_
            refine WK.reg1 (l := sq 0 3) (by as_aux_lemma => kernel_rfl) (by as_aux_lemma => kernel_rfl) ?_
            refine RW.runP 1 [0, 1, 2, 3, 9, 10, 11, 43] (sq 1 3) [(0, .pointer (some ⟨rb, 0, none⟩)), (1, .int .i64 node), (2, .int .i64 id), (3, .int .i64 at_), (9, .int .i64 (m : Int)), (10, .bool th), (11, .int .i64 (k : Int)), (43, .int .i64 (m : Int))] (by as_aux_lemma => kernel_rfl) (by as_aux_lemma => kernel_rfl) ?_
            refine RW.wr64 (κ := .seq) (d := some 44) (r := (sq 2 3)) (t := (m : Int) + 1) (by as_aux_lemma => kernel_rfl) (by omega) ?_
            refine RW.fin 1 [0, 1, 2, 3, 9, 10, 11] [(0, .pointer (some ⟨rb, 0, none⟩)), (1, .int .i64 node), (2, .int .i64 id), (3, .int .i64 at_), (9, .int .i64 ((m : Int) + 1)), (10, .bool th), (11, .int .i64 (k : Int))] (by as_aux_lemma => kernel_rfl) ?_
            refine WK.reg1 (l := sq 0 14) (by as_aux_lemma => kernel_rfl) (by as_aux_lemma => kernel_rfl) ?_
            refine RW.runP 2 [0, 1, 2, 3, 9, 10, 11, 46] (sq 2 14) [(0, .pointer (some ⟨rb, 0, none⟩)), (1, .int .i64 node), (2, .int .i64 id), (3, .int .i64 at_), (9, .int .i64 ((m : Int) + 1)), (10, .bool th), (11, .int .i64 (k : Int)), (46, .bool th)] (by as_aux_lemma => kernel_rfl) (by as_aux_lemma => kernel_rfl) ?_
            refine RW.test (fun b_ => [(0, .pointer (some ⟨rb, 0, none⟩)), (1, .int .i64 node), (2, .int .i64 id), (3, .int .i64 at_), (9, .int .i64 ((m : Int) + 1)), (10, .bool th), (11, .int .i64 (k : Int)), (46, .bool b_)]) th (fun h21 => ?_) (fun h21 => ?_)
            · skip
              refine RW.fin 12 [0, 1, 2, 3, 9, 10, 11] [(0, .pointer (some ⟨rb, 0, none⟩)), (1, .int .i64 node), (2, .int .i64 id), (3, .int .i64 at_), (9, .int .i64 ((m : Int) + 1)), (10, .bool true), (11, .int .i64 (k : Int))] (by as_aux_lemma => kernel_rfl) ?_
              refine WK.run 1 [0, 1, 2, 3, 9, 10, 11] [.code (cd Try.prog 17 [4, 0, 1, 0, 0, 2]), .inLoop (cd Try.prog 17 [4, 0, 1, 0, 0]), .inBlock 0, .code (cd Try.prog 17 [5])] [(0, .pointer (some ⟨rb, 0, none⟩)), (1, .int .i64 node), (2, .int .i64 id), (3, .int .i64 at_), (9, .int .i64 ((m : Int) + 1)), (10, .bool true), (11, .int .i64 (k : Int))] (by as_aux_lemma => kernel_rfl) ?_
              refine WK.reg1 (l := sq 0 3) (by as_aux_lemma => kernel_rfl) (by as_aux_lemma => kernel_rfl) ?_
              refine RW.runP 1 [0, 1, 2, 3, 9, 10, 11, 31] (sq 1 3) [(0, .pointer (some ⟨rb, 0, none⟩)), (1, .int .i64 node), (2, .int .i64 id), (3, .int .i64 at_), (9, .int .i64 ((m : Int) + 1)), (10, .bool true), (11, .int .i64 (k : Int)), (31, .int .i64 (k : Int))] (by as_aux_lemma => kernel_rfl) (by as_aux_lemma => kernel_rfl) ?_
              refine RW.wr64 (κ := .seq) (d := some 32) (r := (sq 2 3)) (t := (k : Int) + 1) (by as_aux_lemma => kernel_rfl) (by omega) ?_
              refine RW.fin 1 [0, 1, 2, 3, 9, 10, 11] [(0, .pointer (some ⟨rb, 0, none⟩)), (1, .int .i64 node), (2, .int .i64 id), (3, .int .i64 at_), (9, .int .i64 ((m : Int) + 1)), (10, .bool true), (11, .int .i64 ((k : Int) + 1))] (by as_aux_lemma => kernel_rfl) ?_
              exact WK.back (hback6 (k + 1, m + 1, true) _ ⟨H, by omega, by omega, by rw [onN_take hkl]; first | (rw [if_pos (by assumption)]; simp only [List.length_append, List.length_cons, List.length_nil]; omega) | (rw [if_neg (by assumption), List.append_nil]; exact hinv0.2.2.1), by rw [any_take hkl, ← hinv0.2.2.2]; first | exact th_a (by assumption) | exact th_b (by assumption) | exact th_c (by assumption) (by assumption)⟩ (by simp only []; omega)) (by as_aux_lemma => kernel_rfl)
            · skip
              refine RW.runP 3 [0, 1, 2, 3, 9, 10, 11, 46, 49] (sq 5 14) [(0, .pointer (some ⟨rb, 0, none⟩)), (1, .int .i64 node), (2, .int .i64 id), (3, .int .i64 at_), (9, .int .i64 ((m : Int) + 1)), (10, .bool th), (11, .int .i64 (k : Int)), (46, .bool false), (49, .pointer (some ⟨rb, 4, none⟩))] (by as_aux_lemma => kernel_rfl) (by as_aux_lemma => kernel_rfl) ?_
              refine RW.load (κ := .seq) (d := some 50) (r := (sq 6 14)) (T := 62) (b := rb) (o' := 4) (k := 4) (v := .slice rta ts.length rtc) (by as_aux_lemma => kernel_rfl) (H.cells 0 rfl) rfl (by as_aux_lemma => kernel_rfl) ?_
              refine RW.runP 1 [0, 1, 2, 3, 9, 10, 11, 46, 50, 51] (sq 7 14) [(0, .pointer (some ⟨rb, 0, none⟩)), (1, .int .i64 node), (2, .int .i64 id), (3, .int .i64 at_), (9, .int .i64 ((m : Int) + 1)), (10, .bool th), (11, .int .i64 (k : Int)), (46, .bool false), (50, .slice rta ts.length rtc), (51, .int .i64 (k : Int))] (by as_aux_lemma => kernel_rfl) (by as_aux_lemma => kernel_rfl) ?_
              have hn23 : ts.length = ts.length := rfl
              have hx22 : k < ts.length := by omega
              refine RW.indexW (κ := .seq) (d := some 52) (r := (sq 8 14)) (T := 62) (e := 66) (m := 3) (ik := .i64) (ix := (k : Int)) (sh := rtS) (xs := ts) (a := rta) (len := ts.length) (cap := rtc) (by as_aux_lemma => kernel_rfl) (by as_aux_lemma => kernel_rfl) rfl H k (by omega) hx22 hn23 ?_
              intro b24 es25 ha26 hcell27 hr28
              obtain ⟨rfl, hf30, hf31, hf32⟩ := rt_open hr28
              refine RW.runP 1 [0, 1, 2, 3, 9, 10, 11, 46, 53] (sq 9 14) [(0, .pointer (some ⟨rb, 0, none⟩)), (1, .int .i64 node), (2, .int .i64 id), (3, .int .i64 at_), (9, .int .i64 ((m : Int) + 1)), (10, .bool th), (11, .int .i64 (k : Int)), (46, .bool false), (53, .pointer (some ⟨b24, k * 3 + 1, none⟩))] (by as_aux_lemma => kernel_rfl) (by as_aux_lemma => kernel_rfl) ?_
              refine RW.load (κ := .seq) (d := some 54) (r := (sq 10 14)) (T := 3) (b := b24) (o' := k * 3 + 1) (k := 1) (v := .int .i64 ((ts[k]).id)) (by as_aux_lemma => kernel_rfl) hcell27 rfl (by as_aux_lemma => kernel_rfl) ?_
              refine RW.fin 4 [0, 1, 2, 3, 9, 10, 11] [(0, .pointer (some ⟨rb, 0, none⟩)), (1, .int .i64 node), (2, .int .i64 id), (3, .int .i64 at_), (9, .int .i64 ((m : Int) + 1)), (10, .bool (((ts[k]).id) == id)), (11, .int .i64 (k : Int))] (by as_aux_lemma => kernel_rfl) ?_
              refine WK.run 1 [0, 1, 2, 3, 9, 10, 11] [.code (cd Try.prog 17 [4, 0, 1, 0, 0, 2]), .inLoop (cd Try.prog 17 [4, 0, 1, 0, 0]), .inBlock 0, .code (cd Try.prog 17 [5])] [(0, .pointer (some ⟨rb, 0, none⟩)), (1, .int .i64 node), (2, .int .i64 id), (3, .int .i64 at_), (9, .int .i64 ((m : Int) + 1)), (10, .bool (((ts[k]).id) == id)), (11, .int .i64 (k : Int))] (by as_aux_lemma => kernel_rfl) ?_
              refine WK.reg1 (l := sq 0 3) (by as_aux_lemma => kernel_rfl) (by as_aux_lemma => kernel_rfl) ?_
              refine RW.runP 1 [0, 1, 2, 3, 9, 10, 11, 31] (sq 1 3) [(0, .pointer (some ⟨rb, 0, none⟩)), (1, .int .i64 node), (2, .int .i64 id), (3, .int .i64 at_), (9, .int .i64 ((m : Int) + 1)), (10, .bool (((ts[k]).id) == id)), (11, .int .i64 (k : Int)), (31, .int .i64 (k : Int))] (by as_aux_lemma => kernel_rfl) (by as_aux_lemma => kernel_rfl) ?_
              refine RW.wr64 (κ := .seq) (d := some 32) (r := (sq 2 3)) (t := (k : Int) + 1) (by as_aux_lemma => kernel_rfl) (by omega) ?_
              refine RW.fin 1 [0, 1, 2, 3, 9, 10, 11] [(0, .pointer (some ⟨rb, 0, none⟩)), (1, .int .i64 node), (2, .int .i64 id), (3, .int .i64 at_), (9, .int .i64 ((m : Int) + 1)), (10, .bool (((ts[k]).id) == id)), (11, .int .i64 ((k : Int) + 1))] (by as_aux_lemma => kernel_rfl) ?_
              exact WK.back (hback6 (k + 1, m + 1, ((ts[k]).id) == id) _ ⟨H, by omega, by omega, by rw [onN_take hkl]; first | (rw [if_pos (by assumption)]; simp only [List.length_append, List.length_cons, List.length_nil]; omega) | (rw [if_neg (by assumption), List.append_nil]; exact hinv0.2.2.1), by rw [any_take hkl, ← hinv0.2.2.2]; first | exact th_a (by assumption) | exact th_b (by assumption) | exact th_c (by assumption) (by assumption)⟩ (by simp only []; omega)) (by as_aux_lemma => kernel_rfl)
          · skip
            replace h20 := ne_of_beq_false h20
            refine WK.run 2 [0, 1, 2, 3, 9, 10, 11] [.code (cd Try.prog 17 [4, 0, 1, 0, 0, 2]), .inLoop (cd Try.prog 17 [4, 0, 1, 0, 0]), .inBlock 0, .code (cd Try.prog 17 [5])] [(0, .pointer (some ⟨rb, 0, none⟩)), (1, .int .i64 node), (2, .int .i64 id), (3, .int .i64 at_), (9, .int .i64 (m : Int)), (10, .bool th), (11, .int .i64 (k : Int))] (by as_aux_lemma => kernel_rfl) ?_
            refine WK.reg1 (l := sq 0 3) (by as_aux_lemma => kernel_rfl) (by as_aux_lemma => kernel_rfl) ?_
            refine RW.runP 1 [0, 1, 2, 3, 9, 10, 11, 31] (sq 1 3) [(0, .pointer (some ⟨rb, 0, none⟩)), (1, .int .i64 node), (2, .int .i64 id), (3, .int .i64 at_), (9, .int .i64 (m : Int)), (10, .bool th), (11, .int .i64 (k : Int)), (31, .int .i64 (k : Int))] (by as_aux_lemma => kernel_rfl) (by as_aux_lemma => kernel_rfl) ?_
            refine RW.wr64 (κ := .seq) (d := some 32) (r := (sq 2 3)) (t := (k : Int) + 1) (by as_aux_lemma => kernel_rfl) (by omega) ?_
            refine RW.fin 1 [0, 1, 2, 3, 9, 10, 11] [(0, .pointer (some ⟨rb, 0, none⟩)), (1, .int .i64 node), (2, .int .i64 id), (3, .int .i64 at_), (9, .int .i64 (m : Int)), (10, .bool th), (11, .int .i64 ((k : Int) + 1))] (by as_aux_lemma => kernel_rfl) ?_
            exact WK.back (hback6 (k + 1, m, th) _ ⟨H, by omega, by omega, by rw [onN_take hkl]; first | (rw [if_pos (by assumption)]; simp only [List.length_append, List.length_cons, List.length_nil]; omega) | (rw [if_neg (by assumption), List.append_nil]; exact hinv0.2.2.1), by rw [any_take hkl, ← hinv0.2.2.2]; first | exact th_a (by assumption) | exact th_b (by assumption) | exact th_c (by assumption) (by assumption)⟩ (by simp only []; omega)) (by as_aux_lemma => kernel_rfl)
        · skip
          replace h8 := of_decide_eq_false h8
          obtain rfl : k = ts.length := by omega
          rw [List.take_length] at hinv0
          refine WK.run 3 [0, 1, 2, 3, 9, 10] [.code (cd Try.prog 17 [5, 0, 0]), .code (cd Try.prog 17 [5, 0, 1]), .code (cd Try.prog 17 [6])] [(0, .pointer (some ⟨rb, 0, none⟩)), (1, .int .i64 node), (2, .int .i64 id), (3, .int .i64 at_), (9, .int .i64 (m : Int)), (10, .bool th)] (by as_aux_lemma => kernel_rfl) ?_
          refine WK.reg1 (l := sq 0 6) (by as_aux_lemma => kernel_rfl) (by as_aux_lemma => kernel_rfl) ?_
          refine RW.runP 3 [0, 1, 2, 3, 10, 60] (sq 3 6) [(0, .pointer (some ⟨rb, 0, none⟩)), (1, .int .i64 node), (2, .int .i64 id), (3, .int .i64 at_), (10, .bool th), (60, .bool (decide (((m : Int) : Int) ≥ 1000)))] (by as_aux_lemma => kernel_rfl) (by as_aux_lemma => kernel_rfl) ?_
          refine RW.test (fun b_ => [(0, .pointer (some ⟨rb, 0, none⟩)), (1, .int .i64 node), (2, .int .i64 id), (3, .int .i64 at_), (10, .bool th), (60, .bool b_)]) (decide (((m : Int) : Int) ≥ 1000)) (fun h33 => ?_) (fun h33 => ?_)
          · skip
            replace h33 := of_decide_eq_true h33
            refine RW.fin 3 [0, 1, 2, 3, 63] [(0, .pointer (some ⟨rb, 0, none⟩)), (1, .int .i64 node), (2, .int .i64 id), (3, .int .i64 at_), (63, .bool (!th))] (by as_aux_lemma => kernel_rfl) ?_
            refine WK.cond1 (!th) (by as_aux_lemma => kernel_rfl) (by as_aux_lemma => kernel_rfl) (fun h34 => ?_) (fun h34 => ?_)
            · skip
              replace h34 : (th) = false := by revert h34; cases (th) <;> simp
              refine WK.run 2 [8] [.code (cd Try.prog 17 [5, 0, 1, 0, 1]), .code (cd Try.prog 17 [6])] [(8, .int .i64 2)] (by as_aux_lemma => kernel_rfl) ?_
              refine WK.ret (v := .int .i64 2) Try.func17 (by as_aux_lemma => kernel_rfl) (by as_aux_lemma => kernel_rfl) ?_
              have hb : rsetB now.length ts node id at_ = true := decide_eq_true (by first | (left; assumption) | (right; left; omega) | (right; right; left; omega) | (right; right; right; refine ⟨by omega, ?_⟩; simp_all))
              refine ⟨_, rfl, by rw [hb]; rfl, ?_⟩
              unfold rsetT
              rw [hb]
              exact ⟨_, _, H.pick [] rfl⟩
            · skip
              replace h34 : (th) = true := by revert h34; cases (th) <;> simp
              refine WK.run 2 [0, 1, 2, 3] [.code (cd Try.prog 17 [6, 0]), .code (cd Try.prog 17 [7])] [(0, .pointer (some ⟨rb, 0, none⟩)), (1, .int .i64 node), (2, .int .i64 id), (3, .int .i64 at_)] (by as_aux_lemma => kernel_rfl) ?_
              refine WK.reg1 (l := sq 0 4) (by as_aux_lemma => kernel_rfl) (by as_aux_lemma => kernel_rfl) ?_
              refine RW.runP 3 [0, 1, 2, 3, 64, 65, 66] (sq 3 4) [(0, .pointer (some ⟨rb, 0, none⟩)), (1, .int .i64 node), (2, .int .i64 id), (3, .int .i64 at_), (64, .pointer (some ⟨rb, 0, none⟩)), (65, .int .i64 node), (66, .int .i64 id)] (by as_aux_lemma => kernel_rfl) (by as_aux_lemma => kernel_rfl) ?_
              obtain ⟨te, hte⟩ : ∃ z, z = ts.eraseP (isT node id) := ⟨_, rfl⟩
              have htel : te.length ≤ ts.length := by rw [hte]; exact erase_len node id ts
              refine RW.callS (d := some 67) (r := (sq 4 4)) (g := 19) (args := #[.pointer (some ⟨rb, 0, none⟩), .int .i64 node, .int .i64 id]) (by as_aux_lemma => kernel_rfl) (rcan_spec ((H.lend (M1 := [(rb, .cells #[.slice ra now.length rc, .int .i64 num, .int .i64 den, .int .i64 slack, .slice rta ts.length rtc] 64 (0, 0))]) (W1 := [⟨rtS, 66, .slice rta ts.length rtc, ts⟩])).pick [] rfl) htl node id) ?_
              rintro v35 w36 ⟨hv, a, c, H'⟩
              have H := H.back (M1 := [(rb, .cells #[.slice ra now.length rc, .int .i64 num, .int .i64 den, .int .i64 slack, .slice rta ts.length rtc] 64 (0, 0))]) (W1 := [⟨rtS, 66, .slice rta ts.length rtc, ts⟩]) H'
              rw [← hte] at H
              subst hv
              have H : Hp w S O [(rb, .cells #[.slice ra now.length rc, .int .i64 num, .int .i64 den, .int .i64 slack, .slice a te.length c] 64 (0, 0))] [⟨rtS, 66, .slice a te.length c, te⟩] [] _ := H
              refine RW.fin 0 [0, 1, 2, 3] [(0, .pointer (some ⟨rb, 0, none⟩)), (1, .int .i64 node), (2, .int .i64 id), (3, .int .i64 at_)] (by as_aux_lemma => kernel_rfl) ?_
              refine WK.run 1 [0, 1, 2, 3] [.code (cd Try.prog 17 [7, 0]), .code (cd Try.prog 17 [8])] [(0, .pointer (some ⟨rb, 0, none⟩)), (1, .int .i64 node), (2, .int .i64 id), (3, .int .i64 at_)] (by as_aux_lemma => kernel_rfl) ?_
              refine WK.reg1 (l := sq 0 14) (by as_aux_lemma => kernel_rfl) (by as_aux_lemma => kernel_rfl) ?_
              refine RW.runP 4 [1, 2, 3, 68, 71] (sq 4 14) [(1, .int .i64 node), (2, .int .i64 id), (3, .int .i64 at_), (68, .pointer (some ⟨rb, 0, none⟩)), (71, .pointer (some ⟨rb, 4, none⟩))] (by as_aux_lemma => kernel_rfl) (by as_aux_lemma => kernel_rfl) ?_
              refine RW.load (κ := .seq) (d := some 72) (r := (sq 5 14)) (T := 62) (b := rb) (o' := 4) (k := 4) (v := .slice a te.length c) (by as_aux_lemma => kernel_rfl) (H.cells 0 rfl) rfl (by as_aux_lemma => kernel_rfl) ?_
              refine RW.runP 4 [68, 72, 76] (sq 9 14) [(68, .pointer (some ⟨rb, 0, none⟩)), (72, .slice a te.length c), (76, .agg #[.int .i64 node, .int .i64 id, .int .i64 at_])] (by as_aux_lemma => kernel_rfl) (by as_aux_lemma => kernel_rfl) ?_
              refine RW.new (κ := .seq) (d := some 77) (r := (sq 10 14)) (o := .cells #[.int .i64 node, .int .i64 id, .int .i64 at_] 66 (0, 0)) (v := fun b => .slice (some ⟨b, 0, none⟩) 1 1) (fun b => by as_aux_lemma => kernel_rfl) (nofun) H ?_
              intro b37 w38 H
              have H := H.freeze 0 rfl rtS ([⟨node, id, at_⟩] : List Rt) 1 (by simp [maxLen]) (by first | exact Nat.le_refl _ | simp) (EsP.cons (c := [.int .i64 node, .int .i64 id, .int .i64 at_]) (rt_mk (Shape.i64_in (by first | omega | (simp <;> omega)) (by first | omega | (simp <;> omega))) (Shape.i64_in (by first | omega | (simp <;> omega)) (by first | omega | (simp <;> omega))) (Shape.i64_in (by first | omega | (simp <;> omega)) (by first | omega | (simp <;> omega)))) EsP.nil)
              have H : Hp w S O [(rb, .cells #[.slice ra now.length rc, .int .i64 num, .int .i64 den, .int .i64 slack, .slice a te.length c] 64 (0, 0))] [⟨rtS, 66, .slice a te.length c, te⟩] [Rp (Shape.slice rtS) [.slice (some ⟨b37, 0, none⟩) 1 1] ([⟨node, id, at_⟩] : List Rt)] _ := H
              refine RW.appendW (d := some 78) (r := (sq 11 14)) (T := 62) (ty := 62) (e := 66) (m := 3) (by_ := 24) (v := .slice a te.length c) (a2 := (some ⟨b37, 0, none⟩)) (l2 := 1) (c2 := 1) (zs := te ++ ([⟨node, id, at_⟩] : List Rt)) (by as_aux_lemma => kernel_rfl) (by as_aux_lemma => kernel_rfl) rfl H 0 rfl 0 rfl (rfl) (by simp only [List.length_append, List.length_cons, List.length_nil]; omega) ?_
              intro a39 c40 w42 H hc41
              have H : Hp w S O [(rb, .cells #[.slice ra now.length rc, .int .i64 num, .int .i64 den, .int .i64 slack, .slice a te.length c] 64 (0, 0))] [⟨rtS, 66, .slice a39 ((te ++ ([⟨node, id, at_⟩] : List Rt)).length) c40, te ++ ([⟨node, id, at_⟩] : List Rt)⟩] [Rp (Shape.slice rtS) [.slice (some ⟨b37, 0, none⟩) 1 1] ([⟨node, id, at_⟩] : List Rt)] _ := H
              refine RW.runP 2 [78, 80] (sq 13 14) [(78, .slice a39 ((te ++ ([⟨node, id, at_⟩] : List Rt)).length) c40), (80, .pointer (some ⟨rb, 4, none⟩))] (by as_aux_lemma => kernel_rfl) (by as_aux_lemma => kernel_rfl) ?_
              refine RW.store (d := none) (r := (sq 14 14)) (T := 62) (b := rb) (k := 4) (v := .slice a39 ((te ++ ([⟨node, id, at_⟩] : List Rt)).length) c40) (c' := #[.slice ra now.length rc, .int .i64 num, .int .i64 den, .int .i64 slack, .slice a39 ((te ++ ([⟨node, id, at_⟩] : List Rt)).length) c40]) (M' := [(rb, .cells #[.slice ra now.length rc, .int .i64 num, .int .i64 den, .int .i64 slack, .slice a39 ((te ++ ([⟨node, id, at_⟩] : List Rt)).length) c40] 64 (0, 0))]) (by as_aux_lemma => kernel_rfl) H 0 rfl (by as_aux_lemma => kernel_rfl) (by as_aux_lemma => kernel_rfl) ?_
              intro w43 H
              refine RW.fin 0 [] [] (by as_aux_lemma => kernel_rfl) ?_
              refine WK.run 2 [8] [.code (cd Try.prog 17 [9])] [(8, .int .i64 0)] (by as_aux_lemma => kernel_rfl) ?_
              refine WK.ret (v := .int .i64 0) Try.func17 (by as_aux_lemma => kernel_rfl) (by as_aux_lemma => kernel_rfl) ?_
              have hb : rsetB now.length ts node id at_ = false := decide_eq_false (by rintro (hh | hh | hh | ⟨hh, hh2⟩) <;> first | omega | (exact hh (by assumption)) | simp_all)
              refine ⟨_, rfl, by rw [hb]; rfl, ?_⟩
              unfold rsetT
              rw [hb]
              rw [← hte]
              exact ⟨_, _, H.pick [] rfl⟩
          · skip
            replace h33 := of_decide_eq_false h33
            refine RW.fin 3 [0, 1, 2, 3, 63] [(0, .pointer (some ⟨rb, 0, none⟩)), (1, .int .i64 node), (2, .int .i64 id), (3, .int .i64 at_), (63, .bool false)] (by as_aux_lemma => kernel_rfl) ?_
            refine WK.run 3 [0, 1, 2, 3] [.code (cd Try.prog 17 [6, 0]), .code (cd Try.prog 17 [7])] [(0, .pointer (some ⟨rb, 0, none⟩)), (1, .int .i64 node), (2, .int .i64 id), (3, .int .i64 at_)] (by as_aux_lemma => kernel_rfl) ?_
            refine WK.reg1 (l := sq 0 4) (by as_aux_lemma => kernel_rfl) (by as_aux_lemma => kernel_rfl) ?_
            refine RW.runP 3 [0, 1, 2, 3, 64, 65, 66] (sq 3 4) [(0, .pointer (some ⟨rb, 0, none⟩)), (1, .int .i64 node), (2, .int .i64 id), (3, .int .i64 at_), (64, .pointer (some ⟨rb, 0, none⟩)), (65, .int .i64 node), (66, .int .i64 id)] (by as_aux_lemma => kernel_rfl) (by as_aux_lemma => kernel_rfl) ?_
            obtain ⟨te, hte⟩ : ∃ z, z = ts.eraseP (isT node id) := ⟨_, rfl⟩
            have htel : te.length ≤ ts.length := by rw [hte]; exact erase_len node id ts
            refine RW.callS (d := some 67) (r := (sq 4 4)) (g := 19) (args := #[.pointer (some ⟨rb, 0, none⟩), .int .i64 node, .int .i64 id]) (by as_aux_lemma => kernel_rfl) (rcan_spec ((H.lend (M1 := [(rb, .cells #[.slice ra now.length rc, .int .i64 num, .int .i64 den, .int .i64 slack, .slice rta ts.length rtc] 64 (0, 0))]) (W1 := [⟨rtS, 66, .slice rta ts.length rtc, ts⟩])).pick [] rfl) htl node id) ?_
            rintro v44 w45 ⟨hv, a, c, H'⟩
            have H := H.back (M1 := [(rb, .cells #[.slice ra now.length rc, .int .i64 num, .int .i64 den, .int .i64 slack, .slice rta ts.length rtc] 64 (0, 0))]) (W1 := [⟨rtS, 66, .slice rta ts.length rtc, ts⟩]) H'
            rw [← hte] at H
            subst hv
            have H : Hp w S O [(rb, .cells #[.slice ra now.length rc, .int .i64 num, .int .i64 den, .int .i64 slack, .slice a te.length c] 64 (0, 0))] [⟨rtS, 66, .slice a te.length c, te⟩] [] _ := H
            refine RW.fin 0 [0, 1, 2, 3] [(0, .pointer (some ⟨rb, 0, none⟩)), (1, .int .i64 node), (2, .int .i64 id), (3, .int .i64 at_)] (by as_aux_lemma => kernel_rfl) ?_
            refine WK.run 1 [0, 1, 2, 3] [.code (cd Try.prog 17 [7, 0]), .code (cd Try.prog 17 [8])] [(0, .pointer (some ⟨rb, 0, none⟩)), (1, .int .i64 node), (2, .int .i64 id), (3, .int .i64 at_)] (by as_aux_lemma => kernel_rfl) ?_
            refine WK.reg1 (l := sq 0 14) (by as_aux_lemma => kernel_rfl) (by as_aux_lemma => kernel_rfl) ?_
            refine RW.runP 4 [1, 2, 3, 68, 71] (sq 4 14) [(1, .int .i64 node), (2, .int .i64 id), (3, .int .i64 at_), (68, .pointer (some ⟨rb, 0, none⟩)), (71, .pointer (some ⟨rb, 4, none⟩))] (by as_aux_lemma => kernel_rfl) (by as_aux_lemma => kernel_rfl) ?_
            refine RW.load (κ := .seq) (d := some 72) (r := (sq 5 14)) (T := 62) (b := rb) (o' := 4) (k := 4) (v := .slice a te.length c) (by as_aux_lemma => kernel_rfl) (H.cells 0 rfl) rfl (by as_aux_lemma => kernel_rfl) ?_
            refine RW.runP 4 [68, 72, 76] (sq 9 14) [(68, .pointer (some ⟨rb, 0, none⟩)), (72, .slice a te.length c), (76, .agg #[.int .i64 node, .int .i64 id, .int .i64 at_])] (by as_aux_lemma => kernel_rfl) (by as_aux_lemma => kernel_rfl) ?_
            refine RW.new (κ := .seq) (d := some 77) (r := (sq 10 14)) (o := .cells #[.int .i64 node, .int .i64 id, .int .i64 at_] 66 (0, 0)) (v := fun b => .slice (some ⟨b, 0, none⟩) 1 1) (fun b => by as_aux_lemma => kernel_rfl) (nofun) H ?_
            intro b46 w47 H
            have H := H.freeze 0 rfl rtS ([⟨node, id, at_⟩] : List Rt) 1 (by simp [maxLen]) (by first | exact Nat.le_refl _ | simp) (EsP.cons (c := [.int .i64 node, .int .i64 id, .int .i64 at_]) (rt_mk (Shape.i64_in (by first | omega | (simp <;> omega)) (by first | omega | (simp <;> omega))) (Shape.i64_in (by first | omega | (simp <;> omega)) (by first | omega | (simp <;> omega))) (Shape.i64_in (by first | omega | (simp <;> omega)) (by first | omega | (simp <;> omega)))) EsP.nil)
            have H : Hp w S O [(rb, .cells #[.slice ra now.length rc, .int .i64 num, .int .i64 den, .int .i64 slack, .slice a te.length c] 64 (0, 0))] [⟨rtS, 66, .slice a te.length c, te⟩] [Rp (Shape.slice rtS) [.slice (some ⟨b46, 0, none⟩) 1 1] ([⟨node, id, at_⟩] : List Rt)] _ := H
            refine RW.appendW (d := some 78) (r := (sq 11 14)) (T := 62) (ty := 62) (e := 66) (m := 3) (by_ := 24) (v := .slice a te.length c) (a2 := (some ⟨b46, 0, none⟩)) (l2 := 1) (c2 := 1) (zs := te ++ ([⟨node, id, at_⟩] : List Rt)) (by as_aux_lemma => kernel_rfl) (by as_aux_lemma => kernel_rfl) rfl H 0 rfl 0 rfl (rfl) (by simp only [List.length_append, List.length_cons, List.length_nil]; omega) ?_
            intro a48 c49 w51 H hc50
            have H : Hp w S O [(rb, .cells #[.slice ra now.length rc, .int .i64 num, .int .i64 den, .int .i64 slack, .slice a te.length c] 64 (0, 0))] [⟨rtS, 66, .slice a48 ((te ++ ([⟨node, id, at_⟩] : List Rt)).length) c49, te ++ ([⟨node, id, at_⟩] : List Rt)⟩] [Rp (Shape.slice rtS) [.slice (some ⟨b46, 0, none⟩) 1 1] ([⟨node, id, at_⟩] : List Rt)] _ := H
            refine RW.runP 2 [78, 80] (sq 13 14) [(78, .slice a48 ((te ++ ([⟨node, id, at_⟩] : List Rt)).length) c49), (80, .pointer (some ⟨rb, 4, none⟩))] (by as_aux_lemma => kernel_rfl) (by as_aux_lemma => kernel_rfl) ?_
            refine RW.store (d := none) (r := (sq 14 14)) (T := 62) (b := rb) (k := 4) (v := .slice a48 ((te ++ ([⟨node, id, at_⟩] : List Rt)).length) c49) (c' := #[.slice ra now.length rc, .int .i64 num, .int .i64 den, .int .i64 slack, .slice a48 ((te ++ ([⟨node, id, at_⟩] : List Rt)).length) c49]) (M' := [(rb, .cells #[.slice ra now.length rc, .int .i64 num, .int .i64 den, .int .i64 slack, .slice a48 ((te ++ ([⟨node, id, at_⟩] : List Rt)).length) c49] 64 (0, 0))]) (by as_aux_lemma => kernel_rfl) H 0 rfl (by as_aux_lemma => kernel_rfl) (by as_aux_lemma => kernel_rfl) ?_
            intro w52 H
            refine RW.fin 0 [] [] (by as_aux_lemma => kernel_rfl) ?_
            refine WK.run 2 [8] [.code (cd Try.prog 17 [9])] [(8, .int .i64 0)] (by as_aux_lemma => kernel_rfl) ?_
            refine WK.ret (v := .int .i64 0) Try.func17 (by as_aux_lemma => kernel_rfl) (by as_aux_lemma => kernel_rfl) ?_
            have hb : rsetB now.length ts node id at_ = false := decide_eq_false (by rintro (hh | hh | hh | ⟨hh, hh2⟩) <;> first | omega | (exact hh (by assumption)) | simp_all)
            refine ⟨_, rfl, by rw [hb]; rfl, ?_⟩
            unfold rsetT
            rw [hb]
            rw [← hte]
            exact ⟨_, _, H.pick [] rfl⟩


end Go.Proofs.Ytghnicaefbdjfaa
