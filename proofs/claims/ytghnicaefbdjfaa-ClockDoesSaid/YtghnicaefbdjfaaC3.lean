import Derived.Test.YtghnicaefbdjfaaC2
namespace Go.Proofs.Ytghnicaefbdjfaa
open Go.BX

def newsH (bs : List Nat) : Heap := bs.map fun b => (b, mapO (Value.int .i64) (Value.int .i64) ([] : List (Int × Int × Nat)) 0)
theorem newsH_app (bs : List Nat) (b : Nat) : newsH (bs ++ [b]) = newsH bs ++ [(b, mapO (Value.int .i64) (Value.int .i64) ([] : List (Int × Int × Nat)) 0)] := by
  simp [newsH]

theorem new_ok {S : Nat → Prop} {w : World} {n : Nat} {num den slack : Int} (hn : 1 ≤ n ∧ n ≤ 32) (hd : 1 ≤ den) (hm : den ≤ num ∧ num ≤ 1000) (hs : 0 ≤ slack ∧ slack ≤ 1000) :
    Calls Try.prog 7 #[.int .i64 (n : Int), .int .i64 num, .int .i64 den, .int .i64 slack] w (Ret fun v w' => ∃ (cb nc tc : Nat) (na ta : Option Addr) (bs : List Nat), v = .tuple #[.pointer (some ⟨cb, 0, none⟩), .int .i64 0] ∧ bs.length = n ∧ Hp w S [] ((cb, .cells #[.slice na (List.replicate n (0 : Int)).length nc, .int .i64 num, .int .i64 den, .int .i64 slack, .slice ta bs.length tc] 47 (0, 0)) :: newsH bs) [⟨Shape.mref, 50, .slice ta bs.length tc, bs⟩, ⟨Shape.int .i64, 3, .slice na (List.replicate n (0 : Int)).length nc, List.replicate n 0⟩] [] w') := by
  refine WK.calls1 (fn := Try.f7) (n := 60) (σ := [(0, .int .i64 (n : Int)), (1, .int .i64 num), (2, .int .i64 den), (3, .int .i64 slack)]) Try.func7 rfl (by as_aux_lemma => kernel_rfl) (by as_aux_lemma => kernel_rfl) (by as_aux_lemma => kernel_rfl) ?_
  have H := Hp.startF (w := w) (S := S) (G := []) .nil
  refine WK.run 4 [0, 1, 2, 3] [.code (cd Try.prog 7 [1, 0, 0]), .code (cd Try.prog 7 [1, 0, 1]), .code (cd Try.prog 7 [2])] [(0, .int .i64 (n : Int)), (1, .int .i64 num), (2, .int .i64 den), (3, .int .i64 slack)] (by as_aux_lemma => kernel_rfl) ?_
  refine WK.reg1 (l := sq 0 27) (by as_aux_lemma => kernel_rfl) (by as_aux_lemma => kernel_rfl) ?_
  refine RW.runP 3 [0, 1, 2, 3, 13] (sq 3 27) [(0, .int .i64 (n : Int)), (1, .int .i64 num), (2, .int .i64 den), (3, .int .i64 slack), (13, .bool (decide (((n : Int) : Int) < 1)))] (by as_aux_lemma => kernel_rfl) (by as_aux_lemma => kernel_rfl) ?_
  refine RW.test (fun b_ => [(0, .int .i64 (n : Int)), (1, .int .i64 num), (2, .int .i64 den), (3, .int .i64 slack), (13, .bool b_)]) (decide (((n : Int) : Int) < 1)) (fun h1 => ?_) (fun h1 => ?_)
  · skip
    replace h1 := of_decide_eq_true h1
    omega
  · skip
    replace h1 := of_decide_eq_false h1
    refine RW.runP 4 [0, 1, 2, 3, 17] (sq 7 27) [(0, .int .i64 (n : Int)), (1, .int .i64 num), (2, .int .i64 den), (3, .int .i64 slack), (17, .bool (decide (((n : Int) : Int) > 32)))] (by as_aux_lemma => kernel_rfl) (by as_aux_lemma => kernel_rfl) ?_
    refine RW.test (fun b_ => [(0, .int .i64 (n : Int)), (1, .int .i64 num), (2, .int .i64 den), (3, .int .i64 slack), (17, .bool b_)]) (decide (((n : Int) : Int) > 32)) (fun h2 => ?_) (fun h2 => ?_)
    · skip
      replace h2 := of_decide_eq_true h2
      omega
    · skip
      replace h2 := of_decide_eq_false h2
      refine RW.runP 4 [0, 1, 2, 3, 21] (sq 11 27) [(0, .int .i64 (n : Int)), (1, .int .i64 num), (2, .int .i64 den), (3, .int .i64 slack), (21, .bool (decide ((den : Int) < 1)))] (by as_aux_lemma => kernel_rfl) (by as_aux_lemma => kernel_rfl) ?_
      refine RW.test (fun b_ => [(0, .int .i64 (n : Int)), (1, .int .i64 num), (2, .int .i64 den), (3, .int .i64 slack), (21, .bool b_)]) (decide ((den : Int) < 1)) (fun h3 => ?_) (fun h3 => ?_)
      · skip
        replace h3 := of_decide_eq_true h3
        omega
      · skip
        replace h3 := of_decide_eq_false h3
        refine RW.runP 5 [0, 1, 2, 3, 26] (sq 16 27) [(0, .int .i64 (n : Int)), (1, .int .i64 num), (2, .int .i64 den), (3, .int .i64 slack), (26, .bool (decide ((den : Int) > num)))] (by as_aux_lemma => kernel_rfl) (by as_aux_lemma => kernel_rfl) ?_
        refine RW.test (fun b_ => [(0, .int .i64 (n : Int)), (1, .int .i64 num), (2, .int .i64 den), (3, .int .i64 slack), (26, .bool b_)]) (decide ((den : Int) > num)) (fun h4 => ?_) (fun h4 => ?_)
        · skip
          replace h4 := of_decide_eq_true h4
          omega
        · skip
          replace h4 := of_decide_eq_false h4
          refine RW.runP 4 [0, 1, 2, 3, 30] (sq 20 27) [(0, .int .i64 (n : Int)), (1, .int .i64 num), (2, .int .i64 den), (3, .int .i64 slack), (30, .bool (decide ((num : Int) > 1000)))] (by as_aux_lemma => kernel_rfl) (by as_aux_lemma => kernel_rfl) ?_
          refine RW.test (fun b_ => [(0, .int .i64 (n : Int)), (1, .int .i64 num), (2, .int .i64 den), (3, .int .i64 slack), (30, .bool b_)]) (decide ((num : Int) > 1000)) (fun h5 => ?_) (fun h5 => ?_)
          · skip
            replace h5 := of_decide_eq_true h5
            omega
          · skip
            replace h5 := of_decide_eq_false h5
            refine RW.runP 4 [0, 1, 2, 3, 34] (sq 24 27) [(0, .int .i64 (n : Int)), (1, .int .i64 num), (2, .int .i64 den), (3, .int .i64 slack), (34, .bool (decide ((slack : Int) < 0)))] (by as_aux_lemma => kernel_rfl) (by as_aux_lemma => kernel_rfl) ?_
            refine RW.test (fun b_ => [(0, .int .i64 (n : Int)), (1, .int .i64 num), (2, .int .i64 den), (3, .int .i64 slack), (34, .bool b_)]) (decide ((slack : Int) < 0)) (fun h6 => ?_) (fun h6 => ?_)
            · skip
              replace h6 := of_decide_eq_true h6
              omega
            · skip
              replace h6 := of_decide_eq_false h6
              refine RW.fin 3 [0, 1, 2, 3, 37] [(0, .int .i64 (n : Int)), (1, .int .i64 num), (2, .int .i64 den), (3, .int .i64 slack), (37, .bool (decide ((slack : Int) > 1000)))] (by as_aux_lemma => kernel_rfl) ?_
              refine WK.cond1 (decide ((slack : Int) > 1000)) (by as_aux_lemma => kernel_rfl) (by as_aux_lemma => kernel_rfl) (fun h7 => ?_) (fun h7 => ?_)
              · skip
                replace h7 := of_decide_eq_true h7
                omega
              · skip
                replace h7 := of_decide_eq_false h7
                refine WK.run 2 [0, 1, 2, 3] [.code (cd Try.prog 7 [2, 0]), .code (cd Try.prog 7 [3])] [(0, .int .i64 (n : Int)), (1, .int .i64 num), (2, .int .i64 den), (3, .int .i64 slack)] (by as_aux_lemma => kernel_rfl) ?_
                refine WK.reg1 (l := sq 0 8) (by as_aux_lemma => kernel_rfl) (by as_aux_lemma => kernel_rfl) ?_
                refine RW.runP 1 [0, 1, 2, 3, 38] (sq 1 8) [(0, .int .i64 (n : Int)), (1, .int .i64 num), (2, .int .i64 den), (3, .int .i64 slack), (38, .int .i64 (n : Int))] (by as_aux_lemma => kernel_rfl) (by as_aux_lemma => kernel_rfl) ?_
                refine RW.makeW (Shape.int .i64) (κ := .seq) (d := some 39) (r := (sq 2 8)) (T := 22) (e := 3) (by_ := 8) (v0 := .int .i64 0) (0 : Int) (kl := .i64) (kc := .i64) (lv := (n : Int)) (cv := (n : Int)) (by as_aux_lemma => kernel_rfl) (nofun) (by as_aux_lemma => kernel_rfl) rfl H n n (by omega) (by omega) (by omega) (by omega) (by omega) (fun _ _ => Shape.int_mk (by decide)) ?_
                intro b8 w9 H
                have H : Hp w S [] [] [⟨Shape.int .i64, 3, .slice (some ⟨b8, 0, none⟩) n n, (List.replicate n (0 : Int))⟩] [] _ := H
                refine RW.runP 4 [0, 43] (sq 6 8) [(0, .int .i64 (n : Int)), (43, .agg #[.slice (some ⟨b8, 0, none⟩) n n, .int .i64 num, .int .i64 den, .int .i64 slack, .slice none 0 0])] (by as_aux_lemma => kernel_rfl) (by as_aux_lemma => kernel_rfl) ?_
                refine RW.new (κ := .seq) (d := some 44) (r := (sq 7 8)) (o := .cells #[.slice (some ⟨b8, 0, none⟩) n n, .int .i64 num, .int .i64 den, .int .i64 slack, .slice none 0 0] 47 (0, 0)) (v := fun b => .pointer (some ⟨b, 0, none⟩)) (fun b => by as_aux_lemma => kernel_rfl) (nofun) H ?_
                intro b10 w11 H
                refine RW.fin 1 [0, 10] [(0, .int .i64 (n : Int)), (10, .pointer (some ⟨b10, 0, none⟩))] (by as_aux_lemma => kernel_rfl) ?_
                refine WK.run 4 [10, 45, 46] [.code (cd Try.prog 7 [3, 0, 1, 0]), .inBlock 0, .code (cd Try.prog 7 [4])] [(10, .pointer (some ⟨b10, 0, none⟩)), (45, .int .i64 (n : Int)), (46, .int .i64 0)] (by as_aux_lemma => kernel_rfl) ?_
                have H := H.ownNil Shape.mref 50
                have H : Hp w S [] ((b10, .cells #[.slice (some ⟨b8, 0, none⟩) n n, .int .i64 num, .int .i64 den, .int .i64 slack, .slice none (([] : List Nat).length) 0] 47 (0, 0)) :: (newsH ([] : List Nat))) [⟨Shape.mref, 50, .slice none (([] : List Nat).length) 0, ([] : List Nat)⟩, ⟨Shape.int .i64, 3, .slice (some ⟨b8, 0, none⟩) n n, (List.replicate n (0 : Int))⟩] [] w11 := H
                refine WK.loop (α := List Nat × Option Addr × Nat) (b := cd Try.prog 7 [3, 0, 1, 0, 0]) (by as_aux_lemma => kernel_rfl) (fun st_ => match st_ with | (bs, ta, tc) => [(10, .pointer (some ⟨b10, 0, none⟩)), (45, .int .i64 (n : Int)), (46, .int .i64 ((bs.length : Nat) : Int))]) (fun st_ w' => match st_ with | (bs, ta, tc) => Hp w S [] ((b10, .cells #[.slice (some ⟨b8, 0, none⟩) n n, .int .i64 num, .int .i64 den, .int .i64 slack, .slice ta bs.length tc] 47 (0, 0)) :: (newsH bs)) [⟨Shape.mref, 50, .slice ta bs.length tc, bs⟩, ⟨Shape.int .i64, 3, .slice (some ⟨b8, 0, none⟩) n n, (List.replicate n (0 : Int))⟩] [] w' ∧ bs.length ≤ n) (fun st_ => match st_ with | (bs, ta, tc) => n - bs.length) (([] : List Nat), none, 0) ⟨H, by simp⟩ (rfl) ?_
                rintro ⟨bs, ta, tc⟩ w13 ⟨H, hinv0⟩ hback12
                refine WK.run 3 [10, 45, 46, 47] [.code (cd Try.prog 7 [3, 0, 1, 0, 0, 1, 0]), .code (cd Try.prog 7 [3, 0, 1, 0, 0, 2]), .inLoop (cd Try.prog 7 [3, 0, 1, 0, 0]), .inBlock 0, .code (cd Try.prog 7 [4])] [(10, .pointer (some ⟨b10, 0, none⟩)), (45, .int .i64 (n : Int)), (46, .int .i64 ((bs.length : Nat) : Int)), (47, .bool (decide ((((bs.length : Nat) : Int) : Int) < (n : Int))))] (by as_aux_lemma => kernel_rfl) ?_
                refine WK.cond1 (decide ((((bs.length : Nat) : Int) : Int) < (n : Int))) (by as_aux_lemma => kernel_rfl) (by as_aux_lemma => kernel_rfl) (fun h14 => ?_) (fun h14 => ?_)
                · skip
                  replace h14 := of_decide_eq_true h14
                  refine WK.run 3 [10, 45, 46] [.code (cd Try.prog 7 [3, 0, 1, 0, 0, 2, 0, 0]), .inBlock 1, .code (cd Try.prog 7 [3, 0, 1, 0, 0, 3]), .inLoop (cd Try.prog 7 [3, 0, 1, 0, 0]), .inBlock 0, .code (cd Try.prog 7 [4])] [(10, .pointer (some ⟨b10, 0, none⟩)), (45, .int .i64 (n : Int)), (46, .int .i64 ((bs.length : Nat) : Int))] (by as_aux_lemma => kernel_rfl) ?_
                  refine WK.reg1 (l := sq 0 11) (by as_aux_lemma => kernel_rfl) (by as_aux_lemma => kernel_rfl) ?_
                  refine RW.runP 4 [10, 45, 46, 48, 51] (sq 4 11) [(10, .pointer (some ⟨b10, 0, none⟩)), (45, .int .i64 (n : Int)), (46, .int .i64 ((bs.length : Nat) : Int)), (48, .pointer (some ⟨b10, 0, none⟩)), (51, .pointer (some ⟨b10, 4, none⟩))] (by as_aux_lemma => kernel_rfl) (by as_aux_lemma => kernel_rfl) ?_
                  refine RW.load (κ := .seq) (d := some 52) (r := (sq 5 11)) (T := 45) (b := b10) (o' := 4) (k := 4) (v := .slice ta bs.length tc) (by as_aux_lemma => kernel_rfl) (H.cells 0 rfl) rfl (by as_aux_lemma => kernel_rfl) ?_
                  refine RW.new (κ := .seq) (d := some 53) (r := (sq 6 11)) (o := mapO (Value.int .i64) (Value.int .i64) ([] : List (Int × Int × Nat)) 0) (v := fun b_ => .map (some b_)) (fun _ => by as_aux_lemma => kernel_rfl) (nofun) H ?_
                  intro b15 w16 H
                  refine RW.new (κ := .seq) (d := some 54) (r := (sq 7 11)) (o := .cells #[.map (some b15)] 50 (0, 0)) (v := fun b => .slice (some ⟨b, 0, none⟩) 1 1) (fun b => by as_aux_lemma => kernel_rfl) (nofun) H ?_
                  intro b17 w18 H
                  have H := H.freeze 0 rfl Shape.mref ([b15] : List Nat) 1 (by simp [maxLen]) (by first | exact Nat.le_refl _ | simp) (EsP.cons (c := [.map (some b15)]) Shape.mref_mk EsP.nil)
                  have H : Hp w S [] ((b15, mapO (Value.int .i64) (Value.int .i64) ([] : List (Int × Int × Nat)) 0) :: (b10, .cells #[.slice (some ⟨b8, 0, none⟩) n n, .int .i64 num, .int .i64 den, .int .i64 slack, .slice ta bs.length tc] 47 (0, 0)) :: (newsH bs)) [⟨Shape.mref, 50, .slice ta bs.length tc, bs⟩, ⟨Shape.int .i64, 3, .slice (some ⟨b8, 0, none⟩) n n, (List.replicate n (0 : Int))⟩] [Rp (Shape.slice Shape.mref) [.slice (some ⟨b17, 0, none⟩) 1 1] ([b15] : List Nat)] _ := H
                  refine RW.appendW (d := some 55) (r := (sq 8 11)) (T := 45) (ty := 45) (e := 50) (m := 1) (by_ := 8) (v := .slice ta bs.length tc) (a2 := (some ⟨b17, 0, none⟩)) (l2 := 1) (c2 := 1) (zs := bs ++ ([b15] : List Nat)) (by as_aux_lemma => kernel_rfl) (by as_aux_lemma => kernel_rfl) rfl H 0 rfl 0 rfl (rfl) (by simp; omega) ?_
                  intro a19 c20 w22 H hc21
                  have H : Hp w S [] ((b15, mapO (Value.int .i64) (Value.int .i64) ([] : List (Int × Int × Nat)) 0) :: (b10, .cells #[.slice (some ⟨b8, 0, none⟩) n n, .int .i64 num, .int .i64 den, .int .i64 slack, .slice ta bs.length tc] 47 (0, 0)) :: (newsH bs)) [⟨Shape.mref, 50, .slice a19 ((bs ++ ([b15] : List Nat)).length) c20, bs ++ ([b15] : List Nat)⟩, ⟨Shape.int .i64, 3, .slice (some ⟨b8, 0, none⟩) n n, (List.replicate n (0 : Int))⟩] [Rp (Shape.slice Shape.mref) [.slice (some ⟨b17, 0, none⟩) 1 1] ([b15] : List Nat)] _ := H
                  refine RW.runP 2 [10, 45, 46, 55, 57] (sq 10 11) [(10, .pointer (some ⟨b10, 0, none⟩)), (45, .int .i64 (n : Int)), (46, .int .i64 ((bs.length : Nat) : Int)), (55, .slice a19 ((bs ++ ([b15] : List Nat)).length) c20), (57, .pointer (some ⟨b10, 4, none⟩))] (by as_aux_lemma => kernel_rfl) (by as_aux_lemma => kernel_rfl) ?_
                  refine RW.store (d := none) (r := (sq 11 11)) (T := 45) (b := b10) (k := 4) (v := .slice a19 ((bs ++ ([b15] : List Nat)).length) c20) (c' := #[.slice (some ⟨b8, 0, none⟩) n n, .int .i64 num, .int .i64 den, .int .i64 slack, .slice a19 ((bs ++ ([b15] : List Nat)).length) c20]) (M' := ((b15, mapO (Value.int .i64) (Value.int .i64) ([] : List (Int × Int × Nat)) 0) :: (b10, .cells #[.slice (some ⟨b8, 0, none⟩) n n, .int .i64 num, .int .i64 den, .int .i64 slack, .slice a19 ((bs ++ ([b15] : List Nat)).length) c20] 47 (0, 0)) :: (newsH bs))) (by as_aux_lemma => kernel_rfl) H 1 rfl (by as_aux_lemma => kernel_rfl) (by as_aux_lemma => kernel_rfl) ?_
                  intro w23 H
                  refine RW.fin 0 [10, 45, 46] [(10, .pointer (some ⟨b10, 0, none⟩)), (45, .int .i64 (n : Int)), (46, .int .i64 ((bs.length : Nat) : Int))] (by as_aux_lemma => kernel_rfl) ?_
                  refine WK.run 1 [10, 45, 46] [.code (cd Try.prog 7 [3, 0, 1, 0, 0, 3]), .inLoop (cd Try.prog 7 [3, 0, 1, 0, 0]), .inBlock 0, .code (cd Try.prog 7 [4])] [(10, .pointer (some ⟨b10, 0, none⟩)), (45, .int .i64 (n : Int)), (46, .int .i64 ((bs.length : Nat) : Int))] (by as_aux_lemma => kernel_rfl) ?_
                  refine WK.reg1 (l := sq 0 2) (by as_aux_lemma => kernel_rfl) (by as_aux_lemma => kernel_rfl) ?_
                  refine RW.wr64 (κ := .seq) (d := some 58) (r := (sq 1 2)) (t := ((bs.length : Nat) : Int) + 1) (by as_aux_lemma => kernel_rfl) (by omega) ?_
                  refine RW.fin 1 [10, 45, 46] [(10, .pointer (some ⟨b10, 0, none⟩)), (45, .int .i64 (n : Int)), (46, .int .i64 (((bs.length : Nat) : Int) + 1))] (by as_aux_lemma => kernel_rfl) ?_
                  have H := H.perm (M' := ((b10, .cells #[.slice (some ⟨b8, 0, none⟩) n n, .int .i64 num, .int .i64 den, .int .i64 slack, .slice a19 ((bs ++ ([b15] : List Nat)).length) c20] 47 (0, 0)) :: (newsH (bs ++ ([b15] : List Nat))))) (by rw [newsH_app]; exact (List.perm_append_comm (l₁ := (b10, .cells #[.slice (some ⟨b8, 0, none⟩) n n, .int .i64 num, .int .i64 den, .int .i64 slack, .slice a19 ((bs ++ ([b15] : List Nat)).length) c20] 47 (0, 0)) :: newsH bs) (l₂ := [(b15, mapO (Value.int .i64) (Value.int .i64) ([] : List (Int × Int × Nat)) 0)])).trans (List.Perm.refl _))
                  
                  have H := H.pick [] (G' := []) rfl
                  exact WK.back (hback12 (bs ++ ([b15] : List Nat), a19, c20) _ ⟨H, by simp; omega⟩ (by simp only [List.length_append, List.length_cons, List.length_nil]; omega)) (by simp)
                · skip
                  replace h14 := of_decide_eq_false h14
                  refine WK.run 3 [8, 9] [.code (cd Try.prog 7 [5])] [(8, .pointer (some ⟨b10, 0, none⟩)), (9, .int .i64 0)] (by as_aux_lemma => kernel_rfl) ?_
                  refine WK.ret (v := .tuple #[.pointer (some ⟨b10, 0, none⟩), .int .i64 0]) Try.func7 (by as_aux_lemma => kernel_rfl) (by as_aux_lemma => kernel_rfl) ?_
                  exact ⟨_, rfl, _, _, _, _, _, bs, rfl, by omega, by rw [List.length_replicate]; exact H⟩


end Go.Proofs.Ytghnicaefbdjfaa
