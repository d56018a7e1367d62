import Derived.Test.YthbegjaoifghlaaQ8
import Derived.Test.YthbegjaoifghlaaBxFork
namespace Go.Proofs.Ythbegjaoifghlaa
open Go.BX

theorem refrising_spec {S : Nat → Prop} {w : World} {xs : List Int} {a : Option Addr} {c : Nat} (h : (Shape.slice (.int .i64)).rep S w [.slice a xs.length c] xs) :
    Calls Try.prog 38 #[.slice a xs.length c] w (Ret fun v w' => Ext w w' ∧ v = .bool (risesFrom 0 xs)) := by
  have hlen := Shape.slice_len h
  refine WK.calls1 (fn := Try.f38) (n := 28) (σ := [(0, .slice a xs.length c)]) Try.func38 rfl (by as_aux_lemma => kernel_rfl) (by as_aux_lemma => kernel_rfl) (by as_aux_lemma => kernel_rfl) ?_
  have H := Hp.startF (w := w) (S := S) (G := [Rp (Shape.slice (Shape.int .i64)) [.slice a xs.length c] xs]) (.rp h .nil)
  refine WK.run 8 [0, 3, 4] [.code (cd Try.prog 38 [2, 0, 1, 0]), .inBlock 0, .code (cd Try.prog 38 [3])] [(0, .slice a xs.length c), (3, .int .i64 0), (4, .int .i64 0)] (by as_aux_lemma => kernel_rfl) ?_
  refine WK.loop (α := Nat × Int) (b := cd Try.prog 38 [2, 0, 1, 0, 0]) (by as_aux_lemma => kernel_rfl) (fun st_ => match st_ with | (k, l) => [(0, .slice a xs.length c), (3, .int .i64 l), (4, .int .i64 (k : Int))]) (fun st_ w' => match st_ with | (k, l) => Hp w S [] [] [] [Rp (Shape.slice (Shape.int .i64)) [.slice a xs.length c] xs] w' ∧ k ≤ xs.length ∧ risesFrom 0 xs = risesFrom l (xs.drop k)) (fun st_ => match st_ with | (k, l) => xs.length - k) (0, 0) ⟨H, by simp⟩ rfl ?_
  rintro ⟨k, l⟩ w2 ⟨H, hinv0⟩ hback1
  refine WK.run 3 [0, 3, 4, 8] [.code (cd Try.prog 38 [2, 0, 1, 0, 0, 0, 1]), .code (cd Try.prog 38 [2, 0, 1, 0, 0, 1]), .inLoop (cd Try.prog 38 [2, 0, 1, 0, 0]), .inBlock 0, .code (cd Try.prog 38 [3])] [(0, .slice a xs.length c), (3, .int .i64 l), (4, .int .i64 (k : Int)), (8, .bool (decide (((k : Int) : Int) < ((xs.length : Nat) : Int))))] (by as_aux_lemma => kernel_rfl) ?_
  refine WK.cond1 (decide (((k : Int) : Int) < ((xs.length : Nat) : Int))) (by as_aux_lemma => kernel_rfl) (by as_aux_lemma => kernel_rfl) (fun h3 => ?_) (fun h3 => ?_)
  · skip
    replace h3 := of_decide_eq_true h3
    refine WK.run 5 [0, 3, 4] [.code (cd Try.prog 38 [2, 0, 1, 0, 0, 1, 0, 0, 0, 0]), .code (cd Try.prog 38 [2, 0, 1, 0, 0, 1, 0, 0, 0, 1]), .code (cd Try.prog 38 [2, 0, 1, 0, 0, 1, 0, 0, 1]), .inBlock 1, .code (cd Try.prog 38 [2, 0, 1, 0, 0, 2]), .inLoop (cd Try.prog 38 [2, 0, 1, 0, 0]), .inBlock 0, .code (cd Try.prog 38 [3])] [(0, .slice a xs.length c), (3, .int .i64 l), (4, .int .i64 (k : Int))] (by as_aux_lemma => kernel_rfl) ?_
    refine WK.reg1 (l := sq 0 13) (by as_aux_lemma => kernel_rfl) (by as_aux_lemma => kernel_rfl) ?_
    refine RW.runP 2 [0, 3, 4, 11, 12] (sq 2 13) [(0, .slice a xs.length c), (3, .int .i64 l), (4, .int .i64 (k : Int)), (11, .slice a xs.length c), (12, .int .i64 (k : Int))] (by as_aux_lemma => kernel_rfl) (by as_aux_lemma => kernel_rfl) ?_
    have hx4 : k < xs.length := by omega
    refine RW.index (κ := .seq) (d := some 13) (r := (sq 3 13)) (T := 22) (e := 3) (ik := .i64) (ix := (k : Int)) (sh := (Shape.int .i64)) (x := xs[k]) (by as_aux_lemma => kernel_rfl) (by as_aux_lemma => kernel_rfl) H 0 rfl k (by omega) (List.getElem?_eq_getElem hx4) ?_
    intro b5 o6 es7 hr8 H
    have hb9 := Shape.i64_bd hr8
    obtain ⟨rfl, -⟩ := hr8
    refine RW.load (κ := .seq) (d := some 14) (r := (sq 4 13)) (T := 3) (b := b5) (o' := o6) (k := 0) (v := .int .i64 (xs[k])) (by as_aux_lemma => kernel_rfl) (H.fc 0 rfl) rfl (by as_aux_lemma => kernel_rfl) ?_
    refine RW.runP 3 [0, 4, 17] (sq 7 13) [(0, .slice a xs.length c), (4, .int .i64 (k : Int)), (17, .bool (decide ((xs[k] : Int) ≤ l)))] (by as_aux_lemma => kernel_rfl) (by as_aux_lemma => kernel_rfl) ?_
    refine RW.test (fun b_ => [(0, .slice a xs.length c), (4, .int .i64 (k : Int)), (17, .bool b_)]) (decide ((xs[k] : Int) ≤ l)) (fun h10 => ?_) (fun h10 => ?_)
    · skip
      replace h10 := of_decide_eq_true h10
      refine RW.fin 6 [0, 4, 23] [(0, .slice a xs.length c), (4, .int .i64 (k : Int)), (23, .bool true)] (by as_aux_lemma => kernel_rfl) ?_
      refine WK.run 3 [2] [.code (cd Try.prog 38 [2, 0, 1, 0, 0, 1, 0, 0, 0, 1, 0, 1]), .code (cd Try.prog 38 [2, 0, 1, 0, 0, 1, 0, 0, 1]), .inBlock 1, .code (cd Try.prog 38 [2, 0, 1, 0, 0, 2]), .inLoop (cd Try.prog 38 [2, 0, 1, 0, 0]), .inBlock 0, .code (cd Try.prog 38 [3])] [(2, .bool false)] (by as_aux_lemma => kernel_rfl) ?_
      refine WK.ret (v := .bool false) Try.func38 (by as_aux_lemma => kernel_rfl) (by as_aux_lemma => kernel_rfl) ?_
      refine ⟨_, rfl, H.done, ?_⟩
      congr 1
      rw [hinv0.2]
      rw [risesFrom_step (by omega), if_pos (by omega)]
    · skip
      replace h10 := of_decide_eq_false h10
      refine RW.runP 2 [0, 4, 17, 18, 19] (sq 9 13) [(0, .slice a xs.length c), (4, .int .i64 (k : Int)), (17, .bool false), (18, .slice a xs.length c), (19, .int .i64 (k : Int))] (by as_aux_lemma => kernel_rfl) (by as_aux_lemma => kernel_rfl) ?_
      have hx11 : k < xs.length := by omega
      refine RW.index (κ := .seq) (d := some 20) (r := (sq 10 13)) (T := 22) (e := 3) (ik := .i64) (ix := (k : Int)) (sh := (Shape.int .i64)) (x := xs[k]) (by as_aux_lemma => kernel_rfl) (by as_aux_lemma => kernel_rfl) H 1 rfl k (by omega) (List.getElem?_eq_getElem hx11) ?_
      intro b12 o13 es14 hr15 H
      have hb16 := Shape.i64_bd hr15
      obtain ⟨rfl, -⟩ := hr15
      refine RW.load (κ := .seq) (d := some 21) (r := (sq 11 13)) (T := 3) (b := b12) (o' := o13) (k := 0) (v := .int .i64 (xs[k])) (by as_aux_lemma => kernel_rfl) (H.fc 0 rfl) rfl (by as_aux_lemma => kernel_rfl) ?_
      refine RW.fin 2 [0, 4, 23] [(0, .slice a xs.length c), (4, .int .i64 (k : Int)), (23, .bool (decide ((xs[k] : Int) > 32)))] (by as_aux_lemma => kernel_rfl) ?_
      refine WK.cond1 (decide ((xs[k] : Int) > 32)) (by as_aux_lemma => kernel_rfl) (by as_aux_lemma => kernel_rfl) (fun h17 => ?_) (fun h17 => ?_)
      · skip
        replace h17 := of_decide_eq_true h17
        refine WK.run 2 [2] [.code (cd Try.prog 38 [2, 0, 1, 0, 0, 1, 0, 0, 0, 1, 0, 1]), .code (cd Try.prog 38 [2, 0, 1, 0, 0, 1, 0, 0, 1]), .inBlock 1, .code (cd Try.prog 38 [2, 0, 1, 0, 0, 2]), .inLoop (cd Try.prog 38 [2, 0, 1, 0, 0]), .inBlock 0, .code (cd Try.prog 38 [3])] [(2, .bool false)] (by as_aux_lemma => kernel_rfl) ?_
        refine WK.ret (v := .bool false) Try.func38 (by as_aux_lemma => kernel_rfl) (by as_aux_lemma => kernel_rfl) ?_
        refine ⟨_, rfl, H.done, ?_⟩
        congr 1
        rw [hinv0.2]
        rw [risesFrom_step (by omega), if_pos (by omega)]
      · skip
        replace h17 := of_decide_eq_false h17
        refine WK.run 1 [0, 4] [.code (cd Try.prog 38 [2, 0, 1, 0, 0, 1, 0, 0, 1]), .inBlock 1, .code (cd Try.prog 38 [2, 0, 1, 0, 0, 2]), .inLoop (cd Try.prog 38 [2, 0, 1, 0, 0]), .inBlock 0, .code (cd Try.prog 38 [3])] [(0, .slice a xs.length c), (4, .int .i64 (k : Int))] (by as_aux_lemma => kernel_rfl) ?_
        refine WK.reg1 (l := sq 0 5) (by as_aux_lemma => kernel_rfl) (by as_aux_lemma => kernel_rfl) ?_
        refine RW.runP 2 [0, 4, 24, 25] (sq 2 5) [(0, .slice a xs.length c), (4, .int .i64 (k : Int)), (24, .slice a xs.length c), (25, .int .i64 (k : Int))] (by as_aux_lemma => kernel_rfl) (by as_aux_lemma => kernel_rfl) ?_
        have hx18 : k < xs.length := by omega
        refine RW.index (κ := .seq) (d := some 26) (r := (sq 3 5)) (T := 22) (e := 3) (ik := .i64) (ix := (k : Int)) (sh := (Shape.int .i64)) (x := xs[k]) (by as_aux_lemma => kernel_rfl) (by as_aux_lemma => kernel_rfl) H 2 rfl k (by omega) (List.getElem?_eq_getElem hx18) ?_
        intro b19 o20 es21 hr22 H
        have hb23 := Shape.i64_bd hr22
        obtain ⟨rfl, -⟩ := hr22
        refine RW.load (κ := .seq) (d := some 27) (r := (sq 4 5)) (T := 3) (b := b19) (o' := o20) (k := 0) (v := .int .i64 (xs[k])) (by as_aux_lemma => kernel_rfl) (H.fc 0 rfl) rfl (by as_aux_lemma => kernel_rfl) ?_
        refine RW.fin 1 [0, 3, 4] [(0, .slice a xs.length c), (3, .int .i64 (xs[k])), (4, .int .i64 (k : Int))] (by as_aux_lemma => kernel_rfl) ?_
        refine WK.run 1 [0, 3, 4] [.code (cd Try.prog 38 [2, 0, 1, 0, 0, 2]), .inLoop (cd Try.prog 38 [2, 0, 1, 0, 0]), .inBlock 0, .code (cd Try.prog 38 [3])] [(0, .slice a xs.length c), (3, .int .i64 (xs[k])), (4, .int .i64 (k : Int))] (by as_aux_lemma => kernel_rfl) ?_
        refine WK.reg1 (l := sq 0 3) (by as_aux_lemma => kernel_rfl) (by as_aux_lemma => kernel_rfl) ?_
        refine RW.runP 1 [0, 3, 4, 9] (sq 1 3) [(0, .slice a xs.length c), (3, .int .i64 (xs[k])), (4, .int .i64 (k : Int)), (9, .int .i64 (k : Int))] (by as_aux_lemma => kernel_rfl) (by as_aux_lemma => kernel_rfl) ?_
        refine RW.wr64 (κ := .seq) (d := some 10) (r := (sq 2 3)) (t := (k : Int) + 1) (by as_aux_lemma => kernel_rfl) (by omega) ?_
        refine RW.fin 1 [0, 3, 4] [(0, .slice a xs.length c), (3, .int .i64 (xs[k])), (4, .int .i64 ((k : Int) + 1))] (by as_aux_lemma => kernel_rfl) ?_
        have H := H.pick [3] (G' := [Rp (Shape.slice (Shape.int .i64)) [.slice a xs.length c] xs]) rfl
        exact WK.back (hback1 (k + 1, xs[k]) _ ⟨H, by omega, by rw [hinv0.2, risesFrom_step (by omega), if_neg (by omega)]⟩ (by first | omega | (simp only []; omega))) (by as_aux_lemma => kernel_rfl)
  · skip
    replace h3 := of_decide_eq_false h3
    refine WK.run 3 [2] [.code (cd Try.prog 38 [4])] [(2, .bool true)] (by as_aux_lemma => kernel_rfl) ?_
    refine WK.ret (v := .bool true) Try.func38 (by as_aux_lemma => kernel_rfl) (by as_aux_lemma => kernel_rfl) ?_
    refine ⟨_, rfl, H.done, ?_⟩
    congr 1
    rw [hinv0.2]
    rw [List.drop_of_length_le (by omega)]; rfl

theorem refcheck_spec {S : Nat → Prop} {w : World} {cs : List Value} {C : Conf} (h : confS.rep S w cs C) :
    Calls Try.prog 25 #[.agg cs.toArray] w (Ret fun v w' => Ext w w' ∧ v = .int .i64 (errOf (okConf C))) := by
  obtain ⟨a0C, k0C, a1C, k1C, rfl, hvC, hlC⟩ := conf_open h
  have hlen := Shape.slice_len hlC
  refine WK.calls1 (fn := Try.f25) (n := 35) (σ := [(0, .agg #[.slice a0C C.voters.length k0C, .slice a1C C.learners.length k1C])]) Try.func25 rfl (by as_aux_lemma => kernel_rfl) (by as_aux_lemma => kernel_rfl) (by as_aux_lemma => kernel_rfl) ?_
  have H := Hp.startF (w := w) (S := S) (G := [Rp (Shape.slice (Shape.int .i64)) [.slice a0C C.voters.length k0C] C.voters, Rp (Shape.slice (Shape.int .i64)) [.slice a1C C.learners.length k1C] C.learners]) (.rp hvC (.rp hlC .nil))
  refine WK.run 1 [0] [.code (cd Try.prog 25 [0]), .code (cd Try.prog 25 [1])] [(0, .agg #[.slice a0C C.voters.length k0C, .slice a1C C.learners.length k1C])] (by as_aux_lemma => kernel_rfl) ?_
  refine WK.reg1 (l := sq 0 2) (by as_aux_lemma => kernel_rfl) (by as_aux_lemma => kernel_rfl) ?_
  refine RW.new (κ := .seq) (d := some 1) (r := (sq 1 2)) (o := .cells #[.slice a0C C.voters.length k0C, .slice a1C C.learners.length k1C] 24 (0, 0)) (v := fun b => .pointer (some ⟨b, 0, none⟩)) (fun b => by as_aux_lemma => kernel_rfl) (nofun) H ?_
  intro b1 w2 H
  refine RW.fin 1 [1] [(1, .pointer (some ⟨b1, 0, none⟩))] (by as_aux_lemma => kernel_rfl) ?_
  refine WK.run 2 [1] [.code (cd Try.prog 25 [1, 0, 0]), .code (cd Try.prog 25 [1, 0, 1]), .code (cd Try.prog 25 [2])] [(1, .pointer (some ⟨b1, 0, none⟩))] (by as_aux_lemma => kernel_rfl) ?_
  refine WK.reg1 (l := sq 0 16) (by as_aux_lemma => kernel_rfl) (by as_aux_lemma => kernel_rfl) ?_
  refine RW.runP 1 [1, 4] (sq 1 16) [(1, .pointer (some ⟨b1, 0, none⟩)), (4, .pointer (some ⟨b1, 0, none⟩))] (by as_aux_lemma => kernel_rfl) (by as_aux_lemma => kernel_rfl) ?_
  refine RW.load (κ := .seq) (d := some 5) (r := (sq 2 16)) (T := 22) (b := b1) (o' := 0) (k := 0) (v := .slice a0C C.voters.length k0C) (by as_aux_lemma => kernel_rfl) (H.cells 0 rfl) rfl (by as_aux_lemma => kernel_rfl) ?_
  refine RW.call (κ := .seq) (d := some 6) (r := (sq 3 16)) (g := 38) (args := #[.slice a0C C.voters.length k0C]) (by as_aux_lemma => kernel_rfl) (nofun) (refrising_spec (H.rp 0 rfl)) ?_
  rintro _ w3 hE4 rfl
  have H := H.ext hE4
  refine RW.runP 2 [1, 8] (sq 5 16) [(1, .pointer (some ⟨b1, 0, none⟩)), (8, .bool (!(risesFrom 0 C.voters)))] (by as_aux_lemma => kernel_rfl) (by as_aux_lemma => kernel_rfl) ?_
  refine RW.test (fun b_ => [(1, .pointer (some ⟨b1, 0, none⟩)), (8, .bool b_)]) (!(risesFrom 0 C.voters)) (fun h5 => ?_) (fun h5 => ?_)
  · skip
    replace h5 : (risesFrom 0 C.voters) = false := by revert h5; cases (risesFrom 0 C.voters) <;> simp
    refine RW.fin 11 [1, 19] [(1, .pointer (some ⟨b1, 0, none⟩)), (19, .bool true)] (by as_aux_lemma => kernel_rfl) ?_
    refine WK.run 3 [2] [.code (cd Try.prog 25 [1, 0, 1, 0, 1]), .code (cd Try.prog 25 [2])] [(2, .int .i64 120)] (by as_aux_lemma => kernel_rfl) ?_
    refine WK.ret (v := .int .i64 120) Try.func25 (by as_aux_lemma => kernel_rfl) (by as_aux_lemma => kernel_rfl) ?_
    refine ⟨_, rfl, H.done, ?_⟩
    congr 1
    exact (errOf_no fun hk => by obtain ⟨k1, k2, k3, k4⟩ := okConf_iff.1 hk; first | omega | (simp_all; done) | exact common_nil.1 k4 _ (by assumption) (List.getElem_mem _)).symm
  · skip
    replace h5 : (risesFrom 0 C.voters) = true := by revert h5; cases (risesFrom 0 C.voters) <;> simp
    refine RW.runP 1 [1, 8, 9] (sq 6 16) [(1, .pointer (some ⟨b1, 0, none⟩)), (8, .bool false), (9, .pointer (some ⟨b1, 1, none⟩))] (by as_aux_lemma => kernel_rfl) (by as_aux_lemma => kernel_rfl) ?_
    refine RW.load (κ := .seq) (d := some 10) (r := (sq 7 16)) (T := 22) (b := b1) (o' := 1) (k := 1) (v := .slice a1C C.learners.length k1C) (by as_aux_lemma => kernel_rfl) (H.cells 0 rfl) rfl (by as_aux_lemma => kernel_rfl) ?_
    refine RW.call (κ := .seq) (d := some 11) (r := (sq 8 16)) (g := 38) (args := #[.slice a1C C.learners.length k1C]) (by as_aux_lemma => kernel_rfl) (nofun) (refrising_spec (H.rp 1 rfl)) ?_
    rintro _ w6 hE7 rfl
    have H := H.ext hE7
    refine RW.runP 3 [1, 14] (sq 11 16) [(1, .pointer (some ⟨b1, 0, none⟩)), (14, .bool (!(risesFrom 0 C.learners)))] (by as_aux_lemma => kernel_rfl) (by as_aux_lemma => kernel_rfl) ?_
    refine RW.test (fun b_ => [(1, .pointer (some ⟨b1, 0, none⟩)), (14, .bool b_)]) (!(risesFrom 0 C.learners)) (fun h8 => ?_) (fun h8 => ?_)
    · skip
      replace h8 : (risesFrom 0 C.learners) = false := by revert h8; cases (risesFrom 0 C.learners) <;> simp
      refine RW.fin 5 [1, 19] [(1, .pointer (some ⟨b1, 0, none⟩)), (19, .bool true)] (by as_aux_lemma => kernel_rfl) ?_
      refine WK.run 3 [2] [.code (cd Try.prog 25 [1, 0, 1, 0, 1]), .code (cd Try.prog 25 [2])] [(2, .int .i64 120)] (by as_aux_lemma => kernel_rfl) ?_
      refine WK.ret (v := .int .i64 120) Try.func25 (by as_aux_lemma => kernel_rfl) (by as_aux_lemma => kernel_rfl) ?_
      refine ⟨_, rfl, H.done, ?_⟩
      congr 1
      exact (errOf_no fun hk => by obtain ⟨k1, k2, k3, k4⟩ := okConf_iff.1 hk; first | omega | (simp_all; done) | exact common_nil.1 k4 _ (by assumption) (List.getElem_mem _)).symm
    · skip
      replace h8 : (risesFrom 0 C.learners) = true := by revert h8; cases (risesFrom 0 C.learners) <;> simp
      refine RW.runP 1 [1, 14, 15] (sq 12 16) [(1, .pointer (some ⟨b1, 0, none⟩)), (14, .bool false), (15, .pointer (some ⟨b1, 0, none⟩))] (by as_aux_lemma => kernel_rfl) (by as_aux_lemma => kernel_rfl) ?_
      refine RW.load (κ := .seq) (d := some 16) (r := (sq 13 16)) (T := 22) (b := b1) (o' := 0) (k := 0) (v := .slice a0C C.voters.length k0C) (by as_aux_lemma => kernel_rfl) (H.cells 0 rfl) rfl (by as_aux_lemma => kernel_rfl) ?_
      refine RW.fin 3 [1, 19] [(1, .pointer (some ⟨b1, 0, none⟩)), (19, .bool (((C.voters.length : Nat) : Int) == 0))] (by as_aux_lemma => kernel_rfl) ?_
      refine WK.cond1 (((C.voters.length : Nat) : Int) == 0) (by as_aux_lemma => kernel_rfl) (by as_aux_lemma => kernel_rfl) (fun h9 => ?_) (fun h9 => ?_)
      · skip
        replace h9 := eq_of_beq h9
        refine WK.run 2 [2] [.code (cd Try.prog 25 [1, 0, 1, 0, 1]), .code (cd Try.prog 25 [2])] [(2, .int .i64 120)] (by as_aux_lemma => kernel_rfl) ?_
        refine WK.ret (v := .int .i64 120) Try.func25 (by as_aux_lemma => kernel_rfl) (by as_aux_lemma => kernel_rfl) ?_
        refine ⟨_, rfl, H.done, ?_⟩
        congr 1
        exact (errOf_no fun hk => by obtain ⟨k1, k2, k3, k4⟩ := okConf_iff.1 hk; first | omega | (simp_all; done) | exact common_nil.1 k4 _ (by assumption) (List.getElem_mem _)).symm
      · skip
        replace h9 := ne_of_beq_false h9
        refine WK.run 5 [1, 3] [.code (cd Try.prog 25 [2, 0, 1, 0]), .inBlock 0, .code (cd Try.prog 25 [3])] [(1, .pointer (some ⟨b1, 0, none⟩)), (3, .int .i64 0)] (by as_aux_lemma => kernel_rfl) ?_
        refine WK.loop (α := Nat) (b := cd Try.prog 25 [2, 0, 1, 0, 0]) (by as_aux_lemma => kernel_rfl) (fun k => [(1, .pointer (some ⟨b1, 0, none⟩)), (3, .int .i64 (k : Int))]) (fun k w' => Hp w S [] [(b1, .cells #[.slice a0C C.voters.length k0C, .slice a1C C.learners.length k1C] 24 (0, 0))] [] [Rp (Shape.slice (Shape.int .i64)) [.slice a0C C.voters.length k0C] C.voters, Rp (Shape.slice (Shape.int .i64)) [.slice a1C C.learners.length k1C] C.learners] w' ∧ k ≤ C.learners.length ∧ ∀ x ∈ C.learners.take k, x ∉ C.voters) (fun k => C.learners.length - k) 0 ⟨H, by simp⟩ rfl ?_
        rintro k w11 ⟨H, hinv0⟩ hback10
        refine WK.run 2 [1, 3] [.code (cd Try.prog 25 [2, 0, 1, 0, 0, 0, 0]), .code (cd Try.prog 25 [2, 0, 1, 0, 0, 0, 1]), .code (cd Try.prog 25 [2, 0, 1, 0, 0, 1]), .inLoop (cd Try.prog 25 [2, 0, 1, 0, 0]), .inBlock 0, .code (cd Try.prog 25 [3])] [(1, .pointer (some ⟨b1, 0, none⟩)), (3, .int .i64 (k : Int))] (by as_aux_lemma => kernel_rfl) ?_
        refine WK.reg1 (l := sq 0 5) (by as_aux_lemma => kernel_rfl) (by as_aux_lemma => kernel_rfl) ?_
        refine RW.runP 2 [1, 3, 20, 21] (sq 2 5) [(1, .pointer (some ⟨b1, 0, none⟩)), (3, .int .i64 (k : Int)), (20, .int .i64 (k : Int)), (21, .pointer (some ⟨b1, 1, none⟩))] (by as_aux_lemma => kernel_rfl) (by as_aux_lemma => kernel_rfl) ?_
        refine RW.load (κ := .seq) (d := some 22) (r := (sq 3 5)) (T := 22) (b := b1) (o' := 1) (k := 1) (v := .slice a1C C.learners.length k1C) (by as_aux_lemma => kernel_rfl) (H.cells 0 rfl) rfl (by as_aux_lemma => kernel_rfl) ?_
        refine RW.fin 2 [1, 3, 24] [(1, .pointer (some ⟨b1, 0, none⟩)), (3, .int .i64 (k : Int)), (24, .bool (decide (((k : Int) : Int) < ((C.learners.length : Nat) : Int))))] (by as_aux_lemma => kernel_rfl) ?_
        refine WK.cond1 (decide (((k : Int) : Int) < ((C.learners.length : Nat) : Int))) (by as_aux_lemma => kernel_rfl) (by as_aux_lemma => kernel_rfl) (fun h12 => ?_) (fun h12 => ?_)
        · skip
          replace h12 := of_decide_eq_true h12
          refine WK.run 4 [1, 3] [.code (cd Try.prog 25 [2, 0, 1, 0, 0, 1, 0, 0, 0]), .code (cd Try.prog 25 [2, 0, 1, 0, 0, 1, 0, 0, 1]), .inBlock 1, .code (cd Try.prog 25 [2, 0, 1, 0, 0, 2]), .inLoop (cd Try.prog 25 [2, 0, 1, 0, 0]), .inBlock 0, .code (cd Try.prog 25 [3])] [(1, .pointer (some ⟨b1, 0, none⟩)), (3, .int .i64 (k : Int))] (by as_aux_lemma => kernel_rfl) ?_
          refine WK.draw1 8 [(0, .qui), (1, .qui), (2, .qui), (3, .qui), (4, .qui), (5, .qui), (6, .qui), (7, .chn)] [(0, .qui), (1, .qui), (2, .qui), (3, .qui), (4, .qui), (5, .qui), (6, .qui), (7, .chn)] Try_mixed (by as_aux_lemma => kernel_rfl) (by as_aux_lemma => kernel_rfl) (by as_aux_lemma => kernel_rfl) ?_
          have H := H.draw
          generalize ({ w11 with drawn := w11.drawn + 1 } : World) = w13 at H ⊢
          refine RW.runP 1 [1, 3, 27] [(1, .qui), (2, .qui), (3, .qui), (4, .qui), (5, .qui), (6, .qui), (7, .chn)] [(1, .pointer (some ⟨b1, 0, none⟩)), (3, .int .i64 (k : Int)), (27, .pointer (some ⟨b1, 1, none⟩))] (by as_aux_lemma => kernel_rfl) (by as_aux_lemma => kernel_rfl) ?_
          refine RW.load (κ := .qui) (d := some 28) (r := [(2, .qui), (3, .qui), (4, .qui), (5, .qui), (6, .qui), (7, .chn)]) (T := 22) (b := b1) (o' := 1) (k := 1) (v := .slice a1C C.learners.length k1C) (by as_aux_lemma => kernel_rfl) (H.cells 0 rfl) rfl (by as_aux_lemma => kernel_rfl) ?_
          refine RW.runP 1 [1, 3, 28, 29] [(3, .qui), (4, .qui), (5, .qui), (6, .qui), (7, .chn)] [(1, .pointer (some ⟨b1, 0, none⟩)), (3, .int .i64 (k : Int)), (28, .slice a1C C.learners.length k1C), (29, .int .i64 (k : Int))] (by as_aux_lemma => kernel_rfl) (by as_aux_lemma => kernel_rfl) ?_
          have hx14 : k < C.learners.length := by omega
          refine RW.index (κ := .qui) (d := some 30) (r := [(4, .qui), (5, .qui), (6, .qui), (7, .chn)]) (T := 22) (e := 3) (ik := .i64) (ix := (k : Int)) (sh := (Shape.int .i64)) (x := C.learners[k]) (by as_aux_lemma => kernel_rfl) (by as_aux_lemma => kernel_rfl) H 1 rfl k (by omega) (List.getElem?_eq_getElem hx14) ?_
          intro b15 o16 es17 hr18 H
          have hb19 := Shape.i64_bd hr18
          obtain ⟨rfl, -⟩ := hr18
          refine RW.load (κ := .qui) (d := some 31) (r := [(5, .qui), (6, .qui), (7, .chn)]) (T := 3) (b := b15) (o' := o16) (k := 0) (v := .int .i64 (C.learners[k])) (by as_aux_lemma => kernel_rfl) (H.fc 0 rfl) rfl (by as_aux_lemma => kernel_rfl) ?_
          refine RW.runP 1 [1, 3, 31, 32] [(6, .qui), (7, .chn)] [(1, .pointer (some ⟨b1, 0, none⟩)), (3, .int .i64 (k : Int)), (31, .int .i64 (C.learners[k])), (32, .pointer (some ⟨b1, 0, none⟩))] (by as_aux_lemma => kernel_rfl) (by as_aux_lemma => kernel_rfl) ?_
          refine RW.load (κ := .qui) (d := some 33) (r := [(7, .chn)]) (T := 22) (b := b1) (o' := 0) (k := 0) (v := .slice a0C C.voters.length k0C) (by as_aux_lemma => kernel_rfl) (H.cells 0 rfl) rfl (by as_aux_lemma => kernel_rfl) ?_
          refine RW.call (κ := .chn) (d := some 34) (r := []) (g := 10) (args := #[.int .i64 (C.learners[k]), .slice a0C C.voters.length k0C]) (by as_aux_lemma => kernel_rfl) (nofun) (in_spec (C.learners[k]) (H.rp 1 rfl)) ?_
          rintro _ w20 hE21 rfl
          have H := H.ext hE21
          refine RW.fin 0 [1, 3, 34] [(1, .pointer (some ⟨b1, 0, none⟩)), (3, .int .i64 (k : Int)), (34, .bool (decide (C.learners[k] ∈ C.voters)))] (by as_aux_lemma => kernel_rfl) ?_
          refine WK.cond1 (decide (C.learners[k] ∈ C.voters)) (by as_aux_lemma => kernel_rfl) (by as_aux_lemma => kernel_rfl) (fun h22 => ?_) (fun h22 => ?_)
          · skip
            replace h22 := of_decide_eq_true h22
            refine WK.run 2 [2] [.code (cd Try.prog 25 [2, 0, 1, 0, 0, 1, 0, 0, 1, 0, 1]), .inBlock 1, .code (cd Try.prog 25 [2, 0, 1, 0, 0, 2]), .inLoop (cd Try.prog 25 [2, 0, 1, 0, 0]), .inBlock 0, .code (cd Try.prog 25 [3])] [(2, .int .i64 120)] (by as_aux_lemma => kernel_rfl) ?_
            refine WK.ret (v := .int .i64 120) Try.func25 (by as_aux_lemma => kernel_rfl) (by as_aux_lemma => kernel_rfl) ?_
            refine ⟨_, rfl, H.done, ?_⟩
            congr 1
            exact (errOf_no fun hk => by obtain ⟨k1, k2, k3, k4⟩ := okConf_iff.1 hk; first | omega | (simp_all; done) | exact common_nil.1 k4 _ (by assumption) (List.getElem_mem _)).symm
          · skip
            replace h22 := of_decide_eq_false h22
            refine WK.run 2 [1, 3] [.code (cd Try.prog 25 [2, 0, 1, 0, 0, 2]), .inLoop (cd Try.prog 25 [2, 0, 1, 0, 0]), .inBlock 0, .code (cd Try.prog 25 [3])] [(1, .pointer (some ⟨b1, 0, none⟩)), (3, .int .i64 (k : Int))] (by as_aux_lemma => kernel_rfl) ?_
            refine WK.reg1 (l := sq 0 3) (by as_aux_lemma => kernel_rfl) (by as_aux_lemma => kernel_rfl) ?_
            refine RW.runP 1 [1, 3, 25] (sq 1 3) [(1, .pointer (some ⟨b1, 0, none⟩)), (3, .int .i64 (k : Int)), (25, .int .i64 (k : Int))] (by as_aux_lemma => kernel_rfl) (by as_aux_lemma => kernel_rfl) ?_
            refine RW.wr64 (κ := .seq) (d := some 26) (r := (sq 2 3)) (t := (k : Int) + 1) (by as_aux_lemma => kernel_rfl) (by omega) ?_
            refine RW.fin 1 [1, 3] [(1, .pointer (some ⟨b1, 0, none⟩)), (3, .int .i64 ((k : Int) + 1))] (by as_aux_lemma => kernel_rfl) ?_
            have H := H.pick [1, 2] (G' := [Rp (Shape.slice (Shape.int .i64)) [.slice a0C C.voters.length k0C] C.voters, Rp (Shape.slice (Shape.int .i64)) [.slice a1C C.learners.length k1C] C.learners]) rfl
            exact WK.back (hback10 (k + 1) _ ⟨H, by omega, fun x hx => by rcases (take_succ_mem (by omega)).1 hx with hx | rfl; exact hinv0.2 x hx; assumption⟩ (by first | omega | (simp only []; omega))) (by as_aux_lemma => kernel_rfl)
        · skip
          replace h12 := of_decide_eq_false h12
          refine WK.run 3 [2] [.code (cd Try.prog 25 [4])] [(2, .int .i64 0)] (by as_aux_lemma => kernel_rfl) ?_
          refine WK.ret (v := .int .i64 0) Try.func25 (by as_aux_lemma => kernel_rfl) (by as_aux_lemma => kernel_rfl) ?_
          refine ⟨_, rfl, H.done, ?_⟩
          congr 1
          exact (errOf_yes (okConf_iff.2 ⟨by omega, by assumption, by assumption, common_nil.2 fun x hx hm => hinv0.2 x (by rw [List.take_of_length_le (by omega)]; exact hm) hx⟩)).symm

theorem refstep_spec {S : Nat → Prop} {w : World} {cs : List Value} {C : Conf} (h : confS.rep S w cs C) {zs : List Value} {Z : CStep} (hz : cstepS.rep S w zs Z) :
    Calls Try.prog 14 #[.agg cs.toArray, .agg zs.toArray] w (Ret fun v w' => Ext w w' ∧ ∃ (ds : List Value) (D : Conf) (e : Int), v = .tuple #[.agg ds.toArray, .int .i64 e] ∧ confS.rep (Nw S w) w' ds D ∧ (D, e) = stepOf C Z) := by
  obtain ⟨a0C, k0C, a1C, k1C, rfl, hvC, hlC⟩ := conf_open h
  obtain ⟨rfl, hb1Z, hb2Z⟩ := cstep_open hz
  refine WK.calls1 (fn := Try.f14) (n := 100) (σ := [(0, .agg #[.slice a0C C.voters.length k0C, .slice a1C C.learners.length k1C]), (1, .agg #[.int .i64 Z.kind, .int .i64 Z.node])]) Try.func14 rfl (by as_aux_lemma => kernel_rfl) (by as_aux_lemma => kernel_rfl) (by as_aux_lemma => kernel_rfl) ?_
  have H := Hp.startF (w := w) (S := S) (G := [Rp (Shape.slice (Shape.int .i64)) [.slice a0C C.voters.length k0C] C.voters, Rp (Shape.slice (Shape.int .i64)) [.slice a1C C.learners.length k1C] C.learners]) (.rp hvC (.rp hlC .nil))
  refine WK.run 1 [0, 1] [.code (cd Try.prog 14 [0]), .code (cd Try.prog 14 [1])] [(0, .agg #[.slice a0C C.voters.length k0C, .slice a1C C.learners.length k1C]), (1, .agg #[.int .i64 Z.kind, .int .i64 Z.node])] (by as_aux_lemma => kernel_rfl) ?_
  refine WK.reg1 (l := sq 0 4) (by as_aux_lemma => kernel_rfl) (by as_aux_lemma => kernel_rfl) ?_
  refine RW.new (κ := .seq) (d := some 2) (r := (sq 1 4)) (o := .cells #[.slice a0C C.voters.length k0C, .slice a1C C.learners.length k1C] 24 (0, 0)) (v := fun b => .pointer (some ⟨b, 0, none⟩)) (fun b => by as_aux_lemma => kernel_rfl) (nofun) H ?_
  intro b1 w2 H
  refine RW.new (κ := .seq) (d := some 3) (r := (sq 2 4)) (o := .cells #[.int .i64 Z.kind, .int .i64 Z.node] 34 (0, 0)) (v := fun b => .pointer (some ⟨b, 0, none⟩)) (fun b => by as_aux_lemma => kernel_rfl) (nofun) H ?_
  intro b3 w4 H
  refine RW.new (κ := .seq) (d := some 4) (r := (sq 3 4)) (o := .cells #[.slice none 0 0, .slice none 0 0] 24 (0, 0)) (v := fun b => .pointer (some ⟨b, 0, none⟩)) (fun b => by as_aux_lemma => kernel_rfl) (nofun) H ?_
  intro b5 w6 H
  refine RW.fin 1 [2, 3, 4] [(2, .pointer (some ⟨b1, 0, none⟩)), (3, .pointer (some ⟨b3, 0, none⟩)), (4, .pointer (some ⟨b5, 0, none⟩))] (by as_aux_lemma => kernel_rfl) ?_
  refine WK.run 2 [2, 3, 4] [.code (cd Try.prog 14 [1, 0, 0]), .code (cd Try.prog 14 [1, 0, 1]), .code (cd Try.prog 14 [2])] [(2, .pointer (some ⟨b1, 0, none⟩)), (3, .pointer (some ⟨b3, 0, none⟩)), (4, .pointer (some ⟨b5, 0, none⟩))] (by as_aux_lemma => kernel_rfl) ?_
  refine WK.reg1 (l := sq 0 13) (by as_aux_lemma => kernel_rfl) (by as_aux_lemma => kernel_rfl) ?_
  refine RW.load (κ := .seq) (d := some 8) (r := (sq 1 13)) (T := 24) (b := b1) (o' := 0) (k := 0) (v := .agg #[.slice a0C C.voters.length k0C, .slice a1C C.learners.length k1C]) (by as_aux_lemma => kernel_rfl) (H.cells 2 rfl) rfl (by as_aux_lemma => kernel_rfl) ?_
  refine RW.call (κ := .seq) (d := some 9) (r := (sq 2 13)) (g := 25) (args := #[.agg #[.slice a0C C.voters.length k0C, .slice a1C C.learners.length k1C]]) (by as_aux_lemma => kernel_rfl) (nofun) (refcheck_spec (C := C) (conf_mk (H.rp 0 rfl) (H.rp 1 rfl))) ?_
  rintro _ w7 hE8 rfl
  have H := H.ext hE8
  refine RW.runP 2 [2, 3, 4, 11] (sq 4 13) [(2, .pointer (some ⟨b1, 0, none⟩)), (3, .pointer (some ⟨b3, 0, none⟩)), (4, .pointer (some ⟨b5, 0, none⟩)), (11, .bool ((errOf (okConf C)) != 0))] (by as_aux_lemma => kernel_rfl) (by as_aux_lemma => kernel_rfl) ?_
  refine RW.test (fun b_ => [(2, .pointer (some ⟨b1, 0, none⟩)), (3, .pointer (some ⟨b3, 0, none⟩)), (4, .pointer (some ⟨b5, 0, none⟩)), (11, .bool b_)]) ((errOf (okConf C)) != 0) (fun h9 => ?_) (fun h9 => ?_)
  · skip
    replace h9 := bne_iff_ne.1 h9
    have hokC := errOf_ne h9
    refine RW.fin 9 [2, 3, 4, 20] [(2, .pointer (some ⟨b1, 0, none⟩)), (3, .pointer (some ⟨b3, 0, none⟩)), (4, .pointer (some ⟨b5, 0, none⟩)), (20, .bool true)] (by as_aux_lemma => kernel_rfl) ?_
    refine WK.run 2 [4] [.code (cd Try.prog 14 [1, 0, 1, 0, 0]), .code (cd Try.prog 14 [1, 0, 1, 0, 1]), .code (cd Try.prog 14 [2])] [(4, .pointer (some ⟨b5, 0, none⟩))] (by as_aux_lemma => kernel_rfl) ?_
    refine WK.reg1 (l := sq 0 3) (by as_aux_lemma => kernel_rfl) (by as_aux_lemma => kernel_rfl) ?_
    refine RW.runP 1 [4, 21] (sq 1 3) [(4, .pointer (some ⟨b5, 0, none⟩)), (21, .agg #[.slice none 0 0, .slice none 0 0])] (by as_aux_lemma => kernel_rfl) (by as_aux_lemma => kernel_rfl) ?_
    refine RW.store (d := none) (r := (sq 2 3)) (T := 24) (b := b5) (k := 0) (v := .agg #[.slice none 0 0, .slice none 0 0]) (c' := #[.slice none 0 0, .slice none 0 0]) (M' := [(b5, .cells #[.slice none 0 0, .slice none 0 0] 24 (0, 0)), (b3, .cells #[.int .i64 Z.kind, .int .i64 Z.node] 34 (0, 0)), (b1, .cells #[.slice a0C C.voters.length k0C, .slice a1C C.learners.length k1C] 24 (0, 0))]) (by as_aux_lemma => kernel_rfl) H 0 rfl (by as_aux_lemma => kernel_rfl) (by as_aux_lemma => kernel_rfl) ?_
    intro w10 H
    refine RW.fin 1 [4, 5] [(4, .pointer (some ⟨b5, 0, none⟩)), (5, .int .i64 120)] (by as_aux_lemma => kernel_rfl) ?_
    refine WK.retBy (v := .tuple #[.agg #[.slice none 0 0, .slice none 0 0], .int .i64 120]) Try.func14 (by as_aux_lemma => kernel_rfl) (RV.res2 (x := .cell 4 24) (y := .tmp 5) (by as_aux_lemma => kernel_rfl) (RV.cell (k := 0) (by as_aux_lemma => kernel_rfl) (H.cells 0 rfl) rfl (by as_aux_lemma => kernel_rfl)) (RV.tmp (by as_aux_lemma => kernel_rfl))) ?_
    refine ⟨_, rfl, H.done, [.slice none 0 0, .slice none 0 0], ⟨[], []⟩, 120, rfl, H.out (conf_mk Shape.slice_nil Shape.slice_nil), ?_⟩
    clear H
    symm
    unfold stepOf stepOk
    first | (simp [*]; done) | (simp [*]; omega)
  · skip
    replace h9 := (bne_eq_false_iff_eq.1 h9)
    have hokC := errOf_eq h9
    have hlC9 := ok_len hokC
    obtain ⟨hpos, hrv, hrl, hcm⟩ := okConf_iff.1 hokC
    have hdis9 := common_nil.1 hcm
    refine RW.runP 1 [2, 3, 4, 11, 12] (sq 5 13) [(2, .pointer (some ⟨b1, 0, none⟩)), (3, .pointer (some ⟨b3, 0, none⟩)), (4, .pointer (some ⟨b5, 0, none⟩)), (11, .bool false), (12, .pointer (some ⟨b3, 1, none⟩))] (by as_aux_lemma => kernel_rfl) (by as_aux_lemma => kernel_rfl) ?_
    refine RW.load (κ := .seq) (d := some 13) (r := (sq 6 13)) (T := 3) (b := b3) (o' := 1) (k := 1) (v := .int .i64 Z.node) (by as_aux_lemma => kernel_rfl) (H.cells 1 rfl) rfl (by as_aux_lemma => kernel_rfl) ?_
    refine RW.runP 3 [2, 3, 4, 16] (sq 9 13) [(2, .pointer (some ⟨b1, 0, none⟩)), (3, .pointer (some ⟨b3, 0, none⟩)), (4, .pointer (some ⟨b5, 0, none⟩)), (16, .bool (decide ((Z.node : Int) < 1)))] (by as_aux_lemma => kernel_rfl) (by as_aux_lemma => kernel_rfl) ?_
    refine RW.test (fun b_ => [(2, .pointer (some ⟨b1, 0, none⟩)), (3, .pointer (some ⟨b3, 0, none⟩)), (4, .pointer (some ⟨b5, 0, none⟩)), (16, .bool b_)]) (decide ((Z.node : Int) < 1)) (fun h11 => ?_) (fun h11 => ?_)
    · skip
      replace h11 := of_decide_eq_true h11
      refine RW.fin 4 [2, 3, 4, 20] [(2, .pointer (some ⟨b1, 0, none⟩)), (3, .pointer (some ⟨b3, 0, none⟩)), (4, .pointer (some ⟨b5, 0, none⟩)), (20, .bool true)] (by as_aux_lemma => kernel_rfl) ?_
      refine WK.run 2 [4] [.code (cd Try.prog 14 [1, 0, 1, 0, 0]), .code (cd Try.prog 14 [1, 0, 1, 0, 1]), .code (cd Try.prog 14 [2])] [(4, .pointer (some ⟨b5, 0, none⟩))] (by as_aux_lemma => kernel_rfl) ?_
      refine WK.reg1 (l := sq 0 3) (by as_aux_lemma => kernel_rfl) (by as_aux_lemma => kernel_rfl) ?_
      refine RW.runP 1 [4, 21] (sq 1 3) [(4, .pointer (some ⟨b5, 0, none⟩)), (21, .agg #[.slice none 0 0, .slice none 0 0])] (by as_aux_lemma => kernel_rfl) (by as_aux_lemma => kernel_rfl) ?_
      refine RW.store (d := none) (r := (sq 2 3)) (T := 24) (b := b5) (k := 0) (v := .agg #[.slice none 0 0, .slice none 0 0]) (c' := #[.slice none 0 0, .slice none 0 0]) (M' := [(b5, .cells #[.slice none 0 0, .slice none 0 0] 24 (0, 0)), (b3, .cells #[.int .i64 Z.kind, .int .i64 Z.node] 34 (0, 0)), (b1, .cells #[.slice a0C C.voters.length k0C, .slice a1C C.learners.length k1C] 24 (0, 0))]) (by as_aux_lemma => kernel_rfl) H 0 rfl (by as_aux_lemma => kernel_rfl) (by as_aux_lemma => kernel_rfl) ?_
      intro w12 H
      refine RW.fin 1 [4, 5] [(4, .pointer (some ⟨b5, 0, none⟩)), (5, .int .i64 120)] (by as_aux_lemma => kernel_rfl) ?_
      refine WK.retBy (v := .tuple #[.agg #[.slice none 0 0, .slice none 0 0], .int .i64 120]) Try.func14 (by as_aux_lemma => kernel_rfl) (RV.res2 (x := .cell 4 24) (y := .tmp 5) (by as_aux_lemma => kernel_rfl) (RV.cell (k := 0) (by as_aux_lemma => kernel_rfl) (H.cells 0 rfl) rfl (by as_aux_lemma => kernel_rfl)) (RV.tmp (by as_aux_lemma => kernel_rfl))) ?_
      refine ⟨_, rfl, H.done, [.slice none 0 0, .slice none 0 0], ⟨[], []⟩, 120, rfl, H.out (conf_mk Shape.slice_nil Shape.slice_nil), ?_⟩
      clear H
      symm
      unfold stepOf stepOk
      first | (simp [*]; done) | (simp [*]; omega)
    · skip
      replace h11 := of_decide_eq_false h11
      refine RW.runP 1 [2, 3, 4, 16, 17] (sq 10 13) [(2, .pointer (some ⟨b1, 0, none⟩)), (3, .pointer (some ⟨b3, 0, none⟩)), (4, .pointer (some ⟨b5, 0, none⟩)), (16, .bool false), (17, .pointer (some ⟨b3, 1, none⟩))] (by as_aux_lemma => kernel_rfl) (by as_aux_lemma => kernel_rfl) ?_
      refine RW.load (κ := .seq) (d := some 18) (r := (sq 11 13)) (T := 3) (b := b3) (o' := 1) (k := 1) (v := .int .i64 Z.node) (by as_aux_lemma => kernel_rfl) (H.cells 1 rfl) rfl (by as_aux_lemma => kernel_rfl) ?_
      refine RW.fin 2 [2, 3, 4, 20] [(2, .pointer (some ⟨b1, 0, none⟩)), (3, .pointer (some ⟨b3, 0, none⟩)), (4, .pointer (some ⟨b5, 0, none⟩)), (20, .bool (decide ((Z.node : Int) > 32)))] (by as_aux_lemma => kernel_rfl) ?_
      refine WK.cond1 (decide ((Z.node : Int) > 32)) (by as_aux_lemma => kernel_rfl) (by as_aux_lemma => kernel_rfl) (fun h13 => ?_) (fun h13 => ?_)
      · skip
        replace h13 := of_decide_eq_true h13
        refine WK.run 1 [4] [.code (cd Try.prog 14 [1, 0, 1, 0, 0]), .code (cd Try.prog 14 [1, 0, 1, 0, 1]), .code (cd Try.prog 14 [2])] [(4, .pointer (some ⟨b5, 0, none⟩))] (by as_aux_lemma => kernel_rfl) ?_
        refine WK.reg1 (l := sq 0 3) (by as_aux_lemma => kernel_rfl) (by as_aux_lemma => kernel_rfl) ?_
        refine RW.runP 1 [4, 21] (sq 1 3) [(4, .pointer (some ⟨b5, 0, none⟩)), (21, .agg #[.slice none 0 0, .slice none 0 0])] (by as_aux_lemma => kernel_rfl) (by as_aux_lemma => kernel_rfl) ?_
        refine RW.store (d := none) (r := (sq 2 3)) (T := 24) (b := b5) (k := 0) (v := .agg #[.slice none 0 0, .slice none 0 0]) (c' := #[.slice none 0 0, .slice none 0 0]) (M' := [(b5, .cells #[.slice none 0 0, .slice none 0 0] 24 (0, 0)), (b3, .cells #[.int .i64 Z.kind, .int .i64 Z.node] 34 (0, 0)), (b1, .cells #[.slice a0C C.voters.length k0C, .slice a1C C.learners.length k1C] 24 (0, 0))]) (by as_aux_lemma => kernel_rfl) H 0 rfl (by as_aux_lemma => kernel_rfl) (by as_aux_lemma => kernel_rfl) ?_
        intro w14 H
        refine RW.fin 1 [4, 5] [(4, .pointer (some ⟨b5, 0, none⟩)), (5, .int .i64 120)] (by as_aux_lemma => kernel_rfl) ?_
        refine WK.retBy (v := .tuple #[.agg #[.slice none 0 0, .slice none 0 0], .int .i64 120]) Try.func14 (by as_aux_lemma => kernel_rfl) (RV.res2 (x := .cell 4 24) (y := .tmp 5) (by as_aux_lemma => kernel_rfl) (RV.cell (k := 0) (by as_aux_lemma => kernel_rfl) (H.cells 0 rfl) rfl (by as_aux_lemma => kernel_rfl)) (RV.tmp (by as_aux_lemma => kernel_rfl))) ?_
        refine ⟨_, rfl, H.done, [.slice none 0 0, .slice none 0 0], ⟨[], []⟩, 120, rfl, H.out (conf_mk Shape.slice_nil Shape.slice_nil), ?_⟩
        clear H
        symm
        unfold stepOf stepOk
        first | (simp [*]; done) | (simp [*]; omega)
      · skip
        replace h13 := of_decide_eq_false h13
        refine WK.run 2 [2, 3, 4] [.code (cd Try.prog 14 [2, 0]), .code (cd Try.prog 14 [3])] [(2, .pointer (some ⟨b1, 0, none⟩)), (3, .pointer (some ⟨b3, 0, none⟩)), (4, .pointer (some ⟨b5, 0, none⟩))] (by as_aux_lemma => kernel_rfl) ?_
        refine WK.reg1 (l := sq 0 6) (by as_aux_lemma => kernel_rfl) (by as_aux_lemma => kernel_rfl) ?_
        refine RW.runP 1 [2, 3, 4, 22] (sq 1 6) [(2, .pointer (some ⟨b1, 0, none⟩)), (3, .pointer (some ⟨b3, 0, none⟩)), (4, .pointer (some ⟨b5, 0, none⟩)), (22, .pointer (some ⟨b3, 1, none⟩))] (by as_aux_lemma => kernel_rfl) (by as_aux_lemma => kernel_rfl) ?_
        refine RW.load (κ := .seq) (d := some 23) (r := (sq 2 6)) (T := 3) (b := b3) (o' := 1) (k := 1) (v := .int .i64 Z.node) (by as_aux_lemma => kernel_rfl) (H.cells 1 rfl) rfl (by as_aux_lemma => kernel_rfl) ?_
        refine RW.runP 1 [2, 3, 4, 23, 24] (sq 3 6) [(2, .pointer (some ⟨b1, 0, none⟩)), (3, .pointer (some ⟨b3, 0, none⟩)), (4, .pointer (some ⟨b5, 0, none⟩)), (23, .int .i64 Z.node), (24, .pointer (some ⟨b1, 0, none⟩))] (by as_aux_lemma => kernel_rfl) (by as_aux_lemma => kernel_rfl) ?_
        refine RW.load (κ := .seq) (d := some 25) (r := (sq 4 6)) (T := 22) (b := b1) (o' := 0) (k := 0) (v := .slice a0C C.voters.length k0C) (by as_aux_lemma => kernel_rfl) (H.cells 2 rfl) rfl (by as_aux_lemma => kernel_rfl) ?_
        refine RW.call (κ := .seq) (d := some 26) (r := (sq 5 6)) (g := 10) (args := #[.int .i64 Z.node, .slice a0C C.voters.length k0C]) (by as_aux_lemma => kernel_rfl) (nofun) (in_spec Z.node (H.rp 0 rfl)) ?_
        rintro _ w15 hE16 rfl
        have H := H.ext hE16
        refine RW.fin 1 [2, 3, 4, 6] [(2, .pointer (some ⟨b1, 0, none⟩)), (3, .pointer (some ⟨b3, 0, none⟩)), (4, .pointer (some ⟨b5, 0, none⟩)), (6, .bool (decide (Z.node ∈ C.voters)))] (by as_aux_lemma => kernel_rfl) ?_
        refine WK.run 1 [2, 3, 4, 6] [.code (cd Try.prog 14 [3, 0]), .code (cd Try.prog 14 [4])] [(2, .pointer (some ⟨b1, 0, none⟩)), (3, .pointer (some ⟨b3, 0, none⟩)), (4, .pointer (some ⟨b5, 0, none⟩)), (6, .bool (decide (Z.node ∈ C.voters)))] (by as_aux_lemma => kernel_rfl) ?_
        refine WK.reg1 (l := sq 0 6) (by as_aux_lemma => kernel_rfl) (by as_aux_lemma => kernel_rfl) ?_
        refine RW.runP 1 [2, 3, 4, 6, 27] (sq 1 6) [(2, .pointer (some ⟨b1, 0, none⟩)), (3, .pointer (some ⟨b3, 0, none⟩)), (4, .pointer (some ⟨b5, 0, none⟩)), (6, .bool (decide (Z.node ∈ C.voters))), (27, .pointer (some ⟨b3, 1, none⟩))] (by as_aux_lemma => kernel_rfl) (by as_aux_lemma => kernel_rfl) ?_
        refine RW.load (κ := .seq) (d := some 28) (r := (sq 2 6)) (T := 3) (b := b3) (o' := 1) (k := 1) (v := .int .i64 Z.node) (by as_aux_lemma => kernel_rfl) (H.cells 1 rfl) rfl (by as_aux_lemma => kernel_rfl) ?_
        refine RW.runP 1 [2, 3, 4, 6, 28, 29] (sq 3 6) [(2, .pointer (some ⟨b1, 0, none⟩)), (3, .pointer (some ⟨b3, 0, none⟩)), (4, .pointer (some ⟨b5, 0, none⟩)), (6, .bool (decide (Z.node ∈ C.voters))), (28, .int .i64 Z.node), (29, .pointer (some ⟨b1, 1, none⟩))] (by as_aux_lemma => kernel_rfl) (by as_aux_lemma => kernel_rfl) ?_
        refine RW.load (κ := .seq) (d := some 30) (r := (sq 4 6)) (T := 22) (b := b1) (o' := 1) (k := 1) (v := .slice a1C C.learners.length k1C) (by as_aux_lemma => kernel_rfl) (H.cells 2 rfl) rfl (by as_aux_lemma => kernel_rfl) ?_
        refine RW.call (κ := .seq) (d := some 31) (r := (sq 5 6)) (g := 10) (args := #[.int .i64 Z.node, .slice a1C C.learners.length k1C]) (by as_aux_lemma => kernel_rfl) (nofun) (in_spec Z.node (H.rp 1 rfl)) ?_
        rintro _ w17 hE18 rfl
        have H := H.ext hE18
        refine RW.fin 1 [2, 3, 4, 6, 7] [(2, .pointer (some ⟨b1, 0, none⟩)), (3, .pointer (some ⟨b3, 0, none⟩)), (4, .pointer (some ⟨b5, 0, none⟩)), (6, .bool (decide (Z.node ∈ C.voters))), (7, .bool (decide (Z.node ∈ C.learners)))] (by as_aux_lemma => kernel_rfl) ?_
        refine WK.run 3 [2, 3, 4, 6, 7] [.code (cd Try.prog 14 [4, 0, 0, 0]), .code (cd Try.prog 14 [4, 0, 0, 1]), .inBlock 0, .code (cd Try.prog 14 [5])] [(2, .pointer (some ⟨b1, 0, none⟩)), (3, .pointer (some ⟨b3, 0, none⟩)), (4, .pointer (some ⟨b5, 0, none⟩)), (6, .bool (decide (Z.node ∈ C.voters))), (7, .bool (decide (Z.node ∈ C.learners)))] (by as_aux_lemma => kernel_rfl) ?_
        refine WK.reg1 (l := sq 0 12) (by as_aux_lemma => kernel_rfl) (by as_aux_lemma => kernel_rfl) ?_
        refine RW.runP 1 [2, 3, 4, 6, 7, 33] (sq 1 12) [(2, .pointer (some ⟨b1, 0, none⟩)), (3, .pointer (some ⟨b3, 0, none⟩)), (4, .pointer (some ⟨b5, 0, none⟩)), (6, .bool (decide (Z.node ∈ C.voters))), (7, .bool (decide (Z.node ∈ C.learners))), (33, .pointer (some ⟨b3, 0, none⟩))] (by as_aux_lemma => kernel_rfl) (by as_aux_lemma => kernel_rfl) ?_
        refine RW.load (κ := .seq) (d := some 34) (r := (sq 2 12)) (T := 32) (b := b3) (o' := 0) (k := 0) (v := .int .i64 Z.kind) (by as_aux_lemma => kernel_rfl) (H.cells 1 rfl) rfl (by as_aux_lemma => kernel_rfl) ?_
        refine RW.runP 2 [2, 3, 4, 6, 7, 36] (sq 4 12) [(2, .pointer (some ⟨b1, 0, none⟩)), (3, .pointer (some ⟨b3, 0, none⟩)), (4, .pointer (some ⟨b5, 0, none⟩)), (6, .bool (decide (Z.node ∈ C.voters))), (7, .bool (decide (Z.node ∈ C.learners))), (36, .bool (Z.kind == 1))] (by as_aux_lemma => kernel_rfl) (by as_aux_lemma => kernel_rfl) ?_
        refine RW.test (fun b_ => [(2, .pointer (some ⟨b1, 0, none⟩)), (3, .pointer (some ⟨b3, 0, none⟩)), (4, .pointer (some ⟨b5, 0, none⟩)), (6, .bool (decide (Z.node ∈ C.voters))), (7, .bool (decide (Z.node ∈ C.learners))), (36, .bool b_)]) (Z.kind == 1) (fun h19 => ?_) (fun h19 => ?_)
        · skip
          replace h19 := eq_of_beq h19
          refine RW.runP 4 [2, 3, 4, 6, 7, 40] (sq 8 12) [(2, .pointer (some ⟨b1, 0, none⟩)), (3, .pointer (some ⟨b3, 0, none⟩)), (4, .pointer (some ⟨b5, 0, none⟩)), (6, .bool (decide (Z.node ∈ C.voters))), (7, .bool (decide (Z.node ∈ C.learners))), (40, .bool (!(decide (Z.node ∈ C.voters))))] (by as_aux_lemma => kernel_rfl) (by as_aux_lemma => kernel_rfl) ?_
          refine RW.test (fun b_ => [(2, .pointer (some ⟨b1, 0, none⟩)), (3, .pointer (some ⟨b3, 0, none⟩)), (4, .pointer (some ⟨b5, 0, none⟩)), (6, .bool (decide (Z.node ∈ C.voters))), (7, .bool (decide (Z.node ∈ C.learners))), (40, .bool b_)]) (!(decide (Z.node ∈ C.voters))) (fun h20 => ?_) (fun h20 => ?_)
          · skip
            replace h20 : (decide (Z.node ∈ C.voters)) = false := by revert h20; cases (decide (Z.node ∈ C.voters)) <;> simp
            replace h20 := of_decide_eq_false h20
            refine RW.fin 4 [2, 3, 4, 6, 7, 32] [(2, .pointer (some ⟨b1, 0, none⟩)), (3, .pointer (some ⟨b3, 0, none⟩)), (4, .pointer (some ⟨b5, 0, none⟩)), (6, .bool (decide (Z.node ∈ C.voters))), (7, .bool (decide (Z.node ∈ C.learners))), (32, .bool (!(decide (Z.node ∈ C.learners))))] (by as_aux_lemma => kernel_rfl) ?_
            refine WK.cond1 (!(decide (Z.node ∈ C.learners))) (by as_aux_lemma => kernel_rfl) (by as_aux_lemma => kernel_rfl) (fun h21 => ?_) (fun h21 => ?_)
            · skip
              replace h21 : (decide (Z.node ∈ C.learners)) = false := by revert h21; cases (decide (Z.node ∈ C.learners)) <;> simp
              replace h21 := of_decide_eq_false h21
              refine WK.run 1 [2, 3, 4] [.code (cd Try.prog 14 [4, 0, 0, 1, 0, 0]), .code (cd Try.prog 14 [4, 0, 0, 1, 0, 1]), .inBlock 0, .code (cd Try.prog 14 [5])] [(2, .pointer (some ⟨b1, 0, none⟩)), (3, .pointer (some ⟨b3, 0, none⟩)), (4, .pointer (some ⟨b5, 0, none⟩))] (by as_aux_lemma => kernel_rfl) ?_
              refine WK.draw1 10 [(1, .qui), (2, .qui), (4, .qui), (5, .qui), (6, .qui), (7, .qui), (0, .chn), (3, .chn), (8, .chn), (9, .qui)] [(1, .qui), (2, .qui), (4, .qui), (5, .qui), (6, .qui), (7, .qui), (0, .chn), (3, .chn), (8, .chn), (9, .qui), (10, .seq), (11, .seq)] Try_mixed (by as_aux_lemma => kernel_rfl) (by as_aux_lemma => kernel_rfl) (by as_aux_lemma => kernel_rfl) ?_
              have H := H.draw
              generalize ({ w17 with drawn := w17.drawn + 1 } : World) = w22 at H ⊢
              refine RW.runP 1 [2, 3, 4, 45] [(2, .qui), (4, .qui), (5, .qui), (6, .qui), (7, .qui), (0, .chn), (3, .chn), (8, .chn), (9, .qui), (10, .seq), (11, .seq)] [(2, .pointer (some ⟨b1, 0, none⟩)), (3, .pointer (some ⟨b3, 0, none⟩)), (4, .pointer (some ⟨b5, 0, none⟩)), (45, .pointer (some ⟨b1, 0, none⟩))] (by as_aux_lemma => kernel_rfl) (by as_aux_lemma => kernel_rfl) ?_
              refine RW.load (κ := .qui) (d := some 46) (r := [(4, .qui), (5, .qui), (6, .qui), (7, .qui), (0, .chn), (3, .chn), (8, .chn), (9, .qui), (10, .seq), (11, .seq)]) (T := 22) (b := b1) (o' := 0) (k := 0) (v := .slice a0C C.voters.length k0C) (by as_aux_lemma => kernel_rfl) (H.cells 2 rfl) rfl (by as_aux_lemma => kernel_rfl) ?_
              refine RW.runP 1 [3, 4, 46, 48] [(5, .qui), (6, .qui), (7, .qui), (0, .chn), (3, .chn), (8, .chn), (9, .qui), (10, .seq), (11, .seq)] [(3, .pointer (some ⟨b3, 0, none⟩)), (4, .pointer (some ⟨b5, 0, none⟩)), (46, .slice a0C C.voters.length k0C), (48, .pointer (some ⟨b1, 1, none⟩))] (by as_aux_lemma => kernel_rfl) (by as_aux_lemma => kernel_rfl) ?_
              refine RW.load (κ := .qui) (d := some 49) (r := [(6, .qui), (7, .qui), (0, .chn), (3, .chn), (8, .chn), (9, .qui), (10, .seq), (11, .seq)]) (T := 22) (b := b1) (o' := 1) (k := 1) (v := .slice a1C C.learners.length k1C) (by as_aux_lemma => kernel_rfl) (H.cells 2 rfl) rfl (by as_aux_lemma => kernel_rfl) ?_
              refine RW.runP 1 [4, 46, 49, 50] [(7, .qui), (0, .chn), (3, .chn), (8, .chn), (9, .qui), (10, .seq), (11, .seq)] [(4, .pointer (some ⟨b5, 0, none⟩)), (46, .slice a0C C.voters.length k0C), (49, .slice a1C C.learners.length k1C), (50, .pointer (some ⟨b3, 1, none⟩))] (by as_aux_lemma => kernel_rfl) (by as_aux_lemma => kernel_rfl) ?_
              refine RW.load (κ := .qui) (d := some 51) (r := [(0, .chn), (3, .chn), (8, .chn), (9, .qui), (10, .seq), (11, .seq)]) (T := 3) (b := b3) (o' := 1) (k := 1) (v := .int .i64 Z.node) (by as_aux_lemma => kernel_rfl) (H.cells 1 rfl) rfl (by as_aux_lemma => kernel_rfl) ?_
              refine RW.new (κ := .chn) (d := some 44) (r := [(3, .chn), (8, .chn), (9, .qui), (10, .seq), (11, .seq)]) (o := .cells #[] 3 (0, 0)) (v := fun b => .slice (some ⟨b, 0, none⟩) 0 0) (fun b => by as_aux_lemma => kernel_rfl) (nofun) H ?_
              intro b23 w24 H
              refine RW.appendN (κ := .chn) (d := some 47) (r := [(8, .chn), (9, .qui), (10, .seq), (11, .seq)]) (T := 22) (ty := 22) (e := 3) (m := 1) (by_ := 8) (a0 := (some ⟨b23, 0, none⟩)) (a2 := a0C) (l2 := C.voters.length) (c2 := k0C) (by as_aux_lemma => kernel_rfl) (nofun) (.inr ⟨_, rfl⟩) (by as_aux_lemma => kernel_rfl) rfl H 0 rfl (by omega) ?_
              intro a25 c26 w27 H
              refine RW.call (κ := .chn) (d := some 52) (r := [(9, .qui), (10, .seq), (11, .seq)]) (g := 26) (args := #[.slice a1C C.learners.length k1C, .int .i64 Z.node]) (by as_aux_lemma => kernel_rfl) (nofun) (refwith_spec (H.rp 2 rfl) Z.node (by omega) (by first | assumption | exact fun hq => hdis9 _ hq (by assumption)) (by omega)) ?_
              rintro v29 w28 - H'
              have H := H.back (M1 := []) (W1 := []) H'
              obtain ⟨a30, c31, rfl, hc32, hm33⟩ := H.ownForm 0 rfl
              have H : Hp w S [] [(b23, .cells #[] 3 (0, 0)), (b5, .cells #[.slice none 0 0, .slice none 0 0] 24 (0, 0)), (b3, .cells #[.int .i64 Z.kind, .int .i64 Z.node] 34 (0, 0)), (b1, .cells #[.slice a0C C.voters.length k0C, .slice a1C C.learners.length k1C] 24 (0, 0))] [⟨Shape.int .i64, 3, .slice a30 ((ins Z.node C.learners).length) c31, ins Z.node C.learners⟩] [Rp (Shape.slice (Shape.int .i64)) [.slice a25 C.voters.length c26] C.voters, Rp (Shape.slice (Shape.int .i64)) [.slice a0C C.voters.length k0C] C.voters, Rp (Shape.slice (Shape.int .i64)) [.slice a1C C.learners.length k1C] C.learners] _ := H
              refine RW.runP 1 [4, 53] [(10, .seq), (11, .seq)] [(4, .pointer (some ⟨b5, 0, none⟩)), (53, .agg #[.slice a25 C.voters.length c26, .slice a30 ((ins Z.node C.learners).length) c31])] (by as_aux_lemma => kernel_rfl) (by as_aux_lemma => kernel_rfl) ?_
              refine RW.store (d := none) (r := [(11, .seq)]) (T := 24) (b := b5) (k := 0) (v := .agg #[.slice a25 C.voters.length c26, .slice a30 ((ins Z.node C.learners).length) c31]) (c' := #[.slice a25 C.voters.length c26, .slice a30 ((ins Z.node C.learners).length) c31]) (M' := [(b23, .cells #[] 3 (0, 0)), (b5, .cells #[.slice a25 C.voters.length c26, .slice a30 ((ins Z.node C.learners).length) c31] 24 (0, 0)), (b3, .cells #[.int .i64 Z.kind, .int .i64 Z.node] 34 (0, 0)), (b1, .cells #[.slice a0C C.voters.length k0C, .slice a1C C.learners.length k1C] 24 (0, 0))]) (by as_aux_lemma => kernel_rfl) H 1 rfl (by as_aux_lemma => kernel_rfl) (by as_aux_lemma => kernel_rfl) ?_
              intro w34 H
              refine RW.fin 1 [4, 5] [(4, .pointer (some ⟨b5, 0, none⟩)), (5, .int .i64 0)] (by as_aux_lemma => kernel_rfl) ?_
              refine WK.retBy (v := .tuple #[.agg #[.slice a25 C.voters.length c26, .slice a30 ((ins Z.node C.learners).length) c31], .int .i64 0]) Try.func14 (by as_aux_lemma => kernel_rfl) (RV.res2 (x := .cell 4 24) (y := .tmp 5) (by as_aux_lemma => kernel_rfl) (RV.cell (k := 0) (by as_aux_lemma => kernel_rfl) (H.cells 1 rfl) rfl (by as_aux_lemma => kernel_rfl)) (RV.tmp (by as_aux_lemma => kernel_rfl))) ?_
              have H : Hp w S [] [(b23, .cells #[] 3 (0, 0)), (b5, .cells #[.slice a25 C.voters.length c26, .slice a30 ((ins Z.node C.learners).length) c31] 24 (0, 0)), (b3, .cells #[.int .i64 Z.kind, .int .i64 Z.node] 34 (0, 0)), (b1, .cells #[.slice a0C C.voters.length k0C, .slice a1C C.learners.length k1C] 24 (0, 0))] [] [Rp (Shape.slice (Shape.int .i64)) [.slice a30 ((ins Z.node C.learners).length) c31] (ins Z.node C.learners), Rp (Shape.slice (Shape.int .i64)) [.slice a25 C.voters.length c26] C.voters, Rp (Shape.slice (Shape.int .i64)) [.slice a0C C.voters.length k0C] C.voters, Rp (Shape.slice (Shape.int .i64)) [.slice a1C C.learners.length k1C] C.learners] _ := H.freezeW 0 rfl
              refine ⟨_, rfl, H.done, [.slice a25 C.voters.length c26, .slice a30 ((ins Z.node C.learners).length) c31], ⟨C.voters, ins Z.node C.learners⟩, 0, rfl, H.out (conf_mk (H.rp 1 rfl) (H.rp 0 rfl)), ?_⟩
              clear H
              symm
              unfold stepOf stepOk
              first | (simp [*]; done) | (simp [*]; omega)
            · skip
              replace h21 : (decide (Z.node ∈ C.learners)) = true := by revert h21; cases (decide (Z.node ∈ C.learners)) <;> simp
              replace h21 := of_decide_eq_true h21
              refine WK.run 1 [2, 3, 4, 6, 7] [.code (cd Try.prog 14 [4, 0, 0, 1, 1, 0]), .code (cd Try.prog 14 [4, 0, 0, 1, 1, 1]), .inBlock 0, .code (cd Try.prog 14 [5])] [(2, .pointer (some ⟨b1, 0, none⟩)), (3, .pointer (some ⟨b3, 0, none⟩)), (4, .pointer (some ⟨b5, 0, none⟩)), (6, .bool (decide (Z.node ∈ C.voters))), (7, .bool (decide (Z.node ∈ C.learners)))] (by as_aux_lemma => kernel_rfl) ?_
              refine WK.reg1 (l := sq 0 7) (by as_aux_lemma => kernel_rfl) (by as_aux_lemma => kernel_rfl) ?_
              refine RW.runP 1 [2, 3, 4, 6, 7, 55] (sq 1 7) [(2, .pointer (some ⟨b1, 0, none⟩)), (3, .pointer (some ⟨b3, 0, none⟩)), (4, .pointer (some ⟨b5, 0, none⟩)), (6, .bool (decide (Z.node ∈ C.voters))), (7, .bool (decide (Z.node ∈ C.learners))), (55, .pointer (some ⟨b3, 0, none⟩))] (by as_aux_lemma => kernel_rfl) (by as_aux_lemma => kernel_rfl) ?_
              refine RW.load (κ := .seq) (d := some 56) (r := (sq 2 7)) (T := 32) (b := b3) (o' := 0) (k := 0) (v := .int .i64 Z.kind) (by as_aux_lemma => kernel_rfl) (H.cells 1 rfl) rfl (by as_aux_lemma => kernel_rfl) ?_
              refine RW.runP 2 [2, 3, 4, 6, 7, 58] (sq 4 7) [(2, .pointer (some ⟨b1, 0, none⟩)), (3, .pointer (some ⟨b3, 0, none⟩)), (4, .pointer (some ⟨b5, 0, none⟩)), (6, .bool (decide (Z.node ∈ C.voters))), (7, .bool (decide (Z.node ∈ C.learners))), (58, .bool (Z.kind == 2))] (by as_aux_lemma => kernel_rfl) (by as_aux_lemma => kernel_rfl) ?_
              refine RW.test (fun b_ => [(2, .pointer (some ⟨b1, 0, none⟩)), (3, .pointer (some ⟨b3, 0, none⟩)), (4, .pointer (some ⟨b5, 0, none⟩)), (6, .bool (decide (Z.node ∈ C.voters))), (7, .bool (decide (Z.node ∈ C.learners))), (58, .bool b_)]) (Z.kind == 2) (fun h35 => ?_) (fun h35 => ?_)
              · skip
                replace h35 := eq_of_beq h35
                refine RW.fin 3 [2, 3, 4, 6, 7, 54] [(2, .pointer (some ⟨b1, 0, none⟩)), (3, .pointer (some ⟨b3, 0, none⟩)), (4, .pointer (some ⟨b5, 0, none⟩)), (6, .bool (decide (Z.node ∈ C.voters))), (7, .bool (decide (Z.node ∈ C.learners))), (54, .bool (decide (Z.node ∈ C.learners)))] (by as_aux_lemma => kernel_rfl) ?_
                refine WK.cond1 (decide (Z.node ∈ C.learners)) (by as_aux_lemma => kernel_rfl) (by as_aux_lemma => kernel_rfl) (fun h36 => ?_) (fun h36 => ?_)
                · skip
                  replace h36 := of_decide_eq_true h36
                  refine WK.run 1 [2, 3, 4] [.code (cd Try.prog 14 [4, 0, 0, 1, 1, 1, 0, 0]), .code (cd Try.prog 14 [4, 0, 0, 1, 1, 1, 0, 1]), .inBlock 0, .code (cd Try.prog 14 [5])] [(2, .pointer (some ⟨b1, 0, none⟩)), (3, .pointer (some ⟨b3, 0, none⟩)), (4, .pointer (some ⟨b5, 0, none⟩))] (by as_aux_lemma => kernel_rfl) ?_
                  refine WK.draw1 11 [(0, .qui), (1, .qui), (2, .qui), (3, .qui), (5, .qui), (6, .qui), (7, .qui), (8, .qui), (4, .chn), (9, .chn), (10, .qui)] [(0, .qui), (1, .qui), (2, .qui), (3, .qui), (5, .qui), (6, .qui), (7, .qui), (8, .qui), (4, .chn), (9, .chn), (10, .qui), (11, .seq), (12, .seq)] Try_mixed (by as_aux_lemma => kernel_rfl) (by as_aux_lemma => kernel_rfl) (by as_aux_lemma => kernel_rfl) ?_
                  have H := H.draw
                  generalize ({ w17 with drawn := w17.drawn + 1 } : World) = w37 at H ⊢
                  refine RW.runP 1 [2, 3, 4, 61] [(1, .qui), (2, .qui), (3, .qui), (5, .qui), (6, .qui), (7, .qui), (8, .qui), (4, .chn), (9, .chn), (10, .qui), (11, .seq), (12, .seq)] [(2, .pointer (some ⟨b1, 0, none⟩)), (3, .pointer (some ⟨b3, 0, none⟩)), (4, .pointer (some ⟨b5, 0, none⟩)), (61, .pointer (some ⟨b1, 0, none⟩))] (by as_aux_lemma => kernel_rfl) (by as_aux_lemma => kernel_rfl) ?_
                  refine RW.load (κ := .qui) (d := some 62) (r := [(2, .qui), (3, .qui), (5, .qui), (6, .qui), (7, .qui), (8, .qui), (4, .chn), (9, .chn), (10, .qui), (11, .seq), (12, .seq)]) (T := 22) (b := b1) (o' := 0) (k := 0) (v := .slice a0C C.voters.length k0C) (by as_aux_lemma => kernel_rfl) (H.cells 2 rfl) rfl (by as_aux_lemma => kernel_rfl) ?_
                  refine RW.runP 1 [2, 3, 4, 62, 63] [(3, .qui), (5, .qui), (6, .qui), (7, .qui), (8, .qui), (4, .chn), (9, .chn), (10, .qui), (11, .seq), (12, .seq)] [(2, .pointer (some ⟨b1, 0, none⟩)), (3, .pointer (some ⟨b3, 0, none⟩)), (4, .pointer (some ⟨b5, 0, none⟩)), (62, .slice a0C C.voters.length k0C), (63, .pointer (some ⟨b3, 1, none⟩))] (by as_aux_lemma => kernel_rfl) (by as_aux_lemma => kernel_rfl) ?_
                  refine RW.load (κ := .qui) (d := some 64) (r := [(5, .qui), (6, .qui), (7, .qui), (8, .qui), (4, .chn), (9, .chn), (10, .qui), (11, .seq), (12, .seq)]) (T := 3) (b := b3) (o' := 1) (k := 1) (v := .int .i64 Z.node) (by as_aux_lemma => kernel_rfl) (H.cells 1 rfl) rfl (by as_aux_lemma => kernel_rfl) ?_
                  refine RW.runP 1 [3, 4, 62, 64, 66] [(6, .qui), (7, .qui), (8, .qui), (4, .chn), (9, .chn), (10, .qui), (11, .seq), (12, .seq)] [(3, .pointer (some ⟨b3, 0, none⟩)), (4, .pointer (some ⟨b5, 0, none⟩)), (62, .slice a0C C.voters.length k0C), (64, .int .i64 Z.node), (66, .pointer (some ⟨b1, 1, none⟩))] (by as_aux_lemma => kernel_rfl) (by as_aux_lemma => kernel_rfl) ?_
                  refine RW.load (κ := .qui) (d := some 67) (r := [(7, .qui), (8, .qui), (4, .chn), (9, .chn), (10, .qui), (11, .seq), (12, .seq)]) (T := 22) (b := b1) (o' := 1) (k := 1) (v := .slice a1C C.learners.length k1C) (by as_aux_lemma => kernel_rfl) (H.cells 2 rfl) rfl (by as_aux_lemma => kernel_rfl) ?_
                  refine RW.runP 1 [4, 62, 64, 67, 68] [(8, .qui), (4, .chn), (9, .chn), (10, .qui), (11, .seq), (12, .seq)] [(4, .pointer (some ⟨b5, 0, none⟩)), (62, .slice a0C C.voters.length k0C), (64, .int .i64 Z.node), (67, .slice a1C C.learners.length k1C), (68, .pointer (some ⟨b3, 1, none⟩))] (by as_aux_lemma => kernel_rfl) (by as_aux_lemma => kernel_rfl) ?_
                  refine RW.load (κ := .qui) (d := some 69) (r := [(4, .chn), (9, .chn), (10, .qui), (11, .seq), (12, .seq)]) (T := 3) (b := b3) (o' := 1) (k := 1) (v := .int .i64 Z.node) (by as_aux_lemma => kernel_rfl) (H.cells 1 rfl) rfl (by as_aux_lemma => kernel_rfl) ?_
                  refine RW.call (κ := .chn) (d := some 65) (r := [(9, .chn), (10, .qui), (11, .seq), (12, .seq)]) (g := 26) (args := #[.slice a0C C.voters.length k0C, .int .i64 Z.node]) (by as_aux_lemma => kernel_rfl) (nofun) (refwith_spec (H.rp 0 rfl) Z.node (by omega) (by first | assumption | exact fun hq => hdis9 _ hq (by assumption)) (by omega)) ?_
                  rintro v39 w38 - H'
                  have H := H.back (M1 := []) (W1 := []) H'
                  obtain ⟨a40, c41, rfl, hc42, hm43⟩ := H.ownForm 0 rfl
                  have H : Hp w S [] [(b5, .cells #[.slice none 0 0, .slice none 0 0] 24 (0, 0)), (b3, .cells #[.int .i64 Z.kind, .int .i64 Z.node] 34 (0, 0)), (b1, .cells #[.slice a0C C.voters.length k0C, .slice a1C C.learners.length k1C] 24 (0, 0))] [⟨Shape.int .i64, 3, .slice a40 ((ins Z.node C.voters).length) c41, ins Z.node C.voters⟩] [Rp (Shape.slice (Shape.int .i64)) [.slice a0C C.voters.length k0C] C.voters, Rp (Shape.slice (Shape.int .i64)) [.slice a1C C.learners.length k1C] C.learners] _ := H
                  refine RW.call (κ := .chn) (d := some 70) (r := [(10, .qui), (11, .seq), (12, .seq)]) (g := 27) (args := #[.slice a1C C.learners.length k1C, .int .i64 Z.node]) (by as_aux_lemma => kernel_rfl) (nofun) (refwithout_spec (H.rp 1 rfl) Z.node (by omega)) ?_
                  rintro v45 w44 - H'
                  have H := H.back (M1 := []) (W1 := []) H'
                  obtain ⟨a46, c47, rfl, hc48, hm49⟩ := H.ownForm 0 rfl
                  have H : Hp w S [] [(b5, .cells #[.slice none 0 0, .slice none 0 0] 24 (0, 0)), (b3, .cells #[.int .i64 Z.kind, .int .i64 Z.node] 34 (0, 0)), (b1, .cells #[.slice a0C C.voters.length k0C, .slice a1C C.learners.length k1C] 24 (0, 0))] [⟨Shape.int .i64, 3, .slice a46 ((drp Z.node C.learners).length) c47, drp Z.node C.learners⟩, ⟨Shape.int .i64, 3, .slice a40 ((ins Z.node C.voters).length) c41, ins Z.node C.voters⟩] [Rp (Shape.slice (Shape.int .i64)) [.slice a0C C.voters.length k0C] C.voters, Rp (Shape.slice (Shape.int .i64)) [.slice a1C C.learners.length k1C] C.learners] _ := H
                  refine RW.runP 1 [4, 71] [(11, .seq), (12, .seq)] [(4, .pointer (some ⟨b5, 0, none⟩)), (71, .agg #[.slice a40 ((ins Z.node C.voters).length) c41, .slice a46 ((drp Z.node C.learners).length) c47])] (by as_aux_lemma => kernel_rfl) (by as_aux_lemma => kernel_rfl) ?_
                  refine RW.store (d := none) (r := [(12, .seq)]) (T := 24) (b := b5) (k := 0) (v := .agg #[.slice a40 ((ins Z.node C.voters).length) c41, .slice a46 ((drp Z.node C.learners).length) c47]) (c' := #[.slice a40 ((ins Z.node C.voters).length) c41, .slice a46 ((drp Z.node C.learners).length) c47]) (M' := [(b5, .cells #[.slice a40 ((ins Z.node C.voters).length) c41, .slice a46 ((drp Z.node C.learners).length) c47] 24 (0, 0)), (b3, .cells #[.int .i64 Z.kind, .int .i64 Z.node] 34 (0, 0)), (b1, .cells #[.slice a0C C.voters.length k0C, .slice a1C C.learners.length k1C] 24 (0, 0))]) (by as_aux_lemma => kernel_rfl) H 0 rfl (by as_aux_lemma => kernel_rfl) (by as_aux_lemma => kernel_rfl) ?_
                  intro w50 H
                  refine RW.fin 1 [4, 5] [(4, .pointer (some ⟨b5, 0, none⟩)), (5, .int .i64 0)] (by as_aux_lemma => kernel_rfl) ?_
                  refine WK.retBy (v := .tuple #[.agg #[.slice a40 ((ins Z.node C.voters).length) c41, .slice a46 ((drp Z.node C.learners).length) c47], .int .i64 0]) Try.func14 (by as_aux_lemma => kernel_rfl) (RV.res2 (x := .cell 4 24) (y := .tmp 5) (by as_aux_lemma => kernel_rfl) (RV.cell (k := 0) (by as_aux_lemma => kernel_rfl) (H.cells 0 rfl) rfl (by as_aux_lemma => kernel_rfl)) (RV.tmp (by as_aux_lemma => kernel_rfl))) ?_
                  have H : Hp w S [] [(b5, .cells #[.slice a40 ((ins Z.node C.voters).length) c41, .slice a46 ((drp Z.node C.learners).length) c47] 24 (0, 0)), (b3, .cells #[.int .i64 Z.kind, .int .i64 Z.node] 34 (0, 0)), (b1, .cells #[.slice a0C C.voters.length k0C, .slice a1C C.learners.length k1C] 24 (0, 0))] [⟨Shape.int .i64, 3, .slice a46 ((drp Z.node C.learners).length) c47, drp Z.node C.learners⟩] [Rp (Shape.slice (Shape.int .i64)) [.slice a40 ((ins Z.node C.voters).length) c41] (ins Z.node C.voters), Rp (Shape.slice (Shape.int .i64)) [.slice a0C C.voters.length k0C] C.voters, Rp (Shape.slice (Shape.int .i64)) [.slice a1C C.learners.length k1C] C.learners] _ := H.freezeW 1 rfl
                  have H : Hp w S [] [(b5, .cells #[.slice a40 ((ins Z.node C.voters).length) c41, .slice a46 ((drp Z.node C.learners).length) c47] 24 (0, 0)), (b3, .cells #[.int .i64 Z.kind, .int .i64 Z.node] 34 (0, 0)), (b1, .cells #[.slice a0C C.voters.length k0C, .slice a1C C.learners.length k1C] 24 (0, 0))] [] [Rp (Shape.slice (Shape.int .i64)) [.slice a46 ((drp Z.node C.learners).length) c47] (drp Z.node C.learners), Rp (Shape.slice (Shape.int .i64)) [.slice a40 ((ins Z.node C.voters).length) c41] (ins Z.node C.voters), Rp (Shape.slice (Shape.int .i64)) [.slice a0C C.voters.length k0C] C.voters, Rp (Shape.slice (Shape.int .i64)) [.slice a1C C.learners.length k1C] C.learners] _ := H.freezeW 0 rfl
                  refine ⟨_, rfl, H.done, [.slice a40 ((ins Z.node C.voters).length) c41, .slice a46 ((drp Z.node C.learners).length) c47], ⟨ins Z.node C.voters, drp Z.node C.learners⟩, 0, rfl, H.out (conf_mk (H.rp 1 rfl) (H.rp 0 rfl)), ?_⟩
                  clear H
                  symm
                  unfold stepOf stepOk
                  first | (simp [*]; done) | (simp [*]; omega)
                · skip
                  replace h36 := of_decide_eq_false h36
                  refine WK.run 1 [2, 3, 4, 6, 7] [.code (cd Try.prog 14 [4, 0, 0, 1, 1, 1, 1, 0]), .code (cd Try.prog 14 [4, 0, 0, 1, 1, 1, 1, 1]), .inBlock 0, .code (cd Try.prog 14 [5])] [(2, .pointer (some ⟨b1, 0, none⟩)), (3, .pointer (some ⟨b3, 0, none⟩)), (4, .pointer (some ⟨b5, 0, none⟩)), (6, .bool (decide (Z.node ∈ C.voters))), (7, .bool (decide (Z.node ∈ C.learners)))] (by as_aux_lemma => kernel_rfl) ?_
                  refine WK.reg1 (l := sq 0 16) (by as_aux_lemma => kernel_rfl) (by as_aux_lemma => kernel_rfl) ?_
                  refine RW.runP 1 [2, 3, 4, 6, 7, 73] (sq 1 16) [(2, .pointer (some ⟨b1, 0, none⟩)), (3, .pointer (some ⟨b3, 0, none⟩)), (4, .pointer (some ⟨b5, 0, none⟩)), (6, .bool (decide (Z.node ∈ C.voters))), (7, .bool (decide (Z.node ∈ C.learners))), (73, .pointer (some ⟨b3, 0, none⟩))] (by as_aux_lemma => kernel_rfl) (by as_aux_lemma => kernel_rfl) ?_
                  refine RW.load (κ := .seq) (d := some 74) (r := (sq 2 16)) (T := 32) (b := b3) (o' := 0) (k := 0) (v := .int .i64 Z.kind) (by as_aux_lemma => kernel_rfl) (H.cells 1 rfl) rfl (by as_aux_lemma => kernel_rfl) ?_
                  refine RW.runP 2 [2, 3, 4, 6, 7, 76] (sq 4 16) [(2, .pointer (some ⟨b1, 0, none⟩)), (3, .pointer (some ⟨b3, 0, none⟩)), (4, .pointer (some ⟨b5, 0, none⟩)), (6, .bool (decide (Z.node ∈ C.voters))), (7, .bool (decide (Z.node ∈ C.learners))), (76, .bool (Z.kind == 3))] (by as_aux_lemma => kernel_rfl) (by as_aux_lemma => kernel_rfl) ?_
                  refine RW.test (fun b_ => [(2, .pointer (some ⟨b1, 0, none⟩)), (3, .pointer (some ⟨b3, 0, none⟩)), (4, .pointer (some ⟨b5, 0, none⟩)), (6, .bool (decide (Z.node ∈ C.voters))), (7, .bool (decide (Z.node ∈ C.learners))), (76, .bool b_)]) (Z.kind == 3) (fun h51 => ?_) (fun h51 => ?_)
                  · skip
                    replace h51 := eq_of_beq h51
                    refine RW.runP 2 [2, 3, 4, 6, 76, 78] (sq 6 16) [(2, .pointer (some ⟨b1, 0, none⟩)), (3, .pointer (some ⟨b3, 0, none⟩)), (4, .pointer (some ⟨b5, 0, none⟩)), (6, .bool (decide (Z.node ∈ C.voters))), (76, .bool true), (78, .bool (decide (Z.node ∈ C.learners)))] (by as_aux_lemma => kernel_rfl) (by as_aux_lemma => kernel_rfl) ?_
                    refine RW.test (fun b_ => [(2, .pointer (some ⟨b1, 0, none⟩)), (3, .pointer (some ⟨b3, 0, none⟩)), (4, .pointer (some ⟨b5, 0, none⟩)), (6, .bool (decide (Z.node ∈ C.voters))), (76, .bool true), (78, .bool b_)]) (decide (Z.node ∈ C.learners)) (fun h52 => ?_) (fun h52 => ?_)
                    · skip
                      replace h52 := of_decide_eq_true h52
                      refine RW.fin 10 [2, 3, 4, 72] [(2, .pointer (some ⟨b1, 0, none⟩)), (3, .pointer (some ⟨b3, 0, none⟩)), (4, .pointer (some ⟨b5, 0, none⟩)), (72, .bool true)] (by as_aux_lemma => kernel_rfl) ?_
                      refine WK.run 2 [2, 3, 4] [.code (cd Try.prog 14 [4, 0, 0, 1, 1, 1, 1, 1, 0, 0]), .code (cd Try.prog 14 [4, 0, 0, 1, 1, 1, 1, 1, 0, 1]), .inBlock 0, .code (cd Try.prog 14 [5])] [(2, .pointer (some ⟨b1, 0, none⟩)), (3, .pointer (some ⟨b3, 0, none⟩)), (4, .pointer (some ⟨b5, 0, none⟩))] (by as_aux_lemma => kernel_rfl) ?_
                      refine WK.draw1 11 [(0, .qui), (1, .qui), (2, .qui), (3, .qui), (5, .qui), (6, .qui), (7, .qui), (8, .qui), (4, .chn), (9, .chn), (10, .qui)] [(0, .qui), (1, .qui), (2, .qui), (3, .qui), (5, .qui), (6, .qui), (7, .qui), (8, .qui), (4, .chn), (9, .chn), (10, .qui), (11, .seq), (12, .seq)] Try_mixed (by as_aux_lemma => kernel_rfl) (by as_aux_lemma => kernel_rfl) (by as_aux_lemma => kernel_rfl) ?_
                      have H := H.draw
                      generalize ({ w17 with drawn := w17.drawn + 1 } : World) = w53 at H ⊢
                      refine RW.runP 1 [2, 3, 4, 88] [(1, .qui), (2, .qui), (3, .qui), (5, .qui), (6, .qui), (7, .qui), (8, .qui), (4, .chn), (9, .chn), (10, .qui), (11, .seq), (12, .seq)] [(2, .pointer (some ⟨b1, 0, none⟩)), (3, .pointer (some ⟨b3, 0, none⟩)), (4, .pointer (some ⟨b5, 0, none⟩)), (88, .pointer (some ⟨b1, 0, none⟩))] (by as_aux_lemma => kernel_rfl) (by as_aux_lemma => kernel_rfl) ?_
                      refine RW.load (κ := .qui) (d := some 89) (r := [(2, .qui), (3, .qui), (5, .qui), (6, .qui), (7, .qui), (8, .qui), (4, .chn), (9, .chn), (10, .qui), (11, .seq), (12, .seq)]) (T := 22) (b := b1) (o' := 0) (k := 0) (v := .slice a0C C.voters.length k0C) (by as_aux_lemma => kernel_rfl) (H.cells 2 rfl) rfl (by as_aux_lemma => kernel_rfl) ?_
                      refine RW.runP 1 [2, 3, 4, 89, 90] [(3, .qui), (5, .qui), (6, .qui), (7, .qui), (8, .qui), (4, .chn), (9, .chn), (10, .qui), (11, .seq), (12, .seq)] [(2, .pointer (some ⟨b1, 0, none⟩)), (3, .pointer (some ⟨b3, 0, none⟩)), (4, .pointer (some ⟨b5, 0, none⟩)), (89, .slice a0C C.voters.length k0C), (90, .pointer (some ⟨b3, 1, none⟩))] (by as_aux_lemma => kernel_rfl) (by as_aux_lemma => kernel_rfl) ?_
                      refine RW.load (κ := .qui) (d := some 91) (r := [(5, .qui), (6, .qui), (7, .qui), (8, .qui), (4, .chn), (9, .chn), (10, .qui), (11, .seq), (12, .seq)]) (T := 3) (b := b3) (o' := 1) (k := 1) (v := .int .i64 Z.node) (by as_aux_lemma => kernel_rfl) (H.cells 1 rfl) rfl (by as_aux_lemma => kernel_rfl) ?_
                      refine RW.runP 1 [3, 4, 89, 91, 93] [(6, .qui), (7, .qui), (8, .qui), (4, .chn), (9, .chn), (10, .qui), (11, .seq), (12, .seq)] [(3, .pointer (some ⟨b3, 0, none⟩)), (4, .pointer (some ⟨b5, 0, none⟩)), (89, .slice a0C C.voters.length k0C), (91, .int .i64 Z.node), (93, .pointer (some ⟨b1, 1, none⟩))] (by as_aux_lemma => kernel_rfl) (by as_aux_lemma => kernel_rfl) ?_
                      refine RW.load (κ := .qui) (d := some 94) (r := [(7, .qui), (8, .qui), (4, .chn), (9, .chn), (10, .qui), (11, .seq), (12, .seq)]) (T := 22) (b := b1) (o' := 1) (k := 1) (v := .slice a1C C.learners.length k1C) (by as_aux_lemma => kernel_rfl) (H.cells 2 rfl) rfl (by as_aux_lemma => kernel_rfl) ?_
                      refine RW.runP 1 [4, 89, 91, 94, 95] [(8, .qui), (4, .chn), (9, .chn), (10, .qui), (11, .seq), (12, .seq)] [(4, .pointer (some ⟨b5, 0, none⟩)), (89, .slice a0C C.voters.length k0C), (91, .int .i64 Z.node), (94, .slice a1C C.learners.length k1C), (95, .pointer (some ⟨b3, 1, none⟩))] (by as_aux_lemma => kernel_rfl) (by as_aux_lemma => kernel_rfl) ?_
                      refine RW.load (κ := .qui) (d := some 96) (r := [(4, .chn), (9, .chn), (10, .qui), (11, .seq), (12, .seq)]) (T := 3) (b := b3) (o' := 1) (k := 1) (v := .int .i64 Z.node) (by as_aux_lemma => kernel_rfl) (H.cells 1 rfl) rfl (by as_aux_lemma => kernel_rfl) ?_
                      refine RW.call (κ := .chn) (d := some 92) (r := [(9, .chn), (10, .qui), (11, .seq), (12, .seq)]) (g := 27) (args := #[.slice a0C C.voters.length k0C, .int .i64 Z.node]) (by as_aux_lemma => kernel_rfl) (nofun) (refwithout_spec (H.rp 0 rfl) Z.node (by omega)) ?_
                      rintro v55 w54 - H'
                      have H := H.back (M1 := []) (W1 := []) H'
                      obtain ⟨a56, c57, rfl, hc58, hm59⟩ := H.ownForm 0 rfl
                      have H : Hp w S [] [(b5, .cells #[.slice none 0 0, .slice none 0 0] 24 (0, 0)), (b3, .cells #[.int .i64 Z.kind, .int .i64 Z.node] 34 (0, 0)), (b1, .cells #[.slice a0C C.voters.length k0C, .slice a1C C.learners.length k1C] 24 (0, 0))] [⟨Shape.int .i64, 3, .slice a56 ((drp Z.node C.voters).length) c57, drp Z.node C.voters⟩] [Rp (Shape.slice (Shape.int .i64)) [.slice a0C C.voters.length k0C] C.voters, Rp (Shape.slice (Shape.int .i64)) [.slice a1C C.learners.length k1C] C.learners] _ := H
                      refine RW.call (κ := .chn) (d := some 97) (r := [(10, .qui), (11, .seq), (12, .seq)]) (g := 27) (args := #[.slice a1C C.learners.length k1C, .int .i64 Z.node]) (by as_aux_lemma => kernel_rfl) (nofun) (refwithout_spec (H.rp 1 rfl) Z.node (by omega)) ?_
                      rintro v61 w60 - H'
                      have H := H.back (M1 := []) (W1 := []) H'
                      obtain ⟨a62, c63, rfl, hc64, hm65⟩ := H.ownForm 0 rfl
                      have H : Hp w S [] [(b5, .cells #[.slice none 0 0, .slice none 0 0] 24 (0, 0)), (b3, .cells #[.int .i64 Z.kind, .int .i64 Z.node] 34 (0, 0)), (b1, .cells #[.slice a0C C.voters.length k0C, .slice a1C C.learners.length k1C] 24 (0, 0))] [⟨Shape.int .i64, 3, .slice a62 ((drp Z.node C.learners).length) c63, drp Z.node C.learners⟩, ⟨Shape.int .i64, 3, .slice a56 ((drp Z.node C.voters).length) c57, drp Z.node C.voters⟩] [Rp (Shape.slice (Shape.int .i64)) [.slice a0C C.voters.length k0C] C.voters, Rp (Shape.slice (Shape.int .i64)) [.slice a1C C.learners.length k1C] C.learners] _ := H
                      refine RW.runP 1 [4, 98] [(11, .seq), (12, .seq)] [(4, .pointer (some ⟨b5, 0, none⟩)), (98, .agg #[.slice a56 ((drp Z.node C.voters).length) c57, .slice a62 ((drp Z.node C.learners).length) c63])] (by as_aux_lemma => kernel_rfl) (by as_aux_lemma => kernel_rfl) ?_
                      refine RW.store (d := none) (r := [(12, .seq)]) (T := 24) (b := b5) (k := 0) (v := .agg #[.slice a56 ((drp Z.node C.voters).length) c57, .slice a62 ((drp Z.node C.learners).length) c63]) (c' := #[.slice a56 ((drp Z.node C.voters).length) c57, .slice a62 ((drp Z.node C.learners).length) c63]) (M' := [(b5, .cells #[.slice a56 ((drp Z.node C.voters).length) c57, .slice a62 ((drp Z.node C.learners).length) c63] 24 (0, 0)), (b3, .cells #[.int .i64 Z.kind, .int .i64 Z.node] 34 (0, 0)), (b1, .cells #[.slice a0C C.voters.length k0C, .slice a1C C.learners.length k1C] 24 (0, 0))]) (by as_aux_lemma => kernel_rfl) H 0 rfl (by as_aux_lemma => kernel_rfl) (by as_aux_lemma => kernel_rfl) ?_
                      intro w66 H
                      refine RW.fin 1 [4, 5] [(4, .pointer (some ⟨b5, 0, none⟩)), (5, .int .i64 0)] (by as_aux_lemma => kernel_rfl) ?_
                      refine WK.retBy (v := .tuple #[.agg #[.slice a56 ((drp Z.node C.voters).length) c57, .slice a62 ((drp Z.node C.learners).length) c63], .int .i64 0]) Try.func14 (by as_aux_lemma => kernel_rfl) (RV.res2 (x := .cell 4 24) (y := .tmp 5) (by as_aux_lemma => kernel_rfl) (RV.cell (k := 0) (by as_aux_lemma => kernel_rfl) (H.cells 0 rfl) rfl (by as_aux_lemma => kernel_rfl)) (RV.tmp (by as_aux_lemma => kernel_rfl))) ?_
                      have H : Hp w S [] [(b5, .cells #[.slice a56 ((drp Z.node C.voters).length) c57, .slice a62 ((drp Z.node C.learners).length) c63] 24 (0, 0)), (b3, .cells #[.int .i64 Z.kind, .int .i64 Z.node] 34 (0, 0)), (b1, .cells #[.slice a0C C.voters.length k0C, .slice a1C C.learners.length k1C] 24 (0, 0))] [⟨Shape.int .i64, 3, .slice a62 ((drp Z.node C.learners).length) c63, drp Z.node C.learners⟩] [Rp (Shape.slice (Shape.int .i64)) [.slice a56 ((drp Z.node C.voters).length) c57] (drp Z.node C.voters), Rp (Shape.slice (Shape.int .i64)) [.slice a0C C.voters.length k0C] C.voters, Rp (Shape.slice (Shape.int .i64)) [.slice a1C C.learners.length k1C] C.learners] _ := H.freezeW 1 rfl
                      have H : Hp w S [] [(b5, .cells #[.slice a56 ((drp Z.node C.voters).length) c57, .slice a62 ((drp Z.node C.learners).length) c63] 24 (0, 0)), (b3, .cells #[.int .i64 Z.kind, .int .i64 Z.node] 34 (0, 0)), (b1, .cells #[.slice a0C C.voters.length k0C, .slice a1C C.learners.length k1C] 24 (0, 0))] [] [Rp (Shape.slice (Shape.int .i64)) [.slice a62 ((drp Z.node C.learners).length) c63] (drp Z.node C.learners), Rp (Shape.slice (Shape.int .i64)) [.slice a56 ((drp Z.node C.voters).length) c57] (drp Z.node C.voters), Rp (Shape.slice (Shape.int .i64)) [.slice a0C C.voters.length k0C] C.voters, Rp (Shape.slice (Shape.int .i64)) [.slice a1C C.learners.length k1C] C.learners] _ := H.freezeW 0 rfl
                      refine ⟨_, rfl, H.done, [.slice a56 ((drp Z.node C.voters).length) c57, .slice a62 ((drp Z.node C.learners).length) c63], ⟨drp Z.node C.voters, drp Z.node C.learners⟩, 0, rfl, H.out (conf_mk (H.rp 1 rfl) (H.rp 0 rfl)), ?_⟩
                      clear H
                      symm
                      unfold stepOf stepOk
                      first | (simp [*]; done) | (simp [*]; omega)
                    · skip
                      replace h52 := of_decide_eq_false h52
                      refine RW.runP 2 [2, 3, 4, 76, 78, 80] (sq 8 16) [(2, .pointer (some ⟨b1, 0, none⟩)), (3, .pointer (some ⟨b3, 0, none⟩)), (4, .pointer (some ⟨b5, 0, none⟩)), (76, .bool true), (78, .bool false), (80, .bool (decide (Z.node ∈ C.voters)))] (by as_aux_lemma => kernel_rfl) (by as_aux_lemma => kernel_rfl) ?_
                      refine RW.test (fun b_ => [(2, .pointer (some ⟨b1, 0, none⟩)), (3, .pointer (some ⟨b3, 0, none⟩)), (4, .pointer (some ⟨b5, 0, none⟩)), (76, .bool true), (78, .bool false), (80, .bool b_)]) (decide (Z.node ∈ C.voters)) (fun h67 => ?_) (fun h67 => ?_)
                      · skip
                        replace h67 := of_decide_eq_true h67
                        refine RW.runP 1 [2, 3, 4, 76, 78, 80, 81] (sq 9 16) [(2, .pointer (some ⟨b1, 0, none⟩)), (3, .pointer (some ⟨b3, 0, none⟩)), (4, .pointer (some ⟨b5, 0, none⟩)), (76, .bool true), (78, .bool false), (80, .bool true), (81, .pointer (some ⟨b1, 0, none⟩))] (by as_aux_lemma => kernel_rfl) (by as_aux_lemma => kernel_rfl) ?_
                        refine RW.load (κ := .seq) (d := some 82) (r := (sq 10 16)) (T := 22) (b := b1) (o' := 0) (k := 0) (v := .slice a0C C.voters.length k0C) (by as_aux_lemma => kernel_rfl) (H.cells 2 rfl) rfl (by as_aux_lemma => kernel_rfl) ?_
                        refine RW.fin 6 [2, 3, 4, 72] [(2, .pointer (some ⟨b1, 0, none⟩)), (3, .pointer (some ⟨b3, 0, none⟩)), (4, .pointer (some ⟨b5, 0, none⟩)), (72, .bool (decide ((((C.voters.length : Nat) : Int) : Int) > 1)))] (by as_aux_lemma => kernel_rfl) ?_
                        refine WK.cond1 (decide ((((C.voters.length : Nat) : Int) : Int) > 1)) (by as_aux_lemma => kernel_rfl) (by as_aux_lemma => kernel_rfl) (fun h68 => ?_) (fun h68 => ?_)
                        · skip
                          replace h68 := of_decide_eq_true h68
                          refine WK.run 1 [2, 3, 4] [.code (cd Try.prog 14 [4, 0, 0, 1, 1, 1, 1, 1, 0, 0]), .code (cd Try.prog 14 [4, 0, 0, 1, 1, 1, 1, 1, 0, 1]), .inBlock 0, .code (cd Try.prog 14 [5])] [(2, .pointer (some ⟨b1, 0, none⟩)), (3, .pointer (some ⟨b3, 0, none⟩)), (4, .pointer (some ⟨b5, 0, none⟩))] (by as_aux_lemma => kernel_rfl) ?_
                          refine WK.draw1 11 [(0, .qui), (1, .qui), (2, .qui), (3, .qui), (5, .qui), (6, .qui), (7, .qui), (8, .qui), (4, .chn), (9, .chn), (10, .qui)] [(0, .qui), (1, .qui), (2, .qui), (3, .qui), (5, .qui), (6, .qui), (7, .qui), (8, .qui), (4, .chn), (9, .chn), (10, .qui), (11, .seq), (12, .seq)] Try_mixed (by as_aux_lemma => kernel_rfl) (by as_aux_lemma => kernel_rfl) (by as_aux_lemma => kernel_rfl) ?_
                          have H := H.draw
                          generalize ({ w17 with drawn := w17.drawn + 1 } : World) = w69 at H ⊢
                          refine RW.runP 1 [2, 3, 4, 88] [(1, .qui), (2, .qui), (3, .qui), (5, .qui), (6, .qui), (7, .qui), (8, .qui), (4, .chn), (9, .chn), (10, .qui), (11, .seq), (12, .seq)] [(2, .pointer (some ⟨b1, 0, none⟩)), (3, .pointer (some ⟨b3, 0, none⟩)), (4, .pointer (some ⟨b5, 0, none⟩)), (88, .pointer (some ⟨b1, 0, none⟩))] (by as_aux_lemma => kernel_rfl) (by as_aux_lemma => kernel_rfl) ?_
                          refine RW.load (κ := .qui) (d := some 89) (r := [(2, .qui), (3, .qui), (5, .qui), (6, .qui), (7, .qui), (8, .qui), (4, .chn), (9, .chn), (10, .qui), (11, .seq), (12, .seq)]) (T := 22) (b := b1) (o' := 0) (k := 0) (v := .slice a0C C.voters.length k0C) (by as_aux_lemma => kernel_rfl) (H.cells 2 rfl) rfl (by as_aux_lemma => kernel_rfl) ?_
                          refine RW.runP 1 [2, 3, 4, 89, 90] [(3, .qui), (5, .qui), (6, .qui), (7, .qui), (8, .qui), (4, .chn), (9, .chn), (10, .qui), (11, .seq), (12, .seq)] [(2, .pointer (some ⟨b1, 0, none⟩)), (3, .pointer (some ⟨b3, 0, none⟩)), (4, .pointer (some ⟨b5, 0, none⟩)), (89, .slice a0C C.voters.length k0C), (90, .pointer (some ⟨b3, 1, none⟩))] (by as_aux_lemma => kernel_rfl) (by as_aux_lemma => kernel_rfl) ?_
                          refine RW.load (κ := .qui) (d := some 91) (r := [(5, .qui), (6, .qui), (7, .qui), (8, .qui), (4, .chn), (9, .chn), (10, .qui), (11, .seq), (12, .seq)]) (T := 3) (b := b3) (o' := 1) (k := 1) (v := .int .i64 Z.node) (by as_aux_lemma => kernel_rfl) (H.cells 1 rfl) rfl (by as_aux_lemma => kernel_rfl) ?_
                          refine RW.runP 1 [3, 4, 89, 91, 93] [(6, .qui), (7, .qui), (8, .qui), (4, .chn), (9, .chn), (10, .qui), (11, .seq), (12, .seq)] [(3, .pointer (some ⟨b3, 0, none⟩)), (4, .pointer (some ⟨b5, 0, none⟩)), (89, .slice a0C C.voters.length k0C), (91, .int .i64 Z.node), (93, .pointer (some ⟨b1, 1, none⟩))] (by as_aux_lemma => kernel_rfl) (by as_aux_lemma => kernel_rfl) ?_
                          refine RW.load (κ := .qui) (d := some 94) (r := [(7, .qui), (8, .qui), (4, .chn), (9, .chn), (10, .qui), (11, .seq), (12, .seq)]) (T := 22) (b := b1) (o' := 1) (k := 1) (v := .slice a1C C.learners.length k1C) (by as_aux_lemma => kernel_rfl) (H.cells 2 rfl) rfl (by as_aux_lemma => kernel_rfl) ?_
                          refine RW.runP 1 [4, 89, 91, 94, 95] [(8, .qui), (4, .chn), (9, .chn), (10, .qui), (11, .seq), (12, .seq)] [(4, .pointer (some ⟨b5, 0, none⟩)), (89, .slice a0C C.voters.length k0C), (91, .int .i64 Z.node), (94, .slice a1C C.learners.length k1C), (95, .pointer (some ⟨b3, 1, none⟩))] (by as_aux_lemma => kernel_rfl) (by as_aux_lemma => kernel_rfl) ?_
                          refine RW.load (κ := .qui) (d := some 96) (r := [(4, .chn), (9, .chn), (10, .qui), (11, .seq), (12, .seq)]) (T := 3) (b := b3) (o' := 1) (k := 1) (v := .int .i64 Z.node) (by as_aux_lemma => kernel_rfl) (H.cells 1 rfl) rfl (by as_aux_lemma => kernel_rfl) ?_
                          refine RW.call (κ := .chn) (d := some 92) (r := [(9, .chn), (10, .qui), (11, .seq), (12, .seq)]) (g := 27) (args := #[.slice a0C C.voters.length k0C, .int .i64 Z.node]) (by as_aux_lemma => kernel_rfl) (nofun) (refwithout_spec (H.rp 0 rfl) Z.node (by omega)) ?_
                          rintro v71 w70 - H'
                          have H := H.back (M1 := []) (W1 := []) H'
                          obtain ⟨a72, c73, rfl, hc74, hm75⟩ := H.ownForm 0 rfl
                          have H : Hp w S [] [(b5, .cells #[.slice none 0 0, .slice none 0 0] 24 (0, 0)), (b3, .cells #[.int .i64 Z.kind, .int .i64 Z.node] 34 (0, 0)), (b1, .cells #[.slice a0C C.voters.length k0C, .slice a1C C.learners.length k1C] 24 (0, 0))] [⟨Shape.int .i64, 3, .slice a72 ((drp Z.node C.voters).length) c73, drp Z.node C.voters⟩] [Rp (Shape.slice (Shape.int .i64)) [.slice a0C C.voters.length k0C] C.voters, Rp (Shape.slice (Shape.int .i64)) [.slice a1C C.learners.length k1C] C.learners] _ := H
                          refine RW.call (κ := .chn) (d := some 97) (r := [(10, .qui), (11, .seq), (12, .seq)]) (g := 27) (args := #[.slice a1C C.learners.length k1C, .int .i64 Z.node]) (by as_aux_lemma => kernel_rfl) (nofun) (refwithout_spec (H.rp 1 rfl) Z.node (by omega)) ?_
                          rintro v77 w76 - H'
                          have H := H.back (M1 := []) (W1 := []) H'
                          obtain ⟨a78, c79, rfl, hc80, hm81⟩ := H.ownForm 0 rfl
                          have H : Hp w S [] [(b5, .cells #[.slice none 0 0, .slice none 0 0] 24 (0, 0)), (b3, .cells #[.int .i64 Z.kind, .int .i64 Z.node] 34 (0, 0)), (b1, .cells #[.slice a0C C.voters.length k0C, .slice a1C C.learners.length k1C] 24 (0, 0))] [⟨Shape.int .i64, 3, .slice a78 ((drp Z.node C.learners).length) c79, drp Z.node C.learners⟩, ⟨Shape.int .i64, 3, .slice a72 ((drp Z.node C.voters).length) c73, drp Z.node C.voters⟩] [Rp (Shape.slice (Shape.int .i64)) [.slice a0C C.voters.length k0C] C.voters, Rp (Shape.slice (Shape.int .i64)) [.slice a1C C.learners.length k1C] C.learners] _ := H
                          refine RW.runP 1 [4, 98] [(11, .seq), (12, .seq)] [(4, .pointer (some ⟨b5, 0, none⟩)), (98, .agg #[.slice a72 ((drp Z.node C.voters).length) c73, .slice a78 ((drp Z.node C.learners).length) c79])] (by as_aux_lemma => kernel_rfl) (by as_aux_lemma => kernel_rfl) ?_
                          refine RW.store (d := none) (r := [(12, .seq)]) (T := 24) (b := b5) (k := 0) (v := .agg #[.slice a72 ((drp Z.node C.voters).length) c73, .slice a78 ((drp Z.node C.learners).length) c79]) (c' := #[.slice a72 ((drp Z.node C.voters).length) c73, .slice a78 ((drp Z.node C.learners).length) c79]) (M' := [(b5, .cells #[.slice a72 ((drp Z.node C.voters).length) c73, .slice a78 ((drp Z.node C.learners).length) c79] 24 (0, 0)), (b3, .cells #[.int .i64 Z.kind, .int .i64 Z.node] 34 (0, 0)), (b1, .cells #[.slice a0C C.voters.length k0C, .slice a1C C.learners.length k1C] 24 (0, 0))]) (by as_aux_lemma => kernel_rfl) H 0 rfl (by as_aux_lemma => kernel_rfl) (by as_aux_lemma => kernel_rfl) ?_
                          intro w82 H
                          refine RW.fin 1 [4, 5] [(4, .pointer (some ⟨b5, 0, none⟩)), (5, .int .i64 0)] (by as_aux_lemma => kernel_rfl) ?_
                          refine WK.retBy (v := .tuple #[.agg #[.slice a72 ((drp Z.node C.voters).length) c73, .slice a78 ((drp Z.node C.learners).length) c79], .int .i64 0]) Try.func14 (by as_aux_lemma => kernel_rfl) (RV.res2 (x := .cell 4 24) (y := .tmp 5) (by as_aux_lemma => kernel_rfl) (RV.cell (k := 0) (by as_aux_lemma => kernel_rfl) (H.cells 0 rfl) rfl (by as_aux_lemma => kernel_rfl)) (RV.tmp (by as_aux_lemma => kernel_rfl))) ?_
                          have H : Hp w S [] [(b5, .cells #[.slice a72 ((drp Z.node C.voters).length) c73, .slice a78 ((drp Z.node C.learners).length) c79] 24 (0, 0)), (b3, .cells #[.int .i64 Z.kind, .int .i64 Z.node] 34 (0, 0)), (b1, .cells #[.slice a0C C.voters.length k0C, .slice a1C C.learners.length k1C] 24 (0, 0))] [⟨Shape.int .i64, 3, .slice a78 ((drp Z.node C.learners).length) c79, drp Z.node C.learners⟩] [Rp (Shape.slice (Shape.int .i64)) [.slice a72 ((drp Z.node C.voters).length) c73] (drp Z.node C.voters), Rp (Shape.slice (Shape.int .i64)) [.slice a0C C.voters.length k0C] C.voters, Rp (Shape.slice (Shape.int .i64)) [.slice a1C C.learners.length k1C] C.learners] _ := H.freezeW 1 rfl
                          have H : Hp w S [] [(b5, .cells #[.slice a72 ((drp Z.node C.voters).length) c73, .slice a78 ((drp Z.node C.learners).length) c79] 24 (0, 0)), (b3, .cells #[.int .i64 Z.kind, .int .i64 Z.node] 34 (0, 0)), (b1, .cells #[.slice a0C C.voters.length k0C, .slice a1C C.learners.length k1C] 24 (0, 0))] [] [Rp (Shape.slice (Shape.int .i64)) [.slice a78 ((drp Z.node C.learners).length) c79] (drp Z.node C.learners), Rp (Shape.slice (Shape.int .i64)) [.slice a72 ((drp Z.node C.voters).length) c73] (drp Z.node C.voters), Rp (Shape.slice (Shape.int .i64)) [.slice a0C C.voters.length k0C] C.voters, Rp (Shape.slice (Shape.int .i64)) [.slice a1C C.learners.length k1C] C.learners] _ := H.freezeW 0 rfl
                          refine ⟨_, rfl, H.done, [.slice a72 ((drp Z.node C.voters).length) c73, .slice a78 ((drp Z.node C.learners).length) c79], ⟨drp Z.node C.voters, drp Z.node C.learners⟩, 0, rfl, H.out (conf_mk (H.rp 1 rfl) (H.rp 0 rfl)), ?_⟩
                          clear H
                          symm
                          unfold stepOf stepOk
                          first | (simp [*]; done) | (simp [*]; omega)
                        · skip
                          replace h68 := of_decide_eq_false h68
                          refine WK.run 3 [4] [.code (cd Try.prog 14 [5, 0]), .code (cd Try.prog 14 [6])] [(4, .pointer (some ⟨b5, 0, none⟩))] (by as_aux_lemma => kernel_rfl) ?_
                          refine WK.reg1 (l := sq 0 3) (by as_aux_lemma => kernel_rfl) (by as_aux_lemma => kernel_rfl) ?_
                          refine RW.runP 1 [4, 99] (sq 1 3) [(4, .pointer (some ⟨b5, 0, none⟩)), (99, .agg #[.slice none 0 0, .slice none 0 0])] (by as_aux_lemma => kernel_rfl) (by as_aux_lemma => kernel_rfl) ?_
                          refine RW.store (d := none) (r := (sq 2 3)) (T := 24) (b := b5) (k := 0) (v := .agg #[.slice none 0 0, .slice none 0 0]) (c' := #[.slice none 0 0, .slice none 0 0]) (M' := [(b5, .cells #[.slice none 0 0, .slice none 0 0] 24 (0, 0)), (b3, .cells #[.int .i64 Z.kind, .int .i64 Z.node] 34 (0, 0)), (b1, .cells #[.slice a0C C.voters.length k0C, .slice a1C C.learners.length k1C] 24 (0, 0))]) (by as_aux_lemma => kernel_rfl) H 0 rfl (by as_aux_lemma => kernel_rfl) (by as_aux_lemma => kernel_rfl) ?_
                          intro w83 H
                          refine RW.fin 1 [4, 5] [(4, .pointer (some ⟨b5, 0, none⟩)), (5, .int .i64 120)] (by as_aux_lemma => kernel_rfl) ?_
                          refine WK.retBy (v := .tuple #[.agg #[.slice none 0 0, .slice none 0 0], .int .i64 120]) Try.func14 (by as_aux_lemma => kernel_rfl) (RV.res2 (x := .cell 4 24) (y := .tmp 5) (by as_aux_lemma => kernel_rfl) (RV.cell (k := 0) (by as_aux_lemma => kernel_rfl) (H.cells 0 rfl) rfl (by as_aux_lemma => kernel_rfl)) (RV.tmp (by as_aux_lemma => kernel_rfl))) ?_
                          refine ⟨_, rfl, H.done, [.slice none 0 0, .slice none 0 0], ⟨[], []⟩, 120, rfl, H.out (conf_mk Shape.slice_nil Shape.slice_nil), ?_⟩
                          clear H
                          symm
                          unfold stepOf stepOk
                          first | (simp [*]; done) | (simp [*]; omega)
                      · skip
                        replace h67 := of_decide_eq_false h67
                        refine RW.fin 8 [2, 3, 4, 72] [(2, .pointer (some ⟨b1, 0, none⟩)), (3, .pointer (some ⟨b3, 0, none⟩)), (4, .pointer (some ⟨b5, 0, none⟩)), (72, .bool false)] (by as_aux_lemma => kernel_rfl) ?_
                        refine WK.run 4 [4] [.code (cd Try.prog 14 [5, 0]), .code (cd Try.prog 14 [6])] [(4, .pointer (some ⟨b5, 0, none⟩))] (by as_aux_lemma => kernel_rfl) ?_
                        refine WK.reg1 (l := sq 0 3) (by as_aux_lemma => kernel_rfl) (by as_aux_lemma => kernel_rfl) ?_
                        refine RW.runP 1 [4, 99] (sq 1 3) [(4, .pointer (some ⟨b5, 0, none⟩)), (99, .agg #[.slice none 0 0, .slice none 0 0])] (by as_aux_lemma => kernel_rfl) (by as_aux_lemma => kernel_rfl) ?_
                        refine RW.store (d := none) (r := (sq 2 3)) (T := 24) (b := b5) (k := 0) (v := .agg #[.slice none 0 0, .slice none 0 0]) (c' := #[.slice none 0 0, .slice none 0 0]) (M' := [(b5, .cells #[.slice none 0 0, .slice none 0 0] 24 (0, 0)), (b3, .cells #[.int .i64 Z.kind, .int .i64 Z.node] 34 (0, 0)), (b1, .cells #[.slice a0C C.voters.length k0C, .slice a1C C.learners.length k1C] 24 (0, 0))]) (by as_aux_lemma => kernel_rfl) H 0 rfl (by as_aux_lemma => kernel_rfl) (by as_aux_lemma => kernel_rfl) ?_
                        intro w84 H
                        refine RW.fin 1 [4, 5] [(4, .pointer (some ⟨b5, 0, none⟩)), (5, .int .i64 120)] (by as_aux_lemma => kernel_rfl) ?_
                        refine WK.retBy (v := .tuple #[.agg #[.slice none 0 0, .slice none 0 0], .int .i64 120]) Try.func14 (by as_aux_lemma => kernel_rfl) (RV.res2 (x := .cell 4 24) (y := .tmp 5) (by as_aux_lemma => kernel_rfl) (RV.cell (k := 0) (by as_aux_lemma => kernel_rfl) (H.cells 0 rfl) rfl (by as_aux_lemma => kernel_rfl)) (RV.tmp (by as_aux_lemma => kernel_rfl))) ?_
                        refine ⟨_, rfl, H.done, [.slice none 0 0, .slice none 0 0], ⟨[], []⟩, 120, rfl, H.out (conf_mk Shape.slice_nil Shape.slice_nil), ?_⟩
                        clear H
                        symm
                        unfold stepOf stepOk
                        first | (simp [*]; done) | (simp [*]; omega)
                  · skip
                    replace h51 := ne_of_beq_false h51
                    refine RW.fin 12 [2, 3, 4, 72] [(2, .pointer (some ⟨b1, 0, none⟩)), (3, .pointer (some ⟨b3, 0, none⟩)), (4, .pointer (some ⟨b5, 0, none⟩)), (72, .bool false)] (by as_aux_lemma => kernel_rfl) ?_
                    refine WK.run 4 [4] [.code (cd Try.prog 14 [5, 0]), .code (cd Try.prog 14 [6])] [(4, .pointer (some ⟨b5, 0, none⟩))] (by as_aux_lemma => kernel_rfl) ?_
                    refine WK.reg1 (l := sq 0 3) (by as_aux_lemma => kernel_rfl) (by as_aux_lemma => kernel_rfl) ?_
                    refine RW.runP 1 [4, 99] (sq 1 3) [(4, .pointer (some ⟨b5, 0, none⟩)), (99, .agg #[.slice none 0 0, .slice none 0 0])] (by as_aux_lemma => kernel_rfl) (by as_aux_lemma => kernel_rfl) ?_
                    refine RW.store (d := none) (r := (sq 2 3)) (T := 24) (b := b5) (k := 0) (v := .agg #[.slice none 0 0, .slice none 0 0]) (c' := #[.slice none 0 0, .slice none 0 0]) (M' := [(b5, .cells #[.slice none 0 0, .slice none 0 0] 24 (0, 0)), (b3, .cells #[.int .i64 Z.kind, .int .i64 Z.node] 34 (0, 0)), (b1, .cells #[.slice a0C C.voters.length k0C, .slice a1C C.learners.length k1C] 24 (0, 0))]) (by as_aux_lemma => kernel_rfl) H 0 rfl (by as_aux_lemma => kernel_rfl) (by as_aux_lemma => kernel_rfl) ?_
                    intro w85 H
                    refine RW.fin 1 [4, 5] [(4, .pointer (some ⟨b5, 0, none⟩)), (5, .int .i64 120)] (by as_aux_lemma => kernel_rfl) ?_
                    refine WK.retBy (v := .tuple #[.agg #[.slice none 0 0, .slice none 0 0], .int .i64 120]) Try.func14 (by as_aux_lemma => kernel_rfl) (RV.res2 (x := .cell 4 24) (y := .tmp 5) (by as_aux_lemma => kernel_rfl) (RV.cell (k := 0) (by as_aux_lemma => kernel_rfl) (H.cells 0 rfl) rfl (by as_aux_lemma => kernel_rfl)) (RV.tmp (by as_aux_lemma => kernel_rfl))) ?_
                    refine ⟨_, rfl, H.done, [.slice none 0 0, .slice none 0 0], ⟨[], []⟩, 120, rfl, H.out (conf_mk Shape.slice_nil Shape.slice_nil), ?_⟩
                    clear H
                    symm
                    unfold stepOf stepOk
                    first | (simp [*]; done) | (simp [*]; omega)
              · skip
                replace h35 := ne_of_beq_false h35
                refine RW.fin 3 [2, 3, 4, 6, 7, 54] [(2, .pointer (some ⟨b1, 0, none⟩)), (3, .pointer (some ⟨b3, 0, none⟩)), (4, .pointer (some ⟨b5, 0, none⟩)), (6, .bool (decide (Z.node ∈ C.voters))), (7, .bool (decide (Z.node ∈ C.learners))), (54, .bool false)] (by as_aux_lemma => kernel_rfl) ?_
                refine WK.run 2 [2, 3, 4, 6, 7] [.code (cd Try.prog 14 [4, 0, 0, 1, 1, 1, 1, 0]), .code (cd Try.prog 14 [4, 0, 0, 1, 1, 1, 1, 1]), .inBlock 0, .code (cd Try.prog 14 [5])] [(2, .pointer (some ⟨b1, 0, none⟩)), (3, .pointer (some ⟨b3, 0, none⟩)), (4, .pointer (some ⟨b5, 0, none⟩)), (6, .bool (decide (Z.node ∈ C.voters))), (7, .bool (decide (Z.node ∈ C.learners)))] (by as_aux_lemma => kernel_rfl) ?_
                refine WK.reg1 (l := sq 0 16) (by as_aux_lemma => kernel_rfl) (by as_aux_lemma => kernel_rfl) ?_
                refine RW.runP 1 [2, 3, 4, 6, 7, 73] (sq 1 16) [(2, .pointer (some ⟨b1, 0, none⟩)), (3, .pointer (some ⟨b3, 0, none⟩)), (4, .pointer (some ⟨b5, 0, none⟩)), (6, .bool (decide (Z.node ∈ C.voters))), (7, .bool (decide (Z.node ∈ C.learners))), (73, .pointer (some ⟨b3, 0, none⟩))] (by as_aux_lemma => kernel_rfl) (by as_aux_lemma => kernel_rfl) ?_
                refine RW.load (κ := .seq) (d := some 74) (r := (sq 2 16)) (T := 32) (b := b3) (o' := 0) (k := 0) (v := .int .i64 Z.kind) (by as_aux_lemma => kernel_rfl) (H.cells 1 rfl) rfl (by as_aux_lemma => kernel_rfl) ?_
                refine RW.runP 2 [2, 3, 4, 6, 7, 76] (sq 4 16) [(2, .pointer (some ⟨b1, 0, none⟩)), (3, .pointer (some ⟨b3, 0, none⟩)), (4, .pointer (some ⟨b5, 0, none⟩)), (6, .bool (decide (Z.node ∈ C.voters))), (7, .bool (decide (Z.node ∈ C.learners))), (76, .bool (Z.kind == 3))] (by as_aux_lemma => kernel_rfl) (by as_aux_lemma => kernel_rfl) ?_
                refine RW.test (fun b_ => [(2, .pointer (some ⟨b1, 0, none⟩)), (3, .pointer (some ⟨b3, 0, none⟩)), (4, .pointer (some ⟨b5, 0, none⟩)), (6, .bool (decide (Z.node ∈ C.voters))), (7, .bool (decide (Z.node ∈ C.learners))), (76, .bool b_)]) (Z.kind == 3) (fun h86 => ?_) (fun h86 => ?_)
                · skip
                  replace h86 := eq_of_beq h86
                  refine RW.runP 2 [2, 3, 4, 6, 76, 78] (sq 6 16) [(2, .pointer (some ⟨b1, 0, none⟩)), (3, .pointer (some ⟨b3, 0, none⟩)), (4, .pointer (some ⟨b5, 0, none⟩)), (6, .bool (decide (Z.node ∈ C.voters))), (76, .bool true), (78, .bool (decide (Z.node ∈ C.learners)))] (by as_aux_lemma => kernel_rfl) (by as_aux_lemma => kernel_rfl) ?_
                  refine RW.test (fun b_ => [(2, .pointer (some ⟨b1, 0, none⟩)), (3, .pointer (some ⟨b3, 0, none⟩)), (4, .pointer (some ⟨b5, 0, none⟩)), (6, .bool (decide (Z.node ∈ C.voters))), (76, .bool true), (78, .bool b_)]) (decide (Z.node ∈ C.learners)) (fun h87 => ?_) (fun h87 => ?_)
                  · skip
                    replace h87 := of_decide_eq_true h87
                    refine RW.fin 10 [2, 3, 4, 72] [(2, .pointer (some ⟨b1, 0, none⟩)), (3, .pointer (some ⟨b3, 0, none⟩)), (4, .pointer (some ⟨b5, 0, none⟩)), (72, .bool true)] (by as_aux_lemma => kernel_rfl) ?_
                    refine WK.run 2 [2, 3, 4] [.code (cd Try.prog 14 [4, 0, 0, 1, 1, 1, 1, 1, 0, 0]), .code (cd Try.prog 14 [4, 0, 0, 1, 1, 1, 1, 1, 0, 1]), .inBlock 0, .code (cd Try.prog 14 [5])] [(2, .pointer (some ⟨b1, 0, none⟩)), (3, .pointer (some ⟨b3, 0, none⟩)), (4, .pointer (some ⟨b5, 0, none⟩))] (by as_aux_lemma => kernel_rfl) ?_
                    refine WK.draw1 11 [(0, .qui), (1, .qui), (2, .qui), (3, .qui), (5, .qui), (6, .qui), (7, .qui), (8, .qui), (4, .chn), (9, .chn), (10, .qui)] [(0, .qui), (1, .qui), (2, .qui), (3, .qui), (5, .qui), (6, .qui), (7, .qui), (8, .qui), (4, .chn), (9, .chn), (10, .qui), (11, .seq), (12, .seq)] Try_mixed (by as_aux_lemma => kernel_rfl) (by as_aux_lemma => kernel_rfl) (by as_aux_lemma => kernel_rfl) ?_
                    have H := H.draw
                    generalize ({ w17 with drawn := w17.drawn + 1 } : World) = w88 at H ⊢
                    refine RW.runP 1 [2, 3, 4, 88] [(1, .qui), (2, .qui), (3, .qui), (5, .qui), (6, .qui), (7, .qui), (8, .qui), (4, .chn), (9, .chn), (10, .qui), (11, .seq), (12, .seq)] [(2, .pointer (some ⟨b1, 0, none⟩)), (3, .pointer (some ⟨b3, 0, none⟩)), (4, .pointer (some ⟨b5, 0, none⟩)), (88, .pointer (some ⟨b1, 0, none⟩))] (by as_aux_lemma => kernel_rfl) (by as_aux_lemma => kernel_rfl) ?_
                    refine RW.load (κ := .qui) (d := some 89) (r := [(2, .qui), (3, .qui), (5, .qui), (6, .qui), (7, .qui), (8, .qui), (4, .chn), (9, .chn), (10, .qui), (11, .seq), (12, .seq)]) (T := 22) (b := b1) (o' := 0) (k := 0) (v := .slice a0C C.voters.length k0C) (by as_aux_lemma => kernel_rfl) (H.cells 2 rfl) rfl (by as_aux_lemma => kernel_rfl) ?_
                    refine RW.runP 1 [2, 3, 4, 89, 90] [(3, .qui), (5, .qui), (6, .qui), (7, .qui), (8, .qui), (4, .chn), (9, .chn), (10, .qui), (11, .seq), (12, .seq)] [(2, .pointer (some ⟨b1, 0, none⟩)), (3, .pointer (some ⟨b3, 0, none⟩)), (4, .pointer (some ⟨b5, 0, none⟩)), (89, .slice a0C C.voters.length k0C), (90, .pointer (some ⟨b3, 1, none⟩))] (by as_aux_lemma => kernel_rfl) (by as_aux_lemma => kernel_rfl) ?_
                    refine RW.load (κ := .qui) (d := some 91) (r := [(5, .qui), (6, .qui), (7, .qui), (8, .qui), (4, .chn), (9, .chn), (10, .qui), (11, .seq), (12, .seq)]) (T := 3) (b := b3) (o' := 1) (k := 1) (v := .int .i64 Z.node) (by as_aux_lemma => kernel_rfl) (H.cells 1 rfl) rfl (by as_aux_lemma => kernel_rfl) ?_
                    refine RW.runP 1 [3, 4, 89, 91, 93] [(6, .qui), (7, .qui), (8, .qui), (4, .chn), (9, .chn), (10, .qui), (11, .seq), (12, .seq)] [(3, .pointer (some ⟨b3, 0, none⟩)), (4, .pointer (some ⟨b5, 0, none⟩)), (89, .slice a0C C.voters.length k0C), (91, .int .i64 Z.node), (93, .pointer (some ⟨b1, 1, none⟩))] (by as_aux_lemma => kernel_rfl) (by as_aux_lemma => kernel_rfl) ?_
                    refine RW.load (κ := .qui) (d := some 94) (r := [(7, .qui), (8, .qui), (4, .chn), (9, .chn), (10, .qui), (11, .seq), (12, .seq)]) (T := 22) (b := b1) (o' := 1) (k := 1) (v := .slice a1C C.learners.length k1C) (by as_aux_lemma => kernel_rfl) (H.cells 2 rfl) rfl (by as_aux_lemma => kernel_rfl) ?_
                    refine RW.runP 1 [4, 89, 91, 94, 95] [(8, .qui), (4, .chn), (9, .chn), (10, .qui), (11, .seq), (12, .seq)] [(4, .pointer (some ⟨b5, 0, none⟩)), (89, .slice a0C C.voters.length k0C), (91, .int .i64 Z.node), (94, .slice a1C C.learners.length k1C), (95, .pointer (some ⟨b3, 1, none⟩))] (by as_aux_lemma => kernel_rfl) (by as_aux_lemma => kernel_rfl) ?_
                    refine RW.load (κ := .qui) (d := some 96) (r := [(4, .chn), (9, .chn), (10, .qui), (11, .seq), (12, .seq)]) (T := 3) (b := b3) (o' := 1) (k := 1) (v := .int .i64 Z.node) (by as_aux_lemma => kernel_rfl) (H.cells 1 rfl) rfl (by as_aux_lemma => kernel_rfl) ?_
                    refine RW.call (κ := .chn) (d := some 92) (r := [(9, .chn), (10, .qui), (11, .seq), (12, .seq)]) (g := 27) (args := #[.slice a0C C.voters.length k0C, .int .i64 Z.node]) (by as_aux_lemma => kernel_rfl) (nofun) (refwithout_spec (H.rp 0 rfl) Z.node (by omega)) ?_
                    rintro v90 w89 - H'
                    have H := H.back (M1 := []) (W1 := []) H'
                    obtain ⟨a91, c92, rfl, hc93, hm94⟩ := H.ownForm 0 rfl
                    have H : Hp w S [] [(b5, .cells #[.slice none 0 0, .slice none 0 0] 24 (0, 0)), (b3, .cells #[.int .i64 Z.kind, .int .i64 Z.node] 34 (0, 0)), (b1, .cells #[.slice a0C C.voters.length k0C, .slice a1C C.learners.length k1C] 24 (0, 0))] [⟨Shape.int .i64, 3, .slice a91 ((drp Z.node C.voters).length) c92, drp Z.node C.voters⟩] [Rp (Shape.slice (Shape.int .i64)) [.slice a0C C.voters.length k0C] C.voters, Rp (Shape.slice (Shape.int .i64)) [.slice a1C C.learners.length k1C] C.learners] _ := H
                    refine RW.call (κ := .chn) (d := some 97) (r := [(10, .qui), (11, .seq), (12, .seq)]) (g := 27) (args := #[.slice a1C C.learners.length k1C, .int .i64 Z.node]) (by as_aux_lemma => kernel_rfl) (nofun) (refwithout_spec (H.rp 1 rfl) Z.node (by omega)) ?_
                    rintro v96 w95 - H'
                    have H := H.back (M1 := []) (W1 := []) H'
                    obtain ⟨a97, c98, rfl, hc99, hm100⟩ := H.ownForm 0 rfl
                    have H : Hp w S [] [(b5, .cells #[.slice none 0 0, .slice none 0 0] 24 (0, 0)), (b3, .cells #[.int .i64 Z.kind, .int .i64 Z.node] 34 (0, 0)), (b1, .cells #[.slice a0C C.voters.length k0C, .slice a1C C.learners.length k1C] 24 (0, 0))] [⟨Shape.int .i64, 3, .slice a97 ((drp Z.node C.learners).length) c98, drp Z.node C.learners⟩, ⟨Shape.int .i64, 3, .slice a91 ((drp Z.node C.voters).length) c92, drp Z.node C.voters⟩] [Rp (Shape.slice (Shape.int .i64)) [.slice a0C C.voters.length k0C] C.voters, Rp (Shape.slice (Shape.int .i64)) [.slice a1C C.learners.length k1C] C.learners] _ := H
                    refine RW.runP 1 [4, 98] [(11, .seq), (12, .seq)] [(4, .pointer (some ⟨b5, 0, none⟩)), (98, .agg #[.slice a91 ((drp Z.node C.voters).length) c92, .slice a97 ((drp Z.node C.learners).length) c98])] (by as_aux_lemma => kernel_rfl) (by as_aux_lemma => kernel_rfl) ?_
                    refine RW.store (d := none) (r := [(12, .seq)]) (T := 24) (b := b5) (k := 0) (v := .agg #[.slice a91 ((drp Z.node C.voters).length) c92, .slice a97 ((drp Z.node C.learners).length) c98]) (c' := #[.slice a91 ((drp Z.node C.voters).length) c92, .slice a97 ((drp Z.node C.learners).length) c98]) (M' := [(b5, .cells #[.slice a91 ((drp Z.node C.voters).length) c92, .slice a97 ((drp Z.node C.learners).length) c98] 24 (0, 0)), (b3, .cells #[.int .i64 Z.kind, .int .i64 Z.node] 34 (0, 0)), (b1, .cells #[.slice a0C C.voters.length k0C, .slice a1C C.learners.length k1C] 24 (0, 0))]) (by as_aux_lemma => kernel_rfl) H 0 rfl (by as_aux_lemma => kernel_rfl) (by as_aux_lemma => kernel_rfl) ?_
                    intro w101 H
                    refine RW.fin 1 [4, 5] [(4, .pointer (some ⟨b5, 0, none⟩)), (5, .int .i64 0)] (by as_aux_lemma => kernel_rfl) ?_
                    refine WK.retBy (v := .tuple #[.agg #[.slice a91 ((drp Z.node C.voters).length) c92, .slice a97 ((drp Z.node C.learners).length) c98], .int .i64 0]) Try.func14 (by as_aux_lemma => kernel_rfl) (RV.res2 (x := .cell 4 24) (y := .tmp 5) (by as_aux_lemma => kernel_rfl) (RV.cell (k := 0) (by as_aux_lemma => kernel_rfl) (H.cells 0 rfl) rfl (by as_aux_lemma => kernel_rfl)) (RV.tmp (by as_aux_lemma => kernel_rfl))) ?_
                    have H : Hp w S [] [(b5, .cells #[.slice a91 ((drp Z.node C.voters).length) c92, .slice a97 ((drp Z.node C.learners).length) c98] 24 (0, 0)), (b3, .cells #[.int .i64 Z.kind, .int .i64 Z.node] 34 (0, 0)), (b1, .cells #[.slice a0C C.voters.length k0C, .slice a1C C.learners.length k1C] 24 (0, 0))] [⟨Shape.int .i64, 3, .slice a97 ((drp Z.node C.learners).length) c98, drp Z.node C.learners⟩] [Rp (Shape.slice (Shape.int .i64)) [.slice a91 ((drp Z.node C.voters).length) c92] (drp Z.node C.voters), Rp (Shape.slice (Shape.int .i64)) [.slice a0C C.voters.length k0C] C.voters, Rp (Shape.slice (Shape.int .i64)) [.slice a1C C.learners.length k1C] C.learners] _ := H.freezeW 1 rfl
                    have H : Hp w S [] [(b5, .cells #[.slice a91 ((drp Z.node C.voters).length) c92, .slice a97 ((drp Z.node C.learners).length) c98] 24 (0, 0)), (b3, .cells #[.int .i64 Z.kind, .int .i64 Z.node] 34 (0, 0)), (b1, .cells #[.slice a0C C.voters.length k0C, .slice a1C C.learners.length k1C] 24 (0, 0))] [] [Rp (Shape.slice (Shape.int .i64)) [.slice a97 ((drp Z.node C.learners).length) c98] (drp Z.node C.learners), Rp (Shape.slice (Shape.int .i64)) [.slice a91 ((drp Z.node C.voters).length) c92] (drp Z.node C.voters), Rp (Shape.slice (Shape.int .i64)) [.slice a0C C.voters.length k0C] C.voters, Rp (Shape.slice (Shape.int .i64)) [.slice a1C C.learners.length k1C] C.learners] _ := H.freezeW 0 rfl
                    refine ⟨_, rfl, H.done, [.slice a91 ((drp Z.node C.voters).length) c92, .slice a97 ((drp Z.node C.learners).length) c98], ⟨drp Z.node C.voters, drp Z.node C.learners⟩, 0, rfl, H.out (conf_mk (H.rp 1 rfl) (H.rp 0 rfl)), ?_⟩
                    clear H
                    symm
                    unfold stepOf stepOk
                    first | (simp [*]; done) | (simp [*]; omega)
                  · skip
                    replace h87 := of_decide_eq_false h87
                    refine RW.runP 2 [2, 3, 4, 76, 78, 80] (sq 8 16) [(2, .pointer (some ⟨b1, 0, none⟩)), (3, .pointer (some ⟨b3, 0, none⟩)), (4, .pointer (some ⟨b5, 0, none⟩)), (76, .bool true), (78, .bool false), (80, .bool (decide (Z.node ∈ C.voters)))] (by as_aux_lemma => kernel_rfl) (by as_aux_lemma => kernel_rfl) ?_
                    refine RW.test (fun b_ => [(2, .pointer (some ⟨b1, 0, none⟩)), (3, .pointer (some ⟨b3, 0, none⟩)), (4, .pointer (some ⟨b5, 0, none⟩)), (76, .bool true), (78, .bool false), (80, .bool b_)]) (decide (Z.node ∈ C.voters)) (fun h102 => ?_) (fun h102 => ?_)
                    · skip
                      replace h102 := of_decide_eq_true h102
                      refine RW.runP 1 [2, 3, 4, 76, 78, 80, 81] (sq 9 16) [(2, .pointer (some ⟨b1, 0, none⟩)), (3, .pointer (some ⟨b3, 0, none⟩)), (4, .pointer (some ⟨b5, 0, none⟩)), (76, .bool true), (78, .bool false), (80, .bool true), (81, .pointer (some ⟨b1, 0, none⟩))] (by as_aux_lemma => kernel_rfl) (by as_aux_lemma => kernel_rfl) ?_
                      refine RW.load (κ := .seq) (d := some 82) (r := (sq 10 16)) (T := 22) (b := b1) (o' := 0) (k := 0) (v := .slice a0C C.voters.length k0C) (by as_aux_lemma => kernel_rfl) (H.cells 2 rfl) rfl (by as_aux_lemma => kernel_rfl) ?_
                      refine RW.fin 6 [2, 3, 4, 72] [(2, .pointer (some ⟨b1, 0, none⟩)), (3, .pointer (some ⟨b3, 0, none⟩)), (4, .pointer (some ⟨b5, 0, none⟩)), (72, .bool (decide ((((C.voters.length : Nat) : Int) : Int) > 1)))] (by as_aux_lemma => kernel_rfl) ?_
                      refine WK.cond1 (decide ((((C.voters.length : Nat) : Int) : Int) > 1)) (by as_aux_lemma => kernel_rfl) (by as_aux_lemma => kernel_rfl) (fun h103 => ?_) (fun h103 => ?_)
                      · skip
                        replace h103 := of_decide_eq_true h103
                        refine WK.run 1 [2, 3, 4] [.code (cd Try.prog 14 [4, 0, 0, 1, 1, 1, 1, 1, 0, 0]), .code (cd Try.prog 14 [4, 0, 0, 1, 1, 1, 1, 1, 0, 1]), .inBlock 0, .code (cd Try.prog 14 [5])] [(2, .pointer (some ⟨b1, 0, none⟩)), (3, .pointer (some ⟨b3, 0, none⟩)), (4, .pointer (some ⟨b5, 0, none⟩))] (by as_aux_lemma => kernel_rfl) ?_
                        refine WK.draw1 11 [(0, .qui), (1, .qui), (2, .qui), (3, .qui), (5, .qui), (6, .qui), (7, .qui), (8, .qui), (4, .chn), (9, .chn), (10, .qui)] [(0, .qui), (1, .qui), (2, .qui), (3, .qui), (5, .qui), (6, .qui), (7, .qui), (8, .qui), (4, .chn), (9, .chn), (10, .qui), (11, .seq), (12, .seq)] Try_mixed (by as_aux_lemma => kernel_rfl) (by as_aux_lemma => kernel_rfl) (by as_aux_lemma => kernel_rfl) ?_
                        have H := H.draw
                        generalize ({ w17 with drawn := w17.drawn + 1 } : World) = w104 at H ⊢
                        refine RW.runP 1 [2, 3, 4, 88] [(1, .qui), (2, .qui), (3, .qui), (5, .qui), (6, .qui), (7, .qui), (8, .qui), (4, .chn), (9, .chn), (10, .qui), (11, .seq), (12, .seq)] [(2, .pointer (some ⟨b1, 0, none⟩)), (3, .pointer (some ⟨b3, 0, none⟩)), (4, .pointer (some ⟨b5, 0, none⟩)), (88, .pointer (some ⟨b1, 0, none⟩))] (by as_aux_lemma => kernel_rfl) (by as_aux_lemma => kernel_rfl) ?_
                        refine RW.load (κ := .qui) (d := some 89) (r := [(2, .qui), (3, .qui), (5, .qui), (6, .qui), (7, .qui), (8, .qui), (4, .chn), (9, .chn), (10, .qui), (11, .seq), (12, .seq)]) (T := 22) (b := b1) (o' := 0) (k := 0) (v := .slice a0C C.voters.length k0C) (by as_aux_lemma => kernel_rfl) (H.cells 2 rfl) rfl (by as_aux_lemma => kernel_rfl) ?_
                        refine RW.runP 1 [2, 3, 4, 89, 90] [(3, .qui), (5, .qui), (6, .qui), (7, .qui), (8, .qui), (4, .chn), (9, .chn), (10, .qui), (11, .seq), (12, .seq)] [(2, .pointer (some ⟨b1, 0, none⟩)), (3, .pointer (some ⟨b3, 0, none⟩)), (4, .pointer (some ⟨b5, 0, none⟩)), (89, .slice a0C C.voters.length k0C), (90, .pointer (some ⟨b3, 1, none⟩))] (by as_aux_lemma => kernel_rfl) (by as_aux_lemma => kernel_rfl) ?_
                        refine RW.load (κ := .qui) (d := some 91) (r := [(5, .qui), (6, .qui), (7, .qui), (8, .qui), (4, .chn), (9, .chn), (10, .qui), (11, .seq), (12, .seq)]) (T := 3) (b := b3) (o' := 1) (k := 1) (v := .int .i64 Z.node) (by as_aux_lemma => kernel_rfl) (H.cells 1 rfl) rfl (by as_aux_lemma => kernel_rfl) ?_
                        refine RW.runP 1 [3, 4, 89, 91, 93] [(6, .qui), (7, .qui), (8, .qui), (4, .chn), (9, .chn), (10, .qui), (11, .seq), (12, .seq)] [(3, .pointer (some ⟨b3, 0, none⟩)), (4, .pointer (some ⟨b5, 0, none⟩)), (89, .slice a0C C.voters.length k0C), (91, .int .i64 Z.node), (93, .pointer (some ⟨b1, 1, none⟩))] (by as_aux_lemma => kernel_rfl) (by as_aux_lemma => kernel_rfl) ?_
                        refine RW.load (κ := .qui) (d := some 94) (r := [(7, .qui), (8, .qui), (4, .chn), (9, .chn), (10, .qui), (11, .seq), (12, .seq)]) (T := 22) (b := b1) (o' := 1) (k := 1) (v := .slice a1C C.learners.length k1C) (by as_aux_lemma => kernel_rfl) (H.cells 2 rfl) rfl (by as_aux_lemma => kernel_rfl) ?_
                        refine RW.runP 1 [4, 89, 91, 94, 95] [(8, .qui), (4, .chn), (9, .chn), (10, .qui), (11, .seq), (12, .seq)] [(4, .pointer (some ⟨b5, 0, none⟩)), (89, .slice a0C C.voters.length k0C), (91, .int .i64 Z.node), (94, .slice a1C C.learners.length k1C), (95, .pointer (some ⟨b3, 1, none⟩))] (by as_aux_lemma => kernel_rfl) (by as_aux_lemma => kernel_rfl) ?_
                        refine RW.load (κ := .qui) (d := some 96) (r := [(4, .chn), (9, .chn), (10, .qui), (11, .seq), (12, .seq)]) (T := 3) (b := b3) (o' := 1) (k := 1) (v := .int .i64 Z.node) (by as_aux_lemma => kernel_rfl) (H.cells 1 rfl) rfl (by as_aux_lemma => kernel_rfl) ?_
                        refine RW.call (κ := .chn) (d := some 92) (r := [(9, .chn), (10, .qui), (11, .seq), (12, .seq)]) (g := 27) (args := #[.slice a0C C.voters.length k0C, .int .i64 Z.node]) (by as_aux_lemma => kernel_rfl) (nofun) (refwithout_spec (H.rp 0 rfl) Z.node (by omega)) ?_
                        rintro v106 w105 - H'
                        have H := H.back (M1 := []) (W1 := []) H'
                        obtain ⟨a107, c108, rfl, hc109, hm110⟩ := H.ownForm 0 rfl
                        have H : Hp w S [] [(b5, .cells #[.slice none 0 0, .slice none 0 0] 24 (0, 0)), (b3, .cells #[.int .i64 Z.kind, .int .i64 Z.node] 34 (0, 0)), (b1, .cells #[.slice a0C C.voters.length k0C, .slice a1C C.learners.length k1C] 24 (0, 0))] [⟨Shape.int .i64, 3, .slice a107 ((drp Z.node C.voters).length) c108, drp Z.node C.voters⟩] [Rp (Shape.slice (Shape.int .i64)) [.slice a0C C.voters.length k0C] C.voters, Rp (Shape.slice (Shape.int .i64)) [.slice a1C C.learners.length k1C] C.learners] _ := H
                        refine RW.call (κ := .chn) (d := some 97) (r := [(10, .qui), (11, .seq), (12, .seq)]) (g := 27) (args := #[.slice a1C C.learners.length k1C, .int .i64 Z.node]) (by as_aux_lemma => kernel_rfl) (nofun) (refwithout_spec (H.rp 1 rfl) Z.node (by omega)) ?_
                        rintro v112 w111 - H'
                        have H := H.back (M1 := []) (W1 := []) H'
                        obtain ⟨a113, c114, rfl, hc115, hm116⟩ := H.ownForm 0 rfl
                        have H : Hp w S [] [(b5, .cells #[.slice none 0 0, .slice none 0 0] 24 (0, 0)), (b3, .cells #[.int .i64 Z.kind, .int .i64 Z.node] 34 (0, 0)), (b1, .cells #[.slice a0C C.voters.length k0C, .slice a1C C.learners.length k1C] 24 (0, 0))] [⟨Shape.int .i64, 3, .slice a113 ((drp Z.node C.learners).length) c114, drp Z.node C.learners⟩, ⟨Shape.int .i64, 3, .slice a107 ((drp Z.node C.voters).length) c108, drp Z.node C.voters⟩] [Rp (Shape.slice (Shape.int .i64)) [.slice a0C C.voters.length k0C] C.voters, Rp (Shape.slice (Shape.int .i64)) [.slice a1C C.learners.length k1C] C.learners] _ := H
                        refine RW.runP 1 [4, 98] [(11, .seq), (12, .seq)] [(4, .pointer (some ⟨b5, 0, none⟩)), (98, .agg #[.slice a107 ((drp Z.node C.voters).length) c108, .slice a113 ((drp Z.node C.learners).length) c114])] (by as_aux_lemma => kernel_rfl) (by as_aux_lemma => kernel_rfl) ?_
                        refine RW.store (d := none) (r := [(12, .seq)]) (T := 24) (b := b5) (k := 0) (v := .agg #[.slice a107 ((drp Z.node C.voters).length) c108, .slice a113 ((drp Z.node C.learners).length) c114]) (c' := #[.slice a107 ((drp Z.node C.voters).length) c108, .slice a113 ((drp Z.node C.learners).length) c114]) (M' := [(b5, .cells #[.slice a107 ((drp Z.node C.voters).length) c108, .slice a113 ((drp Z.node C.learners).length) c114] 24 (0, 0)), (b3, .cells #[.int .i64 Z.kind, .int .i64 Z.node] 34 (0, 0)), (b1, .cells #[.slice a0C C.voters.length k0C, .slice a1C C.learners.length k1C] 24 (0, 0))]) (by as_aux_lemma => kernel_rfl) H 0 rfl (by as_aux_lemma => kernel_rfl) (by as_aux_lemma => kernel_rfl) ?_
                        intro w117 H
                        refine RW.fin 1 [4, 5] [(4, .pointer (some ⟨b5, 0, none⟩)), (5, .int .i64 0)] (by as_aux_lemma => kernel_rfl) ?_
                        refine WK.retBy (v := .tuple #[.agg #[.slice a107 ((drp Z.node C.voters).length) c108, .slice a113 ((drp Z.node C.learners).length) c114], .int .i64 0]) Try.func14 (by as_aux_lemma => kernel_rfl) (RV.res2 (x := .cell 4 24) (y := .tmp 5) (by as_aux_lemma => kernel_rfl) (RV.cell (k := 0) (by as_aux_lemma => kernel_rfl) (H.cells 0 rfl) rfl (by as_aux_lemma => kernel_rfl)) (RV.tmp (by as_aux_lemma => kernel_rfl))) ?_
                        have H : Hp w S [] [(b5, .cells #[.slice a107 ((drp Z.node C.voters).length) c108, .slice a113 ((drp Z.node C.learners).length) c114] 24 (0, 0)), (b3, .cells #[.int .i64 Z.kind, .int .i64 Z.node] 34 (0, 0)), (b1, .cells #[.slice a0C C.voters.length k0C, .slice a1C C.learners.length k1C] 24 (0, 0))] [⟨Shape.int .i64, 3, .slice a113 ((drp Z.node C.learners).length) c114, drp Z.node C.learners⟩] [Rp (Shape.slice (Shape.int .i64)) [.slice a107 ((drp Z.node C.voters).length) c108] (drp Z.node C.voters), Rp (Shape.slice (Shape.int .i64)) [.slice a0C C.voters.length k0C] C.voters, Rp (Shape.slice (Shape.int .i64)) [.slice a1C C.learners.length k1C] C.learners] _ := H.freezeW 1 rfl
                        have H : Hp w S [] [(b5, .cells #[.slice a107 ((drp Z.node C.voters).length) c108, .slice a113 ((drp Z.node C.learners).length) c114] 24 (0, 0)), (b3, .cells #[.int .i64 Z.kind, .int .i64 Z.node] 34 (0, 0)), (b1, .cells #[.slice a0C C.voters.length k0C, .slice a1C C.learners.length k1C] 24 (0, 0))] [] [Rp (Shape.slice (Shape.int .i64)) [.slice a113 ((drp Z.node C.learners).length) c114] (drp Z.node C.learners), Rp (Shape.slice (Shape.int .i64)) [.slice a107 ((drp Z.node C.voters).length) c108] (drp Z.node C.voters), Rp (Shape.slice (Shape.int .i64)) [.slice a0C C.voters.length k0C] C.voters, Rp (Shape.slice (Shape.int .i64)) [.slice a1C C.learners.length k1C] C.learners] _ := H.freezeW 0 rfl
                        refine ⟨_, rfl, H.done, [.slice a107 ((drp Z.node C.voters).length) c108, .slice a113 ((drp Z.node C.learners).length) c114], ⟨drp Z.node C.voters, drp Z.node C.learners⟩, 0, rfl, H.out (conf_mk (H.rp 1 rfl) (H.rp 0 rfl)), ?_⟩
                        clear H
                        symm
                        unfold stepOf stepOk
                        first | (simp [*]; done) | (simp [*]; omega)
                      · skip
                        replace h103 := of_decide_eq_false h103
                        refine WK.run 3 [4] [.code (cd Try.prog 14 [5, 0]), .code (cd Try.prog 14 [6])] [(4, .pointer (some ⟨b5, 0, none⟩))] (by as_aux_lemma => kernel_rfl) ?_
                        refine WK.reg1 (l := sq 0 3) (by as_aux_lemma => kernel_rfl) (by as_aux_lemma => kernel_rfl) ?_
                        refine RW.runP 1 [4, 99] (sq 1 3) [(4, .pointer (some ⟨b5, 0, none⟩)), (99, .agg #[.slice none 0 0, .slice none 0 0])] (by as_aux_lemma => kernel_rfl) (by as_aux_lemma => kernel_rfl) ?_
                        refine RW.store (d := none) (r := (sq 2 3)) (T := 24) (b := b5) (k := 0) (v := .agg #[.slice none 0 0, .slice none 0 0]) (c' := #[.slice none 0 0, .slice none 0 0]) (M' := [(b5, .cells #[.slice none 0 0, .slice none 0 0] 24 (0, 0)), (b3, .cells #[.int .i64 Z.kind, .int .i64 Z.node] 34 (0, 0)), (b1, .cells #[.slice a0C C.voters.length k0C, .slice a1C C.learners.length k1C] 24 (0, 0))]) (by as_aux_lemma => kernel_rfl) H 0 rfl (by as_aux_lemma => kernel_rfl) (by as_aux_lemma => kernel_rfl) ?_
                        intro w118 H
                        refine RW.fin 1 [4, 5] [(4, .pointer (some ⟨b5, 0, none⟩)), (5, .int .i64 120)] (by as_aux_lemma => kernel_rfl) ?_
                        refine WK.retBy (v := .tuple #[.agg #[.slice none 0 0, .slice none 0 0], .int .i64 120]) Try.func14 (by as_aux_lemma => kernel_rfl) (RV.res2 (x := .cell 4 24) (y := .tmp 5) (by as_aux_lemma => kernel_rfl) (RV.cell (k := 0) (by as_aux_lemma => kernel_rfl) (H.cells 0 rfl) rfl (by as_aux_lemma => kernel_rfl)) (RV.tmp (by as_aux_lemma => kernel_rfl))) ?_
                        refine ⟨_, rfl, H.done, [.slice none 0 0, .slice none 0 0], ⟨[], []⟩, 120, rfl, H.out (conf_mk Shape.slice_nil Shape.slice_nil), ?_⟩
                        clear H
                        symm
                        unfold stepOf stepOk
                        first | (simp [*]; done) | (simp [*]; omega)
                    · skip
                      replace h102 := of_decide_eq_false h102
                      refine RW.fin 8 [2, 3, 4, 72] [(2, .pointer (some ⟨b1, 0, none⟩)), (3, .pointer (some ⟨b3, 0, none⟩)), (4, .pointer (some ⟨b5, 0, none⟩)), (72, .bool false)] (by as_aux_lemma => kernel_rfl) ?_
                      refine WK.run 4 [4] [.code (cd Try.prog 14 [5, 0]), .code (cd Try.prog 14 [6])] [(4, .pointer (some ⟨b5, 0, none⟩))] (by as_aux_lemma => kernel_rfl) ?_
                      refine WK.reg1 (l := sq 0 3) (by as_aux_lemma => kernel_rfl) (by as_aux_lemma => kernel_rfl) ?_
                      refine RW.runP 1 [4, 99] (sq 1 3) [(4, .pointer (some ⟨b5, 0, none⟩)), (99, .agg #[.slice none 0 0, .slice none 0 0])] (by as_aux_lemma => kernel_rfl) (by as_aux_lemma => kernel_rfl) ?_
                      refine RW.store (d := none) (r := (sq 2 3)) (T := 24) (b := b5) (k := 0) (v := .agg #[.slice none 0 0, .slice none 0 0]) (c' := #[.slice none 0 0, .slice none 0 0]) (M' := [(b5, .cells #[.slice none 0 0, .slice none 0 0] 24 (0, 0)), (b3, .cells #[.int .i64 Z.kind, .int .i64 Z.node] 34 (0, 0)), (b1, .cells #[.slice a0C C.voters.length k0C, .slice a1C C.learners.length k1C] 24 (0, 0))]) (by as_aux_lemma => kernel_rfl) H 0 rfl (by as_aux_lemma => kernel_rfl) (by as_aux_lemma => kernel_rfl) ?_
                      intro w119 H
                      refine RW.fin 1 [4, 5] [(4, .pointer (some ⟨b5, 0, none⟩)), (5, .int .i64 120)] (by as_aux_lemma => kernel_rfl) ?_
                      refine WK.retBy (v := .tuple #[.agg #[.slice none 0 0, .slice none 0 0], .int .i64 120]) Try.func14 (by as_aux_lemma => kernel_rfl) (RV.res2 (x := .cell 4 24) (y := .tmp 5) (by as_aux_lemma => kernel_rfl) (RV.cell (k := 0) (by as_aux_lemma => kernel_rfl) (H.cells 0 rfl) rfl (by as_aux_lemma => kernel_rfl)) (RV.tmp (by as_aux_lemma => kernel_rfl))) ?_
                      refine ⟨_, rfl, H.done, [.slice none 0 0, .slice none 0 0], ⟨[], []⟩, 120, rfl, H.out (conf_mk Shape.slice_nil Shape.slice_nil), ?_⟩
                      clear H
                      symm
                      unfold stepOf stepOk
                      first | (simp [*]; done) | (simp [*]; omega)
                · skip
                  replace h86 := ne_of_beq_false h86
                  refine RW.fin 12 [2, 3, 4, 72] [(2, .pointer (some ⟨b1, 0, none⟩)), (3, .pointer (some ⟨b3, 0, none⟩)), (4, .pointer (some ⟨b5, 0, none⟩)), (72, .bool false)] (by as_aux_lemma => kernel_rfl) ?_
                  refine WK.run 4 [4] [.code (cd Try.prog 14 [5, 0]), .code (cd Try.prog 14 [6])] [(4, .pointer (some ⟨b5, 0, none⟩))] (by as_aux_lemma => kernel_rfl) ?_
                  refine WK.reg1 (l := sq 0 3) (by as_aux_lemma => kernel_rfl) (by as_aux_lemma => kernel_rfl) ?_
                  refine RW.runP 1 [4, 99] (sq 1 3) [(4, .pointer (some ⟨b5, 0, none⟩)), (99, .agg #[.slice none 0 0, .slice none 0 0])] (by as_aux_lemma => kernel_rfl) (by as_aux_lemma => kernel_rfl) ?_
                  refine RW.store (d := none) (r := (sq 2 3)) (T := 24) (b := b5) (k := 0) (v := .agg #[.slice none 0 0, .slice none 0 0]) (c' := #[.slice none 0 0, .slice none 0 0]) (M' := [(b5, .cells #[.slice none 0 0, .slice none 0 0] 24 (0, 0)), (b3, .cells #[.int .i64 Z.kind, .int .i64 Z.node] 34 (0, 0)), (b1, .cells #[.slice a0C C.voters.length k0C, .slice a1C C.learners.length k1C] 24 (0, 0))]) (by as_aux_lemma => kernel_rfl) H 0 rfl (by as_aux_lemma => kernel_rfl) (by as_aux_lemma => kernel_rfl) ?_
                  intro w120 H
                  refine RW.fin 1 [4, 5] [(4, .pointer (some ⟨b5, 0, none⟩)), (5, .int .i64 120)] (by as_aux_lemma => kernel_rfl) ?_
                  refine WK.retBy (v := .tuple #[.agg #[.slice none 0 0, .slice none 0 0], .int .i64 120]) Try.func14 (by as_aux_lemma => kernel_rfl) (RV.res2 (x := .cell 4 24) (y := .tmp 5) (by as_aux_lemma => kernel_rfl) (RV.cell (k := 0) (by as_aux_lemma => kernel_rfl) (H.cells 0 rfl) rfl (by as_aux_lemma => kernel_rfl)) (RV.tmp (by as_aux_lemma => kernel_rfl))) ?_
                  refine ⟨_, rfl, H.done, [.slice none 0 0, .slice none 0 0], ⟨[], []⟩, 120, rfl, H.out (conf_mk Shape.slice_nil Shape.slice_nil), ?_⟩
                  clear H
                  symm
                  unfold stepOf stepOk
                  first | (simp [*]; done) | (simp [*]; omega)
          · skip
            replace h20 : (decide (Z.node ∈ C.voters)) = true := by revert h20; cases (decide (Z.node ∈ C.voters)) <;> simp
            replace h20 := of_decide_eq_true h20
            refine RW.fin 4 [2, 3, 4, 6, 7, 32] [(2, .pointer (some ⟨b1, 0, none⟩)), (3, .pointer (some ⟨b3, 0, none⟩)), (4, .pointer (some ⟨b5, 0, none⟩)), (6, .bool (decide (Z.node ∈ C.voters))), (7, .bool (decide (Z.node ∈ C.learners))), (32, .bool false)] (by as_aux_lemma => kernel_rfl) ?_
            refine WK.run 2 [2, 3, 4, 6, 7] [.code (cd Try.prog 14 [4, 0, 0, 1, 1, 0]), .code (cd Try.prog 14 [4, 0, 0, 1, 1, 1]), .inBlock 0, .code (cd Try.prog 14 [5])] [(2, .pointer (some ⟨b1, 0, none⟩)), (3, .pointer (some ⟨b3, 0, none⟩)), (4, .pointer (some ⟨b5, 0, none⟩)), (6, .bool (decide (Z.node ∈ C.voters))), (7, .bool (decide (Z.node ∈ C.learners)))] (by as_aux_lemma => kernel_rfl) ?_
            refine WK.reg1 (l := sq 0 7) (by as_aux_lemma => kernel_rfl) (by as_aux_lemma => kernel_rfl) ?_
            refine RW.runP 1 [2, 3, 4, 6, 7, 55] (sq 1 7) [(2, .pointer (some ⟨b1, 0, none⟩)), (3, .pointer (some ⟨b3, 0, none⟩)), (4, .pointer (some ⟨b5, 0, none⟩)), (6, .bool (decide (Z.node ∈ C.voters))), (7, .bool (decide (Z.node ∈ C.learners))), (55, .pointer (some ⟨b3, 0, none⟩))] (by as_aux_lemma => kernel_rfl) (by as_aux_lemma => kernel_rfl) ?_
            refine RW.load (κ := .seq) (d := some 56) (r := (sq 2 7)) (T := 32) (b := b3) (o' := 0) (k := 0) (v := .int .i64 Z.kind) (by as_aux_lemma => kernel_rfl) (H.cells 1 rfl) rfl (by as_aux_lemma => kernel_rfl) ?_
            refine RW.runP 2 [2, 3, 4, 6, 7, 58] (sq 4 7) [(2, .pointer (some ⟨b1, 0, none⟩)), (3, .pointer (some ⟨b3, 0, none⟩)), (4, .pointer (some ⟨b5, 0, none⟩)), (6, .bool (decide (Z.node ∈ C.voters))), (7, .bool (decide (Z.node ∈ C.learners))), (58, .bool (Z.kind == 2))] (by as_aux_lemma => kernel_rfl) (by as_aux_lemma => kernel_rfl) ?_
            refine RW.test (fun b_ => [(2, .pointer (some ⟨b1, 0, none⟩)), (3, .pointer (some ⟨b3, 0, none⟩)), (4, .pointer (some ⟨b5, 0, none⟩)), (6, .bool (decide (Z.node ∈ C.voters))), (7, .bool (decide (Z.node ∈ C.learners))), (58, .bool b_)]) (Z.kind == 2) (fun h121 => ?_) (fun h121 => ?_)
            · skip
              replace h121 := eq_of_beq h121
              refine RW.fin 3 [2, 3, 4, 6, 7, 54] [(2, .pointer (some ⟨b1, 0, none⟩)), (3, .pointer (some ⟨b3, 0, none⟩)), (4, .pointer (some ⟨b5, 0, none⟩)), (6, .bool (decide (Z.node ∈ C.voters))), (7, .bool (decide (Z.node ∈ C.learners))), (54, .bool (decide (Z.node ∈ C.learners)))] (by as_aux_lemma => kernel_rfl) ?_
              refine WK.cond1 (decide (Z.node ∈ C.learners)) (by as_aux_lemma => kernel_rfl) (by as_aux_lemma => kernel_rfl) (fun h122 => ?_) (fun h122 => ?_)
              · skip
                replace h122 := of_decide_eq_true h122
                refine WK.run 1 [2, 3, 4] [.code (cd Try.prog 14 [4, 0, 0, 1, 1, 1, 0, 0]), .code (cd Try.prog 14 [4, 0, 0, 1, 1, 1, 0, 1]), .inBlock 0, .code (cd Try.prog 14 [5])] [(2, .pointer (some ⟨b1, 0, none⟩)), (3, .pointer (some ⟨b3, 0, none⟩)), (4, .pointer (some ⟨b5, 0, none⟩))] (by as_aux_lemma => kernel_rfl) ?_
                refine WK.draw1 11 [(0, .qui), (1, .qui), (2, .qui), (3, .qui), (5, .qui), (6, .qui), (7, .qui), (8, .qui), (4, .chn), (9, .chn), (10, .qui)] [(0, .qui), (1, .qui), (2, .qui), (3, .qui), (5, .qui), (6, .qui), (7, .qui), (8, .qui), (4, .chn), (9, .chn), (10, .qui), (11, .seq), (12, .seq)] Try_mixed (by as_aux_lemma => kernel_rfl) (by as_aux_lemma => kernel_rfl) (by as_aux_lemma => kernel_rfl) ?_
                have H := H.draw
                generalize ({ w17 with drawn := w17.drawn + 1 } : World) = w123 at H ⊢
                refine RW.runP 1 [2, 3, 4, 61] [(1, .qui), (2, .qui), (3, .qui), (5, .qui), (6, .qui), (7, .qui), (8, .qui), (4, .chn), (9, .chn), (10, .qui), (11, .seq), (12, .seq)] [(2, .pointer (some ⟨b1, 0, none⟩)), (3, .pointer (some ⟨b3, 0, none⟩)), (4, .pointer (some ⟨b5, 0, none⟩)), (61, .pointer (some ⟨b1, 0, none⟩))] (by as_aux_lemma => kernel_rfl) (by as_aux_lemma => kernel_rfl) ?_
                refine RW.load (κ := .qui) (d := some 62) (r := [(2, .qui), (3, .qui), (5, .qui), (6, .qui), (7, .qui), (8, .qui), (4, .chn), (9, .chn), (10, .qui), (11, .seq), (12, .seq)]) (T := 22) (b := b1) (o' := 0) (k := 0) (v := .slice a0C C.voters.length k0C) (by as_aux_lemma => kernel_rfl) (H.cells 2 rfl) rfl (by as_aux_lemma => kernel_rfl) ?_
                refine RW.runP 1 [2, 3, 4, 62, 63] [(3, .qui), (5, .qui), (6, .qui), (7, .qui), (8, .qui), (4, .chn), (9, .chn), (10, .qui), (11, .seq), (12, .seq)] [(2, .pointer (some ⟨b1, 0, none⟩)), (3, .pointer (some ⟨b3, 0, none⟩)), (4, .pointer (some ⟨b5, 0, none⟩)), (62, .slice a0C C.voters.length k0C), (63, .pointer (some ⟨b3, 1, none⟩))] (by as_aux_lemma => kernel_rfl) (by as_aux_lemma => kernel_rfl) ?_
                refine RW.load (κ := .qui) (d := some 64) (r := [(5, .qui), (6, .qui), (7, .qui), (8, .qui), (4, .chn), (9, .chn), (10, .qui), (11, .seq), (12, .seq)]) (T := 3) (b := b3) (o' := 1) (k := 1) (v := .int .i64 Z.node) (by as_aux_lemma => kernel_rfl) (H.cells 1 rfl) rfl (by as_aux_lemma => kernel_rfl) ?_
                refine RW.runP 1 [3, 4, 62, 64, 66] [(6, .qui), (7, .qui), (8, .qui), (4, .chn), (9, .chn), (10, .qui), (11, .seq), (12, .seq)] [(3, .pointer (some ⟨b3, 0, none⟩)), (4, .pointer (some ⟨b5, 0, none⟩)), (62, .slice a0C C.voters.length k0C), (64, .int .i64 Z.node), (66, .pointer (some ⟨b1, 1, none⟩))] (by as_aux_lemma => kernel_rfl) (by as_aux_lemma => kernel_rfl) ?_
                refine RW.load (κ := .qui) (d := some 67) (r := [(7, .qui), (8, .qui), (4, .chn), (9, .chn), (10, .qui), (11, .seq), (12, .seq)]) (T := 22) (b := b1) (o' := 1) (k := 1) (v := .slice a1C C.learners.length k1C) (by as_aux_lemma => kernel_rfl) (H.cells 2 rfl) rfl (by as_aux_lemma => kernel_rfl) ?_
                refine RW.runP 1 [4, 62, 64, 67, 68] [(8, .qui), (4, .chn), (9, .chn), (10, .qui), (11, .seq), (12, .seq)] [(4, .pointer (some ⟨b5, 0, none⟩)), (62, .slice a0C C.voters.length k0C), (64, .int .i64 Z.node), (67, .slice a1C C.learners.length k1C), (68, .pointer (some ⟨b3, 1, none⟩))] (by as_aux_lemma => kernel_rfl) (by as_aux_lemma => kernel_rfl) ?_
                refine RW.load (κ := .qui) (d := some 69) (r := [(4, .chn), (9, .chn), (10, .qui), (11, .seq), (12, .seq)]) (T := 3) (b := b3) (o' := 1) (k := 1) (v := .int .i64 Z.node) (by as_aux_lemma => kernel_rfl) (H.cells 1 rfl) rfl (by as_aux_lemma => kernel_rfl) ?_
                refine RW.call (κ := .chn) (d := some 65) (r := [(9, .chn), (10, .qui), (11, .seq), (12, .seq)]) (g := 26) (args := #[.slice a0C C.voters.length k0C, .int .i64 Z.node]) (by as_aux_lemma => kernel_rfl) (nofun) (refwith_spec (H.rp 0 rfl) Z.node (by omega) (by first | assumption | exact fun hq => hdis9 _ hq (by assumption)) (by omega)) ?_
                rintro v125 w124 - H'
                have H := H.back (M1 := []) (W1 := []) H'
                obtain ⟨a126, c127, rfl, hc128, hm129⟩ := H.ownForm 0 rfl
                have H : Hp w S [] [(b5, .cells #[.slice none 0 0, .slice none 0 0] 24 (0, 0)), (b3, .cells #[.int .i64 Z.kind, .int .i64 Z.node] 34 (0, 0)), (b1, .cells #[.slice a0C C.voters.length k0C, .slice a1C C.learners.length k1C] 24 (0, 0))] [⟨Shape.int .i64, 3, .slice a126 ((ins Z.node C.voters).length) c127, ins Z.node C.voters⟩] [Rp (Shape.slice (Shape.int .i64)) [.slice a0C C.voters.length k0C] C.voters, Rp (Shape.slice (Shape.int .i64)) [.slice a1C C.learners.length k1C] C.learners] _ := H
                refine RW.call (κ := .chn) (d := some 70) (r := [(10, .qui), (11, .seq), (12, .seq)]) (g := 27) (args := #[.slice a1C C.learners.length k1C, .int .i64 Z.node]) (by as_aux_lemma => kernel_rfl) (nofun) (refwithout_spec (H.rp 1 rfl) Z.node (by omega)) ?_
                rintro v131 w130 - H'
                have H := H.back (M1 := []) (W1 := []) H'
                obtain ⟨a132, c133, rfl, hc134, hm135⟩ := H.ownForm 0 rfl
                have H : Hp w S [] [(b5, .cells #[.slice none 0 0, .slice none 0 0] 24 (0, 0)), (b3, .cells #[.int .i64 Z.kind, .int .i64 Z.node] 34 (0, 0)), (b1, .cells #[.slice a0C C.voters.length k0C, .slice a1C C.learners.length k1C] 24 (0, 0))] [⟨Shape.int .i64, 3, .slice a132 ((drp Z.node C.learners).length) c133, drp Z.node C.learners⟩, ⟨Shape.int .i64, 3, .slice a126 ((ins Z.node C.voters).length) c127, ins Z.node C.voters⟩] [Rp (Shape.slice (Shape.int .i64)) [.slice a0C C.voters.length k0C] C.voters, Rp (Shape.slice (Shape.int .i64)) [.slice a1C C.learners.length k1C] C.learners] _ := H
                refine RW.runP 1 [4, 71] [(11, .seq), (12, .seq)] [(4, .pointer (some ⟨b5, 0, none⟩)), (71, .agg #[.slice a126 ((ins Z.node C.voters).length) c127, .slice a132 ((drp Z.node C.learners).length) c133])] (by as_aux_lemma => kernel_rfl) (by as_aux_lemma => kernel_rfl) ?_
                refine RW.store (d := none) (r := [(12, .seq)]) (T := 24) (b := b5) (k := 0) (v := .agg #[.slice a126 ((ins Z.node C.voters).length) c127, .slice a132 ((drp Z.node C.learners).length) c133]) (c' := #[.slice a126 ((ins Z.node C.voters).length) c127, .slice a132 ((drp Z.node C.learners).length) c133]) (M' := [(b5, .cells #[.slice a126 ((ins Z.node C.voters).length) c127, .slice a132 ((drp Z.node C.learners).length) c133] 24 (0, 0)), (b3, .cells #[.int .i64 Z.kind, .int .i64 Z.node] 34 (0, 0)), (b1, .cells #[.slice a0C C.voters.length k0C, .slice a1C C.learners.length k1C] 24 (0, 0))]) (by as_aux_lemma => kernel_rfl) H 0 rfl (by as_aux_lemma => kernel_rfl) (by as_aux_lemma => kernel_rfl) ?_
                intro w136 H
                refine RW.fin 1 [4, 5] [(4, .pointer (some ⟨b5, 0, none⟩)), (5, .int .i64 0)] (by as_aux_lemma => kernel_rfl) ?_
                refine WK.retBy (v := .tuple #[.agg #[.slice a126 ((ins Z.node C.voters).length) c127, .slice a132 ((drp Z.node C.learners).length) c133], .int .i64 0]) Try.func14 (by as_aux_lemma => kernel_rfl) (RV.res2 (x := .cell 4 24) (y := .tmp 5) (by as_aux_lemma => kernel_rfl) (RV.cell (k := 0) (by as_aux_lemma => kernel_rfl) (H.cells 0 rfl) rfl (by as_aux_lemma => kernel_rfl)) (RV.tmp (by as_aux_lemma => kernel_rfl))) ?_
                have H : Hp w S [] [(b5, .cells #[.slice a126 ((ins Z.node C.voters).length) c127, .slice a132 ((drp Z.node C.learners).length) c133] 24 (0, 0)), (b3, .cells #[.int .i64 Z.kind, .int .i64 Z.node] 34 (0, 0)), (b1, .cells #[.slice a0C C.voters.length k0C, .slice a1C C.learners.length k1C] 24 (0, 0))] [⟨Shape.int .i64, 3, .slice a132 ((drp Z.node C.learners).length) c133, drp Z.node C.learners⟩] [Rp (Shape.slice (Shape.int .i64)) [.slice a126 ((ins Z.node C.voters).length) c127] (ins Z.node C.voters), Rp (Shape.slice (Shape.int .i64)) [.slice a0C C.voters.length k0C] C.voters, Rp (Shape.slice (Shape.int .i64)) [.slice a1C C.learners.length k1C] C.learners] _ := H.freezeW 1 rfl
                have H : Hp w S [] [(b5, .cells #[.slice a126 ((ins Z.node C.voters).length) c127, .slice a132 ((drp Z.node C.learners).length) c133] 24 (0, 0)), (b3, .cells #[.int .i64 Z.kind, .int .i64 Z.node] 34 (0, 0)), (b1, .cells #[.slice a0C C.voters.length k0C, .slice a1C C.learners.length k1C] 24 (0, 0))] [] [Rp (Shape.slice (Shape.int .i64)) [.slice a132 ((drp Z.node C.learners).length) c133] (drp Z.node C.learners), Rp (Shape.slice (Shape.int .i64)) [.slice a126 ((ins Z.node C.voters).length) c127] (ins Z.node C.voters), Rp (Shape.slice (Shape.int .i64)) [.slice a0C C.voters.length k0C] C.voters, Rp (Shape.slice (Shape.int .i64)) [.slice a1C C.learners.length k1C] C.learners] _ := H.freezeW 0 rfl
                refine ⟨_, rfl, H.done, [.slice a126 ((ins Z.node C.voters).length) c127, .slice a132 ((drp Z.node C.learners).length) c133], ⟨ins Z.node C.voters, drp Z.node C.learners⟩, 0, rfl, H.out (conf_mk (H.rp 1 rfl) (H.rp 0 rfl)), ?_⟩
                clear H
                symm
                unfold stepOf stepOk
                first | (simp [*]; done) | (simp [*]; omega)
              · skip
                replace h122 := of_decide_eq_false h122
                refine WK.run 1 [2, 3, 4, 6, 7] [.code (cd Try.prog 14 [4, 0, 0, 1, 1, 1, 1, 0]), .code (cd Try.prog 14 [4, 0, 0, 1, 1, 1, 1, 1]), .inBlock 0, .code (cd Try.prog 14 [5])] [(2, .pointer (some ⟨b1, 0, none⟩)), (3, .pointer (some ⟨b3, 0, none⟩)), (4, .pointer (some ⟨b5, 0, none⟩)), (6, .bool (decide (Z.node ∈ C.voters))), (7, .bool (decide (Z.node ∈ C.learners)))] (by as_aux_lemma => kernel_rfl) ?_
                refine WK.reg1 (l := sq 0 16) (by as_aux_lemma => kernel_rfl) (by as_aux_lemma => kernel_rfl) ?_
                refine RW.runP 1 [2, 3, 4, 6, 7, 73] (sq 1 16) [(2, .pointer (some ⟨b1, 0, none⟩)), (3, .pointer (some ⟨b3, 0, none⟩)), (4, .pointer (some ⟨b5, 0, none⟩)), (6, .bool (decide (Z.node ∈ C.voters))), (7, .bool (decide (Z.node ∈ C.learners))), (73, .pointer (some ⟨b3, 0, none⟩))] (by as_aux_lemma => kernel_rfl) (by as_aux_lemma => kernel_rfl) ?_
                refine RW.load (κ := .seq) (d := some 74) (r := (sq 2 16)) (T := 32) (b := b3) (o' := 0) (k := 0) (v := .int .i64 Z.kind) (by as_aux_lemma => kernel_rfl) (H.cells 1 rfl) rfl (by as_aux_lemma => kernel_rfl) ?_
                refine RW.runP 2 [2, 3, 4, 6, 7, 76] (sq 4 16) [(2, .pointer (some ⟨b1, 0, none⟩)), (3, .pointer (some ⟨b3, 0, none⟩)), (4, .pointer (some ⟨b5, 0, none⟩)), (6, .bool (decide (Z.node ∈ C.voters))), (7, .bool (decide (Z.node ∈ C.learners))), (76, .bool (Z.kind == 3))] (by as_aux_lemma => kernel_rfl) (by as_aux_lemma => kernel_rfl) ?_
                refine RW.test (fun b_ => [(2, .pointer (some ⟨b1, 0, none⟩)), (3, .pointer (some ⟨b3, 0, none⟩)), (4, .pointer (some ⟨b5, 0, none⟩)), (6, .bool (decide (Z.node ∈ C.voters))), (7, .bool (decide (Z.node ∈ C.learners))), (76, .bool b_)]) (Z.kind == 3) (fun h137 => ?_) (fun h137 => ?_)
                · skip
                  replace h137 := eq_of_beq h137
                  refine RW.runP 2 [2, 3, 4, 6, 76, 78] (sq 6 16) [(2, .pointer (some ⟨b1, 0, none⟩)), (3, .pointer (some ⟨b3, 0, none⟩)), (4, .pointer (some ⟨b5, 0, none⟩)), (6, .bool (decide (Z.node ∈ C.voters))), (76, .bool true), (78, .bool (decide (Z.node ∈ C.learners)))] (by as_aux_lemma => kernel_rfl) (by as_aux_lemma => kernel_rfl) ?_
                  refine RW.test (fun b_ => [(2, .pointer (some ⟨b1, 0, none⟩)), (3, .pointer (some ⟨b3, 0, none⟩)), (4, .pointer (some ⟨b5, 0, none⟩)), (6, .bool (decide (Z.node ∈ C.voters))), (76, .bool true), (78, .bool b_)]) (decide (Z.node ∈ C.learners)) (fun h138 => ?_) (fun h138 => ?_)
                  · skip
                    replace h138 := of_decide_eq_true h138
                    refine RW.fin 10 [2, 3, 4, 72] [(2, .pointer (some ⟨b1, 0, none⟩)), (3, .pointer (some ⟨b3, 0, none⟩)), (4, .pointer (some ⟨b5, 0, none⟩)), (72, .bool true)] (by as_aux_lemma => kernel_rfl) ?_
                    refine WK.run 2 [2, 3, 4] [.code (cd Try.prog 14 [4, 0, 0, 1, 1, 1, 1, 1, 0, 0]), .code (cd Try.prog 14 [4, 0, 0, 1, 1, 1, 1, 1, 0, 1]), .inBlock 0, .code (cd Try.prog 14 [5])] [(2, .pointer (some ⟨b1, 0, none⟩)), (3, .pointer (some ⟨b3, 0, none⟩)), (4, .pointer (some ⟨b5, 0, none⟩))] (by as_aux_lemma => kernel_rfl) ?_
                    refine WK.draw1 11 [(0, .qui), (1, .qui), (2, .qui), (3, .qui), (5, .qui), (6, .qui), (7, .qui), (8, .qui), (4, .chn), (9, .chn), (10, .qui)] [(0, .qui), (1, .qui), (2, .qui), (3, .qui), (5, .qui), (6, .qui), (7, .qui), (8, .qui), (4, .chn), (9, .chn), (10, .qui), (11, .seq), (12, .seq)] Try_mixed (by as_aux_lemma => kernel_rfl) (by as_aux_lemma => kernel_rfl) (by as_aux_lemma => kernel_rfl) ?_
                    have H := H.draw
                    generalize ({ w17 with drawn := w17.drawn + 1 } : World) = w139 at H ⊢
                    refine RW.runP 1 [2, 3, 4, 88] [(1, .qui), (2, .qui), (3, .qui), (5, .qui), (6, .qui), (7, .qui), (8, .qui), (4, .chn), (9, .chn), (10, .qui), (11, .seq), (12, .seq)] [(2, .pointer (some ⟨b1, 0, none⟩)), (3, .pointer (some ⟨b3, 0, none⟩)), (4, .pointer (some ⟨b5, 0, none⟩)), (88, .pointer (some ⟨b1, 0, none⟩))] (by as_aux_lemma => kernel_rfl) (by as_aux_lemma => kernel_rfl) ?_
                    refine RW.load (κ := .qui) (d := some 89) (r := [(2, .qui), (3, .qui), (5, .qui), (6, .qui), (7, .qui), (8, .qui), (4, .chn), (9, .chn), (10, .qui), (11, .seq), (12, .seq)]) (T := 22) (b := b1) (o' := 0) (k := 0) (v := .slice a0C C.voters.length k0C) (by as_aux_lemma => kernel_rfl) (H.cells 2 rfl) rfl (by as_aux_lemma => kernel_rfl) ?_
                    refine RW.runP 1 [2, 3, 4, 89, 90] [(3, .qui), (5, .qui), (6, .qui), (7, .qui), (8, .qui), (4, .chn), (9, .chn), (10, .qui), (11, .seq), (12, .seq)] [(2, .pointer (some ⟨b1, 0, none⟩)), (3, .pointer (some ⟨b3, 0, none⟩)), (4, .pointer (some ⟨b5, 0, none⟩)), (89, .slice a0C C.voters.length k0C), (90, .pointer (some ⟨b3, 1, none⟩))] (by as_aux_lemma => kernel_rfl) (by as_aux_lemma => kernel_rfl) ?_
                    refine RW.load (κ := .qui) (d := some 91) (r := [(5, .qui), (6, .qui), (7, .qui), (8, .qui), (4, .chn), (9, .chn), (10, .qui), (11, .seq), (12, .seq)]) (T := 3) (b := b3) (o' := 1) (k := 1) (v := .int .i64 Z.node) (by as_aux_lemma => kernel_rfl) (H.cells 1 rfl) rfl (by as_aux_lemma => kernel_rfl) ?_
                    refine RW.runP 1 [3, 4, 89, 91, 93] [(6, .qui), (7, .qui), (8, .qui), (4, .chn), (9, .chn), (10, .qui), (11, .seq), (12, .seq)] [(3, .pointer (some ⟨b3, 0, none⟩)), (4, .pointer (some ⟨b5, 0, none⟩)), (89, .slice a0C C.voters.length k0C), (91, .int .i64 Z.node), (93, .pointer (some ⟨b1, 1, none⟩))] (by as_aux_lemma => kernel_rfl) (by as_aux_lemma => kernel_rfl) ?_
                    refine RW.load (κ := .qui) (d := some 94) (r := [(7, .qui), (8, .qui), (4, .chn), (9, .chn), (10, .qui), (11, .seq), (12, .seq)]) (T := 22) (b := b1) (o' := 1) (k := 1) (v := .slice a1C C.learners.length k1C) (by as_aux_lemma => kernel_rfl) (H.cells 2 rfl) rfl (by as_aux_lemma => kernel_rfl) ?_
                    refine RW.runP 1 [4, 89, 91, 94, 95] [(8, .qui), (4, .chn), (9, .chn), (10, .qui), (11, .seq), (12, .seq)] [(4, .pointer (some ⟨b5, 0, none⟩)), (89, .slice a0C C.voters.length k0C), (91, .int .i64 Z.node), (94, .slice a1C C.learners.length k1C), (95, .pointer (some ⟨b3, 1, none⟩))] (by as_aux_lemma => kernel_rfl) (by as_aux_lemma => kernel_rfl) ?_
                    refine RW.load (κ := .qui) (d := some 96) (r := [(4, .chn), (9, .chn), (10, .qui), (11, .seq), (12, .seq)]) (T := 3) (b := b3) (o' := 1) (k := 1) (v := .int .i64 Z.node) (by as_aux_lemma => kernel_rfl) (H.cells 1 rfl) rfl (by as_aux_lemma => kernel_rfl) ?_
                    refine RW.call (κ := .chn) (d := some 92) (r := [(9, .chn), (10, .qui), (11, .seq), (12, .seq)]) (g := 27) (args := #[.slice a0C C.voters.length k0C, .int .i64 Z.node]) (by as_aux_lemma => kernel_rfl) (nofun) (refwithout_spec (H.rp 0 rfl) Z.node (by omega)) ?_
                    rintro v141 w140 - H'
                    have H := H.back (M1 := []) (W1 := []) H'
                    obtain ⟨a142, c143, rfl, hc144, hm145⟩ := H.ownForm 0 rfl
                    have H : Hp w S [] [(b5, .cells #[.slice none 0 0, .slice none 0 0] 24 (0, 0)), (b3, .cells #[.int .i64 Z.kind, .int .i64 Z.node] 34 (0, 0)), (b1, .cells #[.slice a0C C.voters.length k0C, .slice a1C C.learners.length k1C] 24 (0, 0))] [⟨Shape.int .i64, 3, .slice a142 ((drp Z.node C.voters).length) c143, drp Z.node C.voters⟩] [Rp (Shape.slice (Shape.int .i64)) [.slice a0C C.voters.length k0C] C.voters, Rp (Shape.slice (Shape.int .i64)) [.slice a1C C.learners.length k1C] C.learners] _ := H
                    refine RW.call (κ := .chn) (d := some 97) (r := [(10, .qui), (11, .seq), (12, .seq)]) (g := 27) (args := #[.slice a1C C.learners.length k1C, .int .i64 Z.node]) (by as_aux_lemma => kernel_rfl) (nofun) (refwithout_spec (H.rp 1 rfl) Z.node (by omega)) ?_
                    rintro v147 w146 - H'
                    have H := H.back (M1 := []) (W1 := []) H'
                    obtain ⟨a148, c149, rfl, hc150, hm151⟩ := H.ownForm 0 rfl
                    have H : Hp w S [] [(b5, .cells #[.slice none 0 0, .slice none 0 0] 24 (0, 0)), (b3, .cells #[.int .i64 Z.kind, .int .i64 Z.node] 34 (0, 0)), (b1, .cells #[.slice a0C C.voters.length k0C, .slice a1C C.learners.length k1C] 24 (0, 0))] [⟨Shape.int .i64, 3, .slice a148 ((drp Z.node C.learners).length) c149, drp Z.node C.learners⟩, ⟨Shape.int .i64, 3, .slice a142 ((drp Z.node C.voters).length) c143, drp Z.node C.voters⟩] [Rp (Shape.slice (Shape.int .i64)) [.slice a0C C.voters.length k0C] C.voters, Rp (Shape.slice (Shape.int .i64)) [.slice a1C C.learners.length k1C] C.learners] _ := H
                    refine RW.runP 1 [4, 98] [(11, .seq), (12, .seq)] [(4, .pointer (some ⟨b5, 0, none⟩)), (98, .agg #[.slice a142 ((drp Z.node C.voters).length) c143, .slice a148 ((drp Z.node C.learners).length) c149])] (by as_aux_lemma => kernel_rfl) (by as_aux_lemma => kernel_rfl) ?_
                    refine RW.store (d := none) (r := [(12, .seq)]) (T := 24) (b := b5) (k := 0) (v := .agg #[.slice a142 ((drp Z.node C.voters).length) c143, .slice a148 ((drp Z.node C.learners).length) c149]) (c' := #[.slice a142 ((drp Z.node C.voters).length) c143, .slice a148 ((drp Z.node C.learners).length) c149]) (M' := [(b5, .cells #[.slice a142 ((drp Z.node C.voters).length) c143, .slice a148 ((drp Z.node C.learners).length) c149] 24 (0, 0)), (b3, .cells #[.int .i64 Z.kind, .int .i64 Z.node] 34 (0, 0)), (b1, .cells #[.slice a0C C.voters.length k0C, .slice a1C C.learners.length k1C] 24 (0, 0))]) (by as_aux_lemma => kernel_rfl) H 0 rfl (by as_aux_lemma => kernel_rfl) (by as_aux_lemma => kernel_rfl) ?_
                    intro w152 H
                    refine RW.fin 1 [4, 5] [(4, .pointer (some ⟨b5, 0, none⟩)), (5, .int .i64 0)] (by as_aux_lemma => kernel_rfl) ?_
                    refine WK.retBy (v := .tuple #[.agg #[.slice a142 ((drp Z.node C.voters).length) c143, .slice a148 ((drp Z.node C.learners).length) c149], .int .i64 0]) Try.func14 (by as_aux_lemma => kernel_rfl) (RV.res2 (x := .cell 4 24) (y := .tmp 5) (by as_aux_lemma => kernel_rfl) (RV.cell (k := 0) (by as_aux_lemma => kernel_rfl) (H.cells 0 rfl) rfl (by as_aux_lemma => kernel_rfl)) (RV.tmp (by as_aux_lemma => kernel_rfl))) ?_
                    have H : Hp w S [] [(b5, .cells #[.slice a142 ((drp Z.node C.voters).length) c143, .slice a148 ((drp Z.node C.learners).length) c149] 24 (0, 0)), (b3, .cells #[.int .i64 Z.kind, .int .i64 Z.node] 34 (0, 0)), (b1, .cells #[.slice a0C C.voters.length k0C, .slice a1C C.learners.length k1C] 24 (0, 0))] [⟨Shape.int .i64, 3, .slice a148 ((drp Z.node C.learners).length) c149, drp Z.node C.learners⟩] [Rp (Shape.slice (Shape.int .i64)) [.slice a142 ((drp Z.node C.voters).length) c143] (drp Z.node C.voters), Rp (Shape.slice (Shape.int .i64)) [.slice a0C C.voters.length k0C] C.voters, Rp (Shape.slice (Shape.int .i64)) [.slice a1C C.learners.length k1C] C.learners] _ := H.freezeW 1 rfl
                    have H : Hp w S [] [(b5, .cells #[.slice a142 ((drp Z.node C.voters).length) c143, .slice a148 ((drp Z.node C.learners).length) c149] 24 (0, 0)), (b3, .cells #[.int .i64 Z.kind, .int .i64 Z.node] 34 (0, 0)), (b1, .cells #[.slice a0C C.voters.length k0C, .slice a1C C.learners.length k1C] 24 (0, 0))] [] [Rp (Shape.slice (Shape.int .i64)) [.slice a148 ((drp Z.node C.learners).length) c149] (drp Z.node C.learners), Rp (Shape.slice (Shape.int .i64)) [.slice a142 ((drp Z.node C.voters).length) c143] (drp Z.node C.voters), Rp (Shape.slice (Shape.int .i64)) [.slice a0C C.voters.length k0C] C.voters, Rp (Shape.slice (Shape.int .i64)) [.slice a1C C.learners.length k1C] C.learners] _ := H.freezeW 0 rfl
                    refine ⟨_, rfl, H.done, [.slice a142 ((drp Z.node C.voters).length) c143, .slice a148 ((drp Z.node C.learners).length) c149], ⟨drp Z.node C.voters, drp Z.node C.learners⟩, 0, rfl, H.out (conf_mk (H.rp 1 rfl) (H.rp 0 rfl)), ?_⟩
                    clear H
                    symm
                    unfold stepOf stepOk
                    first | (simp [*]; done) | (simp [*]; omega)
                  · skip
                    replace h138 := of_decide_eq_false h138
                    refine RW.runP 2 [2, 3, 4, 76, 78, 80] (sq 8 16) [(2, .pointer (some ⟨b1, 0, none⟩)), (3, .pointer (some ⟨b3, 0, none⟩)), (4, .pointer (some ⟨b5, 0, none⟩)), (76, .bool true), (78, .bool false), (80, .bool (decide (Z.node ∈ C.voters)))] (by as_aux_lemma => kernel_rfl) (by as_aux_lemma => kernel_rfl) ?_
                    refine RW.test (fun b_ => [(2, .pointer (some ⟨b1, 0, none⟩)), (3, .pointer (some ⟨b3, 0, none⟩)), (4, .pointer (some ⟨b5, 0, none⟩)), (76, .bool true), (78, .bool false), (80, .bool b_)]) (decide (Z.node ∈ C.voters)) (fun h153 => ?_) (fun h153 => ?_)
                    · skip
                      replace h153 := of_decide_eq_true h153
                      refine RW.runP 1 [2, 3, 4, 76, 78, 80, 81] (sq 9 16) [(2, .pointer (some ⟨b1, 0, none⟩)), (3, .pointer (some ⟨b3, 0, none⟩)), (4, .pointer (some ⟨b5, 0, none⟩)), (76, .bool true), (78, .bool false), (80, .bool true), (81, .pointer (some ⟨b1, 0, none⟩))] (by as_aux_lemma => kernel_rfl) (by as_aux_lemma => kernel_rfl) ?_
                      refine RW.load (κ := .seq) (d := some 82) (r := (sq 10 16)) (T := 22) (b := b1) (o' := 0) (k := 0) (v := .slice a0C C.voters.length k0C) (by as_aux_lemma => kernel_rfl) (H.cells 2 rfl) rfl (by as_aux_lemma => kernel_rfl) ?_
                      refine RW.fin 6 [2, 3, 4, 72] [(2, .pointer (some ⟨b1, 0, none⟩)), (3, .pointer (some ⟨b3, 0, none⟩)), (4, .pointer (some ⟨b5, 0, none⟩)), (72, .bool (decide ((((C.voters.length : Nat) : Int) : Int) > 1)))] (by as_aux_lemma => kernel_rfl) ?_
                      refine WK.cond1 (decide ((((C.voters.length : Nat) : Int) : Int) > 1)) (by as_aux_lemma => kernel_rfl) (by as_aux_lemma => kernel_rfl) (fun h154 => ?_) (fun h154 => ?_)
                      · skip
                        replace h154 := of_decide_eq_true h154
                        refine WK.run 1 [2, 3, 4] [.code (cd Try.prog 14 [4, 0, 0, 1, 1, 1, 1, 1, 0, 0]), .code (cd Try.prog 14 [4, 0, 0, 1, 1, 1, 1, 1, 0, 1]), .inBlock 0, .code (cd Try.prog 14 [5])] [(2, .pointer (some ⟨b1, 0, none⟩)), (3, .pointer (some ⟨b3, 0, none⟩)), (4, .pointer (some ⟨b5, 0, none⟩))] (by as_aux_lemma => kernel_rfl) ?_
                        refine WK.draw1 11 [(0, .qui), (1, .qui), (2, .qui), (3, .qui), (5, .qui), (6, .qui), (7, .qui), (8, .qui), (4, .chn), (9, .chn), (10, .qui)] [(0, .qui), (1, .qui), (2, .qui), (3, .qui), (5, .qui), (6, .qui), (7, .qui), (8, .qui), (4, .chn), (9, .chn), (10, .qui), (11, .seq), (12, .seq)] Try_mixed (by as_aux_lemma => kernel_rfl) (by as_aux_lemma => kernel_rfl) (by as_aux_lemma => kernel_rfl) ?_
                        have H := H.draw
                        generalize ({ w17 with drawn := w17.drawn + 1 } : World) = w155 at H ⊢
                        refine RW.runP 1 [2, 3, 4, 88] [(1, .qui), (2, .qui), (3, .qui), (5, .qui), (6, .qui), (7, .qui), (8, .qui), (4, .chn), (9, .chn), (10, .qui), (11, .seq), (12, .seq)] [(2, .pointer (some ⟨b1, 0, none⟩)), (3, .pointer (some ⟨b3, 0, none⟩)), (4, .pointer (some ⟨b5, 0, none⟩)), (88, .pointer (some ⟨b1, 0, none⟩))] (by as_aux_lemma => kernel_rfl) (by as_aux_lemma => kernel_rfl) ?_
                        refine RW.load (κ := .qui) (d := some 89) (r := [(2, .qui), (3, .qui), (5, .qui), (6, .qui), (7, .qui), (8, .qui), (4, .chn), (9, .chn), (10, .qui), (11, .seq), (12, .seq)]) (T := 22) (b := b1) (o' := 0) (k := 0) (v := .slice a0C C.voters.length k0C) (by as_aux_lemma => kernel_rfl) (H.cells 2 rfl) rfl (by as_aux_lemma => kernel_rfl) ?_
                        refine RW.runP 1 [2, 3, 4, 89, 90] [(3, .qui), (5, .qui), (6, .qui), (7, .qui), (8, .qui), (4, .chn), (9, .chn), (10, .qui), (11, .seq), (12, .seq)] [(2, .pointer (some ⟨b1, 0, none⟩)), (3, .pointer (some ⟨b3, 0, none⟩)), (4, .pointer (some ⟨b5, 0, none⟩)), (89, .slice a0C C.voters.length k0C), (90, .pointer (some ⟨b3, 1, none⟩))] (by as_aux_lemma => kernel_rfl) (by as_aux_lemma => kernel_rfl) ?_
                        refine RW.load (κ := .qui) (d := some 91) (r := [(5, .qui), (6, .qui), (7, .qui), (8, .qui), (4, .chn), (9, .chn), (10, .qui), (11, .seq), (12, .seq)]) (T := 3) (b := b3) (o' := 1) (k := 1) (v := .int .i64 Z.node) (by as_aux_lemma => kernel_rfl) (H.cells 1 rfl) rfl (by as_aux_lemma => kernel_rfl) ?_
                        refine RW.runP 1 [3, 4, 89, 91, 93] [(6, .qui), (7, .qui), (8, .qui), (4, .chn), (9, .chn), (10, .qui), (11, .seq), (12, .seq)] [(3, .pointer (some ⟨b3, 0, none⟩)), (4, .pointer (some ⟨b5, 0, none⟩)), (89, .slice a0C C.voters.length k0C), (91, .int .i64 Z.node), (93, .pointer (some ⟨b1, 1, none⟩))] (by as_aux_lemma => kernel_rfl) (by as_aux_lemma => kernel_rfl) ?_
                        refine RW.load (κ := .qui) (d := some 94) (r := [(7, .qui), (8, .qui), (4, .chn), (9, .chn), (10, .qui), (11, .seq), (12, .seq)]) (T := 22) (b := b1) (o' := 1) (k := 1) (v := .slice a1C C.learners.length k1C) (by as_aux_lemma => kernel_rfl) (H.cells 2 rfl) rfl (by as_aux_lemma => kernel_rfl) ?_
                        refine RW.runP 1 [4, 89, 91, 94, 95] [(8, .qui), (4, .chn), (9, .chn), (10, .qui), (11, .seq), (12, .seq)] [(4, .pointer (some ⟨b5, 0, none⟩)), (89, .slice a0C C.voters.length k0C), (91, .int .i64 Z.node), (94, .slice a1C C.learners.length k1C), (95, .pointer (some ⟨b3, 1, none⟩))] (by as_aux_lemma => kernel_rfl) (by as_aux_lemma => kernel_rfl) ?_
                        refine RW.load (κ := .qui) (d := some 96) (r := [(4, .chn), (9, .chn), (10, .qui), (11, .seq), (12, .seq)]) (T := 3) (b := b3) (o' := 1) (k := 1) (v := .int .i64 Z.node) (by as_aux_lemma => kernel_rfl) (H.cells 1 rfl) rfl (by as_aux_lemma => kernel_rfl) ?_
                        refine RW.call (κ := .chn) (d := some 92) (r := [(9, .chn), (10, .qui), (11, .seq), (12, .seq)]) (g := 27) (args := #[.slice a0C C.voters.length k0C, .int .i64 Z.node]) (by as_aux_lemma => kernel_rfl) (nofun) (refwithout_spec (H.rp 0 rfl) Z.node (by omega)) ?_
                        rintro v157 w156 - H'
                        have H := H.back (M1 := []) (W1 := []) H'
                        obtain ⟨a158, c159, rfl, hc160, hm161⟩ := H.ownForm 0 rfl
                        have H : Hp w S [] [(b5, .cells #[.slice none 0 0, .slice none 0 0] 24 (0, 0)), (b3, .cells #[.int .i64 Z.kind, .int .i64 Z.node] 34 (0, 0)), (b1, .cells #[.slice a0C C.voters.length k0C, .slice a1C C.learners.length k1C] 24 (0, 0))] [⟨Shape.int .i64, 3, .slice a158 ((drp Z.node C.voters).length) c159, drp Z.node C.voters⟩] [Rp (Shape.slice (Shape.int .i64)) [.slice a0C C.voters.length k0C] C.voters, Rp (Shape.slice (Shape.int .i64)) [.slice a1C C.learners.length k1C] C.learners] _ := H
                        refine RW.call (κ := .chn) (d := some 97) (r := [(10, .qui), (11, .seq), (12, .seq)]) (g := 27) (args := #[.slice a1C C.learners.length k1C, .int .i64 Z.node]) (by as_aux_lemma => kernel_rfl) (nofun) (refwithout_spec (H.rp 1 rfl) Z.node (by omega)) ?_
                        rintro v163 w162 - H'
                        have H := H.back (M1 := []) (W1 := []) H'
                        obtain ⟨a164, c165, rfl, hc166, hm167⟩ := H.ownForm 0 rfl
                        have H : Hp w S [] [(b5, .cells #[.slice none 0 0, .slice none 0 0] 24 (0, 0)), (b3, .cells #[.int .i64 Z.kind, .int .i64 Z.node] 34 (0, 0)), (b1, .cells #[.slice a0C C.voters.length k0C, .slice a1C C.learners.length k1C] 24 (0, 0))] [⟨Shape.int .i64, 3, .slice a164 ((drp Z.node C.learners).length) c165, drp Z.node C.learners⟩, ⟨Shape.int .i64, 3, .slice a158 ((drp Z.node C.voters).length) c159, drp Z.node C.voters⟩] [Rp (Shape.slice (Shape.int .i64)) [.slice a0C C.voters.length k0C] C.voters, Rp (Shape.slice (Shape.int .i64)) [.slice a1C C.learners.length k1C] C.learners] _ := H
                        refine RW.runP 1 [4, 98] [(11, .seq), (12, .seq)] [(4, .pointer (some ⟨b5, 0, none⟩)), (98, .agg #[.slice a158 ((drp Z.node C.voters).length) c159, .slice a164 ((drp Z.node C.learners).length) c165])] (by as_aux_lemma => kernel_rfl) (by as_aux_lemma => kernel_rfl) ?_
                        refine RW.store (d := none) (r := [(12, .seq)]) (T := 24) (b := b5) (k := 0) (v := .agg #[.slice a158 ((drp Z.node C.voters).length) c159, .slice a164 ((drp Z.node C.learners).length) c165]) (c' := #[.slice a158 ((drp Z.node C.voters).length) c159, .slice a164 ((drp Z.node C.learners).length) c165]) (M' := [(b5, .cells #[.slice a158 ((drp Z.node C.voters).length) c159, .slice a164 ((drp Z.node C.learners).length) c165] 24 (0, 0)), (b3, .cells #[.int .i64 Z.kind, .int .i64 Z.node] 34 (0, 0)), (b1, .cells #[.slice a0C C.voters.length k0C, .slice a1C C.learners.length k1C] 24 (0, 0))]) (by as_aux_lemma => kernel_rfl) H 0 rfl (by as_aux_lemma => kernel_rfl) (by as_aux_lemma => kernel_rfl) ?_
                        intro w168 H
                        refine RW.fin 1 [4, 5] [(4, .pointer (some ⟨b5, 0, none⟩)), (5, .int .i64 0)] (by as_aux_lemma => kernel_rfl) ?_
                        refine WK.retBy (v := .tuple #[.agg #[.slice a158 ((drp Z.node C.voters).length) c159, .slice a164 ((drp Z.node C.learners).length) c165], .int .i64 0]) Try.func14 (by as_aux_lemma => kernel_rfl) (RV.res2 (x := .cell 4 24) (y := .tmp 5) (by as_aux_lemma => kernel_rfl) (RV.cell (k := 0) (by as_aux_lemma => kernel_rfl) (H.cells 0 rfl) rfl (by as_aux_lemma => kernel_rfl)) (RV.tmp (by as_aux_lemma => kernel_rfl))) ?_
                        have H : Hp w S [] [(b5, .cells #[.slice a158 ((drp Z.node C.voters).length) c159, .slice a164 ((drp Z.node C.learners).length) c165] 24 (0, 0)), (b3, .cells #[.int .i64 Z.kind, .int .i64 Z.node] 34 (0, 0)), (b1, .cells #[.slice a0C C.voters.length k0C, .slice a1C C.learners.length k1C] 24 (0, 0))] [⟨Shape.int .i64, 3, .slice a164 ((drp Z.node C.learners).length) c165, drp Z.node C.learners⟩] [Rp (Shape.slice (Shape.int .i64)) [.slice a158 ((drp Z.node C.voters).length) c159] (drp Z.node C.voters), Rp (Shape.slice (Shape.int .i64)) [.slice a0C C.voters.length k0C] C.voters, Rp (Shape.slice (Shape.int .i64)) [.slice a1C C.learners.length k1C] C.learners] _ := H.freezeW 1 rfl
                        have H : Hp w S [] [(b5, .cells #[.slice a158 ((drp Z.node C.voters).length) c159, .slice a164 ((drp Z.node C.learners).length) c165] 24 (0, 0)), (b3, .cells #[.int .i64 Z.kind, .int .i64 Z.node] 34 (0, 0)), (b1, .cells #[.slice a0C C.voters.length k0C, .slice a1C C.learners.length k1C] 24 (0, 0))] [] [Rp (Shape.slice (Shape.int .i64)) [.slice a164 ((drp Z.node C.learners).length) c165] (drp Z.node C.learners), Rp (Shape.slice (Shape.int .i64)) [.slice a158 ((drp Z.node C.voters).length) c159] (drp Z.node C.voters), Rp (Shape.slice (Shape.int .i64)) [.slice a0C C.voters.length k0C] C.voters, Rp (Shape.slice (Shape.int .i64)) [.slice a1C C.learners.length k1C] C.learners] _ := H.freezeW 0 rfl
                        refine ⟨_, rfl, H.done, [.slice a158 ((drp Z.node C.voters).length) c159, .slice a164 ((drp Z.node C.learners).length) c165], ⟨drp Z.node C.voters, drp Z.node C.learners⟩, 0, rfl, H.out (conf_mk (H.rp 1 rfl) (H.rp 0 rfl)), ?_⟩
                        clear H
                        symm
                        unfold stepOf stepOk
                        first | (simp [*]; done) | (simp [*]; omega)
                      · skip
                        replace h154 := of_decide_eq_false h154
                        refine WK.run 3 [4] [.code (cd Try.prog 14 [5, 0]), .code (cd Try.prog 14 [6])] [(4, .pointer (some ⟨b5, 0, none⟩))] (by as_aux_lemma => kernel_rfl) ?_
                        refine WK.reg1 (l := sq 0 3) (by as_aux_lemma => kernel_rfl) (by as_aux_lemma => kernel_rfl) ?_
                        refine RW.runP 1 [4, 99] (sq 1 3) [(4, .pointer (some ⟨b5, 0, none⟩)), (99, .agg #[.slice none 0 0, .slice none 0 0])] (by as_aux_lemma => kernel_rfl) (by as_aux_lemma => kernel_rfl) ?_
                        refine RW.store (d := none) (r := (sq 2 3)) (T := 24) (b := b5) (k := 0) (v := .agg #[.slice none 0 0, .slice none 0 0]) (c' := #[.slice none 0 0, .slice none 0 0]) (M' := [(b5, .cells #[.slice none 0 0, .slice none 0 0] 24 (0, 0)), (b3, .cells #[.int .i64 Z.kind, .int .i64 Z.node] 34 (0, 0)), (b1, .cells #[.slice a0C C.voters.length k0C, .slice a1C C.learners.length k1C] 24 (0, 0))]) (by as_aux_lemma => kernel_rfl) H 0 rfl (by as_aux_lemma => kernel_rfl) (by as_aux_lemma => kernel_rfl) ?_
                        intro w169 H
                        refine RW.fin 1 [4, 5] [(4, .pointer (some ⟨b5, 0, none⟩)), (5, .int .i64 120)] (by as_aux_lemma => kernel_rfl) ?_
                        refine WK.retBy (v := .tuple #[.agg #[.slice none 0 0, .slice none 0 0], .int .i64 120]) Try.func14 (by as_aux_lemma => kernel_rfl) (RV.res2 (x := .cell 4 24) (y := .tmp 5) (by as_aux_lemma => kernel_rfl) (RV.cell (k := 0) (by as_aux_lemma => kernel_rfl) (H.cells 0 rfl) rfl (by as_aux_lemma => kernel_rfl)) (RV.tmp (by as_aux_lemma => kernel_rfl))) ?_
                        refine ⟨_, rfl, H.done, [.slice none 0 0, .slice none 0 0], ⟨[], []⟩, 120, rfl, H.out (conf_mk Shape.slice_nil Shape.slice_nil), ?_⟩
                        clear H
                        symm
                        unfold stepOf stepOk
                        first | (simp [*]; done) | (simp [*]; omega)
                    · skip
                      replace h153 := of_decide_eq_false h153
                      refine RW.fin 8 [2, 3, 4, 72] [(2, .pointer (some ⟨b1, 0, none⟩)), (3, .pointer (some ⟨b3, 0, none⟩)), (4, .pointer (some ⟨b5, 0, none⟩)), (72, .bool false)] (by as_aux_lemma => kernel_rfl) ?_
                      refine WK.run 4 [4] [.code (cd Try.prog 14 [5, 0]), .code (cd Try.prog 14 [6])] [(4, .pointer (some ⟨b5, 0, none⟩))] (by as_aux_lemma => kernel_rfl) ?_
                      refine WK.reg1 (l := sq 0 3) (by as_aux_lemma => kernel_rfl) (by as_aux_lemma => kernel_rfl) ?_
                      refine RW.runP 1 [4, 99] (sq 1 3) [(4, .pointer (some ⟨b5, 0, none⟩)), (99, .agg #[.slice none 0 0, .slice none 0 0])] (by as_aux_lemma => kernel_rfl) (by as_aux_lemma => kernel_rfl) ?_
                      refine RW.store (d := none) (r := (sq 2 3)) (T := 24) (b := b5) (k := 0) (v := .agg #[.slice none 0 0, .slice none 0 0]) (c' := #[.slice none 0 0, .slice none 0 0]) (M' := [(b5, .cells #[.slice none 0 0, .slice none 0 0] 24 (0, 0)), (b3, .cells #[.int .i64 Z.kind, .int .i64 Z.node] 34 (0, 0)), (b1, .cells #[.slice a0C C.voters.length k0C, .slice a1C C.learners.length k1C] 24 (0, 0))]) (by as_aux_lemma => kernel_rfl) H 0 rfl (by as_aux_lemma => kernel_rfl) (by as_aux_lemma => kernel_rfl) ?_
                      intro w170 H
                      refine RW.fin 1 [4, 5] [(4, .pointer (some ⟨b5, 0, none⟩)), (5, .int .i64 120)] (by as_aux_lemma => kernel_rfl) ?_
                      refine WK.retBy (v := .tuple #[.agg #[.slice none 0 0, .slice none 0 0], .int .i64 120]) Try.func14 (by as_aux_lemma => kernel_rfl) (RV.res2 (x := .cell 4 24) (y := .tmp 5) (by as_aux_lemma => kernel_rfl) (RV.cell (k := 0) (by as_aux_lemma => kernel_rfl) (H.cells 0 rfl) rfl (by as_aux_lemma => kernel_rfl)) (RV.tmp (by as_aux_lemma => kernel_rfl))) ?_
                      refine ⟨_, rfl, H.done, [.slice none 0 0, .slice none 0 0], ⟨[], []⟩, 120, rfl, H.out (conf_mk Shape.slice_nil Shape.slice_nil), ?_⟩
                      clear H
                      symm
                      unfold stepOf stepOk
                      first | (simp [*]; done) | (simp [*]; omega)
                · skip
                  replace h137 := ne_of_beq_false h137
                  refine RW.fin 12 [2, 3, 4, 72] [(2, .pointer (some ⟨b1, 0, none⟩)), (3, .pointer (some ⟨b3, 0, none⟩)), (4, .pointer (some ⟨b5, 0, none⟩)), (72, .bool false)] (by as_aux_lemma => kernel_rfl) ?_
                  refine WK.run 4 [4] [.code (cd Try.prog 14 [5, 0]), .code (cd Try.prog 14 [6])] [(4, .pointer (some ⟨b5, 0, none⟩))] (by as_aux_lemma => kernel_rfl) ?_
                  refine WK.reg1 (l := sq 0 3) (by as_aux_lemma => kernel_rfl) (by as_aux_lemma => kernel_rfl) ?_
                  refine RW.runP 1 [4, 99] (sq 1 3) [(4, .pointer (some ⟨b5, 0, none⟩)), (99, .agg #[.slice none 0 0, .slice none 0 0])] (by as_aux_lemma => kernel_rfl) (by as_aux_lemma => kernel_rfl) ?_
                  refine RW.store (d := none) (r := (sq 2 3)) (T := 24) (b := b5) (k := 0) (v := .agg #[.slice none 0 0, .slice none 0 0]) (c' := #[.slice none 0 0, .slice none 0 0]) (M' := [(b5, .cells #[.slice none 0 0, .slice none 0 0] 24 (0, 0)), (b3, .cells #[.int .i64 Z.kind, .int .i64 Z.node] 34 (0, 0)), (b1, .cells #[.slice a0C C.voters.length k0C, .slice a1C C.learners.length k1C] 24 (0, 0))]) (by as_aux_lemma => kernel_rfl) H 0 rfl (by as_aux_lemma => kernel_rfl) (by as_aux_lemma => kernel_rfl) ?_
                  intro w171 H
                  refine RW.fin 1 [4, 5] [(4, .pointer (some ⟨b5, 0, none⟩)), (5, .int .i64 120)] (by as_aux_lemma => kernel_rfl) ?_
                  refine WK.retBy (v := .tuple #[.agg #[.slice none 0 0, .slice none 0 0], .int .i64 120]) Try.func14 (by as_aux_lemma => kernel_rfl) (RV.res2 (x := .cell 4 24) (y := .tmp 5) (by as_aux_lemma => kernel_rfl) (RV.cell (k := 0) (by as_aux_lemma => kernel_rfl) (H.cells 0 rfl) rfl (by as_aux_lemma => kernel_rfl)) (RV.tmp (by as_aux_lemma => kernel_rfl))) ?_
                  refine ⟨_, rfl, H.done, [.slice none 0 0, .slice none 0 0], ⟨[], []⟩, 120, rfl, H.out (conf_mk Shape.slice_nil Shape.slice_nil), ?_⟩
                  clear H
                  symm
                  unfold stepOf stepOk
                  first | (simp [*]; done) | (simp [*]; omega)
            · skip
              replace h121 := ne_of_beq_false h121
              refine RW.fin 3 [2, 3, 4, 6, 7, 54] [(2, .pointer (some ⟨b1, 0, none⟩)), (3, .pointer (some ⟨b3, 0, none⟩)), (4, .pointer (some ⟨b5, 0, none⟩)), (6, .bool (decide (Z.node ∈ C.voters))), (7, .bool (decide (Z.node ∈ C.learners))), (54, .bool false)] (by as_aux_lemma => kernel_rfl) ?_
              refine WK.run 2 [2, 3, 4, 6, 7] [.code (cd Try.prog 14 [4, 0, 0, 1, 1, 1, 1, 0]), .code (cd Try.prog 14 [4, 0, 0, 1, 1, 1, 1, 1]), .inBlock 0, .code (cd Try.prog 14 [5])] [(2, .pointer (some ⟨b1, 0, none⟩)), (3, .pointer (some ⟨b3, 0, none⟩)), (4, .pointer (some ⟨b5, 0, none⟩)), (6, .bool (decide (Z.node ∈ C.voters))), (7, .bool (decide (Z.node ∈ C.learners)))] (by as_aux_lemma => kernel_rfl) ?_
              refine WK.reg1 (l := sq 0 16) (by as_aux_lemma => kernel_rfl) (by as_aux_lemma => kernel_rfl) ?_
              refine RW.runP 1 [2, 3, 4, 6, 7, 73] (sq 1 16) [(2, .pointer (some ⟨b1, 0, none⟩)), (3, .pointer (some ⟨b3, 0, none⟩)), (4, .pointer (some ⟨b5, 0, none⟩)), (6, .bool (decide (Z.node ∈ C.voters))), (7, .bool (decide (Z.node ∈ C.learners))), (73, .pointer (some ⟨b3, 0, none⟩))] (by as_aux_lemma => kernel_rfl) (by as_aux_lemma => kernel_rfl) ?_
              refine RW.load (κ := .seq) (d := some 74) (r := (sq 2 16)) (T := 32) (b := b3) (o' := 0) (k := 0) (v := .int .i64 Z.kind) (by as_aux_lemma => kernel_rfl) (H.cells 1 rfl) rfl (by as_aux_lemma => kernel_rfl) ?_
              refine RW.runP 2 [2, 3, 4, 6, 7, 76] (sq 4 16) [(2, .pointer (some ⟨b1, 0, none⟩)), (3, .pointer (some ⟨b3, 0, none⟩)), (4, .pointer (some ⟨b5, 0, none⟩)), (6, .bool (decide (Z.node ∈ C.voters))), (7, .bool (decide (Z.node ∈ C.learners))), (76, .bool (Z.kind == 3))] (by as_aux_lemma => kernel_rfl) (by as_aux_lemma => kernel_rfl) ?_
              refine RW.test (fun b_ => [(2, .pointer (some ⟨b1, 0, none⟩)), (3, .pointer (some ⟨b3, 0, none⟩)), (4, .pointer (some ⟨b5, 0, none⟩)), (6, .bool (decide (Z.node ∈ C.voters))), (7, .bool (decide (Z.node ∈ C.learners))), (76, .bool b_)]) (Z.kind == 3) (fun h172 => ?_) (fun h172 => ?_)
              · skip
                replace h172 := eq_of_beq h172
                refine RW.runP 2 [2, 3, 4, 6, 76, 78] (sq 6 16) [(2, .pointer (some ⟨b1, 0, none⟩)), (3, .pointer (some ⟨b3, 0, none⟩)), (4, .pointer (some ⟨b5, 0, none⟩)), (6, .bool (decide (Z.node ∈ C.voters))), (76, .bool true), (78, .bool (decide (Z.node ∈ C.learners)))] (by as_aux_lemma => kernel_rfl) (by as_aux_lemma => kernel_rfl) ?_
                refine RW.test (fun b_ => [(2, .pointer (some ⟨b1, 0, none⟩)), (3, .pointer (some ⟨b3, 0, none⟩)), (4, .pointer (some ⟨b5, 0, none⟩)), (6, .bool (decide (Z.node ∈ C.voters))), (76, .bool true), (78, .bool b_)]) (decide (Z.node ∈ C.learners)) (fun h173 => ?_) (fun h173 => ?_)
                · skip
                  replace h173 := of_decide_eq_true h173
                  refine RW.fin 10 [2, 3, 4, 72] [(2, .pointer (some ⟨b1, 0, none⟩)), (3, .pointer (some ⟨b3, 0, none⟩)), (4, .pointer (some ⟨b5, 0, none⟩)), (72, .bool true)] (by as_aux_lemma => kernel_rfl) ?_
                  refine WK.run 2 [2, 3, 4] [.code (cd Try.prog 14 [4, 0, 0, 1, 1, 1, 1, 1, 0, 0]), .code (cd Try.prog 14 [4, 0, 0, 1, 1, 1, 1, 1, 0, 1]), .inBlock 0, .code (cd Try.prog 14 [5])] [(2, .pointer (some ⟨b1, 0, none⟩)), (3, .pointer (some ⟨b3, 0, none⟩)), (4, .pointer (some ⟨b5, 0, none⟩))] (by as_aux_lemma => kernel_rfl) ?_
                  refine WK.draw1 11 [(0, .qui), (1, .qui), (2, .qui), (3, .qui), (5, .qui), (6, .qui), (7, .qui), (8, .qui), (4, .chn), (9, .chn), (10, .qui)] [(0, .qui), (1, .qui), (2, .qui), (3, .qui), (5, .qui), (6, .qui), (7, .qui), (8, .qui), (4, .chn), (9, .chn), (10, .qui), (11, .seq), (12, .seq)] Try_mixed (by as_aux_lemma => kernel_rfl) (by as_aux_lemma => kernel_rfl) (by as_aux_lemma => kernel_rfl) ?_
                  have H := H.draw
                  generalize ({ w17 with drawn := w17.drawn + 1 } : World) = w174 at H ⊢
                  refine RW.runP 1 [2, 3, 4, 88] [(1, .qui), (2, .qui), (3, .qui), (5, .qui), (6, .qui), (7, .qui), (8, .qui), (4, .chn), (9, .chn), (10, .qui), (11, .seq), (12, .seq)] [(2, .pointer (some ⟨b1, 0, none⟩)), (3, .pointer (some ⟨b3, 0, none⟩)), (4, .pointer (some ⟨b5, 0, none⟩)), (88, .pointer (some ⟨b1, 0, none⟩))] (by as_aux_lemma => kernel_rfl) (by as_aux_lemma => kernel_rfl) ?_
                  refine RW.load (κ := .qui) (d := some 89) (r := [(2, .qui), (3, .qui), (5, .qui), (6, .qui), (7, .qui), (8, .qui), (4, .chn), (9, .chn), (10, .qui), (11, .seq), (12, .seq)]) (T := 22) (b := b1) (o' := 0) (k := 0) (v := .slice a0C C.voters.length k0C) (by as_aux_lemma => kernel_rfl) (H.cells 2 rfl) rfl (by as_aux_lemma => kernel_rfl) ?_
                  refine RW.runP 1 [2, 3, 4, 89, 90] [(3, .qui), (5, .qui), (6, .qui), (7, .qui), (8, .qui), (4, .chn), (9, .chn), (10, .qui), (11, .seq), (12, .seq)] [(2, .pointer (some ⟨b1, 0, none⟩)), (3, .pointer (some ⟨b3, 0, none⟩)), (4, .pointer (some ⟨b5, 0, none⟩)), (89, .slice a0C C.voters.length k0C), (90, .pointer (some ⟨b3, 1, none⟩))] (by as_aux_lemma => kernel_rfl) (by as_aux_lemma => kernel_rfl) ?_
                  refine RW.load (κ := .qui) (d := some 91) (r := [(5, .qui), (6, .qui), (7, .qui), (8, .qui), (4, .chn), (9, .chn), (10, .qui), (11, .seq), (12, .seq)]) (T := 3) (b := b3) (o' := 1) (k := 1) (v := .int .i64 Z.node) (by as_aux_lemma => kernel_rfl) (H.cells 1 rfl) rfl (by as_aux_lemma => kernel_rfl) ?_
                  refine RW.runP 1 [3, 4, 89, 91, 93] [(6, .qui), (7, .qui), (8, .qui), (4, .chn), (9, .chn), (10, .qui), (11, .seq), (12, .seq)] [(3, .pointer (some ⟨b3, 0, none⟩)), (4, .pointer (some ⟨b5, 0, none⟩)), (89, .slice a0C C.voters.length k0C), (91, .int .i64 Z.node), (93, .pointer (some ⟨b1, 1, none⟩))] (by as_aux_lemma => kernel_rfl) (by as_aux_lemma => kernel_rfl) ?_
                  refine RW.load (κ := .qui) (d := some 94) (r := [(7, .qui), (8, .qui), (4, .chn), (9, .chn), (10, .qui), (11, .seq), (12, .seq)]) (T := 22) (b := b1) (o' := 1) (k := 1) (v := .slice a1C C.learners.length k1C) (by as_aux_lemma => kernel_rfl) (H.cells 2 rfl) rfl (by as_aux_lemma => kernel_rfl) ?_
                  refine RW.runP 1 [4, 89, 91, 94, 95] [(8, .qui), (4, .chn), (9, .chn), (10, .qui), (11, .seq), (12, .seq)] [(4, .pointer (some ⟨b5, 0, none⟩)), (89, .slice a0C C.voters.length k0C), (91, .int .i64 Z.node), (94, .slice a1C C.learners.length k1C), (95, .pointer (some ⟨b3, 1, none⟩))] (by as_aux_lemma => kernel_rfl) (by as_aux_lemma => kernel_rfl) ?_
                  refine RW.load (κ := .qui) (d := some 96) (r := [(4, .chn), (9, .chn), (10, .qui), (11, .seq), (12, .seq)]) (T := 3) (b := b3) (o' := 1) (k := 1) (v := .int .i64 Z.node) (by as_aux_lemma => kernel_rfl) (H.cells 1 rfl) rfl (by as_aux_lemma => kernel_rfl) ?_
                  refine RW.call (κ := .chn) (d := some 92) (r := [(9, .chn), (10, .qui), (11, .seq), (12, .seq)]) (g := 27) (args := #[.slice a0C C.voters.length k0C, .int .i64 Z.node]) (by as_aux_lemma => kernel_rfl) (nofun) (refwithout_spec (H.rp 0 rfl) Z.node (by omega)) ?_
                  rintro v176 w175 - H'
                  have H := H.back (M1 := []) (W1 := []) H'
                  obtain ⟨a177, c178, rfl, hc179, hm180⟩ := H.ownForm 0 rfl
                  have H : Hp w S [] [(b5, .cells #[.slice none 0 0, .slice none 0 0] 24 (0, 0)), (b3, .cells #[.int .i64 Z.kind, .int .i64 Z.node] 34 (0, 0)), (b1, .cells #[.slice a0C C.voters.length k0C, .slice a1C C.learners.length k1C] 24 (0, 0))] [⟨Shape.int .i64, 3, .slice a177 ((drp Z.node C.voters).length) c178, drp Z.node C.voters⟩] [Rp (Shape.slice (Shape.int .i64)) [.slice a0C C.voters.length k0C] C.voters, Rp (Shape.slice (Shape.int .i64)) [.slice a1C C.learners.length k1C] C.learners] _ := H
                  refine RW.call (κ := .chn) (d := some 97) (r := [(10, .qui), (11, .seq), (12, .seq)]) (g := 27) (args := #[.slice a1C C.learners.length k1C, .int .i64 Z.node]) (by as_aux_lemma => kernel_rfl) (nofun) (refwithout_spec (H.rp 1 rfl) Z.node (by omega)) ?_
                  rintro v182 w181 - H'
                  have H := H.back (M1 := []) (W1 := []) H'
                  obtain ⟨a183, c184, rfl, hc185, hm186⟩ := H.ownForm 0 rfl
                  have H : Hp w S [] [(b5, .cells #[.slice none 0 0, .slice none 0 0] 24 (0, 0)), (b3, .cells #[.int .i64 Z.kind, .int .i64 Z.node] 34 (0, 0)), (b1, .cells #[.slice a0C C.voters.length k0C, .slice a1C C.learners.length k1C] 24 (0, 0))] [⟨Shape.int .i64, 3, .slice a183 ((drp Z.node C.learners).length) c184, drp Z.node C.learners⟩, ⟨Shape.int .i64, 3, .slice a177 ((drp Z.node C.voters).length) c178, drp Z.node C.voters⟩] [Rp (Shape.slice (Shape.int .i64)) [.slice a0C C.voters.length k0C] C.voters, Rp (Shape.slice (Shape.int .i64)) [.slice a1C C.learners.length k1C] C.learners] _ := H
                  refine RW.runP 1 [4, 98] [(11, .seq), (12, .seq)] [(4, .pointer (some ⟨b5, 0, none⟩)), (98, .agg #[.slice a177 ((drp Z.node C.voters).length) c178, .slice a183 ((drp Z.node C.learners).length) c184])] (by as_aux_lemma => kernel_rfl) (by as_aux_lemma => kernel_rfl) ?_
                  refine RW.store (d := none) (r := [(12, .seq)]) (T := 24) (b := b5) (k := 0) (v := .agg #[.slice a177 ((drp Z.node C.voters).length) c178, .slice a183 ((drp Z.node C.learners).length) c184]) (c' := #[.slice a177 ((drp Z.node C.voters).length) c178, .slice a183 ((drp Z.node C.learners).length) c184]) (M' := [(b5, .cells #[.slice a177 ((drp Z.node C.voters).length) c178, .slice a183 ((drp Z.node C.learners).length) c184] 24 (0, 0)), (b3, .cells #[.int .i64 Z.kind, .int .i64 Z.node] 34 (0, 0)), (b1, .cells #[.slice a0C C.voters.length k0C, .slice a1C C.learners.length k1C] 24 (0, 0))]) (by as_aux_lemma => kernel_rfl) H 0 rfl (by as_aux_lemma => kernel_rfl) (by as_aux_lemma => kernel_rfl) ?_
                  intro w187 H
                  refine RW.fin 1 [4, 5] [(4, .pointer (some ⟨b5, 0, none⟩)), (5, .int .i64 0)] (by as_aux_lemma => kernel_rfl) ?_
                  refine WK.retBy (v := .tuple #[.agg #[.slice a177 ((drp Z.node C.voters).length) c178, .slice a183 ((drp Z.node C.learners).length) c184], .int .i64 0]) Try.func14 (by as_aux_lemma => kernel_rfl) (RV.res2 (x := .cell 4 24) (y := .tmp 5) (by as_aux_lemma => kernel_rfl) (RV.cell (k := 0) (by as_aux_lemma => kernel_rfl) (H.cells 0 rfl) rfl (by as_aux_lemma => kernel_rfl)) (RV.tmp (by as_aux_lemma => kernel_rfl))) ?_
                  have H : Hp w S [] [(b5, .cells #[.slice a177 ((drp Z.node C.voters).length) c178, .slice a183 ((drp Z.node C.learners).length) c184] 24 (0, 0)), (b3, .cells #[.int .i64 Z.kind, .int .i64 Z.node] 34 (0, 0)), (b1, .cells #[.slice a0C C.voters.length k0C, .slice a1C C.learners.length k1C] 24 (0, 0))] [⟨Shape.int .i64, 3, .slice a183 ((drp Z.node C.learners).length) c184, drp Z.node C.learners⟩] [Rp (Shape.slice (Shape.int .i64)) [.slice a177 ((drp Z.node C.voters).length) c178] (drp Z.node C.voters), Rp (Shape.slice (Shape.int .i64)) [.slice a0C C.voters.length k0C] C.voters, Rp (Shape.slice (Shape.int .i64)) [.slice a1C C.learners.length k1C] C.learners] _ := H.freezeW 1 rfl
                  have H : Hp w S [] [(b5, .cells #[.slice a177 ((drp Z.node C.voters).length) c178, .slice a183 ((drp Z.node C.learners).length) c184] 24 (0, 0)), (b3, .cells #[.int .i64 Z.kind, .int .i64 Z.node] 34 (0, 0)), (b1, .cells #[.slice a0C C.voters.length k0C, .slice a1C C.learners.length k1C] 24 (0, 0))] [] [Rp (Shape.slice (Shape.int .i64)) [.slice a183 ((drp Z.node C.learners).length) c184] (drp Z.node C.learners), Rp (Shape.slice (Shape.int .i64)) [.slice a177 ((drp Z.node C.voters).length) c178] (drp Z.node C.voters), Rp (Shape.slice (Shape.int .i64)) [.slice a0C C.voters.length k0C] C.voters, Rp (Shape.slice (Shape.int .i64)) [.slice a1C C.learners.length k1C] C.learners] _ := H.freezeW 0 rfl
                  refine ⟨_, rfl, H.done, [.slice a177 ((drp Z.node C.voters).length) c178, .slice a183 ((drp Z.node C.learners).length) c184], ⟨drp Z.node C.voters, drp Z.node C.learners⟩, 0, rfl, H.out (conf_mk (H.rp 1 rfl) (H.rp 0 rfl)), ?_⟩
                  clear H
                  symm
                  unfold stepOf stepOk
                  first | (simp [*]; done) | (simp [*]; omega)
                · skip
                  replace h173 := of_decide_eq_false h173
                  refine RW.runP 2 [2, 3, 4, 76, 78, 80] (sq 8 16) [(2, .pointer (some ⟨b1, 0, none⟩)), (3, .pointer (some ⟨b3, 0, none⟩)), (4, .pointer (some ⟨b5, 0, none⟩)), (76, .bool true), (78, .bool false), (80, .bool (decide (Z.node ∈ C.voters)))] (by as_aux_lemma => kernel_rfl) (by as_aux_lemma => kernel_rfl) ?_
                  refine RW.test (fun b_ => [(2, .pointer (some ⟨b1, 0, none⟩)), (3, .pointer (some ⟨b3, 0, none⟩)), (4, .pointer (some ⟨b5, 0, none⟩)), (76, .bool true), (78, .bool false), (80, .bool b_)]) (decide (Z.node ∈ C.voters)) (fun h188 => ?_) (fun h188 => ?_)
                  · skip
                    replace h188 := of_decide_eq_true h188
                    refine RW.runP 1 [2, 3, 4, 76, 78, 80, 81] (sq 9 16) [(2, .pointer (some ⟨b1, 0, none⟩)), (3, .pointer (some ⟨b3, 0, none⟩)), (4, .pointer (some ⟨b5, 0, none⟩)), (76, .bool true), (78, .bool false), (80, .bool true), (81, .pointer (some ⟨b1, 0, none⟩))] (by as_aux_lemma => kernel_rfl) (by as_aux_lemma => kernel_rfl) ?_
                    refine RW.load (κ := .seq) (d := some 82) (r := (sq 10 16)) (T := 22) (b := b1) (o' := 0) (k := 0) (v := .slice a0C C.voters.length k0C) (by as_aux_lemma => kernel_rfl) (H.cells 2 rfl) rfl (by as_aux_lemma => kernel_rfl) ?_
                    refine RW.fin 6 [2, 3, 4, 72] [(2, .pointer (some ⟨b1, 0, none⟩)), (3, .pointer (some ⟨b3, 0, none⟩)), (4, .pointer (some ⟨b5, 0, none⟩)), (72, .bool (decide ((((C.voters.length : Nat) : Int) : Int) > 1)))] (by as_aux_lemma => kernel_rfl) ?_
                    refine WK.cond1 (decide ((((C.voters.length : Nat) : Int) : Int) > 1)) (by as_aux_lemma => kernel_rfl) (by as_aux_lemma => kernel_rfl) (fun h189 => ?_) (fun h189 => ?_)
                    · skip
                      replace h189 := of_decide_eq_true h189
                      refine WK.run 1 [2, 3, 4] [.code (cd Try.prog 14 [4, 0, 0, 1, 1, 1, 1, 1, 0, 0]), .code (cd Try.prog 14 [4, 0, 0, 1, 1, 1, 1, 1, 0, 1]), .inBlock 0, .code (cd Try.prog 14 [5])] [(2, .pointer (some ⟨b1, 0, none⟩)), (3, .pointer (some ⟨b3, 0, none⟩)), (4, .pointer (some ⟨b5, 0, none⟩))] (by as_aux_lemma => kernel_rfl) ?_
                      refine WK.draw1 11 [(0, .qui), (1, .qui), (2, .qui), (3, .qui), (5, .qui), (6, .qui), (7, .qui), (8, .qui), (4, .chn), (9, .chn), (10, .qui)] [(0, .qui), (1, .qui), (2, .qui), (3, .qui), (5, .qui), (6, .qui), (7, .qui), (8, .qui), (4, .chn), (9, .chn), (10, .qui), (11, .seq), (12, .seq)] Try_mixed (by as_aux_lemma => kernel_rfl) (by as_aux_lemma => kernel_rfl) (by as_aux_lemma => kernel_rfl) ?_
                      have H := H.draw
                      generalize ({ w17 with drawn := w17.drawn + 1 } : World) = w190 at H ⊢
                      refine RW.runP 1 [2, 3, 4, 88] [(1, .qui), (2, .qui), (3, .qui), (5, .qui), (6, .qui), (7, .qui), (8, .qui), (4, .chn), (9, .chn), (10, .qui), (11, .seq), (12, .seq)] [(2, .pointer (some ⟨b1, 0, none⟩)), (3, .pointer (some ⟨b3, 0, none⟩)), (4, .pointer (some ⟨b5, 0, none⟩)), (88, .pointer (some ⟨b1, 0, none⟩))] (by as_aux_lemma => kernel_rfl) (by as_aux_lemma => kernel_rfl) ?_
                      refine RW.load (κ := .qui) (d := some 89) (r := [(2, .qui), (3, .qui), (5, .qui), (6, .qui), (7, .qui), (8, .qui), (4, .chn), (9, .chn), (10, .qui), (11, .seq), (12, .seq)]) (T := 22) (b := b1) (o' := 0) (k := 0) (v := .slice a0C C.voters.length k0C) (by as_aux_lemma => kernel_rfl) (H.cells 2 rfl) rfl (by as_aux_lemma => kernel_rfl) ?_
                      refine RW.runP 1 [2, 3, 4, 89, 90] [(3, .qui), (5, .qui), (6, .qui), (7, .qui), (8, .qui), (4, .chn), (9, .chn), (10, .qui), (11, .seq), (12, .seq)] [(2, .pointer (some ⟨b1, 0, none⟩)), (3, .pointer (some ⟨b3, 0, none⟩)), (4, .pointer (some ⟨b5, 0, none⟩)), (89, .slice a0C C.voters.length k0C), (90, .pointer (some ⟨b3, 1, none⟩))] (by as_aux_lemma => kernel_rfl) (by as_aux_lemma => kernel_rfl) ?_
                      refine RW.load (κ := .qui) (d := some 91) (r := [(5, .qui), (6, .qui), (7, .qui), (8, .qui), (4, .chn), (9, .chn), (10, .qui), (11, .seq), (12, .seq)]) (T := 3) (b := b3) (o' := 1) (k := 1) (v := .int .i64 Z.node) (by as_aux_lemma => kernel_rfl) (H.cells 1 rfl) rfl (by as_aux_lemma => kernel_rfl) ?_
                      refine RW.runP 1 [3, 4, 89, 91, 93] [(6, .qui), (7, .qui), (8, .qui), (4, .chn), (9, .chn), (10, .qui), (11, .seq), (12, .seq)] [(3, .pointer (some ⟨b3, 0, none⟩)), (4, .pointer (some ⟨b5, 0, none⟩)), (89, .slice a0C C.voters.length k0C), (91, .int .i64 Z.node), (93, .pointer (some ⟨b1, 1, none⟩))] (by as_aux_lemma => kernel_rfl) (by as_aux_lemma => kernel_rfl) ?_
                      refine RW.load (κ := .qui) (d := some 94) (r := [(7, .qui), (8, .qui), (4, .chn), (9, .chn), (10, .qui), (11, .seq), (12, .seq)]) (T := 22) (b := b1) (o' := 1) (k := 1) (v := .slice a1C C.learners.length k1C) (by as_aux_lemma => kernel_rfl) (H.cells 2 rfl) rfl (by as_aux_lemma => kernel_rfl) ?_
                      refine RW.runP 1 [4, 89, 91, 94, 95] [(8, .qui), (4, .chn), (9, .chn), (10, .qui), (11, .seq), (12, .seq)] [(4, .pointer (some ⟨b5, 0, none⟩)), (89, .slice a0C C.voters.length k0C), (91, .int .i64 Z.node), (94, .slice a1C C.learners.length k1C), (95, .pointer (some ⟨b3, 1, none⟩))] (by as_aux_lemma => kernel_rfl) (by as_aux_lemma => kernel_rfl) ?_
                      refine RW.load (κ := .qui) (d := some 96) (r := [(4, .chn), (9, .chn), (10, .qui), (11, .seq), (12, .seq)]) (T := 3) (b := b3) (o' := 1) (k := 1) (v := .int .i64 Z.node) (by as_aux_lemma => kernel_rfl) (H.cells 1 rfl) rfl (by as_aux_lemma => kernel_rfl) ?_
                      refine RW.call (κ := .chn) (d := some 92) (r := [(9, .chn), (10, .qui), (11, .seq), (12, .seq)]) (g := 27) (args := #[.slice a0C C.voters.length k0C, .int .i64 Z.node]) (by as_aux_lemma => kernel_rfl) (nofun) (refwithout_spec (H.rp 0 rfl) Z.node (by omega)) ?_
                      rintro v192 w191 - H'
                      have H := H.back (M1 := []) (W1 := []) H'
                      obtain ⟨a193, c194, rfl, hc195, hm196⟩ := H.ownForm 0 rfl
                      have H : Hp w S [] [(b5, .cells #[.slice none 0 0, .slice none 0 0] 24 (0, 0)), (b3, .cells #[.int .i64 Z.kind, .int .i64 Z.node] 34 (0, 0)), (b1, .cells #[.slice a0C C.voters.length k0C, .slice a1C C.learners.length k1C] 24 (0, 0))] [⟨Shape.int .i64, 3, .slice a193 ((drp Z.node C.voters).length) c194, drp Z.node C.voters⟩] [Rp (Shape.slice (Shape.int .i64)) [.slice a0C C.voters.length k0C] C.voters, Rp (Shape.slice (Shape.int .i64)) [.slice a1C C.learners.length k1C] C.learners] _ := H
                      refine RW.call (κ := .chn) (d := some 97) (r := [(10, .qui), (11, .seq), (12, .seq)]) (g := 27) (args := #[.slice a1C C.learners.length k1C, .int .i64 Z.node]) (by as_aux_lemma => kernel_rfl) (nofun) (refwithout_spec (H.rp 1 rfl) Z.node (by omega)) ?_
                      rintro v198 w197 - H'
                      have H := H.back (M1 := []) (W1 := []) H'
                      obtain ⟨a199, c200, rfl, hc201, hm202⟩ := H.ownForm 0 rfl
                      have H : Hp w S [] [(b5, .cells #[.slice none 0 0, .slice none 0 0] 24 (0, 0)), (b3, .cells #[.int .i64 Z.kind, .int .i64 Z.node] 34 (0, 0)), (b1, .cells #[.slice a0C C.voters.length k0C, .slice a1C C.learners.length k1C] 24 (0, 0))] [⟨Shape.int .i64, 3, .slice a199 ((drp Z.node C.learners).length) c200, drp Z.node C.learners⟩, ⟨Shape.int .i64, 3, .slice a193 ((drp Z.node C.voters).length) c194, drp Z.node C.voters⟩] [Rp (Shape.slice (Shape.int .i64)) [.slice a0C C.voters.length k0C] C.voters, Rp (Shape.slice (Shape.int .i64)) [.slice a1C C.learners.length k1C] C.learners] _ := H
                      refine RW.runP 1 [4, 98] [(11, .seq), (12, .seq)] [(4, .pointer (some ⟨b5, 0, none⟩)), (98, .agg #[.slice a193 ((drp Z.node C.voters).length) c194, .slice a199 ((drp Z.node C.learners).length) c200])] (by as_aux_lemma => kernel_rfl) (by as_aux_lemma => kernel_rfl) ?_
                      refine RW.store (d := none) (r := [(12, .seq)]) (T := 24) (b := b5) (k := 0) (v := .agg #[.slice a193 ((drp Z.node C.voters).length) c194, .slice a199 ((drp Z.node C.learners).length) c200]) (c' := #[.slice a193 ((drp Z.node C.voters).length) c194, .slice a199 ((drp Z.node C.learners).length) c200]) (M' := [(b5, .cells #[.slice a193 ((drp Z.node C.voters).length) c194, .slice a199 ((drp Z.node C.learners).length) c200] 24 (0, 0)), (b3, .cells #[.int .i64 Z.kind, .int .i64 Z.node] 34 (0, 0)), (b1, .cells #[.slice a0C C.voters.length k0C, .slice a1C C.learners.length k1C] 24 (0, 0))]) (by as_aux_lemma => kernel_rfl) H 0 rfl (by as_aux_lemma => kernel_rfl) (by as_aux_lemma => kernel_rfl) ?_
                      intro w203 H
                      refine RW.fin 1 [4, 5] [(4, .pointer (some ⟨b5, 0, none⟩)), (5, .int .i64 0)] (by as_aux_lemma => kernel_rfl) ?_
                      refine WK.retBy (v := .tuple #[.agg #[.slice a193 ((drp Z.node C.voters).length) c194, .slice a199 ((drp Z.node C.learners).length) c200], .int .i64 0]) Try.func14 (by as_aux_lemma => kernel_rfl) (RV.res2 (x := .cell 4 24) (y := .tmp 5) (by as_aux_lemma => kernel_rfl) (RV.cell (k := 0) (by as_aux_lemma => kernel_rfl) (H.cells 0 rfl) rfl (by as_aux_lemma => kernel_rfl)) (RV.tmp (by as_aux_lemma => kernel_rfl))) ?_
                      have H : Hp w S [] [(b5, .cells #[.slice a193 ((drp Z.node C.voters).length) c194, .slice a199 ((drp Z.node C.learners).length) c200] 24 (0, 0)), (b3, .cells #[.int .i64 Z.kind, .int .i64 Z.node] 34 (0, 0)), (b1, .cells #[.slice a0C C.voters.length k0C, .slice a1C C.learners.length k1C] 24 (0, 0))] [⟨Shape.int .i64, 3, .slice a199 ((drp Z.node C.learners).length) c200, drp Z.node C.learners⟩] [Rp (Shape.slice (Shape.int .i64)) [.slice a193 ((drp Z.node C.voters).length) c194] (drp Z.node C.voters), Rp (Shape.slice (Shape.int .i64)) [.slice a0C C.voters.length k0C] C.voters, Rp (Shape.slice (Shape.int .i64)) [.slice a1C C.learners.length k1C] C.learners] _ := H.freezeW 1 rfl
                      have H : Hp w S [] [(b5, .cells #[.slice a193 ((drp Z.node C.voters).length) c194, .slice a199 ((drp Z.node C.learners).length) c200] 24 (0, 0)), (b3, .cells #[.int .i64 Z.kind, .int .i64 Z.node] 34 (0, 0)), (b1, .cells #[.slice a0C C.voters.length k0C, .slice a1C C.learners.length k1C] 24 (0, 0))] [] [Rp (Shape.slice (Shape.int .i64)) [.slice a199 ((drp Z.node C.learners).length) c200] (drp Z.node C.learners), Rp (Shape.slice (Shape.int .i64)) [.slice a193 ((drp Z.node C.voters).length) c194] (drp Z.node C.voters), Rp (Shape.slice (Shape.int .i64)) [.slice a0C C.voters.length k0C] C.voters, Rp (Shape.slice (Shape.int .i64)) [.slice a1C C.learners.length k1C] C.learners] _ := H.freezeW 0 rfl
                      refine ⟨_, rfl, H.done, [.slice a193 ((drp Z.node C.voters).length) c194, .slice a199 ((drp Z.node C.learners).length) c200], ⟨drp Z.node C.voters, drp Z.node C.learners⟩, 0, rfl, H.out (conf_mk (H.rp 1 rfl) (H.rp 0 rfl)), ?_⟩
                      clear H
                      symm
                      unfold stepOf stepOk
                      first | (simp [*]; done) | (simp [*]; omega)
                    · skip
                      replace h189 := of_decide_eq_false h189
                      refine WK.run 3 [4] [.code (cd Try.prog 14 [5, 0]), .code (cd Try.prog 14 [6])] [(4, .pointer (some ⟨b5, 0, none⟩))] (by as_aux_lemma => kernel_rfl) ?_
                      refine WK.reg1 (l := sq 0 3) (by as_aux_lemma => kernel_rfl) (by as_aux_lemma => kernel_rfl) ?_
                      refine RW.runP 1 [4, 99] (sq 1 3) [(4, .pointer (some ⟨b5, 0, none⟩)), (99, .agg #[.slice none 0 0, .slice none 0 0])] (by as_aux_lemma => kernel_rfl) (by as_aux_lemma => kernel_rfl) ?_
                      refine RW.store (d := none) (r := (sq 2 3)) (T := 24) (b := b5) (k := 0) (v := .agg #[.slice none 0 0, .slice none 0 0]) (c' := #[.slice none 0 0, .slice none 0 0]) (M' := [(b5, .cells #[.slice none 0 0, .slice none 0 0] 24 (0, 0)), (b3, .cells #[.int .i64 Z.kind, .int .i64 Z.node] 34 (0, 0)), (b1, .cells #[.slice a0C C.voters.length k0C, .slice a1C C.learners.length k1C] 24 (0, 0))]) (by as_aux_lemma => kernel_rfl) H 0 rfl (by as_aux_lemma => kernel_rfl) (by as_aux_lemma => kernel_rfl) ?_
                      intro w204 H
                      refine RW.fin 1 [4, 5] [(4, .pointer (some ⟨b5, 0, none⟩)), (5, .int .i64 120)] (by as_aux_lemma => kernel_rfl) ?_
                      refine WK.retBy (v := .tuple #[.agg #[.slice none 0 0, .slice none 0 0], .int .i64 120]) Try.func14 (by as_aux_lemma => kernel_rfl) (RV.res2 (x := .cell 4 24) (y := .tmp 5) (by as_aux_lemma => kernel_rfl) (RV.cell (k := 0) (by as_aux_lemma => kernel_rfl) (H.cells 0 rfl) rfl (by as_aux_lemma => kernel_rfl)) (RV.tmp (by as_aux_lemma => kernel_rfl))) ?_
                      refine ⟨_, rfl, H.done, [.slice none 0 0, .slice none 0 0], ⟨[], []⟩, 120, rfl, H.out (conf_mk Shape.slice_nil Shape.slice_nil), ?_⟩
                      clear H
                      symm
                      unfold stepOf stepOk
                      first | (simp [*]; done) | (simp [*]; omega)
                  · skip
                    replace h188 := of_decide_eq_false h188
                    refine RW.fin 8 [2, 3, 4, 72] [(2, .pointer (some ⟨b1, 0, none⟩)), (3, .pointer (some ⟨b3, 0, none⟩)), (4, .pointer (some ⟨b5, 0, none⟩)), (72, .bool false)] (by as_aux_lemma => kernel_rfl) ?_
                    refine WK.run 4 [4] [.code (cd Try.prog 14 [5, 0]), .code (cd Try.prog 14 [6])] [(4, .pointer (some ⟨b5, 0, none⟩))] (by as_aux_lemma => kernel_rfl) ?_
                    refine WK.reg1 (l := sq 0 3) (by as_aux_lemma => kernel_rfl) (by as_aux_lemma => kernel_rfl) ?_
                    refine RW.runP 1 [4, 99] (sq 1 3) [(4, .pointer (some ⟨b5, 0, none⟩)), (99, .agg #[.slice none 0 0, .slice none 0 0])] (by as_aux_lemma => kernel_rfl) (by as_aux_lemma => kernel_rfl) ?_
                    refine RW.store (d := none) (r := (sq 2 3)) (T := 24) (b := b5) (k := 0) (v := .agg #[.slice none 0 0, .slice none 0 0]) (c' := #[.slice none 0 0, .slice none 0 0]) (M' := [(b5, .cells #[.slice none 0 0, .slice none 0 0] 24 (0, 0)), (b3, .cells #[.int .i64 Z.kind, .int .i64 Z.node] 34 (0, 0)), (b1, .cells #[.slice a0C C.voters.length k0C, .slice a1C C.learners.length k1C] 24 (0, 0))]) (by as_aux_lemma => kernel_rfl) H 0 rfl (by as_aux_lemma => kernel_rfl) (by as_aux_lemma => kernel_rfl) ?_
                    intro w205 H
                    refine RW.fin 1 [4, 5] [(4, .pointer (some ⟨b5, 0, none⟩)), (5, .int .i64 120)] (by as_aux_lemma => kernel_rfl) ?_
                    refine WK.retBy (v := .tuple #[.agg #[.slice none 0 0, .slice none 0 0], .int .i64 120]) Try.func14 (by as_aux_lemma => kernel_rfl) (RV.res2 (x := .cell 4 24) (y := .tmp 5) (by as_aux_lemma => kernel_rfl) (RV.cell (k := 0) (by as_aux_lemma => kernel_rfl) (H.cells 0 rfl) rfl (by as_aux_lemma => kernel_rfl)) (RV.tmp (by as_aux_lemma => kernel_rfl))) ?_
                    refine ⟨_, rfl, H.done, [.slice none 0 0, .slice none 0 0], ⟨[], []⟩, 120, rfl, H.out (conf_mk Shape.slice_nil Shape.slice_nil), ?_⟩
                    clear H
                    symm
                    unfold stepOf stepOk
                    first | (simp [*]; done) | (simp [*]; omega)
              · skip
                replace h172 := ne_of_beq_false h172
                refine RW.fin 12 [2, 3, 4, 72] [(2, .pointer (some ⟨b1, 0, none⟩)), (3, .pointer (some ⟨b3, 0, none⟩)), (4, .pointer (some ⟨b5, 0, none⟩)), (72, .bool false)] (by as_aux_lemma => kernel_rfl) ?_
                refine WK.run 4 [4] [.code (cd Try.prog 14 [5, 0]), .code (cd Try.prog 14 [6])] [(4, .pointer (some ⟨b5, 0, none⟩))] (by as_aux_lemma => kernel_rfl) ?_
                refine WK.reg1 (l := sq 0 3) (by as_aux_lemma => kernel_rfl) (by as_aux_lemma => kernel_rfl) ?_
                refine RW.runP 1 [4, 99] (sq 1 3) [(4, .pointer (some ⟨b5, 0, none⟩)), (99, .agg #[.slice none 0 0, .slice none 0 0])] (by as_aux_lemma => kernel_rfl) (by as_aux_lemma => kernel_rfl) ?_
                refine RW.store (d := none) (r := (sq 2 3)) (T := 24) (b := b5) (k := 0) (v := .agg #[.slice none 0 0, .slice none 0 0]) (c' := #[.slice none 0 0, .slice none 0 0]) (M' := [(b5, .cells #[.slice none 0 0, .slice none 0 0] 24 (0, 0)), (b3, .cells #[.int .i64 Z.kind, .int .i64 Z.node] 34 (0, 0)), (b1, .cells #[.slice a0C C.voters.length k0C, .slice a1C C.learners.length k1C] 24 (0, 0))]) (by as_aux_lemma => kernel_rfl) H 0 rfl (by as_aux_lemma => kernel_rfl) (by as_aux_lemma => kernel_rfl) ?_
                intro w206 H
                refine RW.fin 1 [4, 5] [(4, .pointer (some ⟨b5, 0, none⟩)), (5, .int .i64 120)] (by as_aux_lemma => kernel_rfl) ?_
                refine WK.retBy (v := .tuple #[.agg #[.slice none 0 0, .slice none 0 0], .int .i64 120]) Try.func14 (by as_aux_lemma => kernel_rfl) (RV.res2 (x := .cell 4 24) (y := .tmp 5) (by as_aux_lemma => kernel_rfl) (RV.cell (k := 0) (by as_aux_lemma => kernel_rfl) (H.cells 0 rfl) rfl (by as_aux_lemma => kernel_rfl)) (RV.tmp (by as_aux_lemma => kernel_rfl))) ?_
                refine ⟨_, rfl, H.done, [.slice none 0 0, .slice none 0 0], ⟨[], []⟩, 120, rfl, H.out (conf_mk Shape.slice_nil Shape.slice_nil), ?_⟩
                clear H
                symm
                unfold stepOf stepOk
                first | (simp [*]; done) | (simp [*]; omega)
        · skip
          replace h19 := ne_of_beq_false h19
          refine RW.fin 8 [2, 3, 4, 6, 7, 32] [(2, .pointer (some ⟨b1, 0, none⟩)), (3, .pointer (some ⟨b3, 0, none⟩)), (4, .pointer (some ⟨b5, 0, none⟩)), (6, .bool (decide (Z.node ∈ C.voters))), (7, .bool (decide (Z.node ∈ C.learners))), (32, .bool false)] (by as_aux_lemma => kernel_rfl) ?_
          refine WK.run 2 [2, 3, 4, 6, 7] [.code (cd Try.prog 14 [4, 0, 0, 1, 1, 0]), .code (cd Try.prog 14 [4, 0, 0, 1, 1, 1]), .inBlock 0, .code (cd Try.prog 14 [5])] [(2, .pointer (some ⟨b1, 0, none⟩)), (3, .pointer (some ⟨b3, 0, none⟩)), (4, .pointer (some ⟨b5, 0, none⟩)), (6, .bool (decide (Z.node ∈ C.voters))), (7, .bool (decide (Z.node ∈ C.learners)))] (by as_aux_lemma => kernel_rfl) ?_
          refine WK.reg1 (l := sq 0 7) (by as_aux_lemma => kernel_rfl) (by as_aux_lemma => kernel_rfl) ?_
          refine RW.runP 1 [2, 3, 4, 6, 7, 55] (sq 1 7) [(2, .pointer (some ⟨b1, 0, none⟩)), (3, .pointer (some ⟨b3, 0, none⟩)), (4, .pointer (some ⟨b5, 0, none⟩)), (6, .bool (decide (Z.node ∈ C.voters))), (7, .bool (decide (Z.node ∈ C.learners))), (55, .pointer (some ⟨b3, 0, none⟩))] (by as_aux_lemma => kernel_rfl) (by as_aux_lemma => kernel_rfl) ?_
          refine RW.load (κ := .seq) (d := some 56) (r := (sq 2 7)) (T := 32) (b := b3) (o' := 0) (k := 0) (v := .int .i64 Z.kind) (by as_aux_lemma => kernel_rfl) (H.cells 1 rfl) rfl (by as_aux_lemma => kernel_rfl) ?_
          refine RW.runP 2 [2, 3, 4, 6, 7, 58] (sq 4 7) [(2, .pointer (some ⟨b1, 0, none⟩)), (3, .pointer (some ⟨b3, 0, none⟩)), (4, .pointer (some ⟨b5, 0, none⟩)), (6, .bool (decide (Z.node ∈ C.voters))), (7, .bool (decide (Z.node ∈ C.learners))), (58, .bool (Z.kind == 2))] (by as_aux_lemma => kernel_rfl) (by as_aux_lemma => kernel_rfl) ?_
          refine RW.test (fun b_ => [(2, .pointer (some ⟨b1, 0, none⟩)), (3, .pointer (some ⟨b3, 0, none⟩)), (4, .pointer (some ⟨b5, 0, none⟩)), (6, .bool (decide (Z.node ∈ C.voters))), (7, .bool (decide (Z.node ∈ C.learners))), (58, .bool b_)]) (Z.kind == 2) (fun h207 => ?_) (fun h207 => ?_)
          · skip
            replace h207 := eq_of_beq h207
            refine RW.fin 3 [2, 3, 4, 6, 7, 54] [(2, .pointer (some ⟨b1, 0, none⟩)), (3, .pointer (some ⟨b3, 0, none⟩)), (4, .pointer (some ⟨b5, 0, none⟩)), (6, .bool (decide (Z.node ∈ C.voters))), (7, .bool (decide (Z.node ∈ C.learners))), (54, .bool (decide (Z.node ∈ C.learners)))] (by as_aux_lemma => kernel_rfl) ?_
            refine WK.cond1 (decide (Z.node ∈ C.learners)) (by as_aux_lemma => kernel_rfl) (by as_aux_lemma => kernel_rfl) (fun h208 => ?_) (fun h208 => ?_)
            · skip
              replace h208 := of_decide_eq_true h208
              refine WK.run 1 [2, 3, 4] [.code (cd Try.prog 14 [4, 0, 0, 1, 1, 1, 0, 0]), .code (cd Try.prog 14 [4, 0, 0, 1, 1, 1, 0, 1]), .inBlock 0, .code (cd Try.prog 14 [5])] [(2, .pointer (some ⟨b1, 0, none⟩)), (3, .pointer (some ⟨b3, 0, none⟩)), (4, .pointer (some ⟨b5, 0, none⟩))] (by as_aux_lemma => kernel_rfl) ?_
              refine WK.draw1 11 [(0, .qui), (1, .qui), (2, .qui), (3, .qui), (5, .qui), (6, .qui), (7, .qui), (8, .qui), (4, .chn), (9, .chn), (10, .qui)] [(0, .qui), (1, .qui), (2, .qui), (3, .qui), (5, .qui), (6, .qui), (7, .qui), (8, .qui), (4, .chn), (9, .chn), (10, .qui), (11, .seq), (12, .seq)] Try_mixed (by as_aux_lemma => kernel_rfl) (by as_aux_lemma => kernel_rfl) (by as_aux_lemma => kernel_rfl) ?_
              have H := H.draw
              generalize ({ w17 with drawn := w17.drawn + 1 } : World) = w209 at H ⊢
              refine RW.runP 1 [2, 3, 4, 61] [(1, .qui), (2, .qui), (3, .qui), (5, .qui), (6, .qui), (7, .qui), (8, .qui), (4, .chn), (9, .chn), (10, .qui), (11, .seq), (12, .seq)] [(2, .pointer (some ⟨b1, 0, none⟩)), (3, .pointer (some ⟨b3, 0, none⟩)), (4, .pointer (some ⟨b5, 0, none⟩)), (61, .pointer (some ⟨b1, 0, none⟩))] (by as_aux_lemma => kernel_rfl) (by as_aux_lemma => kernel_rfl) ?_
              refine RW.load (κ := .qui) (d := some 62) (r := [(2, .qui), (3, .qui), (5, .qui), (6, .qui), (7, .qui), (8, .qui), (4, .chn), (9, .chn), (10, .qui), (11, .seq), (12, .seq)]) (T := 22) (b := b1) (o' := 0) (k := 0) (v := .slice a0C C.voters.length k0C) (by as_aux_lemma => kernel_rfl) (H.cells 2 rfl) rfl (by as_aux_lemma => kernel_rfl) ?_
              refine RW.runP 1 [2, 3, 4, 62, 63] [(3, .qui), (5, .qui), (6, .qui), (7, .qui), (8, .qui), (4, .chn), (9, .chn), (10, .qui), (11, .seq), (12, .seq)] [(2, .pointer (some ⟨b1, 0, none⟩)), (3, .pointer (some ⟨b3, 0, none⟩)), (4, .pointer (some ⟨b5, 0, none⟩)), (62, .slice a0C C.voters.length k0C), (63, .pointer (some ⟨b3, 1, none⟩))] (by as_aux_lemma => kernel_rfl) (by as_aux_lemma => kernel_rfl) ?_
              refine RW.load (κ := .qui) (d := some 64) (r := [(5, .qui), (6, .qui), (7, .qui), (8, .qui), (4, .chn), (9, .chn), (10, .qui), (11, .seq), (12, .seq)]) (T := 3) (b := b3) (o' := 1) (k := 1) (v := .int .i64 Z.node) (by as_aux_lemma => kernel_rfl) (H.cells 1 rfl) rfl (by as_aux_lemma => kernel_rfl) ?_
              refine RW.runP 1 [3, 4, 62, 64, 66] [(6, .qui), (7, .qui), (8, .qui), (4, .chn), (9, .chn), (10, .qui), (11, .seq), (12, .seq)] [(3, .pointer (some ⟨b3, 0, none⟩)), (4, .pointer (some ⟨b5, 0, none⟩)), (62, .slice a0C C.voters.length k0C), (64, .int .i64 Z.node), (66, .pointer (some ⟨b1, 1, none⟩))] (by as_aux_lemma => kernel_rfl) (by as_aux_lemma => kernel_rfl) ?_
              refine RW.load (κ := .qui) (d := some 67) (r := [(7, .qui), (8, .qui), (4, .chn), (9, .chn), (10, .qui), (11, .seq), (12, .seq)]) (T := 22) (b := b1) (o' := 1) (k := 1) (v := .slice a1C C.learners.length k1C) (by as_aux_lemma => kernel_rfl) (H.cells 2 rfl) rfl (by as_aux_lemma => kernel_rfl) ?_
              refine RW.runP 1 [4, 62, 64, 67, 68] [(8, .qui), (4, .chn), (9, .chn), (10, .qui), (11, .seq), (12, .seq)] [(4, .pointer (some ⟨b5, 0, none⟩)), (62, .slice a0C C.voters.length k0C), (64, .int .i64 Z.node), (67, .slice a1C C.learners.length k1C), (68, .pointer (some ⟨b3, 1, none⟩))] (by as_aux_lemma => kernel_rfl) (by as_aux_lemma => kernel_rfl) ?_
              refine RW.load (κ := .qui) (d := some 69) (r := [(4, .chn), (9, .chn), (10, .qui), (11, .seq), (12, .seq)]) (T := 3) (b := b3) (o' := 1) (k := 1) (v := .int .i64 Z.node) (by as_aux_lemma => kernel_rfl) (H.cells 1 rfl) rfl (by as_aux_lemma => kernel_rfl) ?_
              refine RW.call (κ := .chn) (d := some 65) (r := [(9, .chn), (10, .qui), (11, .seq), (12, .seq)]) (g := 26) (args := #[.slice a0C C.voters.length k0C, .int .i64 Z.node]) (by as_aux_lemma => kernel_rfl) (nofun) (refwith_spec (H.rp 0 rfl) Z.node (by omega) (by first | assumption | exact fun hq => hdis9 _ hq (by assumption)) (by omega)) ?_
              rintro v211 w210 - H'
              have H := H.back (M1 := []) (W1 := []) H'
              obtain ⟨a212, c213, rfl, hc214, hm215⟩ := H.ownForm 0 rfl
              have H : Hp w S [] [(b5, .cells #[.slice none 0 0, .slice none 0 0] 24 (0, 0)), (b3, .cells #[.int .i64 Z.kind, .int .i64 Z.node] 34 (0, 0)), (b1, .cells #[.slice a0C C.voters.length k0C, .slice a1C C.learners.length k1C] 24 (0, 0))] [⟨Shape.int .i64, 3, .slice a212 ((ins Z.node C.voters).length) c213, ins Z.node C.voters⟩] [Rp (Shape.slice (Shape.int .i64)) [.slice a0C C.voters.length k0C] C.voters, Rp (Shape.slice (Shape.int .i64)) [.slice a1C C.learners.length k1C] C.learners] _ := H
              refine RW.call (κ := .chn) (d := some 70) (r := [(10, .qui), (11, .seq), (12, .seq)]) (g := 27) (args := #[.slice a1C C.learners.length k1C, .int .i64 Z.node]) (by as_aux_lemma => kernel_rfl) (nofun) (refwithout_spec (H.rp 1 rfl) Z.node (by omega)) ?_
              rintro v217 w216 - H'
              have H := H.back (M1 := []) (W1 := []) H'
              obtain ⟨a218, c219, rfl, hc220, hm221⟩ := H.ownForm 0 rfl
              have H : Hp w S [] [(b5, .cells #[.slice none 0 0, .slice none 0 0] 24 (0, 0)), (b3, .cells #[.int .i64 Z.kind, .int .i64 Z.node] 34 (0, 0)), (b1, .cells #[.slice a0C C.voters.length k0C, .slice a1C C.learners.length k1C] 24 (0, 0))] [⟨Shape.int .i64, 3, .slice a218 ((drp Z.node C.learners).length) c219, drp Z.node C.learners⟩, ⟨Shape.int .i64, 3, .slice a212 ((ins Z.node C.voters).length) c213, ins Z.node C.voters⟩] [Rp (Shape.slice (Shape.int .i64)) [.slice a0C C.voters.length k0C] C.voters, Rp (Shape.slice (Shape.int .i64)) [.slice a1C C.learners.length k1C] C.learners] _ := H
              refine RW.runP 1 [4, 71] [(11, .seq), (12, .seq)] [(4, .pointer (some ⟨b5, 0, none⟩)), (71, .agg #[.slice a212 ((ins Z.node C.voters).length) c213, .slice a218 ((drp Z.node C.learners).length) c219])] (by as_aux_lemma => kernel_rfl) (by as_aux_lemma => kernel_rfl) ?_
              refine RW.store (d := none) (r := [(12, .seq)]) (T := 24) (b := b5) (k := 0) (v := .agg #[.slice a212 ((ins Z.node C.voters).length) c213, .slice a218 ((drp Z.node C.learners).length) c219]) (c' := #[.slice a212 ((ins Z.node C.voters).length) c213, .slice a218 ((drp Z.node C.learners).length) c219]) (M' := [(b5, .cells #[.slice a212 ((ins Z.node C.voters).length) c213, .slice a218 ((drp Z.node C.learners).length) c219] 24 (0, 0)), (b3, .cells #[.int .i64 Z.kind, .int .i64 Z.node] 34 (0, 0)), (b1, .cells #[.slice a0C C.voters.length k0C, .slice a1C C.learners.length k1C] 24 (0, 0))]) (by as_aux_lemma => kernel_rfl) H 0 rfl (by as_aux_lemma => kernel_rfl) (by as_aux_lemma => kernel_rfl) ?_
              intro w222 H
              refine RW.fin 1 [4, 5] [(4, .pointer (some ⟨b5, 0, none⟩)), (5, .int .i64 0)] (by as_aux_lemma => kernel_rfl) ?_
              refine WK.retBy (v := .tuple #[.agg #[.slice a212 ((ins Z.node C.voters).length) c213, .slice a218 ((drp Z.node C.learners).length) c219], .int .i64 0]) Try.func14 (by as_aux_lemma => kernel_rfl) (RV.res2 (x := .cell 4 24) (y := .tmp 5) (by as_aux_lemma => kernel_rfl) (RV.cell (k := 0) (by as_aux_lemma => kernel_rfl) (H.cells 0 rfl) rfl (by as_aux_lemma => kernel_rfl)) (RV.tmp (by as_aux_lemma => kernel_rfl))) ?_
              have H : Hp w S [] [(b5, .cells #[.slice a212 ((ins Z.node C.voters).length) c213, .slice a218 ((drp Z.node C.learners).length) c219] 24 (0, 0)), (b3, .cells #[.int .i64 Z.kind, .int .i64 Z.node] 34 (0, 0)), (b1, .cells #[.slice a0C C.voters.length k0C, .slice a1C C.learners.length k1C] 24 (0, 0))] [⟨Shape.int .i64, 3, .slice a218 ((drp Z.node C.learners).length) c219, drp Z.node C.learners⟩] [Rp (Shape.slice (Shape.int .i64)) [.slice a212 ((ins Z.node C.voters).length) c213] (ins Z.node C.voters), Rp (Shape.slice (Shape.int .i64)) [.slice a0C C.voters.length k0C] C.voters, Rp (Shape.slice (Shape.int .i64)) [.slice a1C C.learners.length k1C] C.learners] _ := H.freezeW 1 rfl
              have H : Hp w S [] [(b5, .cells #[.slice a212 ((ins Z.node C.voters).length) c213, .slice a218 ((drp Z.node C.learners).length) c219] 24 (0, 0)), (b3, .cells #[.int .i64 Z.kind, .int .i64 Z.node] 34 (0, 0)), (b1, .cells #[.slice a0C C.voters.length k0C, .slice a1C C.learners.length k1C] 24 (0, 0))] [] [Rp (Shape.slice (Shape.int .i64)) [.slice a218 ((drp Z.node C.learners).length) c219] (drp Z.node C.learners), Rp (Shape.slice (Shape.int .i64)) [.slice a212 ((ins Z.node C.voters).length) c213] (ins Z.node C.voters), Rp (Shape.slice (Shape.int .i64)) [.slice a0C C.voters.length k0C] C.voters, Rp (Shape.slice (Shape.int .i64)) [.slice a1C C.learners.length k1C] C.learners] _ := H.freezeW 0 rfl
              refine ⟨_, rfl, H.done, [.slice a212 ((ins Z.node C.voters).length) c213, .slice a218 ((drp Z.node C.learners).length) c219], ⟨ins Z.node C.voters, drp Z.node C.learners⟩, 0, rfl, H.out (conf_mk (H.rp 1 rfl) (H.rp 0 rfl)), ?_⟩
              clear H
              symm
              unfold stepOf stepOk
              first | (simp [*]; done) | (simp [*]; omega)
            · skip
              replace h208 := of_decide_eq_false h208
              refine WK.run 1 [2, 3, 4, 6, 7] [.code (cd Try.prog 14 [4, 0, 0, 1, 1, 1, 1, 0]), .code (cd Try.prog 14 [4, 0, 0, 1, 1, 1, 1, 1]), .inBlock 0, .code (cd Try.prog 14 [5])] [(2, .pointer (some ⟨b1, 0, none⟩)), (3, .pointer (some ⟨b3, 0, none⟩)), (4, .pointer (some ⟨b5, 0, none⟩)), (6, .bool (decide (Z.node ∈ C.voters))), (7, .bool (decide (Z.node ∈ C.learners)))] (by as_aux_lemma => kernel_rfl) ?_
              refine WK.reg1 (l := sq 0 16) (by as_aux_lemma => kernel_rfl) (by as_aux_lemma => kernel_rfl) ?_
              refine RW.runP 1 [2, 3, 4, 6, 7, 73] (sq 1 16) [(2, .pointer (some ⟨b1, 0, none⟩)), (3, .pointer (some ⟨b3, 0, none⟩)), (4, .pointer (some ⟨b5, 0, none⟩)), (6, .bool (decide (Z.node ∈ C.voters))), (7, .bool (decide (Z.node ∈ C.learners))), (73, .pointer (some ⟨b3, 0, none⟩))] (by as_aux_lemma => kernel_rfl) (by as_aux_lemma => kernel_rfl) ?_
              refine RW.load (κ := .seq) (d := some 74) (r := (sq 2 16)) (T := 32) (b := b3) (o' := 0) (k := 0) (v := .int .i64 Z.kind) (by as_aux_lemma => kernel_rfl) (H.cells 1 rfl) rfl (by as_aux_lemma => kernel_rfl) ?_
              refine RW.runP 2 [2, 3, 4, 6, 7, 76] (sq 4 16) [(2, .pointer (some ⟨b1, 0, none⟩)), (3, .pointer (some ⟨b3, 0, none⟩)), (4, .pointer (some ⟨b5, 0, none⟩)), (6, .bool (decide (Z.node ∈ C.voters))), (7, .bool (decide (Z.node ∈ C.learners))), (76, .bool (Z.kind == 3))] (by as_aux_lemma => kernel_rfl) (by as_aux_lemma => kernel_rfl) ?_
              refine RW.test (fun b_ => [(2, .pointer (some ⟨b1, 0, none⟩)), (3, .pointer (some ⟨b3, 0, none⟩)), (4, .pointer (some ⟨b5, 0, none⟩)), (6, .bool (decide (Z.node ∈ C.voters))), (7, .bool (decide (Z.node ∈ C.learners))), (76, .bool b_)]) (Z.kind == 3) (fun h223 => ?_) (fun h223 => ?_)
              · skip
                replace h223 := eq_of_beq h223
                refine RW.runP 2 [2, 3, 4, 6, 76, 78] (sq 6 16) [(2, .pointer (some ⟨b1, 0, none⟩)), (3, .pointer (some ⟨b3, 0, none⟩)), (4, .pointer (some ⟨b5, 0, none⟩)), (6, .bool (decide (Z.node ∈ C.voters))), (76, .bool true), (78, .bool (decide (Z.node ∈ C.learners)))] (by as_aux_lemma => kernel_rfl) (by as_aux_lemma => kernel_rfl) ?_
                refine RW.test (fun b_ => [(2, .pointer (some ⟨b1, 0, none⟩)), (3, .pointer (some ⟨b3, 0, none⟩)), (4, .pointer (some ⟨b5, 0, none⟩)), (6, .bool (decide (Z.node ∈ C.voters))), (76, .bool true), (78, .bool b_)]) (decide (Z.node ∈ C.learners)) (fun h224 => ?_) (fun h224 => ?_)
                · skip
                  replace h224 := of_decide_eq_true h224
                  refine RW.fin 10 [2, 3, 4, 72] [(2, .pointer (some ⟨b1, 0, none⟩)), (3, .pointer (some ⟨b3, 0, none⟩)), (4, .pointer (some ⟨b5, 0, none⟩)), (72, .bool true)] (by as_aux_lemma => kernel_rfl) ?_
                  refine WK.run 2 [2, 3, 4] [.code (cd Try.prog 14 [4, 0, 0, 1, 1, 1, 1, 1, 0, 0]), .code (cd Try.prog 14 [4, 0, 0, 1, 1, 1, 1, 1, 0, 1]), .inBlock 0, .code (cd Try.prog 14 [5])] [(2, .pointer (some ⟨b1, 0, none⟩)), (3, .pointer (some ⟨b3, 0, none⟩)), (4, .pointer (some ⟨b5, 0, none⟩))] (by as_aux_lemma => kernel_rfl) ?_
                  refine WK.draw1 11 [(0, .qui), (1, .qui), (2, .qui), (3, .qui), (5, .qui), (6, .qui), (7, .qui), (8, .qui), (4, .chn), (9, .chn), (10, .qui)] [(0, .qui), (1, .qui), (2, .qui), (3, .qui), (5, .qui), (6, .qui), (7, .qui), (8, .qui), (4, .chn), (9, .chn), (10, .qui), (11, .seq), (12, .seq)] Try_mixed (by as_aux_lemma => kernel_rfl) (by as_aux_lemma => kernel_rfl) (by as_aux_lemma => kernel_rfl) ?_
                  have H := H.draw
                  generalize ({ w17 with drawn := w17.drawn + 1 } : World) = w225 at H ⊢
                  refine RW.runP 1 [2, 3, 4, 88] [(1, .qui), (2, .qui), (3, .qui), (5, .qui), (6, .qui), (7, .qui), (8, .qui), (4, .chn), (9, .chn), (10, .qui), (11, .seq), (12, .seq)] [(2, .pointer (some ⟨b1, 0, none⟩)), (3, .pointer (some ⟨b3, 0, none⟩)), (4, .pointer (some ⟨b5, 0, none⟩)), (88, .pointer (some ⟨b1, 0, none⟩))] (by as_aux_lemma => kernel_rfl) (by as_aux_lemma => kernel_rfl) ?_
                  refine RW.load (κ := .qui) (d := some 89) (r := [(2, .qui), (3, .qui), (5, .qui), (6, .qui), (7, .qui), (8, .qui), (4, .chn), (9, .chn), (10, .qui), (11, .seq), (12, .seq)]) (T := 22) (b := b1) (o' := 0) (k := 0) (v := .slice a0C C.voters.length k0C) (by as_aux_lemma => kernel_rfl) (H.cells 2 rfl) rfl (by as_aux_lemma => kernel_rfl) ?_
                  refine RW.runP 1 [2, 3, 4, 89, 90] [(3, .qui), (5, .qui), (6, .qui), (7, .qui), (8, .qui), (4, .chn), (9, .chn), (10, .qui), (11, .seq), (12, .seq)] [(2, .pointer (some ⟨b1, 0, none⟩)), (3, .pointer (some ⟨b3, 0, none⟩)), (4, .pointer (some ⟨b5, 0, none⟩)), (89, .slice a0C C.voters.length k0C), (90, .pointer (some ⟨b3, 1, none⟩))] (by as_aux_lemma => kernel_rfl) (by as_aux_lemma => kernel_rfl) ?_
                  refine RW.load (κ := .qui) (d := some 91) (r := [(5, .qui), (6, .qui), (7, .qui), (8, .qui), (4, .chn), (9, .chn), (10, .qui), (11, .seq), (12, .seq)]) (T := 3) (b := b3) (o' := 1) (k := 1) (v := .int .i64 Z.node) (by as_aux_lemma => kernel_rfl) (H.cells 1 rfl) rfl (by as_aux_lemma => kernel_rfl) ?_
                  refine RW.runP 1 [3, 4, 89, 91, 93] [(6, .qui), (7, .qui), (8, .qui), (4, .chn), (9, .chn), (10, .qui), (11, .seq), (12, .seq)] [(3, .pointer (some ⟨b3, 0, none⟩)), (4, .pointer (some ⟨b5, 0, none⟩)), (89, .slice a0C C.voters.length k0C), (91, .int .i64 Z.node), (93, .pointer (some ⟨b1, 1, none⟩))] (by as_aux_lemma => kernel_rfl) (by as_aux_lemma => kernel_rfl) ?_
                  refine RW.load (κ := .qui) (d := some 94) (r := [(7, .qui), (8, .qui), (4, .chn), (9, .chn), (10, .qui), (11, .seq), (12, .seq)]) (T := 22) (b := b1) (o' := 1) (k := 1) (v := .slice a1C C.learners.length k1C) (by as_aux_lemma => kernel_rfl) (H.cells 2 rfl) rfl (by as_aux_lemma => kernel_rfl) ?_
                  refine RW.runP 1 [4, 89, 91, 94, 95] [(8, .qui), (4, .chn), (9, .chn), (10, .qui), (11, .seq), (12, .seq)] [(4, .pointer (some ⟨b5, 0, none⟩)), (89, .slice a0C C.voters.length k0C), (91, .int .i64 Z.node), (94, .slice a1C C.learners.length k1C), (95, .pointer (some ⟨b3, 1, none⟩))] (by as_aux_lemma => kernel_rfl) (by as_aux_lemma => kernel_rfl) ?_
                  refine RW.load (κ := .qui) (d := some 96) (r := [(4, .chn), (9, .chn), (10, .qui), (11, .seq), (12, .seq)]) (T := 3) (b := b3) (o' := 1) (k := 1) (v := .int .i64 Z.node) (by as_aux_lemma => kernel_rfl) (H.cells 1 rfl) rfl (by as_aux_lemma => kernel_rfl) ?_
                  refine RW.call (κ := .chn) (d := some 92) (r := [(9, .chn), (10, .qui), (11, .seq), (12, .seq)]) (g := 27) (args := #[.slice a0C C.voters.length k0C, .int .i64 Z.node]) (by as_aux_lemma => kernel_rfl) (nofun) (refwithout_spec (H.rp 0 rfl) Z.node (by omega)) ?_
                  rintro v227 w226 - H'
                  have H := H.back (M1 := []) (W1 := []) H'
                  obtain ⟨a228, c229, rfl, hc230, hm231⟩ := H.ownForm 0 rfl
                  have H : Hp w S [] [(b5, .cells #[.slice none 0 0, .slice none 0 0] 24 (0, 0)), (b3, .cells #[.int .i64 Z.kind, .int .i64 Z.node] 34 (0, 0)), (b1, .cells #[.slice a0C C.voters.length k0C, .slice a1C C.learners.length k1C] 24 (0, 0))] [⟨Shape.int .i64, 3, .slice a228 ((drp Z.node C.voters).length) c229, drp Z.node C.voters⟩] [Rp (Shape.slice (Shape.int .i64)) [.slice a0C C.voters.length k0C] C.voters, Rp (Shape.slice (Shape.int .i64)) [.slice a1C C.learners.length k1C] C.learners] _ := H
                  refine RW.call (κ := .chn) (d := some 97) (r := [(10, .qui), (11, .seq), (12, .seq)]) (g := 27) (args := #[.slice a1C C.learners.length k1C, .int .i64 Z.node]) (by as_aux_lemma => kernel_rfl) (nofun) (refwithout_spec (H.rp 1 rfl) Z.node (by omega)) ?_
                  rintro v233 w232 - H'
                  have H := H.back (M1 := []) (W1 := []) H'
                  obtain ⟨a234, c235, rfl, hc236, hm237⟩ := H.ownForm 0 rfl
                  have H : Hp w S [] [(b5, .cells #[.slice none 0 0, .slice none 0 0] 24 (0, 0)), (b3, .cells #[.int .i64 Z.kind, .int .i64 Z.node] 34 (0, 0)), (b1, .cells #[.slice a0C C.voters.length k0C, .slice a1C C.learners.length k1C] 24 (0, 0))] [⟨Shape.int .i64, 3, .slice a234 ((drp Z.node C.learners).length) c235, drp Z.node C.learners⟩, ⟨Shape.int .i64, 3, .slice a228 ((drp Z.node C.voters).length) c229, drp Z.node C.voters⟩] [Rp (Shape.slice (Shape.int .i64)) [.slice a0C C.voters.length k0C] C.voters, Rp (Shape.slice (Shape.int .i64)) [.slice a1C C.learners.length k1C] C.learners] _ := H
                  refine RW.runP 1 [4, 98] [(11, .seq), (12, .seq)] [(4, .pointer (some ⟨b5, 0, none⟩)), (98, .agg #[.slice a228 ((drp Z.node C.voters).length) c229, .slice a234 ((drp Z.node C.learners).length) c235])] (by as_aux_lemma => kernel_rfl) (by as_aux_lemma => kernel_rfl) ?_
                  refine RW.store (d := none) (r := [(12, .seq)]) (T := 24) (b := b5) (k := 0) (v := .agg #[.slice a228 ((drp Z.node C.voters).length) c229, .slice a234 ((drp Z.node C.learners).length) c235]) (c' := #[.slice a228 ((drp Z.node C.voters).length) c229, .slice a234 ((drp Z.node C.learners).length) c235]) (M' := [(b5, .cells #[.slice a228 ((drp Z.node C.voters).length) c229, .slice a234 ((drp Z.node C.learners).length) c235] 24 (0, 0)), (b3, .cells #[.int .i64 Z.kind, .int .i64 Z.node] 34 (0, 0)), (b1, .cells #[.slice a0C C.voters.length k0C, .slice a1C C.learners.length k1C] 24 (0, 0))]) (by as_aux_lemma => kernel_rfl) H 0 rfl (by as_aux_lemma => kernel_rfl) (by as_aux_lemma => kernel_rfl) ?_
                  intro w238 H
                  refine RW.fin 1 [4, 5] [(4, .pointer (some ⟨b5, 0, none⟩)), (5, .int .i64 0)] (by as_aux_lemma => kernel_rfl) ?_
                  refine WK.retBy (v := .tuple #[.agg #[.slice a228 ((drp Z.node C.voters).length) c229, .slice a234 ((drp Z.node C.learners).length) c235], .int .i64 0]) Try.func14 (by as_aux_lemma => kernel_rfl) (RV.res2 (x := .cell 4 24) (y := .tmp 5) (by as_aux_lemma => kernel_rfl) (RV.cell (k := 0) (by as_aux_lemma => kernel_rfl) (H.cells 0 rfl) rfl (by as_aux_lemma => kernel_rfl)) (RV.tmp (by as_aux_lemma => kernel_rfl))) ?_
                  have H : Hp w S [] [(b5, .cells #[.slice a228 ((drp Z.node C.voters).length) c229, .slice a234 ((drp Z.node C.learners).length) c235] 24 (0, 0)), (b3, .cells #[.int .i64 Z.kind, .int .i64 Z.node] 34 (0, 0)), (b1, .cells #[.slice a0C C.voters.length k0C, .slice a1C C.learners.length k1C] 24 (0, 0))] [⟨Shape.int .i64, 3, .slice a234 ((drp Z.node C.learners).length) c235, drp Z.node C.learners⟩] [Rp (Shape.slice (Shape.int .i64)) [.slice a228 ((drp Z.node C.voters).length) c229] (drp Z.node C.voters), Rp (Shape.slice (Shape.int .i64)) [.slice a0C C.voters.length k0C] C.voters, Rp (Shape.slice (Shape.int .i64)) [.slice a1C C.learners.length k1C] C.learners] _ := H.freezeW 1 rfl
                  have H : Hp w S [] [(b5, .cells #[.slice a228 ((drp Z.node C.voters).length) c229, .slice a234 ((drp Z.node C.learners).length) c235] 24 (0, 0)), (b3, .cells #[.int .i64 Z.kind, .int .i64 Z.node] 34 (0, 0)), (b1, .cells #[.slice a0C C.voters.length k0C, .slice a1C C.learners.length k1C] 24 (0, 0))] [] [Rp (Shape.slice (Shape.int .i64)) [.slice a234 ((drp Z.node C.learners).length) c235] (drp Z.node C.learners), Rp (Shape.slice (Shape.int .i64)) [.slice a228 ((drp Z.node C.voters).length) c229] (drp Z.node C.voters), Rp (Shape.slice (Shape.int .i64)) [.slice a0C C.voters.length k0C] C.voters, Rp (Shape.slice (Shape.int .i64)) [.slice a1C C.learners.length k1C] C.learners] _ := H.freezeW 0 rfl
                  refine ⟨_, rfl, H.done, [.slice a228 ((drp Z.node C.voters).length) c229, .slice a234 ((drp Z.node C.learners).length) c235], ⟨drp Z.node C.voters, drp Z.node C.learners⟩, 0, rfl, H.out (conf_mk (H.rp 1 rfl) (H.rp 0 rfl)), ?_⟩
                  clear H
                  symm
                  unfold stepOf stepOk
                  first | (simp [*]; done) | (simp [*]; omega)
                · skip
                  replace h224 := of_decide_eq_false h224
                  refine RW.runP 2 [2, 3, 4, 76, 78, 80] (sq 8 16) [(2, .pointer (some ⟨b1, 0, none⟩)), (3, .pointer (some ⟨b3, 0, none⟩)), (4, .pointer (some ⟨b5, 0, none⟩)), (76, .bool true), (78, .bool false), (80, .bool (decide (Z.node ∈ C.voters)))] (by as_aux_lemma => kernel_rfl) (by as_aux_lemma => kernel_rfl) ?_
                  refine RW.test (fun b_ => [(2, .pointer (some ⟨b1, 0, none⟩)), (3, .pointer (some ⟨b3, 0, none⟩)), (4, .pointer (some ⟨b5, 0, none⟩)), (76, .bool true), (78, .bool false), (80, .bool b_)]) (decide (Z.node ∈ C.voters)) (fun h239 => ?_) (fun h239 => ?_)
                  · skip
                    replace h239 := of_decide_eq_true h239
                    refine RW.runP 1 [2, 3, 4, 76, 78, 80, 81] (sq 9 16) [(2, .pointer (some ⟨b1, 0, none⟩)), (3, .pointer (some ⟨b3, 0, none⟩)), (4, .pointer (some ⟨b5, 0, none⟩)), (76, .bool true), (78, .bool false), (80, .bool true), (81, .pointer (some ⟨b1, 0, none⟩))] (by as_aux_lemma => kernel_rfl) (by as_aux_lemma => kernel_rfl) ?_
                    refine RW.load (κ := .seq) (d := some 82) (r := (sq 10 16)) (T := 22) (b := b1) (o' := 0) (k := 0) (v := .slice a0C C.voters.length k0C) (by as_aux_lemma => kernel_rfl) (H.cells 2 rfl) rfl (by as_aux_lemma => kernel_rfl) ?_
                    refine RW.fin 6 [2, 3, 4, 72] [(2, .pointer (some ⟨b1, 0, none⟩)), (3, .pointer (some ⟨b3, 0, none⟩)), (4, .pointer (some ⟨b5, 0, none⟩)), (72, .bool (decide ((((C.voters.length : Nat) : Int) : Int) > 1)))] (by as_aux_lemma => kernel_rfl) ?_
                    refine WK.cond1 (decide ((((C.voters.length : Nat) : Int) : Int) > 1)) (by as_aux_lemma => kernel_rfl) (by as_aux_lemma => kernel_rfl) (fun h240 => ?_) (fun h240 => ?_)
                    · skip
                      replace h240 := of_decide_eq_true h240
                      refine WK.run 1 [2, 3, 4] [.code (cd Try.prog 14 [4, 0, 0, 1, 1, 1, 1, 1, 0, 0]), .code (cd Try.prog 14 [4, 0, 0, 1, 1, 1, 1, 1, 0, 1]), .inBlock 0, .code (cd Try.prog 14 [5])] [(2, .pointer (some ⟨b1, 0, none⟩)), (3, .pointer (some ⟨b3, 0, none⟩)), (4, .pointer (some ⟨b5, 0, none⟩))] (by as_aux_lemma => kernel_rfl) ?_
                      refine WK.draw1 11 [(0, .qui), (1, .qui), (2, .qui), (3, .qui), (5, .qui), (6, .qui), (7, .qui), (8, .qui), (4, .chn), (9, .chn), (10, .qui)] [(0, .qui), (1, .qui), (2, .qui), (3, .qui), (5, .qui), (6, .qui), (7, .qui), (8, .qui), (4, .chn), (9, .chn), (10, .qui), (11, .seq), (12, .seq)] Try_mixed (by as_aux_lemma => kernel_rfl) (by as_aux_lemma => kernel_rfl) (by as_aux_lemma => kernel_rfl) ?_
                      have H := H.draw
                      generalize ({ w17 with drawn := w17.drawn + 1 } : World) = w241 at H ⊢
                      refine RW.runP 1 [2, 3, 4, 88] [(1, .qui), (2, .qui), (3, .qui), (5, .qui), (6, .qui), (7, .qui), (8, .qui), (4, .chn), (9, .chn), (10, .qui), (11, .seq), (12, .seq)] [(2, .pointer (some ⟨b1, 0, none⟩)), (3, .pointer (some ⟨b3, 0, none⟩)), (4, .pointer (some ⟨b5, 0, none⟩)), (88, .pointer (some ⟨b1, 0, none⟩))] (by as_aux_lemma => kernel_rfl) (by as_aux_lemma => kernel_rfl) ?_
                      refine RW.load (κ := .qui) (d := some 89) (r := [(2, .qui), (3, .qui), (5, .qui), (6, .qui), (7, .qui), (8, .qui), (4, .chn), (9, .chn), (10, .qui), (11, .seq), (12, .seq)]) (T := 22) (b := b1) (o' := 0) (k := 0) (v := .slice a0C C.voters.length k0C) (by as_aux_lemma => kernel_rfl) (H.cells 2 rfl) rfl (by as_aux_lemma => kernel_rfl) ?_
                      refine RW.runP 1 [2, 3, 4, 89, 90] [(3, .qui), (5, .qui), (6, .qui), (7, .qui), (8, .qui), (4, .chn), (9, .chn), (10, .qui), (11, .seq), (12, .seq)] [(2, .pointer (some ⟨b1, 0, none⟩)), (3, .pointer (some ⟨b3, 0, none⟩)), (4, .pointer (some ⟨b5, 0, none⟩)), (89, .slice a0C C.voters.length k0C), (90, .pointer (some ⟨b3, 1, none⟩))] (by as_aux_lemma => kernel_rfl) (by as_aux_lemma => kernel_rfl) ?_
                      refine RW.load (κ := .qui) (d := some 91) (r := [(5, .qui), (6, .qui), (7, .qui), (8, .qui), (4, .chn), (9, .chn), (10, .qui), (11, .seq), (12, .seq)]) (T := 3) (b := b3) (o' := 1) (k := 1) (v := .int .i64 Z.node) (by as_aux_lemma => kernel_rfl) (H.cells 1 rfl) rfl (by as_aux_lemma => kernel_rfl) ?_
                      refine RW.runP 1 [3, 4, 89, 91, 93] [(6, .qui), (7, .qui), (8, .qui), (4, .chn), (9, .chn), (10, .qui), (11, .seq), (12, .seq)] [(3, .pointer (some ⟨b3, 0, none⟩)), (4, .pointer (some ⟨b5, 0, none⟩)), (89, .slice a0C C.voters.length k0C), (91, .int .i64 Z.node), (93, .pointer (some ⟨b1, 1, none⟩))] (by as_aux_lemma => kernel_rfl) (by as_aux_lemma => kernel_rfl) ?_
                      refine RW.load (κ := .qui) (d := some 94) (r := [(7, .qui), (8, .qui), (4, .chn), (9, .chn), (10, .qui), (11, .seq), (12, .seq)]) (T := 22) (b := b1) (o' := 1) (k := 1) (v := .slice a1C C.learners.length k1C) (by as_aux_lemma => kernel_rfl) (H.cells 2 rfl) rfl (by as_aux_lemma => kernel_rfl) ?_
                      refine RW.runP 1 [4, 89, 91, 94, 95] [(8, .qui), (4, .chn), (9, .chn), (10, .qui), (11, .seq), (12, .seq)] [(4, .pointer (some ⟨b5, 0, none⟩)), (89, .slice a0C C.voters.length k0C), (91, .int .i64 Z.node), (94, .slice a1C C.learners.length k1C), (95, .pointer (some ⟨b3, 1, none⟩))] (by as_aux_lemma => kernel_rfl) (by as_aux_lemma => kernel_rfl) ?_
                      refine RW.load (κ := .qui) (d := some 96) (r := [(4, .chn), (9, .chn), (10, .qui), (11, .seq), (12, .seq)]) (T := 3) (b := b3) (o' := 1) (k := 1) (v := .int .i64 Z.node) (by as_aux_lemma => kernel_rfl) (H.cells 1 rfl) rfl (by as_aux_lemma => kernel_rfl) ?_
                      refine RW.call (κ := .chn) (d := some 92) (r := [(9, .chn), (10, .qui), (11, .seq), (12, .seq)]) (g := 27) (args := #[.slice a0C C.voters.length k0C, .int .i64 Z.node]) (by as_aux_lemma => kernel_rfl) (nofun) (refwithout_spec (H.rp 0 rfl) Z.node (by omega)) ?_
                      rintro v243 w242 - H'
                      have H := H.back (M1 := []) (W1 := []) H'
                      obtain ⟨a244, c245, rfl, hc246, hm247⟩ := H.ownForm 0 rfl
                      have H : Hp w S [] [(b5, .cells #[.slice none 0 0, .slice none 0 0] 24 (0, 0)), (b3, .cells #[.int .i64 Z.kind, .int .i64 Z.node] 34 (0, 0)), (b1, .cells #[.slice a0C C.voters.length k0C, .slice a1C C.learners.length k1C] 24 (0, 0))] [⟨Shape.int .i64, 3, .slice a244 ((drp Z.node C.voters).length) c245, drp Z.node C.voters⟩] [Rp (Shape.slice (Shape.int .i64)) [.slice a0C C.voters.length k0C] C.voters, Rp (Shape.slice (Shape.int .i64)) [.slice a1C C.learners.length k1C] C.learners] _ := H
                      refine RW.call (κ := .chn) (d := some 97) (r := [(10, .qui), (11, .seq), (12, .seq)]) (g := 27) (args := #[.slice a1C C.learners.length k1C, .int .i64 Z.node]) (by as_aux_lemma => kernel_rfl) (nofun) (refwithout_spec (H.rp 1 rfl) Z.node (by omega)) ?_
                      rintro v249 w248 - H'
                      have H := H.back (M1 := []) (W1 := []) H'
                      obtain ⟨a250, c251, rfl, hc252, hm253⟩ := H.ownForm 0 rfl
                      have H : Hp w S [] [(b5, .cells #[.slice none 0 0, .slice none 0 0] 24 (0, 0)), (b3, .cells #[.int .i64 Z.kind, .int .i64 Z.node] 34 (0, 0)), (b1, .cells #[.slice a0C C.voters.length k0C, .slice a1C C.learners.length k1C] 24 (0, 0))] [⟨Shape.int .i64, 3, .slice a250 ((drp Z.node C.learners).length) c251, drp Z.node C.learners⟩, ⟨Shape.int .i64, 3, .slice a244 ((drp Z.node C.voters).length) c245, drp Z.node C.voters⟩] [Rp (Shape.slice (Shape.int .i64)) [.slice a0C C.voters.length k0C] C.voters, Rp (Shape.slice (Shape.int .i64)) [.slice a1C C.learners.length k1C] C.learners] _ := H
                      refine RW.runP 1 [4, 98] [(11, .seq), (12, .seq)] [(4, .pointer (some ⟨b5, 0, none⟩)), (98, .agg #[.slice a244 ((drp Z.node C.voters).length) c245, .slice a250 ((drp Z.node C.learners).length) c251])] (by as_aux_lemma => kernel_rfl) (by as_aux_lemma => kernel_rfl) ?_
                      refine RW.store (d := none) (r := [(12, .seq)]) (T := 24) (b := b5) (k := 0) (v := .agg #[.slice a244 ((drp Z.node C.voters).length) c245, .slice a250 ((drp Z.node C.learners).length) c251]) (c' := #[.slice a244 ((drp Z.node C.voters).length) c245, .slice a250 ((drp Z.node C.learners).length) c251]) (M' := [(b5, .cells #[.slice a244 ((drp Z.node C.voters).length) c245, .slice a250 ((drp Z.node C.learners).length) c251] 24 (0, 0)), (b3, .cells #[.int .i64 Z.kind, .int .i64 Z.node] 34 (0, 0)), (b1, .cells #[.slice a0C C.voters.length k0C, .slice a1C C.learners.length k1C] 24 (0, 0))]) (by as_aux_lemma => kernel_rfl) H 0 rfl (by as_aux_lemma => kernel_rfl) (by as_aux_lemma => kernel_rfl) ?_
                      intro w254 H
                      refine RW.fin 1 [4, 5] [(4, .pointer (some ⟨b5, 0, none⟩)), (5, .int .i64 0)] (by as_aux_lemma => kernel_rfl) ?_
                      refine WK.retBy (v := .tuple #[.agg #[.slice a244 ((drp Z.node C.voters).length) c245, .slice a250 ((drp Z.node C.learners).length) c251], .int .i64 0]) Try.func14 (by as_aux_lemma => kernel_rfl) (RV.res2 (x := .cell 4 24) (y := .tmp 5) (by as_aux_lemma => kernel_rfl) (RV.cell (k := 0) (by as_aux_lemma => kernel_rfl) (H.cells 0 rfl) rfl (by as_aux_lemma => kernel_rfl)) (RV.tmp (by as_aux_lemma => kernel_rfl))) ?_
                      have H : Hp w S [] [(b5, .cells #[.slice a244 ((drp Z.node C.voters).length) c245, .slice a250 ((drp Z.node C.learners).length) c251] 24 (0, 0)), (b3, .cells #[.int .i64 Z.kind, .int .i64 Z.node] 34 (0, 0)), (b1, .cells #[.slice a0C C.voters.length k0C, .slice a1C C.learners.length k1C] 24 (0, 0))] [⟨Shape.int .i64, 3, .slice a250 ((drp Z.node C.learners).length) c251, drp Z.node C.learners⟩] [Rp (Shape.slice (Shape.int .i64)) [.slice a244 ((drp Z.node C.voters).length) c245] (drp Z.node C.voters), Rp (Shape.slice (Shape.int .i64)) [.slice a0C C.voters.length k0C] C.voters, Rp (Shape.slice (Shape.int .i64)) [.slice a1C C.learners.length k1C] C.learners] _ := H.freezeW 1 rfl
                      have H : Hp w S [] [(b5, .cells #[.slice a244 ((drp Z.node C.voters).length) c245, .slice a250 ((drp Z.node C.learners).length) c251] 24 (0, 0)), (b3, .cells #[.int .i64 Z.kind, .int .i64 Z.node] 34 (0, 0)), (b1, .cells #[.slice a0C C.voters.length k0C, .slice a1C C.learners.length k1C] 24 (0, 0))] [] [Rp (Shape.slice (Shape.int .i64)) [.slice a250 ((drp Z.node C.learners).length) c251] (drp Z.node C.learners), Rp (Shape.slice (Shape.int .i64)) [.slice a244 ((drp Z.node C.voters).length) c245] (drp Z.node C.voters), Rp (Shape.slice (Shape.int .i64)) [.slice a0C C.voters.length k0C] C.voters, Rp (Shape.slice (Shape.int .i64)) [.slice a1C C.learners.length k1C] C.learners] _ := H.freezeW 0 rfl
                      refine ⟨_, rfl, H.done, [.slice a244 ((drp Z.node C.voters).length) c245, .slice a250 ((drp Z.node C.learners).length) c251], ⟨drp Z.node C.voters, drp Z.node C.learners⟩, 0, rfl, H.out (conf_mk (H.rp 1 rfl) (H.rp 0 rfl)), ?_⟩
                      clear H
                      symm
                      unfold stepOf stepOk
                      first | (simp [*]; done) | (simp [*]; omega)
                    · skip
                      replace h240 := of_decide_eq_false h240
                      refine WK.run 3 [4] [.code (cd Try.prog 14 [5, 0]), .code (cd Try.prog 14 [6])] [(4, .pointer (some ⟨b5, 0, none⟩))] (by as_aux_lemma => kernel_rfl) ?_
                      refine WK.reg1 (l := sq 0 3) (by as_aux_lemma => kernel_rfl) (by as_aux_lemma => kernel_rfl) ?_
                      refine RW.runP 1 [4, 99] (sq 1 3) [(4, .pointer (some ⟨b5, 0, none⟩)), (99, .agg #[.slice none 0 0, .slice none 0 0])] (by as_aux_lemma => kernel_rfl) (by as_aux_lemma => kernel_rfl) ?_
                      refine RW.store (d := none) (r := (sq 2 3)) (T := 24) (b := b5) (k := 0) (v := .agg #[.slice none 0 0, .slice none 0 0]) (c' := #[.slice none 0 0, .slice none 0 0]) (M' := [(b5, .cells #[.slice none 0 0, .slice none 0 0] 24 (0, 0)), (b3, .cells #[.int .i64 Z.kind, .int .i64 Z.node] 34 (0, 0)), (b1, .cells #[.slice a0C C.voters.length k0C, .slice a1C C.learners.length k1C] 24 (0, 0))]) (by as_aux_lemma => kernel_rfl) H 0 rfl (by as_aux_lemma => kernel_rfl) (by as_aux_lemma => kernel_rfl) ?_
                      intro w255 H
                      refine RW.fin 1 [4, 5] [(4, .pointer (some ⟨b5, 0, none⟩)), (5, .int .i64 120)] (by as_aux_lemma => kernel_rfl) ?_
                      refine WK.retBy (v := .tuple #[.agg #[.slice none 0 0, .slice none 0 0], .int .i64 120]) Try.func14 (by as_aux_lemma => kernel_rfl) (RV.res2 (x := .cell 4 24) (y := .tmp 5) (by as_aux_lemma => kernel_rfl) (RV.cell (k := 0) (by as_aux_lemma => kernel_rfl) (H.cells 0 rfl) rfl (by as_aux_lemma => kernel_rfl)) (RV.tmp (by as_aux_lemma => kernel_rfl))) ?_
                      refine ⟨_, rfl, H.done, [.slice none 0 0, .slice none 0 0], ⟨[], []⟩, 120, rfl, H.out (conf_mk Shape.slice_nil Shape.slice_nil), ?_⟩
                      clear H
                      symm
                      unfold stepOf stepOk
                      first | (simp [*]; done) | (simp [*]; omega)
                  · skip
                    replace h239 := of_decide_eq_false h239
                    refine RW.fin 8 [2, 3, 4, 72] [(2, .pointer (some ⟨b1, 0, none⟩)), (3, .pointer (some ⟨b3, 0, none⟩)), (4, .pointer (some ⟨b5, 0, none⟩)), (72, .bool false)] (by as_aux_lemma => kernel_rfl) ?_
                    refine WK.run 4 [4] [.code (cd Try.prog 14 [5, 0]), .code (cd Try.prog 14 [6])] [(4, .pointer (some ⟨b5, 0, none⟩))] (by as_aux_lemma => kernel_rfl) ?_
                    refine WK.reg1 (l := sq 0 3) (by as_aux_lemma => kernel_rfl) (by as_aux_lemma => kernel_rfl) ?_
                    refine RW.runP 1 [4, 99] (sq 1 3) [(4, .pointer (some ⟨b5, 0, none⟩)), (99, .agg #[.slice none 0 0, .slice none 0 0])] (by as_aux_lemma => kernel_rfl) (by as_aux_lemma => kernel_rfl) ?_
                    refine RW.store (d := none) (r := (sq 2 3)) (T := 24) (b := b5) (k := 0) (v := .agg #[.slice none 0 0, .slice none 0 0]) (c' := #[.slice none 0 0, .slice none 0 0]) (M' := [(b5, .cells #[.slice none 0 0, .slice none 0 0] 24 (0, 0)), (b3, .cells #[.int .i64 Z.kind, .int .i64 Z.node] 34 (0, 0)), (b1, .cells #[.slice a0C C.voters.length k0C, .slice a1C C.learners.length k1C] 24 (0, 0))]) (by as_aux_lemma => kernel_rfl) H 0 rfl (by as_aux_lemma => kernel_rfl) (by as_aux_lemma => kernel_rfl) ?_
                    intro w256 H
                    refine RW.fin 1 [4, 5] [(4, .pointer (some ⟨b5, 0, none⟩)), (5, .int .i64 120)] (by as_aux_lemma => kernel_rfl) ?_
                    refine WK.retBy (v := .tuple #[.agg #[.slice none 0 0, .slice none 0 0], .int .i64 120]) Try.func14 (by as_aux_lemma => kernel_rfl) (RV.res2 (x := .cell 4 24) (y := .tmp 5) (by as_aux_lemma => kernel_rfl) (RV.cell (k := 0) (by as_aux_lemma => kernel_rfl) (H.cells 0 rfl) rfl (by as_aux_lemma => kernel_rfl)) (RV.tmp (by as_aux_lemma => kernel_rfl))) ?_
                    refine ⟨_, rfl, H.done, [.slice none 0 0, .slice none 0 0], ⟨[], []⟩, 120, rfl, H.out (conf_mk Shape.slice_nil Shape.slice_nil), ?_⟩
                    clear H
                    symm
                    unfold stepOf stepOk
                    first | (simp [*]; done) | (simp [*]; omega)
              · skip
                replace h223 := ne_of_beq_false h223
                refine RW.fin 12 [2, 3, 4, 72] [(2, .pointer (some ⟨b1, 0, none⟩)), (3, .pointer (some ⟨b3, 0, none⟩)), (4, .pointer (some ⟨b5, 0, none⟩)), (72, .bool false)] (by as_aux_lemma => kernel_rfl) ?_
                refine WK.run 4 [4] [.code (cd Try.prog 14 [5, 0]), .code (cd Try.prog 14 [6])] [(4, .pointer (some ⟨b5, 0, none⟩))] (by as_aux_lemma => kernel_rfl) ?_
                refine WK.reg1 (l := sq 0 3) (by as_aux_lemma => kernel_rfl) (by as_aux_lemma => kernel_rfl) ?_
                refine RW.runP 1 [4, 99] (sq 1 3) [(4, .pointer (some ⟨b5, 0, none⟩)), (99, .agg #[.slice none 0 0, .slice none 0 0])] (by as_aux_lemma => kernel_rfl) (by as_aux_lemma => kernel_rfl) ?_
                refine RW.store (d := none) (r := (sq 2 3)) (T := 24) (b := b5) (k := 0) (v := .agg #[.slice none 0 0, .slice none 0 0]) (c' := #[.slice none 0 0, .slice none 0 0]) (M' := [(b5, .cells #[.slice none 0 0, .slice none 0 0] 24 (0, 0)), (b3, .cells #[.int .i64 Z.kind, .int .i64 Z.node] 34 (0, 0)), (b1, .cells #[.slice a0C C.voters.length k0C, .slice a1C C.learners.length k1C] 24 (0, 0))]) (by as_aux_lemma => kernel_rfl) H 0 rfl (by as_aux_lemma => kernel_rfl) (by as_aux_lemma => kernel_rfl) ?_
                intro w257 H
                refine RW.fin 1 [4, 5] [(4, .pointer (some ⟨b5, 0, none⟩)), (5, .int .i64 120)] (by as_aux_lemma => kernel_rfl) ?_
                refine WK.retBy (v := .tuple #[.agg #[.slice none 0 0, .slice none 0 0], .int .i64 120]) Try.func14 (by as_aux_lemma => kernel_rfl) (RV.res2 (x := .cell 4 24) (y := .tmp 5) (by as_aux_lemma => kernel_rfl) (RV.cell (k := 0) (by as_aux_lemma => kernel_rfl) (H.cells 0 rfl) rfl (by as_aux_lemma => kernel_rfl)) (RV.tmp (by as_aux_lemma => kernel_rfl))) ?_
                refine ⟨_, rfl, H.done, [.slice none 0 0, .slice none 0 0], ⟨[], []⟩, 120, rfl, H.out (conf_mk Shape.slice_nil Shape.slice_nil), ?_⟩
                clear H
                symm
                unfold stepOf stepOk
                first | (simp [*]; done) | (simp [*]; omega)
          · skip
            replace h207 := ne_of_beq_false h207
            refine RW.fin 3 [2, 3, 4, 6, 7, 54] [(2, .pointer (some ⟨b1, 0, none⟩)), (3, .pointer (some ⟨b3, 0, none⟩)), (4, .pointer (some ⟨b5, 0, none⟩)), (6, .bool (decide (Z.node ∈ C.voters))), (7, .bool (decide (Z.node ∈ C.learners))), (54, .bool false)] (by as_aux_lemma => kernel_rfl) ?_
            refine WK.run 2 [2, 3, 4, 6, 7] [.code (cd Try.prog 14 [4, 0, 0, 1, 1, 1, 1, 0]), .code (cd Try.prog 14 [4, 0, 0, 1, 1, 1, 1, 1]), .inBlock 0, .code (cd Try.prog 14 [5])] [(2, .pointer (some ⟨b1, 0, none⟩)), (3, .pointer (some ⟨b3, 0, none⟩)), (4, .pointer (some ⟨b5, 0, none⟩)), (6, .bool (decide (Z.node ∈ C.voters))), (7, .bool (decide (Z.node ∈ C.learners)))] (by as_aux_lemma => kernel_rfl) ?_
            refine WK.reg1 (l := sq 0 16) (by as_aux_lemma => kernel_rfl) (by as_aux_lemma => kernel_rfl) ?_
            refine RW.runP 1 [2, 3, 4, 6, 7, 73] (sq 1 16) [(2, .pointer (some ⟨b1, 0, none⟩)), (3, .pointer (some ⟨b3, 0, none⟩)), (4, .pointer (some ⟨b5, 0, none⟩)), (6, .bool (decide (Z.node ∈ C.voters))), (7, .bool (decide (Z.node ∈ C.learners))), (73, .pointer (some ⟨b3, 0, none⟩))] (by as_aux_lemma => kernel_rfl) (by as_aux_lemma => kernel_rfl) ?_
            refine RW.load (κ := .seq) (d := some 74) (r := (sq 2 16)) (T := 32) (b := b3) (o' := 0) (k := 0) (v := .int .i64 Z.kind) (by as_aux_lemma => kernel_rfl) (H.cells 1 rfl) rfl (by as_aux_lemma => kernel_rfl) ?_
            refine RW.runP 2 [2, 3, 4, 6, 7, 76] (sq 4 16) [(2, .pointer (some ⟨b1, 0, none⟩)), (3, .pointer (some ⟨b3, 0, none⟩)), (4, .pointer (some ⟨b5, 0, none⟩)), (6, .bool (decide (Z.node ∈ C.voters))), (7, .bool (decide (Z.node ∈ C.learners))), (76, .bool (Z.kind == 3))] (by as_aux_lemma => kernel_rfl) (by as_aux_lemma => kernel_rfl) ?_
            refine RW.test (fun b_ => [(2, .pointer (some ⟨b1, 0, none⟩)), (3, .pointer (some ⟨b3, 0, none⟩)), (4, .pointer (some ⟨b5, 0, none⟩)), (6, .bool (decide (Z.node ∈ C.voters))), (7, .bool (decide (Z.node ∈ C.learners))), (76, .bool b_)]) (Z.kind == 3) (fun h258 => ?_) (fun h258 => ?_)
            · skip
              replace h258 := eq_of_beq h258
              refine RW.runP 2 [2, 3, 4, 6, 76, 78] (sq 6 16) [(2, .pointer (some ⟨b1, 0, none⟩)), (3, .pointer (some ⟨b3, 0, none⟩)), (4, .pointer (some ⟨b5, 0, none⟩)), (6, .bool (decide (Z.node ∈ C.voters))), (76, .bool true), (78, .bool (decide (Z.node ∈ C.learners)))] (by as_aux_lemma => kernel_rfl) (by as_aux_lemma => kernel_rfl) ?_
              refine RW.test (fun b_ => [(2, .pointer (some ⟨b1, 0, none⟩)), (3, .pointer (some ⟨b3, 0, none⟩)), (4, .pointer (some ⟨b5, 0, none⟩)), (6, .bool (decide (Z.node ∈ C.voters))), (76, .bool true), (78, .bool b_)]) (decide (Z.node ∈ C.learners)) (fun h259 => ?_) (fun h259 => ?_)
              · skip
                replace h259 := of_decide_eq_true h259
                refine RW.fin 10 [2, 3, 4, 72] [(2, .pointer (some ⟨b1, 0, none⟩)), (3, .pointer (some ⟨b3, 0, none⟩)), (4, .pointer (some ⟨b5, 0, none⟩)), (72, .bool true)] (by as_aux_lemma => kernel_rfl) ?_
                refine WK.run 2 [2, 3, 4] [.code (cd Try.prog 14 [4, 0, 0, 1, 1, 1, 1, 1, 0, 0]), .code (cd Try.prog 14 [4, 0, 0, 1, 1, 1, 1, 1, 0, 1]), .inBlock 0, .code (cd Try.prog 14 [5])] [(2, .pointer (some ⟨b1, 0, none⟩)), (3, .pointer (some ⟨b3, 0, none⟩)), (4, .pointer (some ⟨b5, 0, none⟩))] (by as_aux_lemma => kernel_rfl) ?_
                refine WK.draw1 11 [(0, .qui), (1, .qui), (2, .qui), (3, .qui), (5, .qui), (6, .qui), (7, .qui), (8, .qui), (4, .chn), (9, .chn), (10, .qui)] [(0, .qui), (1, .qui), (2, .qui), (3, .qui), (5, .qui), (6, .qui), (7, .qui), (8, .qui), (4, .chn), (9, .chn), (10, .qui), (11, .seq), (12, .seq)] Try_mixed (by as_aux_lemma => kernel_rfl) (by as_aux_lemma => kernel_rfl) (by as_aux_lemma => kernel_rfl) ?_
                have H := H.draw
                generalize ({ w17 with drawn := w17.drawn + 1 } : World) = w260 at H ⊢
                refine RW.runP 1 [2, 3, 4, 88] [(1, .qui), (2, .qui), (3, .qui), (5, .qui), (6, .qui), (7, .qui), (8, .qui), (4, .chn), (9, .chn), (10, .qui), (11, .seq), (12, .seq)] [(2, .pointer (some ⟨b1, 0, none⟩)), (3, .pointer (some ⟨b3, 0, none⟩)), (4, .pointer (some ⟨b5, 0, none⟩)), (88, .pointer (some ⟨b1, 0, none⟩))] (by as_aux_lemma => kernel_rfl) (by as_aux_lemma => kernel_rfl) ?_
                refine RW.load (κ := .qui) (d := some 89) (r := [(2, .qui), (3, .qui), (5, .qui), (6, .qui), (7, .qui), (8, .qui), (4, .chn), (9, .chn), (10, .qui), (11, .seq), (12, .seq)]) (T := 22) (b := b1) (o' := 0) (k := 0) (v := .slice a0C C.voters.length k0C) (by as_aux_lemma => kernel_rfl) (H.cells 2 rfl) rfl (by as_aux_lemma => kernel_rfl) ?_
                refine RW.runP 1 [2, 3, 4, 89, 90] [(3, .qui), (5, .qui), (6, .qui), (7, .qui), (8, .qui), (4, .chn), (9, .chn), (10, .qui), (11, .seq), (12, .seq)] [(2, .pointer (some ⟨b1, 0, none⟩)), (3, .pointer (some ⟨b3, 0, none⟩)), (4, .pointer (some ⟨b5, 0, none⟩)), (89, .slice a0C C.voters.length k0C), (90, .pointer (some ⟨b3, 1, none⟩))] (by as_aux_lemma => kernel_rfl) (by as_aux_lemma => kernel_rfl) ?_
                refine RW.load (κ := .qui) (d := some 91) (r := [(5, .qui), (6, .qui), (7, .qui), (8, .qui), (4, .chn), (9, .chn), (10, .qui), (11, .seq), (12, .seq)]) (T := 3) (b := b3) (o' := 1) (k := 1) (v := .int .i64 Z.node) (by as_aux_lemma => kernel_rfl) (H.cells 1 rfl) rfl (by as_aux_lemma => kernel_rfl) ?_
                refine RW.runP 1 [3, 4, 89, 91, 93] [(6, .qui), (7, .qui), (8, .qui), (4, .chn), (9, .chn), (10, .qui), (11, .seq), (12, .seq)] [(3, .pointer (some ⟨b3, 0, none⟩)), (4, .pointer (some ⟨b5, 0, none⟩)), (89, .slice a0C C.voters.length k0C), (91, .int .i64 Z.node), (93, .pointer (some ⟨b1, 1, none⟩))] (by as_aux_lemma => kernel_rfl) (by as_aux_lemma => kernel_rfl) ?_
                refine RW.load (κ := .qui) (d := some 94) (r := [(7, .qui), (8, .qui), (4, .chn), (9, .chn), (10, .qui), (11, .seq), (12, .seq)]) (T := 22) (b := b1) (o' := 1) (k := 1) (v := .slice a1C C.learners.length k1C) (by as_aux_lemma => kernel_rfl) (H.cells 2 rfl) rfl (by as_aux_lemma => kernel_rfl) ?_
                refine RW.runP 1 [4, 89, 91, 94, 95] [(8, .qui), (4, .chn), (9, .chn), (10, .qui), (11, .seq), (12, .seq)] [(4, .pointer (some ⟨b5, 0, none⟩)), (89, .slice a0C C.voters.length k0C), (91, .int .i64 Z.node), (94, .slice a1C C.learners.length k1C), (95, .pointer (some ⟨b3, 1, none⟩))] (by as_aux_lemma => kernel_rfl) (by as_aux_lemma => kernel_rfl) ?_
                refine RW.load (κ := .qui) (d := some 96) (r := [(4, .chn), (9, .chn), (10, .qui), (11, .seq), (12, .seq)]) (T := 3) (b := b3) (o' := 1) (k := 1) (v := .int .i64 Z.node) (by as_aux_lemma => kernel_rfl) (H.cells 1 rfl) rfl (by as_aux_lemma => kernel_rfl) ?_
                refine RW.call (κ := .chn) (d := some 92) (r := [(9, .chn), (10, .qui), (11, .seq), (12, .seq)]) (g := 27) (args := #[.slice a0C C.voters.length k0C, .int .i64 Z.node]) (by as_aux_lemma => kernel_rfl) (nofun) (refwithout_spec (H.rp 0 rfl) Z.node (by omega)) ?_
                rintro v262 w261 - H'
                have H := H.back (M1 := []) (W1 := []) H'
                obtain ⟨a263, c264, rfl, hc265, hm266⟩ := H.ownForm 0 rfl
                have H : Hp w S [] [(b5, .cells #[.slice none 0 0, .slice none 0 0] 24 (0, 0)), (b3, .cells #[.int .i64 Z.kind, .int .i64 Z.node] 34 (0, 0)), (b1, .cells #[.slice a0C C.voters.length k0C, .slice a1C C.learners.length k1C] 24 (0, 0))] [⟨Shape.int .i64, 3, .slice a263 ((drp Z.node C.voters).length) c264, drp Z.node C.voters⟩] [Rp (Shape.slice (Shape.int .i64)) [.slice a0C C.voters.length k0C] C.voters, Rp (Shape.slice (Shape.int .i64)) [.slice a1C C.learners.length k1C] C.learners] _ := H
                refine RW.call (κ := .chn) (d := some 97) (r := [(10, .qui), (11, .seq), (12, .seq)]) (g := 27) (args := #[.slice a1C C.learners.length k1C, .int .i64 Z.node]) (by as_aux_lemma => kernel_rfl) (nofun) (refwithout_spec (H.rp 1 rfl) Z.node (by omega)) ?_
                rintro v268 w267 - H'
                have H := H.back (M1 := []) (W1 := []) H'
                obtain ⟨a269, c270, rfl, hc271, hm272⟩ := H.ownForm 0 rfl
                have H : Hp w S [] [(b5, .cells #[.slice none 0 0, .slice none 0 0] 24 (0, 0)), (b3, .cells #[.int .i64 Z.kind, .int .i64 Z.node] 34 (0, 0)), (b1, .cells #[.slice a0C C.voters.length k0C, .slice a1C C.learners.length k1C] 24 (0, 0))] [⟨Shape.int .i64, 3, .slice a269 ((drp Z.node C.learners).length) c270, drp Z.node C.learners⟩, ⟨Shape.int .i64, 3, .slice a263 ((drp Z.node C.voters).length) c264, drp Z.node C.voters⟩] [Rp (Shape.slice (Shape.int .i64)) [.slice a0C C.voters.length k0C] C.voters, Rp (Shape.slice (Shape.int .i64)) [.slice a1C C.learners.length k1C] C.learners] _ := H
                refine RW.runP 1 [4, 98] [(11, .seq), (12, .seq)] [(4, .pointer (some ⟨b5, 0, none⟩)), (98, .agg #[.slice a263 ((drp Z.node C.voters).length) c264, .slice a269 ((drp Z.node C.learners).length) c270])] (by as_aux_lemma => kernel_rfl) (by as_aux_lemma => kernel_rfl) ?_
                refine RW.store (d := none) (r := [(12, .seq)]) (T := 24) (b := b5) (k := 0) (v := .agg #[.slice a263 ((drp Z.node C.voters).length) c264, .slice a269 ((drp Z.node C.learners).length) c270]) (c' := #[.slice a263 ((drp Z.node C.voters).length) c264, .slice a269 ((drp Z.node C.learners).length) c270]) (M' := [(b5, .cells #[.slice a263 ((drp Z.node C.voters).length) c264, .slice a269 ((drp Z.node C.learners).length) c270] 24 (0, 0)), (b3, .cells #[.int .i64 Z.kind, .int .i64 Z.node] 34 (0, 0)), (b1, .cells #[.slice a0C C.voters.length k0C, .slice a1C C.learners.length k1C] 24 (0, 0))]) (by as_aux_lemma => kernel_rfl) H 0 rfl (by as_aux_lemma => kernel_rfl) (by as_aux_lemma => kernel_rfl) ?_
                intro w273 H
                refine RW.fin 1 [4, 5] [(4, .pointer (some ⟨b5, 0, none⟩)), (5, .int .i64 0)] (by as_aux_lemma => kernel_rfl) ?_
                refine WK.retBy (v := .tuple #[.agg #[.slice a263 ((drp Z.node C.voters).length) c264, .slice a269 ((drp Z.node C.learners).length) c270], .int .i64 0]) Try.func14 (by as_aux_lemma => kernel_rfl) (RV.res2 (x := .cell 4 24) (y := .tmp 5) (by as_aux_lemma => kernel_rfl) (RV.cell (k := 0) (by as_aux_lemma => kernel_rfl) (H.cells 0 rfl) rfl (by as_aux_lemma => kernel_rfl)) (RV.tmp (by as_aux_lemma => kernel_rfl))) ?_
                have H : Hp w S [] [(b5, .cells #[.slice a263 ((drp Z.node C.voters).length) c264, .slice a269 ((drp Z.node C.learners).length) c270] 24 (0, 0)), (b3, .cells #[.int .i64 Z.kind, .int .i64 Z.node] 34 (0, 0)), (b1, .cells #[.slice a0C C.voters.length k0C, .slice a1C C.learners.length k1C] 24 (0, 0))] [⟨Shape.int .i64, 3, .slice a269 ((drp Z.node C.learners).length) c270, drp Z.node C.learners⟩] [Rp (Shape.slice (Shape.int .i64)) [.slice a263 ((drp Z.node C.voters).length) c264] (drp Z.node C.voters), Rp (Shape.slice (Shape.int .i64)) [.slice a0C C.voters.length k0C] C.voters, Rp (Shape.slice (Shape.int .i64)) [.slice a1C C.learners.length k1C] C.learners] _ := H.freezeW 1 rfl
                have H : Hp w S [] [(b5, .cells #[.slice a263 ((drp Z.node C.voters).length) c264, .slice a269 ((drp Z.node C.learners).length) c270] 24 (0, 0)), (b3, .cells #[.int .i64 Z.kind, .int .i64 Z.node] 34 (0, 0)), (b1, .cells #[.slice a0C C.voters.length k0C, .slice a1C C.learners.length k1C] 24 (0, 0))] [] [Rp (Shape.slice (Shape.int .i64)) [.slice a269 ((drp Z.node C.learners).length) c270] (drp Z.node C.learners), Rp (Shape.slice (Shape.int .i64)) [.slice a263 ((drp Z.node C.voters).length) c264] (drp Z.node C.voters), Rp (Shape.slice (Shape.int .i64)) [.slice a0C C.voters.length k0C] C.voters, Rp (Shape.slice (Shape.int .i64)) [.slice a1C C.learners.length k1C] C.learners] _ := H.freezeW 0 rfl
                refine ⟨_, rfl, H.done, [.slice a263 ((drp Z.node C.voters).length) c264, .slice a269 ((drp Z.node C.learners).length) c270], ⟨drp Z.node C.voters, drp Z.node C.learners⟩, 0, rfl, H.out (conf_mk (H.rp 1 rfl) (H.rp 0 rfl)), ?_⟩
                clear H
                symm
                unfold stepOf stepOk
                first | (simp [*]; done) | (simp [*]; omega)
              · skip
                replace h259 := of_decide_eq_false h259
                refine RW.runP 2 [2, 3, 4, 76, 78, 80] (sq 8 16) [(2, .pointer (some ⟨b1, 0, none⟩)), (3, .pointer (some ⟨b3, 0, none⟩)), (4, .pointer (some ⟨b5, 0, none⟩)), (76, .bool true), (78, .bool false), (80, .bool (decide (Z.node ∈ C.voters)))] (by as_aux_lemma => kernel_rfl) (by as_aux_lemma => kernel_rfl) ?_
                refine RW.test (fun b_ => [(2, .pointer (some ⟨b1, 0, none⟩)), (3, .pointer (some ⟨b3, 0, none⟩)), (4, .pointer (some ⟨b5, 0, none⟩)), (76, .bool true), (78, .bool false), (80, .bool b_)]) (decide (Z.node ∈ C.voters)) (fun h274 => ?_) (fun h274 => ?_)
                · skip
                  replace h274 := of_decide_eq_true h274
                  refine RW.runP 1 [2, 3, 4, 76, 78, 80, 81] (sq 9 16) [(2, .pointer (some ⟨b1, 0, none⟩)), (3, .pointer (some ⟨b3, 0, none⟩)), (4, .pointer (some ⟨b5, 0, none⟩)), (76, .bool true), (78, .bool false), (80, .bool true), (81, .pointer (some ⟨b1, 0, none⟩))] (by as_aux_lemma => kernel_rfl) (by as_aux_lemma => kernel_rfl) ?_
                  refine RW.load (κ := .seq) (d := some 82) (r := (sq 10 16)) (T := 22) (b := b1) (o' := 0) (k := 0) (v := .slice a0C C.voters.length k0C) (by as_aux_lemma => kernel_rfl) (H.cells 2 rfl) rfl (by as_aux_lemma => kernel_rfl) ?_
                  refine RW.fin 6 [2, 3, 4, 72] [(2, .pointer (some ⟨b1, 0, none⟩)), (3, .pointer (some ⟨b3, 0, none⟩)), (4, .pointer (some ⟨b5, 0, none⟩)), (72, .bool (decide ((((C.voters.length : Nat) : Int) : Int) > 1)))] (by as_aux_lemma => kernel_rfl) ?_
                  refine WK.cond1 (decide ((((C.voters.length : Nat) : Int) : Int) > 1)) (by as_aux_lemma => kernel_rfl) (by as_aux_lemma => kernel_rfl) (fun h275 => ?_) (fun h275 => ?_)
                  · skip
                    replace h275 := of_decide_eq_true h275
                    refine WK.run 1 [2, 3, 4] [.code (cd Try.prog 14 [4, 0, 0, 1, 1, 1, 1, 1, 0, 0]), .code (cd Try.prog 14 [4, 0, 0, 1, 1, 1, 1, 1, 0, 1]), .inBlock 0, .code (cd Try.prog 14 [5])] [(2, .pointer (some ⟨b1, 0, none⟩)), (3, .pointer (some ⟨b3, 0, none⟩)), (4, .pointer (some ⟨b5, 0, none⟩))] (by as_aux_lemma => kernel_rfl) ?_
                    refine WK.draw1 11 [(0, .qui), (1, .qui), (2, .qui), (3, .qui), (5, .qui), (6, .qui), (7, .qui), (8, .qui), (4, .chn), (9, .chn), (10, .qui)] [(0, .qui), (1, .qui), (2, .qui), (3, .qui), (5, .qui), (6, .qui), (7, .qui), (8, .qui), (4, .chn), (9, .chn), (10, .qui), (11, .seq), (12, .seq)] Try_mixed (by as_aux_lemma => kernel_rfl) (by as_aux_lemma => kernel_rfl) (by as_aux_lemma => kernel_rfl) ?_
                    have H := H.draw
                    generalize ({ w17 with drawn := w17.drawn + 1 } : World) = w276 at H ⊢
                    refine RW.runP 1 [2, 3, 4, 88] [(1, .qui), (2, .qui), (3, .qui), (5, .qui), (6, .qui), (7, .qui), (8, .qui), (4, .chn), (9, .chn), (10, .qui), (11, .seq), (12, .seq)] [(2, .pointer (some ⟨b1, 0, none⟩)), (3, .pointer (some ⟨b3, 0, none⟩)), (4, .pointer (some ⟨b5, 0, none⟩)), (88, .pointer (some ⟨b1, 0, none⟩))] (by as_aux_lemma => kernel_rfl) (by as_aux_lemma => kernel_rfl) ?_
                    refine RW.load (κ := .qui) (d := some 89) (r := [(2, .qui), (3, .qui), (5, .qui), (6, .qui), (7, .qui), (8, .qui), (4, .chn), (9, .chn), (10, .qui), (11, .seq), (12, .seq)]) (T := 22) (b := b1) (o' := 0) (k := 0) (v := .slice a0C C.voters.length k0C) (by as_aux_lemma => kernel_rfl) (H.cells 2 rfl) rfl (by as_aux_lemma => kernel_rfl) ?_
                    refine RW.runP 1 [2, 3, 4, 89, 90] [(3, .qui), (5, .qui), (6, .qui), (7, .qui), (8, .qui), (4, .chn), (9, .chn), (10, .qui), (11, .seq), (12, .seq)] [(2, .pointer (some ⟨b1, 0, none⟩)), (3, .pointer (some ⟨b3, 0, none⟩)), (4, .pointer (some ⟨b5, 0, none⟩)), (89, .slice a0C C.voters.length k0C), (90, .pointer (some ⟨b3, 1, none⟩))] (by as_aux_lemma => kernel_rfl) (by as_aux_lemma => kernel_rfl) ?_
                    refine RW.load (κ := .qui) (d := some 91) (r := [(5, .qui), (6, .qui), (7, .qui), (8, .qui), (4, .chn), (9, .chn), (10, .qui), (11, .seq), (12, .seq)]) (T := 3) (b := b3) (o' := 1) (k := 1) (v := .int .i64 Z.node) (by as_aux_lemma => kernel_rfl) (H.cells 1 rfl) rfl (by as_aux_lemma => kernel_rfl) ?_
                    refine RW.runP 1 [3, 4, 89, 91, 93] [(6, .qui), (7, .qui), (8, .qui), (4, .chn), (9, .chn), (10, .qui), (11, .seq), (12, .seq)] [(3, .pointer (some ⟨b3, 0, none⟩)), (4, .pointer (some ⟨b5, 0, none⟩)), (89, .slice a0C C.voters.length k0C), (91, .int .i64 Z.node), (93, .pointer (some ⟨b1, 1, none⟩))] (by as_aux_lemma => kernel_rfl) (by as_aux_lemma => kernel_rfl) ?_
                    refine RW.load (κ := .qui) (d := some 94) (r := [(7, .qui), (8, .qui), (4, .chn), (9, .chn), (10, .qui), (11, .seq), (12, .seq)]) (T := 22) (b := b1) (o' := 1) (k := 1) (v := .slice a1C C.learners.length k1C) (by as_aux_lemma => kernel_rfl) (H.cells 2 rfl) rfl (by as_aux_lemma => kernel_rfl) ?_
                    refine RW.runP 1 [4, 89, 91, 94, 95] [(8, .qui), (4, .chn), (9, .chn), (10, .qui), (11, .seq), (12, .seq)] [(4, .pointer (some ⟨b5, 0, none⟩)), (89, .slice a0C C.voters.length k0C), (91, .int .i64 Z.node), (94, .slice a1C C.learners.length k1C), (95, .pointer (some ⟨b3, 1, none⟩))] (by as_aux_lemma => kernel_rfl) (by as_aux_lemma => kernel_rfl) ?_
                    refine RW.load (κ := .qui) (d := some 96) (r := [(4, .chn), (9, .chn), (10, .qui), (11, .seq), (12, .seq)]) (T := 3) (b := b3) (o' := 1) (k := 1) (v := .int .i64 Z.node) (by as_aux_lemma => kernel_rfl) (H.cells 1 rfl) rfl (by as_aux_lemma => kernel_rfl) ?_
                    refine RW.call (κ := .chn) (d := some 92) (r := [(9, .chn), (10, .qui), (11, .seq), (12, .seq)]) (g := 27) (args := #[.slice a0C C.voters.length k0C, .int .i64 Z.node]) (by as_aux_lemma => kernel_rfl) (nofun) (refwithout_spec (H.rp 0 rfl) Z.node (by omega)) ?_
                    rintro v278 w277 - H'
                    have H := H.back (M1 := []) (W1 := []) H'
                    obtain ⟨a279, c280, rfl, hc281, hm282⟩ := H.ownForm 0 rfl
                    have H : Hp w S [] [(b5, .cells #[.slice none 0 0, .slice none 0 0] 24 (0, 0)), (b3, .cells #[.int .i64 Z.kind, .int .i64 Z.node] 34 (0, 0)), (b1, .cells #[.slice a0C C.voters.length k0C, .slice a1C C.learners.length k1C] 24 (0, 0))] [⟨Shape.int .i64, 3, .slice a279 ((drp Z.node C.voters).length) c280, drp Z.node C.voters⟩] [Rp (Shape.slice (Shape.int .i64)) [.slice a0C C.voters.length k0C] C.voters, Rp (Shape.slice (Shape.int .i64)) [.slice a1C C.learners.length k1C] C.learners] _ := H
                    refine RW.call (κ := .chn) (d := some 97) (r := [(10, .qui), (11, .seq), (12, .seq)]) (g := 27) (args := #[.slice a1C C.learners.length k1C, .int .i64 Z.node]) (by as_aux_lemma => kernel_rfl) (nofun) (refwithout_spec (H.rp 1 rfl) Z.node (by omega)) ?_
                    rintro v284 w283 - H'
                    have H := H.back (M1 := []) (W1 := []) H'
                    obtain ⟨a285, c286, rfl, hc287, hm288⟩ := H.ownForm 0 rfl
                    have H : Hp w S [] [(b5, .cells #[.slice none 0 0, .slice none 0 0] 24 (0, 0)), (b3, .cells #[.int .i64 Z.kind, .int .i64 Z.node] 34 (0, 0)), (b1, .cells #[.slice a0C C.voters.length k0C, .slice a1C C.learners.length k1C] 24 (0, 0))] [⟨Shape.int .i64, 3, .slice a285 ((drp Z.node C.learners).length) c286, drp Z.node C.learners⟩, ⟨Shape.int .i64, 3, .slice a279 ((drp Z.node C.voters).length) c280, drp Z.node C.voters⟩] [Rp (Shape.slice (Shape.int .i64)) [.slice a0C C.voters.length k0C] C.voters, Rp (Shape.slice (Shape.int .i64)) [.slice a1C C.learners.length k1C] C.learners] _ := H
                    refine RW.runP 1 [4, 98] [(11, .seq), (12, .seq)] [(4, .pointer (some ⟨b5, 0, none⟩)), (98, .agg #[.slice a279 ((drp Z.node C.voters).length) c280, .slice a285 ((drp Z.node C.learners).length) c286])] (by as_aux_lemma => kernel_rfl) (by as_aux_lemma => kernel_rfl) ?_
                    refine RW.store (d := none) (r := [(12, .seq)]) (T := 24) (b := b5) (k := 0) (v := .agg #[.slice a279 ((drp Z.node C.voters).length) c280, .slice a285 ((drp Z.node C.learners).length) c286]) (c' := #[.slice a279 ((drp Z.node C.voters).length) c280, .slice a285 ((drp Z.node C.learners).length) c286]) (M' := [(b5, .cells #[.slice a279 ((drp Z.node C.voters).length) c280, .slice a285 ((drp Z.node C.learners).length) c286] 24 (0, 0)), (b3, .cells #[.int .i64 Z.kind, .int .i64 Z.node] 34 (0, 0)), (b1, .cells #[.slice a0C C.voters.length k0C, .slice a1C C.learners.length k1C] 24 (0, 0))]) (by as_aux_lemma => kernel_rfl) H 0 rfl (by as_aux_lemma => kernel_rfl) (by as_aux_lemma => kernel_rfl) ?_
                    intro w289 H
                    refine RW.fin 1 [4, 5] [(4, .pointer (some ⟨b5, 0, none⟩)), (5, .int .i64 0)] (by as_aux_lemma => kernel_rfl) ?_
                    refine WK.retBy (v := .tuple #[.agg #[.slice a279 ((drp Z.node C.voters).length) c280, .slice a285 ((drp Z.node C.learners).length) c286], .int .i64 0]) Try.func14 (by as_aux_lemma => kernel_rfl) (RV.res2 (x := .cell 4 24) (y := .tmp 5) (by as_aux_lemma => kernel_rfl) (RV.cell (k := 0) (by as_aux_lemma => kernel_rfl) (H.cells 0 rfl) rfl (by as_aux_lemma => kernel_rfl)) (RV.tmp (by as_aux_lemma => kernel_rfl))) ?_
                    have H : Hp w S [] [(b5, .cells #[.slice a279 ((drp Z.node C.voters).length) c280, .slice a285 ((drp Z.node C.learners).length) c286] 24 (0, 0)), (b3, .cells #[.int .i64 Z.kind, .int .i64 Z.node] 34 (0, 0)), (b1, .cells #[.slice a0C C.voters.length k0C, .slice a1C C.learners.length k1C] 24 (0, 0))] [⟨Shape.int .i64, 3, .slice a285 ((drp Z.node C.learners).length) c286, drp Z.node C.learners⟩] [Rp (Shape.slice (Shape.int .i64)) [.slice a279 ((drp Z.node C.voters).length) c280] (drp Z.node C.voters), Rp (Shape.slice (Shape.int .i64)) [.slice a0C C.voters.length k0C] C.voters, Rp (Shape.slice (Shape.int .i64)) [.slice a1C C.learners.length k1C] C.learners] _ := H.freezeW 1 rfl
                    have H : Hp w S [] [(b5, .cells #[.slice a279 ((drp Z.node C.voters).length) c280, .slice a285 ((drp Z.node C.learners).length) c286] 24 (0, 0)), (b3, .cells #[.int .i64 Z.kind, .int .i64 Z.node] 34 (0, 0)), (b1, .cells #[.slice a0C C.voters.length k0C, .slice a1C C.learners.length k1C] 24 (0, 0))] [] [Rp (Shape.slice (Shape.int .i64)) [.slice a285 ((drp Z.node C.learners).length) c286] (drp Z.node C.learners), Rp (Shape.slice (Shape.int .i64)) [.slice a279 ((drp Z.node C.voters).length) c280] (drp Z.node C.voters), Rp (Shape.slice (Shape.int .i64)) [.slice a0C C.voters.length k0C] C.voters, Rp (Shape.slice (Shape.int .i64)) [.slice a1C C.learners.length k1C] C.learners] _ := H.freezeW 0 rfl
                    refine ⟨_, rfl, H.done, [.slice a279 ((drp Z.node C.voters).length) c280, .slice a285 ((drp Z.node C.learners).length) c286], ⟨drp Z.node C.voters, drp Z.node C.learners⟩, 0, rfl, H.out (conf_mk (H.rp 1 rfl) (H.rp 0 rfl)), ?_⟩
                    clear H
                    symm
                    unfold stepOf stepOk
                    first | (simp [*]; done) | (simp [*]; omega)
                  · skip
                    replace h275 := of_decide_eq_false h275
                    refine WK.run 3 [4] [.code (cd Try.prog 14 [5, 0]), .code (cd Try.prog 14 [6])] [(4, .pointer (some ⟨b5, 0, none⟩))] (by as_aux_lemma => kernel_rfl) ?_
                    refine WK.reg1 (l := sq 0 3) (by as_aux_lemma => kernel_rfl) (by as_aux_lemma => kernel_rfl) ?_
                    refine RW.runP 1 [4, 99] (sq 1 3) [(4, .pointer (some ⟨b5, 0, none⟩)), (99, .agg #[.slice none 0 0, .slice none 0 0])] (by as_aux_lemma => kernel_rfl) (by as_aux_lemma => kernel_rfl) ?_
                    refine RW.store (d := none) (r := (sq 2 3)) (T := 24) (b := b5) (k := 0) (v := .agg #[.slice none 0 0, .slice none 0 0]) (c' := #[.slice none 0 0, .slice none 0 0]) (M' := [(b5, .cells #[.slice none 0 0, .slice none 0 0] 24 (0, 0)), (b3, .cells #[.int .i64 Z.kind, .int .i64 Z.node] 34 (0, 0)), (b1, .cells #[.slice a0C C.voters.length k0C, .slice a1C C.learners.length k1C] 24 (0, 0))]) (by as_aux_lemma => kernel_rfl) H 0 rfl (by as_aux_lemma => kernel_rfl) (by as_aux_lemma => kernel_rfl) ?_
                    intro w290 H
                    refine RW.fin 1 [4, 5] [(4, .pointer (some ⟨b5, 0, none⟩)), (5, .int .i64 120)] (by as_aux_lemma => kernel_rfl) ?_
                    refine WK.retBy (v := .tuple #[.agg #[.slice none 0 0, .slice none 0 0], .int .i64 120]) Try.func14 (by as_aux_lemma => kernel_rfl) (RV.res2 (x := .cell 4 24) (y := .tmp 5) (by as_aux_lemma => kernel_rfl) (RV.cell (k := 0) (by as_aux_lemma => kernel_rfl) (H.cells 0 rfl) rfl (by as_aux_lemma => kernel_rfl)) (RV.tmp (by as_aux_lemma => kernel_rfl))) ?_
                    refine ⟨_, rfl, H.done, [.slice none 0 0, .slice none 0 0], ⟨[], []⟩, 120, rfl, H.out (conf_mk Shape.slice_nil Shape.slice_nil), ?_⟩
                    clear H
                    symm
                    unfold stepOf stepOk
                    first | (simp [*]; done) | (simp [*]; omega)
                · skip
                  replace h274 := of_decide_eq_false h274
                  refine RW.fin 8 [2, 3, 4, 72] [(2, .pointer (some ⟨b1, 0, none⟩)), (3, .pointer (some ⟨b3, 0, none⟩)), (4, .pointer (some ⟨b5, 0, none⟩)), (72, .bool false)] (by as_aux_lemma => kernel_rfl) ?_
                  refine WK.run 4 [4] [.code (cd Try.prog 14 [5, 0]), .code (cd Try.prog 14 [6])] [(4, .pointer (some ⟨b5, 0, none⟩))] (by as_aux_lemma => kernel_rfl) ?_
                  refine WK.reg1 (l := sq 0 3) (by as_aux_lemma => kernel_rfl) (by as_aux_lemma => kernel_rfl) ?_
                  refine RW.runP 1 [4, 99] (sq 1 3) [(4, .pointer (some ⟨b5, 0, none⟩)), (99, .agg #[.slice none 0 0, .slice none 0 0])] (by as_aux_lemma => kernel_rfl) (by as_aux_lemma => kernel_rfl) ?_
                  refine RW.store (d := none) (r := (sq 2 3)) (T := 24) (b := b5) (k := 0) (v := .agg #[.slice none 0 0, .slice none 0 0]) (c' := #[.slice none 0 0, .slice none 0 0]) (M' := [(b5, .cells #[.slice none 0 0, .slice none 0 0] 24 (0, 0)), (b3, .cells #[.int .i64 Z.kind, .int .i64 Z.node] 34 (0, 0)), (b1, .cells #[.slice a0C C.voters.length k0C, .slice a1C C.learners.length k1C] 24 (0, 0))]) (by as_aux_lemma => kernel_rfl) H 0 rfl (by as_aux_lemma => kernel_rfl) (by as_aux_lemma => kernel_rfl) ?_
                  intro w291 H
                  refine RW.fin 1 [4, 5] [(4, .pointer (some ⟨b5, 0, none⟩)), (5, .int .i64 120)] (by as_aux_lemma => kernel_rfl) ?_
                  refine WK.retBy (v := .tuple #[.agg #[.slice none 0 0, .slice none 0 0], .int .i64 120]) Try.func14 (by as_aux_lemma => kernel_rfl) (RV.res2 (x := .cell 4 24) (y := .tmp 5) (by as_aux_lemma => kernel_rfl) (RV.cell (k := 0) (by as_aux_lemma => kernel_rfl) (H.cells 0 rfl) rfl (by as_aux_lemma => kernel_rfl)) (RV.tmp (by as_aux_lemma => kernel_rfl))) ?_
                  refine ⟨_, rfl, H.done, [.slice none 0 0, .slice none 0 0], ⟨[], []⟩, 120, rfl, H.out (conf_mk Shape.slice_nil Shape.slice_nil), ?_⟩
                  clear H
                  symm
                  unfold stepOf stepOk
                  first | (simp [*]; done) | (simp [*]; omega)
            · skip
              replace h258 := ne_of_beq_false h258
              refine RW.fin 12 [2, 3, 4, 72] [(2, .pointer (some ⟨b1, 0, none⟩)), (3, .pointer (some ⟨b3, 0, none⟩)), (4, .pointer (some ⟨b5, 0, none⟩)), (72, .bool false)] (by as_aux_lemma => kernel_rfl) ?_
              refine WK.run 4 [4] [.code (cd Try.prog 14 [5, 0]), .code (cd Try.prog 14 [6])] [(4, .pointer (some ⟨b5, 0, none⟩))] (by as_aux_lemma => kernel_rfl) ?_
              refine WK.reg1 (l := sq 0 3) (by as_aux_lemma => kernel_rfl) (by as_aux_lemma => kernel_rfl) ?_
              refine RW.runP 1 [4, 99] (sq 1 3) [(4, .pointer (some ⟨b5, 0, none⟩)), (99, .agg #[.slice none 0 0, .slice none 0 0])] (by as_aux_lemma => kernel_rfl) (by as_aux_lemma => kernel_rfl) ?_
              refine RW.store (d := none) (r := (sq 2 3)) (T := 24) (b := b5) (k := 0) (v := .agg #[.slice none 0 0, .slice none 0 0]) (c' := #[.slice none 0 0, .slice none 0 0]) (M' := [(b5, .cells #[.slice none 0 0, .slice none 0 0] 24 (0, 0)), (b3, .cells #[.int .i64 Z.kind, .int .i64 Z.node] 34 (0, 0)), (b1, .cells #[.slice a0C C.voters.length k0C, .slice a1C C.learners.length k1C] 24 (0, 0))]) (by as_aux_lemma => kernel_rfl) H 0 rfl (by as_aux_lemma => kernel_rfl) (by as_aux_lemma => kernel_rfl) ?_
              intro w292 H
              refine RW.fin 1 [4, 5] [(4, .pointer (some ⟨b5, 0, none⟩)), (5, .int .i64 120)] (by as_aux_lemma => kernel_rfl) ?_
              refine WK.retBy (v := .tuple #[.agg #[.slice none 0 0, .slice none 0 0], .int .i64 120]) Try.func14 (by as_aux_lemma => kernel_rfl) (RV.res2 (x := .cell 4 24) (y := .tmp 5) (by as_aux_lemma => kernel_rfl) (RV.cell (k := 0) (by as_aux_lemma => kernel_rfl) (H.cells 0 rfl) rfl (by as_aux_lemma => kernel_rfl)) (RV.tmp (by as_aux_lemma => kernel_rfl))) ?_
              refine ⟨_, rfl, H.done, [.slice none 0 0, .slice none 0 0], ⟨[], []⟩, 120, rfl, H.out (conf_mk Shape.slice_nil Shape.slice_nil), ?_⟩
              clear H
              symm
              unfold stepOf stepOk
              first | (simp [*]; done) | (simp [*]; omega)

theorem refcopy_spec {S : Nat → Prop} {w : World} {cs : List Value} {C : Conf} (h : confS.rep S w cs C) (hb1 : C.voters.length * 8 ≤ 140737488355328) (hb2 : C.learners.length * 8 ≤ 140737488355328) :
    Calls Try.prog 12 #[.agg cs.toArray] w (Ret fun v w' => Ext w w' ∧ ∃ (ds : List Value), v = .agg ds.toArray ∧ confS.rep (Nw S w) w' ds C) := by
  obtain ⟨a0C, k0C, a1C, k1C, rfl, hvC, hlC⟩ := conf_open h
  refine WK.calls1 (fn := Try.f12) (n := 12) (σ := [(0, .agg #[.slice a0C C.voters.length k0C, .slice a1C C.learners.length k1C])]) Try.func12 rfl (by as_aux_lemma => kernel_rfl) (by as_aux_lemma => kernel_rfl) (by as_aux_lemma => kernel_rfl) ?_
  have H := Hp.startF (w := w) (S := S) (G := [Rp (Shape.slice (Shape.int .i64)) [.slice a0C C.voters.length k0C] C.voters, Rp (Shape.slice (Shape.int .i64)) [.slice a1C C.learners.length k1C] C.learners]) (.rp hvC (.rp hlC .nil))
  refine WK.run 1 [0] [.code (cd Try.prog 12 [0]), .code (cd Try.prog 12 [1])] [(0, .agg #[.slice a0C C.voters.length k0C, .slice a1C C.learners.length k1C])] (by as_aux_lemma => kernel_rfl) ?_
  refine WK.reg1 (l := sq 0 2) (by as_aux_lemma => kernel_rfl) (by as_aux_lemma => kernel_rfl) ?_
  refine RW.new (κ := .seq) (d := some 1) (r := (sq 1 2)) (o := .cells #[.slice a0C C.voters.length k0C, .slice a1C C.learners.length k1C] 24 (0, 0)) (v := fun b => .pointer (some ⟨b, 0, none⟩)) (fun b => by as_aux_lemma => kernel_rfl) (nofun) H ?_
  intro b1 w2 H
  refine RW.new (κ := .seq) (d := some 2) (r := (sq 2 2)) (o := .cells #[.slice none 0 0, .slice none 0 0] 24 (0, 0)) (v := fun b => .pointer (some ⟨b, 0, none⟩)) (fun b => by as_aux_lemma => kernel_rfl) (nofun) H ?_
  intro b3 w4 H
  refine RW.fin 0 [1, 2] [(1, .pointer (some ⟨b1, 0, none⟩)), (2, .pointer (some ⟨b3, 0, none⟩))] (by as_aux_lemma => kernel_rfl) ?_
  refine WK.run 1 [1, 2] [.code (cd Try.prog 12 [1, 0]), .code (cd Try.prog 12 [2])] [(1, .pointer (some ⟨b1, 0, none⟩)), (2, .pointer (some ⟨b3, 0, none⟩))] (by as_aux_lemma => kernel_rfl) ?_
  refine WK.drawT1 9 [true, true, true, true, true, true, true, true, true, false] (.node [(1, .qui), (2, .qui), (5, .qui), (6, .qui)] (.cons 0 (.node [] (.cons 3 (.leaf [(4, .chn), (7, .chn), (8, .qui)]) (.cons 4 (.leaf [(3, .chn), (7, .chn), (8, .qui)]) .nil))) (.cons 4 (.leaf [(0, .chn), (3, .chn), (7, .chn), (8, .qui)]) .nil))) Try_mixed (by as_aux_lemma => kernel_rfl) (by as_aux_lemma => kernel_rfl) ?_
  have H := H.draw
  generalize ({ w4 with drawn := w4.drawn + 1 } : World) = w5 at H ⊢
  refine RT.node' [(1, .qui), (2, .qui), (5, .qui), (6, .qui)] (by as_aux_lemma => kernel_rfl) ?_
  refine RW.runP 1 [1, 2, 4] [(2, .qui), (5, .qui), (6, .qui)] [(1, .pointer (some ⟨b1, 0, none⟩)), (2, .pointer (some ⟨b3, 0, none⟩)), (4, .pointer (some ⟨b1, 0, none⟩))] (by as_aux_lemma => kernel_rfl) (by as_aux_lemma => kernel_rfl) ?_
  refine RW.load (κ := .qui) (d := some 5) (r := [(5, .qui), (6, .qui)]) (T := 22) (b := b1) (o' := 0) (k := 0) (v := .slice a0C C.voters.length k0C) (by as_aux_lemma => kernel_rfl) (H.cells 1 rfl) rfl (by as_aux_lemma => kernel_rfl) ?_
  refine RW.runP 1 [2, 5, 8] [(6, .qui)] [(2, .pointer (some ⟨b3, 0, none⟩)), (5, .slice a0C C.voters.length k0C), (8, .pointer (some ⟨b1, 1, none⟩))] (by as_aux_lemma => kernel_rfl) (by as_aux_lemma => kernel_rfl) ?_
  refine RW.load (κ := .qui) (d := some 9) (r := []) (T := 22) (b := b1) (o' := 1) (k := 1) (v := .slice a1C C.learners.length k1C) (by as_aux_lemma => kernel_rfl) (H.cells 1 rfl) rfl (by as_aux_lemma => kernel_rfl) ?_
  refine RT.fin 0 [2, 5, 9] [(2, .pointer (some ⟨b3, 0, none⟩)), (5, .slice a0C C.voters.length k0C), (9, .slice a1C C.learners.length k1C)] (by as_aux_lemma => kernel_rfl) ?_
  refine (RB.cons' ?_ (RB.cons' ?_ RB.nil'))
  · skip
    refine RT.node' [(0, .chn)] (by as_aux_lemma => kernel_rfl) ?_
    refine RW.new (κ := .chn) (d := some 3) (r := []) (o := .cells #[] 3 (0, 0)) (v := fun b => .slice (some ⟨b, 0, none⟩) 0 0) (fun b => by as_aux_lemma => kernel_rfl) (nofun) H ?_
    intro b6 w7 H
    refine RT.fin 0 [2, 3, 5, 9] [(2, .pointer (some ⟨b3, 0, none⟩)), (3, .slice (some ⟨b6, 0, none⟩) 0 0), (5, .slice a0C C.voters.length k0C), (9, .slice a1C C.learners.length k1C)] (by as_aux_lemma => kernel_rfl) ?_
    refine (RB.cons' ?_ (RB.cons' ?_ RB.nil'))
    · skip
      refine RT.leaf' [(3, .chn), (4, .chn), (7, .chn), (8, .qui), (9, .seq)] (by as_aux_lemma => kernel_rfl) ?_
      refine RW.appendN (κ := .chn) (d := some 6) (r := [(4, .chn), (7, .chn), (8, .qui), (9, .seq)]) (T := 22) (ty := 22) (e := 3) (m := 1) (by_ := 8) (a0 := (some ⟨b6, 0, none⟩)) (a2 := a0C) (l2 := C.voters.length) (c2 := k0C) (by as_aux_lemma => kernel_rfl) (nofun) (.inr ⟨_, rfl⟩) (by as_aux_lemma => kernel_rfl) rfl H 0 rfl (by omega) ?_
      intro a8 c9 w10 H
      refine RW.new (κ := .chn) (d := some 7) (r := [(7, .chn), (8, .qui), (9, .seq)]) (o := .cells #[] 3 (0, 0)) (v := fun b => .slice (some ⟨b, 0, none⟩) 0 0) (fun b => by as_aux_lemma => kernel_rfl) (nofun) H ?_
      intro b11 w12 H
      refine RW.appendN (κ := .chn) (d := some 10) (r := [(8, .qui), (9, .seq)]) (T := 22) (ty := 22) (e := 3) (m := 1) (by_ := 8) (a0 := (some ⟨b11, 0, none⟩)) (a2 := a1C) (l2 := C.learners.length) (c2 := k1C) (by as_aux_lemma => kernel_rfl) (nofun) (.inr ⟨_, rfl⟩) (by as_aux_lemma => kernel_rfl) rfl H 2 rfl (by omega) ?_
      intro a13 c14 w15 H
      refine RW.runP 1 [2, 11] [(9, .seq)] [(2, .pointer (some ⟨b3, 0, none⟩)), (11, .agg #[.slice a8 C.voters.length c9, .slice a13 C.learners.length c14])] (by as_aux_lemma => kernel_rfl) (by as_aux_lemma => kernel_rfl) ?_
      refine RW.store (d := none) (r := []) (T := 24) (b := b3) (k := 0) (v := .agg #[.slice a8 C.voters.length c9, .slice a13 C.learners.length c14]) (c' := #[.slice a8 C.voters.length c9, .slice a13 C.learners.length c14]) (M' := [(b11, .cells #[] 3 (0, 0)), (b6, .cells #[] 3 (0, 0)), (b3, .cells #[.slice a8 C.voters.length c9, .slice a13 C.learners.length c14] 24 (0, 0)), (b1, .cells #[.slice a0C C.voters.length k0C, .slice a1C C.learners.length k1C] 24 (0, 0))]) (by as_aux_lemma => kernel_rfl) H 2 rfl (by as_aux_lemma => kernel_rfl) (by as_aux_lemma => kernel_rfl) ?_
      intro w16 H
      refine RW.fin 0 [2] [(2, .pointer (some ⟨b3, 0, none⟩))] (by as_aux_lemma => kernel_rfl) ?_
      refine WK.retBy (v := .agg #[.slice a8 C.voters.length c9, .slice a13 C.learners.length c14]) Try.func12 (by as_aux_lemma => kernel_rfl) (RV.res1 (x := .cell 2 24) (by as_aux_lemma => kernel_rfl) (RV.cell (k := 0) (by as_aux_lemma => kernel_rfl) (H.cells 2 rfl) rfl (by as_aux_lemma => kernel_rfl))) ?_
      exact ⟨_, rfl, H.done, [.slice a8 C.voters.length c9, .slice a13 C.learners.length c14], rfl, H.out (conf_mk (H.rp 1 rfl) (H.rp 0 rfl))⟩
    · skip
      refine RT.leaf' [(4, .chn), (3, .chn), (7, .chn), (8, .qui), (9, .seq)] (by as_aux_lemma => kernel_rfl) ?_
      refine RW.new (κ := .chn) (d := some 7) (r := [(3, .chn), (7, .chn), (8, .qui), (9, .seq)]) (o := .cells #[] 3 (0, 0)) (v := fun b => .slice (some ⟨b, 0, none⟩) 0 0) (fun b => by as_aux_lemma => kernel_rfl) (nofun) H ?_
      intro b17 w18 H
      refine RW.appendN (κ := .chn) (d := some 6) (r := [(7, .chn), (8, .qui), (9, .seq)]) (T := 22) (ty := 22) (e := 3) (m := 1) (by_ := 8) (a0 := (some ⟨b6, 0, none⟩)) (a2 := a0C) (l2 := C.voters.length) (c2 := k0C) (by as_aux_lemma => kernel_rfl) (nofun) (.inr ⟨_, rfl⟩) (by as_aux_lemma => kernel_rfl) rfl H 0 rfl (by omega) ?_
      intro a19 c20 w21 H
      refine RW.appendN (κ := .chn) (d := some 10) (r := [(8, .qui), (9, .seq)]) (T := 22) (ty := 22) (e := 3) (m := 1) (by_ := 8) (a0 := (some ⟨b17, 0, none⟩)) (a2 := a1C) (l2 := C.learners.length) (c2 := k1C) (by as_aux_lemma => kernel_rfl) (nofun) (.inr ⟨_, rfl⟩) (by as_aux_lemma => kernel_rfl) rfl H 2 rfl (by omega) ?_
      intro a22 c23 w24 H
      refine RW.runP 1 [2, 11] [(9, .seq)] [(2, .pointer (some ⟨b3, 0, none⟩)), (11, .agg #[.slice a19 C.voters.length c20, .slice a22 C.learners.length c23])] (by as_aux_lemma => kernel_rfl) (by as_aux_lemma => kernel_rfl) ?_
      refine RW.store (d := none) (r := []) (T := 24) (b := b3) (k := 0) (v := .agg #[.slice a19 C.voters.length c20, .slice a22 C.learners.length c23]) (c' := #[.slice a19 C.voters.length c20, .slice a22 C.learners.length c23]) (M' := [(b17, .cells #[] 3 (0, 0)), (b6, .cells #[] 3 (0, 0)), (b3, .cells #[.slice a19 C.voters.length c20, .slice a22 C.learners.length c23] 24 (0, 0)), (b1, .cells #[.slice a0C C.voters.length k0C, .slice a1C C.learners.length k1C] 24 (0, 0))]) (by as_aux_lemma => kernel_rfl) H 2 rfl (by as_aux_lemma => kernel_rfl) (by as_aux_lemma => kernel_rfl) ?_
      intro w25 H
      refine RW.fin 0 [2] [(2, .pointer (some ⟨b3, 0, none⟩))] (by as_aux_lemma => kernel_rfl) ?_
      refine WK.retBy (v := .agg #[.slice a19 C.voters.length c20, .slice a22 C.learners.length c23]) Try.func12 (by as_aux_lemma => kernel_rfl) (RV.res1 (x := .cell 2 24) (by as_aux_lemma => kernel_rfl) (RV.cell (k := 0) (by as_aux_lemma => kernel_rfl) (H.cells 2 rfl) rfl (by as_aux_lemma => kernel_rfl))) ?_
      exact ⟨_, rfl, H.done, [.slice a19 C.voters.length c20, .slice a22 C.learners.length c23], rfl, H.out (conf_mk (H.rp 1 rfl) (H.rp 0 rfl))⟩
  · skip
    refine RT.leaf' [(4, .chn), (0, .chn), (3, .chn), (7, .chn), (8, .qui), (9, .seq)] (by as_aux_lemma => kernel_rfl) ?_
    refine RW.new (κ := .chn) (d := some 7) (r := [(0, .chn), (3, .chn), (7, .chn), (8, .qui), (9, .seq)]) (o := .cells #[] 3 (0, 0)) (v := fun b => .slice (some ⟨b, 0, none⟩) 0 0) (fun b => by as_aux_lemma => kernel_rfl) (nofun) H ?_
    intro b26 w27 H
    refine RW.new (κ := .chn) (d := some 3) (r := [(3, .chn), (7, .chn), (8, .qui), (9, .seq)]) (o := .cells #[] 3 (0, 0)) (v := fun b => .slice (some ⟨b, 0, none⟩) 0 0) (fun b => by as_aux_lemma => kernel_rfl) (nofun) H ?_
    intro b28 w29 H
    refine RW.appendN (κ := .chn) (d := some 6) (r := [(7, .chn), (8, .qui), (9, .seq)]) (T := 22) (ty := 22) (e := 3) (m := 1) (by_ := 8) (a0 := (some ⟨b28, 0, none⟩)) (a2 := a0C) (l2 := C.voters.length) (c2 := k0C) (by as_aux_lemma => kernel_rfl) (nofun) (.inr ⟨_, rfl⟩) (by as_aux_lemma => kernel_rfl) rfl H 0 rfl (by omega) ?_
    intro a30 c31 w32 H
    refine RW.appendN (κ := .chn) (d := some 10) (r := [(8, .qui), (9, .seq)]) (T := 22) (ty := 22) (e := 3) (m := 1) (by_ := 8) (a0 := (some ⟨b26, 0, none⟩)) (a2 := a1C) (l2 := C.learners.length) (c2 := k1C) (by as_aux_lemma => kernel_rfl) (nofun) (.inr ⟨_, rfl⟩) (by as_aux_lemma => kernel_rfl) rfl H 2 rfl (by omega) ?_
    intro a33 c34 w35 H
    refine RW.runP 1 [2, 11] [(9, .seq)] [(2, .pointer (some ⟨b3, 0, none⟩)), (11, .agg #[.slice a30 C.voters.length c31, .slice a33 C.learners.length c34])] (by as_aux_lemma => kernel_rfl) (by as_aux_lemma => kernel_rfl) ?_
    refine RW.store (d := none) (r := []) (T := 24) (b := b3) (k := 0) (v := .agg #[.slice a30 C.voters.length c31, .slice a33 C.learners.length c34]) (c' := #[.slice a30 C.voters.length c31, .slice a33 C.learners.length c34]) (M' := [(b28, .cells #[] 3 (0, 0)), (b26, .cells #[] 3 (0, 0)), (b3, .cells #[.slice a30 C.voters.length c31, .slice a33 C.learners.length c34] 24 (0, 0)), (b1, .cells #[.slice a0C C.voters.length k0C, .slice a1C C.learners.length k1C] 24 (0, 0))]) (by as_aux_lemma => kernel_rfl) H 2 rfl (by as_aux_lemma => kernel_rfl) (by as_aux_lemma => kernel_rfl) ?_
    intro w36 H
    refine RW.fin 0 [2] [(2, .pointer (some ⟨b3, 0, none⟩))] (by as_aux_lemma => kernel_rfl) ?_
    refine WK.retBy (v := .agg #[.slice a30 C.voters.length c31, .slice a33 C.learners.length c34]) Try.func12 (by as_aux_lemma => kernel_rfl) (RV.res1 (x := .cell 2 24) (by as_aux_lemma => kernel_rfl) (RV.cell (k := 0) (by as_aux_lemma => kernel_rfl) (H.cells 2 rfl) rfl (by as_aux_lemma => kernel_rfl))) ?_
    exact ⟨_, rfl, H.done, [.slice a30 C.voters.length c31, .slice a33 C.learners.length c34], rfl, H.out (conf_mk (H.rp 1 rfl) (H.rp 0 rfl))⟩


end Go.Proofs.Ythbegjaoifghlaa
