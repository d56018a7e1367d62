import Derived.Test.YtppcdmbkgficiaaA5
import Derived.Test.YtppcdmbkgficiaaBxJoin
namespace Go.Proofs.Ytppcdmbkgficiaa
open Go.BX

theorem in_spec {S : Nat → Prop} {w : World} {xs : List Int} {a : Option Addr} {c : Nat} (x : Int) (h : (Shape.slice (Shape.int .i64)).rep S w [.slice a xs.length c] xs) :
    Calls Try.prog 24 #[.int .i64 x, .slice a xs.length c] w (Ret fun v w' => Ext w w' ∧ v = .bool (decide (x ∈ xs))) := by
  have hxl := Shape.slice_len h
  refine WK.calls1 (fn := Try.f24) (n := 18) (σ := [(0, .int .i64 x), (1, .slice a xs.length c)]) Try.func24 rfl (by as_aux_lemma => kernel_rfl) (by as_aux_lemma => kernel_rfl) (by as_aux_lemma => kernel_rfl) ?_
  have H := Hp.startF (w := w) (S := S) (G := [Rp (Shape.slice (Shape.int .i64)) [.slice a xs.length c] xs]) (.rp h .nil)
  refine WK.run 6 [0, 1, 5] [.code (cd Try.prog 24 [1, 0, 1, 0]), .inBlock 0, .code (cd Try.prog 24 [2])] [(0, .int .i64 x), (1, .slice a xs.length c), (5, .int .i64 0)] (by as_aux_lemma => kernel_rfl) ?_
  refine WK.loop (α := Nat) (b := cd Try.prog 24 [1, 0, 1, 0, 0]) (by as_aux_lemma => kernel_rfl) (fun k => [(0, .int .i64 x), (1, .slice a xs.length c), (5, .int .i64 (k : Int))]) (fun k w' => Hp w S [] [] [] [Rp (Shape.slice (Shape.int .i64)) [.slice a xs.length c] xs] w' ∧ k ≤ xs.length ∧ ¬ x ∈ xs.take k) (fun k => xs.length - k) 0 ⟨H, by omega, by simp⟩ (rfl) ?_
  rintro k w2 ⟨H, hinv0⟩ hback1
  refine WK.run 3 [0, 1, 5, 9] [.code (cd Try.prog 24 [1, 0, 1, 0, 0, 0, 1]), .code (cd Try.prog 24 [1, 0, 1, 0, 0, 1]), .inLoop (cd Try.prog 24 [1, 0, 1, 0, 0]), .inBlock 0, .code (cd Try.prog 24 [2])] [(0, .int .i64 x), (1, .slice a xs.length c), (5, .int .i64 (k : Int)), (9, .bool (decide (((k : Int) : Int) < ((xs.length : Nat) : Int))))] (by as_aux_lemma => kernel_rfl) ?_
  refine WK.cond1 (decide (((k : Int) : Int) < ((xs.length : Nat) : Int))) (by as_aux_lemma => kernel_rfl) (by as_aux_lemma => kernel_rfl) (fun h3 => ?_) (fun h3 => ?_)
  · skip
    replace h3 := of_decide_eq_true h3
    refine WK.run 4 [0, 1, 5] [.code (cd Try.prog 24 [1, 0, 1, 0, 0, 1, 0, 0, 0]), .code (cd Try.prog 24 [1, 0, 1, 0, 0, 1, 0, 0, 1]), .inBlock 1, .code (cd Try.prog 24 [1, 0, 1, 0, 0, 2]), .inLoop (cd Try.prog 24 [1, 0, 1, 0, 0]), .inBlock 0, .code (cd Try.prog 24 [2])] [(0, .int .i64 x), (1, .slice a xs.length c), (5, .int .i64 (k : Int))] (by as_aux_lemma => kernel_rfl) ?_
    refine WK.reg1 (l := sq 0 6) (by as_aux_lemma => kernel_rfl) (by as_aux_lemma => kernel_rfl) ?_
    refine RW.runP 2 [0, 1, 5, 12, 13] (sq 2 6) [(0, .int .i64 x), (1, .slice a xs.length c), (5, .int .i64 (k : Int)), (12, .slice a xs.length c), (13, .int .i64 (k : Int))] (by as_aux_lemma => kernel_rfl) (by as_aux_lemma => kernel_rfl) ?_
    have hx4 : k < xs.length := by omega
    refine RW.index (κ := .seq) (d := some 14) (r := (sq 3 6)) (T := 25) (e := 3) (ik := .i64) (ix := (k : Int)) (sh := (Shape.int .i64)) (x := xs[k]) (by as_aux_lemma => kernel_rfl) (by as_aux_lemma => kernel_rfl) H 0 rfl k (by omega) (List.getElem?_eq_getElem hx4) ?_
    intro b5 o6 es7 hr8 H
    have hb9 := Shape.i64_bd hr8
    obtain ⟨rfl, -⟩ := hr8
    refine RW.load (κ := .seq) (d := some 15) (r := (sq 4 6)) (T := 3) (b := b5) (o' := o6) (k := 0) (v := .int .i64 (xs[k])) (by as_aux_lemma => kernel_rfl) (H.fc 0 rfl) rfl (by as_aux_lemma => kernel_rfl) ?_
    refine RW.fin 2 [0, 1, 5, 17] [(0, .int .i64 x), (1, .slice a xs.length c), (5, .int .i64 (k : Int)), (17, .bool ((xs[k]) == x))] (by as_aux_lemma => kernel_rfl) ?_
    refine WK.cond1 ((xs[k]) == x) (by as_aux_lemma => kernel_rfl) (by as_aux_lemma => kernel_rfl) (fun h10 => ?_) (fun h10 => ?_)
    · skip
      replace h10 := eq_of_beq h10
      refine WK.run 2 [4] [.code (cd Try.prog 24 [1, 0, 1, 0, 0, 1, 0, 0, 1, 0, 1]), .inBlock 1, .code (cd Try.prog 24 [1, 0, 1, 0, 0, 2]), .inLoop (cd Try.prog 24 [1, 0, 1, 0, 0]), .inBlock 0, .code (cd Try.prog 24 [2])] [(4, .bool true)] (by as_aux_lemma => kernel_rfl) ?_
      refine WK.ret (v := .bool true) Try.func24 (by as_aux_lemma => kernel_rfl) (by as_aux_lemma => kernel_rfl) ?_
      refine ⟨_, rfl, H.done, ?_⟩
      congr 1
      exact (decide_eq_true (by first | (rename_i hq; rw [← hq]; exact List.getElem_mem _) | (subst_vars; exact List.getElem_mem _))).symm
    · skip
      replace h10 := ne_of_beq_false h10
      refine WK.run 2 [0, 1, 5] [.code (cd Try.prog 24 [1, 0, 1, 0, 0, 2]), .inLoop (cd Try.prog 24 [1, 0, 1, 0, 0]), .inBlock 0, .code (cd Try.prog 24 [2])] [(0, .int .i64 x), (1, .slice a xs.length c), (5, .int .i64 (k : Int))] (by as_aux_lemma => kernel_rfl) ?_
      refine WK.reg1 (l := sq 0 3) (by as_aux_lemma => kernel_rfl) (by as_aux_lemma => kernel_rfl) ?_
      refine RW.runP 1 [0, 1, 5, 10] (sq 1 3) [(0, .int .i64 x), (1, .slice a xs.length c), (5, .int .i64 (k : Int)), (10, .int .i64 (k : Int))] (by as_aux_lemma => kernel_rfl) (by as_aux_lemma => kernel_rfl) ?_
      refine RW.wr64 (κ := .seq) (d := some 11) (r := (sq 2 3)) (t := (k : Int) + 1) (by as_aux_lemma => kernel_rfl) (by omega) ?_
      refine RW.fin 1 [0, 1, 5] [(0, .int .i64 x), (1, .slice a xs.length c), (5, .int .i64 ((k : Int) + 1))] (by as_aux_lemma => kernel_rfl) ?_
      have H := H.pick [1] (G' := [Rp (Shape.slice (Shape.int .i64)) [.slice a xs.length c] xs]) rfl
      exact WK.back (hback1 (k + 1) _ ⟨H, by omega, by rw [List.take_succ_eq_append_getElem (by omega), List.mem_append, List.mem_singleton]; rintro (q | q); exact hinv0.2 q; exact absurd q.symm (by assumption)⟩ (by first | omega | (simp only []; omega))) (by as_aux_lemma => kernel_rfl)
  · skip
    replace h3 := of_decide_eq_false h3
    refine WK.run 3 [4] [.code (cd Try.prog 24 [3])] [(4, .bool false)] (by as_aux_lemma => kernel_rfl) ?_
    refine WK.ret (v := .bool false) Try.func24 (by as_aux_lemma => kernel_rfl) (by as_aux_lemma => kernel_rfl) ?_
    refine ⟨_, rfl, H.done, ?_⟩
    congr 1
    have hke : k = xs.length := by omega
    rw [hke, List.take_length] at hinv0
    exact (decide_eq_false hinv0.2).symm

theorem again_bad {S : Nat → Prop} {w : World} (n : Int) {xs : List (BitVec 8)} {a : Option Addr} {c : Nat} (h : (Shape.slice (Shape.bv .u8 8)).rep S w [.slice a xs.length c] xs) {ys : List Int} {b : Option Addr} {d : Nat} (h2 : (Shape.slice (Shape.int .i64)).rep S w [.slice b ys.length d] ys) (hb : ¬ (1 ≤ n ∧ n ≤ 9 ∧ xs.length ≤ 500)) :
    Calls Try.prog 4 #[.slice a xs.length c, .int .i64 n, .slice b ys.length d] w (Ret fun v w' => Ext w w' ∧ v = .bool true) := by
  refine WK.calls1 (fn := Try.f4) (n := 167) (σ := [(0, .slice a xs.length c), (1, .int .i64 n), (2, .slice b ys.length d)]) Try.func4 rfl (by as_aux_lemma => kernel_rfl) (by as_aux_lemma => kernel_rfl) (by as_aux_lemma => kernel_rfl) ?_
  have H := Hp.startF (w := w) (S := S) (G := [Rp (Shape.slice (Shape.bv .u8 8)) [.slice a xs.length c] xs, Rp (Shape.slice (Shape.int .i64)) [.slice b ys.length d] ys]) (.rp h (.rp h2 .nil))
  refine WK.run 4 [0, 1, 2] [.code (cd Try.prog 4 [1, 0, 0]), .code (cd Try.prog 4 [1, 0, 1]), .code (cd Try.prog 4 [2])] [(0, .slice a xs.length c), (1, .int .i64 n), (2, .slice b ys.length d)] (by as_aux_lemma => kernel_rfl) ?_
  refine WK.reg1 (l := sq 0 11) (by as_aux_lemma => kernel_rfl) (by as_aux_lemma => kernel_rfl) ?_
  refine RW.runP 3 [0, 1, 2, 21] (sq 3 11) [(0, .slice a xs.length c), (1, .int .i64 n), (2, .slice b ys.length d), (21, .bool (decide ((n : Int) < 1)))] (by as_aux_lemma => kernel_rfl) (by as_aux_lemma => kernel_rfl) ?_
  refine RW.test (fun b_ => [(0, .slice a xs.length c), (1, .int .i64 n), (2, .slice b ys.length d), (21, .bool b_)]) (decide ((n : Int) < 1)) (fun h1 => ?_) (fun h1 => ?_)
  · skip
    replace h1 := of_decide_eq_true h1
    refine RW.fin 8 [0, 1, 2, 29] [(0, .slice a xs.length c), (1, .int .i64 n), (2, .slice b ys.length d), (29, .bool true)] (by as_aux_lemma => kernel_rfl) ?_
    refine WK.run 2 [] [.code (cd Try.prog 4 [1, 0, 1, 0, 0]), .code (cd Try.prog 4 [1, 0, 1, 0, 1]), .code (cd Try.prog 4 [2])] [] (by as_aux_lemma => kernel_rfl) ?_
    refine WK.reg1 (l := sq 0 2) (by as_aux_lemma => kernel_rfl) (by as_aux_lemma => kernel_rfl) ?_
    refine RW.call (κ := .seq) (d := some 30) (r := (sq 1 2)) (g := 22) (args := #[]) (by as_aux_lemma => kernel_rfl) (nofun) (heads_spec (S := fun _ => True)) ?_
    rintro _ w2 hE3 rfl
    have H := H.ext hE3
    refine RW.fin 1 [6] [(6, .bool true)] (by as_aux_lemma => kernel_rfl) ?_
    refine WK.ret (v := .bool true) Try.func4 (by as_aux_lemma => kernel_rfl) (by as_aux_lemma => kernel_rfl) ?_
    exact ⟨_, rfl, H.done, rfl⟩
  · skip
    replace h1 := of_decide_eq_false h1
    refine RW.runP 4 [0, 1, 2, 25] (sq 7 11) [(0, .slice a xs.length c), (1, .int .i64 n), (2, .slice b ys.length d), (25, .bool (decide ((n : Int) > 9)))] (by as_aux_lemma => kernel_rfl) (by as_aux_lemma => kernel_rfl) ?_
    refine RW.test (fun b_ => [(0, .slice a xs.length c), (1, .int .i64 n), (2, .slice b ys.length d), (25, .bool b_)]) (decide ((n : Int) > 9)) (fun h4 => ?_) (fun h4 => ?_)
    · skip
      replace h4 := of_decide_eq_true h4
      refine RW.fin 4 [0, 1, 2, 29] [(0, .slice a xs.length c), (1, .int .i64 n), (2, .slice b ys.length d), (29, .bool true)] (by as_aux_lemma => kernel_rfl) ?_
      refine WK.run 2 [] [.code (cd Try.prog 4 [1, 0, 1, 0, 0]), .code (cd Try.prog 4 [1, 0, 1, 0, 1]), .code (cd Try.prog 4 [2])] [] (by as_aux_lemma => kernel_rfl) ?_
      refine WK.reg1 (l := sq 0 2) (by as_aux_lemma => kernel_rfl) (by as_aux_lemma => kernel_rfl) ?_
      refine RW.call (κ := .seq) (d := some 30) (r := (sq 1 2)) (g := 22) (args := #[]) (by as_aux_lemma => kernel_rfl) (nofun) (heads_spec (S := fun _ => True)) ?_
      rintro _ w5 hE6 rfl
      have H := H.ext hE6
      refine RW.fin 1 [6] [(6, .bool true)] (by as_aux_lemma => kernel_rfl) ?_
      refine WK.ret (v := .bool true) Try.func4 (by as_aux_lemma => kernel_rfl) (by as_aux_lemma => kernel_rfl) ?_
      exact ⟨_, rfl, H.done, rfl⟩
    · skip
      replace h4 := of_decide_eq_false h4
      refine RW.fin 4 [0, 1, 2, 29] [(0, .slice a xs.length c), (1, .int .i64 n), (2, .slice b ys.length d), (29, .bool (decide ((((xs.length : Nat) : Int) : Int) > 500)))] (by as_aux_lemma => kernel_rfl) ?_
      refine WK.cond1 (decide ((((xs.length : Nat) : Int) : Int) > 500)) (by as_aux_lemma => kernel_rfl) (by as_aux_lemma => kernel_rfl) (fun h7 => ?_) (fun h7 => ?_)
      · skip
        replace h7 := of_decide_eq_true h7
        refine WK.run 1 [] [.code (cd Try.prog 4 [1, 0, 1, 0, 0]), .code (cd Try.prog 4 [1, 0, 1, 0, 1]), .code (cd Try.prog 4 [2])] [] (by as_aux_lemma => kernel_rfl) ?_
        refine WK.reg1 (l := sq 0 2) (by as_aux_lemma => kernel_rfl) (by as_aux_lemma => kernel_rfl) ?_
        refine RW.call (κ := .seq) (d := some 30) (r := (sq 1 2)) (g := 22) (args := #[]) (by as_aux_lemma => kernel_rfl) (nofun) (heads_spec (S := fun _ => True)) ?_
        rintro _ w8 hE9 rfl
        have H := H.ext hE9
        refine RW.fin 1 [6] [(6, .bool true)] (by as_aux_lemma => kernel_rfl) ?_
        refine WK.ret (v := .bool true) Try.func4 (by as_aux_lemma => kernel_rfl) (by as_aux_lemma => kernel_rfl) ?_
        exact ⟨_, rfl, H.done, rfl⟩
      · skip
        replace h7 := of_decide_eq_false h7
        omega

set_option maxHeartbeats 4000000 in
theorem again_ok {S : Nat → Prop} {w : World} {n : Nat} {xs : List (BitVec 8)} {a : Option Addr} {c : Nat} (h : (Shape.slice (Shape.bv .u8 8)).rep S w [.slice a xs.length c] xs) {ys : List Int} {b : Option Addr} {d : Nat} (h2 : (Shape.slice (Shape.int .i64)).rep S w [.slice b ys.length d] ys) (hn : 1 ≤ n ∧ n ≤ 9) (hxl : xs.length ≤ 500) :
    Calls Try.prog 4 #[.slice a xs.length c, .int .i64 (n : Int), .slice b ys.length d] w (Ret fun v w' => Ext w w' ∧ v = .bool true) := by
  have hyl := Shape.slice_len h2
  refine WK.calls1 (fn := Try.f4) (n := 167) (σ := [(0, .slice a xs.length c), (1, .int .i64 (n : Int)), (2, .slice b ys.length d)]) Try.func4 rfl (by as_aux_lemma => kernel_rfl) (by as_aux_lemma => kernel_rfl) (by as_aux_lemma => kernel_rfl) ?_
  have H := Hp.startF (w := w) (S := S) (G := [Rp (Shape.slice (Shape.bv .u8 8)) [.slice a xs.length c] xs, Rp (Shape.slice (Shape.int .i64)) [.slice b ys.length d] ys]) (.rp h (.rp h2 .nil))
  refine WK.run 4 [0, 1, 2] [.code (cd Try.prog 4 [1, 0, 0]), .code (cd Try.prog 4 [1, 0, 1]), .code (cd Try.prog 4 [2])] [(0, .slice a xs.length c), (1, .int .i64 (n : Int)), (2, .slice b ys.length d)] (by as_aux_lemma => kernel_rfl) ?_
  refine WK.reg1 (l := sq 0 11) (by as_aux_lemma => kernel_rfl) (by as_aux_lemma => kernel_rfl) ?_
  refine RW.runP 3 [0, 1, 2, 21] (sq 3 11) [(0, .slice a xs.length c), (1, .int .i64 (n : Int)), (2, .slice b ys.length d), (21, .bool (decide (((n : Int) : Int) < 1)))] (by as_aux_lemma => kernel_rfl) (by as_aux_lemma => kernel_rfl) ?_
  refine RW.test (fun b_ => [(0, .slice a xs.length c), (1, .int .i64 (n : Int)), (2, .slice b ys.length d), (21, .bool b_)]) (decide (((n : Int) : Int) < 1)) (fun h1 => ?_) (fun h1 => ?_)
  · skip
    replace h1 := of_decide_eq_true h1
    omega
  · skip
    replace h1 := of_decide_eq_false h1
    refine RW.runP 4 [0, 1, 2, 25] (sq 7 11) [(0, .slice a xs.length c), (1, .int .i64 (n : Int)), (2, .slice b ys.length d), (25, .bool (decide (((n : Int) : Int) > 9)))] (by as_aux_lemma => kernel_rfl) (by as_aux_lemma => kernel_rfl) ?_
    refine RW.test (fun b_ => [(0, .slice a xs.length c), (1, .int .i64 (n : Int)), (2, .slice b ys.length d), (25, .bool b_)]) (decide (((n : Int) : Int) > 9)) (fun h2 => ?_) (fun h2 => ?_)
    · skip
      replace h2 := of_decide_eq_true h2
      omega
    · skip
      replace h2 := of_decide_eq_false h2
      refine RW.fin 4 [0, 1, 2, 29] [(0, .slice a xs.length c), (1, .int .i64 (n : Int)), (2, .slice b ys.length d), (29, .bool (decide ((((xs.length : Nat) : Int) : Int) > 500)))] (by as_aux_lemma => kernel_rfl) ?_
      refine WK.cond1 (decide ((((xs.length : Nat) : Int) : Int) > 500)) (by as_aux_lemma => kernel_rfl) (by as_aux_lemma => kernel_rfl) (fun h3 => ?_) (fun h3 => ?_)
      · skip
        replace h3 := of_decide_eq_true h3
        omega
      · skip
        replace h3 := of_decide_eq_false h3
        refine WK.run 7 [0, 1, 2, 7, 8] [.code (cd Try.prog 4 [3, 0, 1, 0]), .inBlock 0, .code (cd Try.prog 4 [4])] [(0, .slice a xs.length c), (1, .int .i64 (n : Int)), (2, .slice b ys.length d), (7, .slice none 0 0), (8, .int .i64 0)] (by as_aux_lemma => kernel_rfl) ?_
        have H := H.ownNil (Shape.int .i64) 3
        have H : Hp w S [] [] [⟨Shape.int .i64, 3, .slice none ((nodesL 0).length) 0, nodesL 0⟩] [Rp (Shape.slice (Shape.bv .u8 8)) [.slice a xs.length c] xs, Rp (Shape.slice (Shape.int .i64)) [.slice b ys.length d] ys] w := H
        refine WK.loop (α := Nat × Option Addr × Nat) (b := cd Try.prog 4 [3, 0, 1, 0, 0]) (by as_aux_lemma => kernel_rfl) (fun st_ => match st_ with | (k, na, nc) => [(0, .slice a xs.length c), (1, .int .i64 (n : Int)), (2, .slice b ys.length d), (7, .slice na ((nodesL k).length) nc), (8, .int .i64 (k : Int))]) (fun st_ w' => match st_ with | (k, na, nc) => Hp w S [] [] [⟨Shape.int .i64, 3, .slice na ((nodesL k).length) nc, nodesL k⟩] [Rp (Shape.slice (Shape.bv .u8 8)) [.slice a xs.length c] xs, Rp (Shape.slice (Shape.int .i64)) [.slice b ys.length d] ys] w' ∧ k ≤ n) (fun st_ => match st_ with | (k, na, nc) => n - k) (0, none, 0) ⟨H, by omega⟩ (rfl) ?_
        rintro ⟨k, na, nc⟩ w5 ⟨H, hinv0⟩ hback4
        refine WK.run 3 [0, 1, 2, 7, 8, 33] [.code (cd Try.prog 4 [3, 0, 1, 0, 0, 0, 1]), .code (cd Try.prog 4 [3, 0, 1, 0, 0, 1]), .inLoop (cd Try.prog 4 [3, 0, 1, 0, 0]), .inBlock 0, .code (cd Try.prog 4 [4])] [(0, .slice a xs.length c), (1, .int .i64 (n : Int)), (2, .slice b ys.length d), (7, .slice na ((nodesL k).length) nc), (8, .int .i64 (k : Int)), (33, .bool (decide (((k : Int) : Int) < (n : Int))))] (by as_aux_lemma => kernel_rfl) ?_
        refine WK.cond1 (decide (((k : Int) : Int) < (n : Int))) (by as_aux_lemma => kernel_rfl) (by as_aux_lemma => kernel_rfl) (fun h6 => ?_) (fun h6 => ?_)
        · skip
          replace h6 := of_decide_eq_true h6
          refine WK.run 3 [0, 1, 2, 7, 8] [.code (cd Try.prog 4 [3, 0, 1, 0, 0, 1, 0, 0]), .inBlock 1, .code (cd Try.prog 4 [3, 0, 1, 0, 0, 2]), .inLoop (cd Try.prog 4 [3, 0, 1, 0, 0]), .inBlock 0, .code (cd Try.prog 4 [4])] [(0, .slice a xs.length c), (1, .int .i64 (n : Int)), (2, .slice b ys.length d), (7, .slice na ((nodesL k).length) nc), (8, .int .i64 (k : Int))] (by as_aux_lemma => kernel_rfl) ?_
          refine WK.reg1 (l := sq 0 6) (by as_aux_lemma => kernel_rfl) (by as_aux_lemma => kernel_rfl) ?_
          refine RW.runP 2 [0, 1, 2, 7, 8, 36, 37] (sq 2 6) [(0, .slice a xs.length c), (1, .int .i64 (n : Int)), (2, .slice b ys.length d), (7, .slice na ((nodesL k).length) nc), (8, .int .i64 (k : Int)), (36, .slice na ((nodesL k).length) nc), (37, .int .i64 (k : Int))] (by as_aux_lemma => kernel_rfl) (by as_aux_lemma => kernel_rfl) ?_
          refine RW.wr64 (κ := .seq) (d := some 38) (r := (sq 3 6)) (t := 20 - (k : Int)) (by as_aux_lemma => kernel_rfl) (by omega) ?_
          refine RW.new (κ := .seq) (d := some 39) (r := (sq 4 6)) (o := .cells #[.int .i64 (20 - (k : Int))] 3 (0, 0)) (v := fun b => .slice (some ⟨b, 0, none⟩) 1 1) (fun b => by as_aux_lemma => kernel_rfl) (nofun) H ?_
          intro b7 w8 H
          have H := H.freeze 0 rfl (Shape.int .i64) ([20 - (k : Int)] : List Int) 1 (by simp [maxLen]) (by first | exact Nat.le_refl _ | simp) (EsP.cons (c := [.int .i64 (20 - (k : Int))]) (Shape.i64_in (by first | omega | (simp <;> omega)) (by first | omega | (simp <;> omega))) EsP.nil)
          have H : Hp w S [] [] [⟨Shape.int .i64, 3, .slice na ((nodesL k).length) nc, nodesL k⟩] [Rp (Shape.slice (Shape.int .i64)) [.slice (some ⟨b7, 0, none⟩) 1 1] ([20 - (k : Int)] : List Int), Rp (Shape.slice (Shape.bv .u8 8)) [.slice a xs.length c] xs, Rp (Shape.slice (Shape.int .i64)) [.slice b ys.length d] ys] _ := H
          refine RW.appendW (d := some 40) (r := (sq 5 6)) (T := 25) (ty := 25) (e := 3) (m := 1) (by_ := 8) (v := .slice na ((nodesL k).length) nc) (a2 := (some ⟨b7, 0, none⟩)) (l2 := 1) (c2 := 1) (zs := nodesL (k + 1)) (by as_aux_lemma => kernel_rfl) (by as_aux_lemma => kernel_rfl) rfl H 0 rfl 0 rfl (nodesL_succ k) (by rw [nodesL_len]; omega) ?_
          intro a9 c10 w12 H hc11
          have H : Hp w S [] [] [⟨Shape.int .i64, 3, .slice a9 ((nodesL (k + 1)).length) c10, nodesL (k + 1)⟩] [Rp (Shape.slice (Shape.int .i64)) [.slice (some ⟨b7, 0, none⟩) 1 1] ([20 - (k : Int)] : List Int), Rp (Shape.slice (Shape.bv .u8 8)) [.slice a xs.length c] xs, Rp (Shape.slice (Shape.int .i64)) [.slice b ys.length d] ys] _ := H
          refine RW.fin 1 [0, 1, 2, 7, 8] [(0, .slice a xs.length c), (1, .int .i64 (n : Int)), (2, .slice b ys.length d), (7, .slice a9 ((nodesL (k + 1)).length) c10), (8, .int .i64 (k : Int))] (by as_aux_lemma => kernel_rfl) ?_
          refine WK.run 1 [0, 1, 2, 7, 8] [.code (cd Try.prog 4 [3, 0, 1, 0, 0, 2]), .inLoop (cd Try.prog 4 [3, 0, 1, 0, 0]), .inBlock 0, .code (cd Try.prog 4 [4])] [(0, .slice a xs.length c), (1, .int .i64 (n : Int)), (2, .slice b ys.length d), (7, .slice a9 ((nodesL (k + 1)).length) c10), (8, .int .i64 (k : Int))] (by as_aux_lemma => kernel_rfl) ?_
          have H := H.pick [1, 2] rfl
          refine WK.reg1 (l := sq 0 3) (by as_aux_lemma => kernel_rfl) (by as_aux_lemma => kernel_rfl) ?_
          refine RW.runP 1 [0, 1, 2, 7, 8, 34] (sq 1 3) [(0, .slice a xs.length c), (1, .int .i64 (n : Int)), (2, .slice b ys.length d), (7, .slice a9 ((nodesL (k + 1)).length) c10), (8, .int .i64 (k : Int)), (34, .int .i64 (k : Int))] (by as_aux_lemma => kernel_rfl) (by as_aux_lemma => kernel_rfl) ?_
          refine RW.wr64 (κ := .seq) (d := some 35) (r := (sq 2 3)) (t := (k : Int) + 1) (by as_aux_lemma => kernel_rfl) (by omega) ?_
          refine RW.fin 1 [0, 1, 2, 7, 8] [(0, .slice a xs.length c), (1, .int .i64 (n : Int)), (2, .slice b ys.length d), (7, .slice a9 ((nodesL (k + 1)).length) c10), (8, .int .i64 ((k : Int) + 1))] (by as_aux_lemma => kernel_rfl) ?_
          exact WK.back (hback4 (k + 1, a9, c10) _ ⟨H, by omega⟩ (by first | omega | (simp only []; omega))) (by as_aux_lemma => kernel_rfl)
        · skip
          replace h6 := of_decide_eq_false h6
          have hkn : k = n := by omega
          rw [hkn] at H ⊢
          refine WK.run 2 [0, 1, 2, 7] [.code (cd Try.prog 4 [4, 0]), .code (cd Try.prog 4 [5])] [(0, .slice a xs.length c), (1, .int .i64 (n : Int)), (2, .slice b ys.length d), (7, .slice na ((nodesL n).length) nc)] (by as_aux_lemma => kernel_rfl) ?_
          refine WK.reg1 (l := sq 0 13) (by as_aux_lemma => kernel_rfl) (by as_aux_lemma => kernel_rfl) ?_
          refine RW.runP 4 [1, 2, 7, 42, 43, 45] (sq 4 13) [(1, .int .i64 (n : Int)), (2, .slice b ys.length d), (7, .slice na ((nodesL n).length) nc), (42, .slice a xs.length c), (43, .int .i64 (n : Int)), (45, .agg #[.int .i64 0, .int .u64 1, .slice na ((nodesL n).length) nc, .int .u64 0])] (by as_aux_lemma => kernel_rfl) (by as_aux_lemma => kernel_rfl) ?_
          have H : Hp w S [] [] [] [Rp (Shape.slice (Shape.int .i64)) [.slice na ((nodesL n).length) nc] (nodesL n), Rp (Shape.slice (Shape.bv .u8 8)) [.slice a xs.length c] xs, Rp (Shape.slice (Shape.int .i64)) [.slice b ys.length d] ys] _ := H.freezeW 0 rfl
          refine RW.call (κ := .seq) (d := some 46) (r := (sq 5 13)) (g := 18) (args := #[.int .u64 1, .int .u64 1, .string (⟨#[97]⟩), .slice a xs.length c, .int .i64 1, .int .i64 (n : Int), .agg #[.int .i64 0, .int .u64 1, .slice na ((nodesL n).length) nc, .int .u64 0], .int .i64 100]) (by as_aux_lemma => kernel_rfl) (nofun) (begin_ok (xs := xs) (R := ⟨0, 1, nodesL n, 0⟩) 1 1 (⟨#[97]⟩) (H.rp 1 rfl) (res_mk (Shape.int_mk (by decide)) (Shape.int_mk (by decide)) (H.rp 0 rfl) (Shape.int_mk (by decide))) 100 (by first | assumption | decide | (simp [maxLen]; done)) (by omega) (by omega) 1 n (by first | omega | (simp; done)) (by omega) (by omega) (by omega) (nodesL_len _) (by omega)) ?_
          rintro _ w13 hE17 ⟨cs14, a15, c16, rfl, hr18, hr19⟩
          have H0s := H
          replace hr18 : wrS.rep _ _ cs14 (aW xs n) := hr18
          obtain ⟨a3q20, k3q20, a4q20, k4q20, a5q20, k5q20, a6q20, k6q20, rfl, hf21, hf22, hf23, hf24, hf25, hf26, hf27, hf28, hf29, hf30⟩ := wr_open hr18
          have H := H.addN hE17 (F := Rp (Shape.slice msgS) [.slice a15 ((msgsOf (aW xs n)).length) c16] (msgsOf (aW xs n))) hr19
          have H := H.add (F := Rp (Shape.slice hdrS) [.slice a3q20 ((aW xs n).heads.length) k3q20] ((aW xs n).heads)) ((H0s.addN hE17 (F := Rp (Shape.slice hdrS) [.slice a3q20 ((aW xs n).heads.length) k3q20] ((aW xs n).heads)) hf24).rp 0 rfl)
          have H := H.add (F := Rp (Shape.slice (Shape.slice (Shape.bv .u8 8))) [.slice a4q20 ((aW xs n).chunks.length) k4q20] ((aW xs n).chunks)) ((H0s.addN hE17 (F := Rp (Shape.slice (Shape.slice (Shape.bv .u8 8))) [.slice a4q20 ((aW xs n).chunks.length) k4q20] ((aW xs n).chunks)) hf25).rp 0 rfl)
          have H := H.add (F := Rp (Shape.slice (Shape.int .i64)) [.slice a5q20 ((aW xs n).nodes.length) k5q20] ((aW xs n).nodes)) ((H0s.addN hE17 (F := Rp (Shape.slice (Shape.int .i64)) [.slice a5q20 ((aW xs n).nodes.length) k5q20] ((aW xs n).nodes)) hf26).rp 0 rfl)
          have H := H.add (F := Rp (Shape.slice (Shape.int .i64)) [.slice a6q20 ((aW xs n).acks.length) k6q20] ((aW xs n).acks)) ((H0s.addN hE17 (F := Rp (Shape.slice (Shape.int .i64)) [.slice a6q20 ((aW xs n).acks.length) k6q20] ((aW xs n).acks)) hf27).rp 0 rfl)
          refine RW.runP 4 [1, 2, 7, 47, 48, 49] (sq 9 13) [(1, .int .i64 (n : Int)), (2, .slice b ys.length d), (7, .slice na ((nodesL n).length) nc), (47, .agg (wrV (aW xs n) a3q20 k3q20 a4q20 k4q20 a5q20 k5q20 a6q20 k6q20).toArray), (48, .slice a15 ((msgsOf (aW xs n)).length) c16), (49, .int .i64 0)] (by as_aux_lemma => kernel_rfl) (by as_aux_lemma => kernel_rfl) ?_
          refine RW.new (κ := .seq) (d := some 9) (r := (sq 10 13)) (o := .cells (wrZ).toArray 32 (0, 0)) (v := fun b => .pointer (some ⟨b, 0, none⟩)) (fun b => by as_aux_lemma => kernel_rfl) (nofun) H ?_
          intro b31 w32 H
          refine RW.store (d := none) (r := (sq 11 13)) (T := 32) (b := b31) (k := 0) (v := .agg (wrV (aW xs n) a3q20 k3q20 a4q20 k4q20 a5q20 k5q20 a6q20 k6q20).toArray) (c' := (wrV (aW xs n) a3q20 k3q20 a4q20 k4q20 a5q20 k5q20 a6q20 k6q20).toArray) (M' := [(b31, .cells (wrV (aW xs n) a3q20 k3q20 a4q20 k4q20 a5q20 k5q20 a6q20 k6q20).toArray 32 (0, 0))]) (by as_aux_lemma => kernel_rfl) H 0 rfl (by as_aux_lemma => kernel_rfl) (by as_aux_lemma => kernel_rfl) ?_
          intro w33 H
          refine RW.fin 2 [1, 2, 7, 9, 10, 11] [(1, .int .i64 (n : Int)), (2, .slice b ys.length d), (7, .slice na ((nodesL n).length) nc), (9, .pointer (some ⟨b31, 0, none⟩)), (10, .slice a15 ((msgsOf (aW xs n)).length) c16), (11, .int .i64 0)] (by as_aux_lemma => kernel_rfl) ?_
          refine WK.run 3 [1, 2, 7, 9, 10, 57] [.code (cd Try.prog 4 [5, 0, 1]), .code (cd Try.prog 4 [6])] [(1, .int .i64 (n : Int)), (2, .slice b ys.length d), (7, .slice na ((nodesL n).length) nc), (9, .pointer (some ⟨b31, 0, none⟩)), (10, .slice a15 ((msgsOf (aW xs n)).length) c16), (57, .bool ((((msgsOf (aW xs n)).length : Nat) : Int) != (n : Int)))] (by as_aux_lemma => kernel_rfl) ?_
          refine WK.cond1 ((((msgsOf (aW xs n)).length : Nat) : Int) != (n : Int)) (by as_aux_lemma => kernel_rfl) (by as_aux_lemma => kernel_rfl) (fun h34 => ?_) (fun h34 => ?_)
          · skip
            replace h34 := bne_iff_ne.1 h34
            exact absurd (by rw [msgs_all_len hn.1]) h34
          · skip
            replace h34 := (bne_eq_false_iff_eq.1 h34)
            refine WK.run 7 [1, 2, 7, 9, 10, 12, 13] [.code (cd Try.prog 4 [7, 0, 1, 0]), .inBlock 2, .code (cd Try.prog 4 [8])] [(1, .int .i64 (n : Int)), (2, .slice b ys.length d), (7, .slice na ((nodesL n).length) nc), (9, .pointer (some ⟨b31, 0, none⟩)), (10, .slice a15 ((msgsOf (aW xs n)).length) c16), (12, .slice none 0 0), (13, .int .i64 0)] (by as_aux_lemma => kernel_rfl) ?_
            have H := H.ownNil (Shape.int .i64) 3
            have H : Hp w S [] [(b31, .cells (wrV (aW xs n) a3q20 k3q20 a4q20 k4q20 a5q20 k5q20 a6q20 k6q20).toArray 32 (0, 0))] [⟨Shape.int .i64, 3, .slice none (([] : List Int).length) 0, ([] : List Int)⟩] [Rp (Shape.slice (Shape.int .i64)) [.slice a6q20 ((aW xs n).acks.length) k6q20] ((aW xs n).acks), Rp (Shape.slice (Shape.int .i64)) [.slice a5q20 ((aW xs n).nodes.length) k5q20] ((aW xs n).nodes), Rp (Shape.slice (Shape.slice (Shape.bv .u8 8))) [.slice a4q20 ((aW xs n).chunks.length) k4q20] ((aW xs n).chunks), Rp (Shape.slice hdrS) [.slice a3q20 ((aW xs n).heads.length) k3q20] ((aW xs n).heads), Rp (Shape.slice msgS) [.slice a15 ((msgsOf (aW xs n)).length) c16] (msgsOf (aW xs n)), Rp (Shape.slice (Shape.int .i64)) [.slice na ((nodesL n).length) nc] (nodesL n), Rp (Shape.slice (Shape.bv .u8 8)) [.slice a xs.length c] xs, Rp (Shape.slice (Shape.int .i64)) [.slice b ys.length d] ys] w33 := H
            have H := H.pick [3, 2, 1, 0, 4, 5, 7] (G' := [Rp (Shape.slice hdrS) [.slice a3q20 (aW xs n).heads.length k3q20] (aW xs n).heads, Rp (Shape.slice (Shape.slice (Shape.bv .u8 8))) [.slice a4q20 (aW xs n).chunks.length k4q20] (aW xs n).chunks, Rp (Shape.slice (Shape.int .i64)) [.slice a5q20 (aW xs n).nodes.length k5q20] (aW xs n).nodes, Rp (Shape.slice (Shape.int .i64)) [.slice a6q20 (aW xs n).acks.length k6q20] (aW xs n).acks, Rp (Shape.slice msgS) [.slice a15 ((msgsOf (aW xs n)).length) c16] (msgsOf (aW xs n)), Rp (Shape.slice (Shape.int .i64)) [.slice na ((nodesL n).length) nc] (nodesL n), Rp (Shape.slice (Shape.int .i64)) [.slice b ys.length d] ys]) rfl
            refine WK.loop (α := Nat × Wr × List Int × Option Addr × Nat × Option Addr × Nat × Option Addr × Nat × Option Addr × Nat × Option Addr × Nat) (b := cd Try.prog 4 [7, 0, 1, 0, 0]) (by as_aux_lemma => kernel_rfl) (fun st_ => match st_ with | (i, D, seen, a3q, k3q, a4q, k4q, a5q, k5q, a6q, k6q, sa, sc) => [(1, .int .i64 (n : Int)), (2, .slice b ys.length d), (7, .slice na ((nodesL n).length) nc), (9, .pointer (some ⟨b31, 0, none⟩)), (10, .slice a15 ((msgsOf (aW xs n)).length) c16), (12, .slice sa seen.length sc), (13, .int .i64 (i : Int))]) (fun st_ w' => match st_ with | (i, D, seen, a3q, k3q, a4q, k4q, a5q, k5q, a6q, k6q, sa, sc) => Hp w S [] [(b31, .cells (wrV D a3q k3q a4q k4q a5q k5q a6q k6q).toArray 32 (0, 0))] [⟨Shape.int .i64, 3, .slice sa seen.length sc, seen⟩] [Rp (Shape.slice hdrS) [.slice a3q D.heads.length k3q] D.heads, Rp (Shape.slice (Shape.slice (Shape.bv .u8 8))) [.slice a4q D.chunks.length k4q] D.chunks, Rp (Shape.slice (Shape.int .i64)) [.slice a5q D.nodes.length k5q] D.nodes, Rp (Shape.slice (Shape.int .i64)) [.slice a6q D.acks.length k6q] D.acks, Rp (Shape.slice msgS) [.slice a15 ((msgsOf (aW xs n)).length) c16] (msgsOf (aW xs n)), Rp (Shape.slice (Shape.int .i64)) [.slice na ((nodesL n).length) nc] (nodesL n), Rp (Shape.slice (Shape.int .i64)) [.slice b ys.length d] ys] w' ∧ i ≤ ys.length ∧ D = aD xs n seen 0 ∧ seen.Nodup ∧ (∀ x ∈ seen, 0 ≤ x ∧ x < (n : Int)) ∧ seen.length < n) (fun st_ => match st_ with | (i, D, seen, a3q, k3q, a4q, k4q, a5q, k5q, a6q, k6q, sa, sc) => ys.length - i) (0, aW xs n, ([] : List Int), a3q20, k3q20, a4q20, k4q20, a5q20, k5q20, a6q20, k6q20, none, 0) ⟨H, by omega, aW_D xs n, List.nodup_nil, fun x h => (by cases h), by simp only [List.length_nil]; omega⟩ (rfl) ?_
            rintro ⟨i, D, seen, a3q, k3q, a4q, k4q, a5q, k5q, a6q, k6q, sa, sc⟩ w36 ⟨H, hinv1⟩ hback35
            have hDe := hinv1.2.1
            obtain ⟨hq1, hq2, hq3, hq4, hq5, hq6⟩ := aD_bd (xs := xs) (n := n) (seen := seen) (t := 0) (by omega)
            have hq7 := aD_heads (xs := xs) (n := n) (seen := seen) (t := 0) hn.1
            have hcb := aD_cb (xs := xs) (n := n) (seen := seen) (t := 0) (by omega)
            rw [← hDe] at hq1 hq2 hq3 hq4 hq5 hq6 hq7 hcb
            refine WK.run 2 [1, 2, 7, 9, 10, 12, 13] [.code (cd Try.prog 4 [7, 0, 1, 0, 0, 0, 0]), .code (cd Try.prog 4 [7, 0, 1, 0, 0, 0, 1]), .code (cd Try.prog 4 [7, 0, 1, 0, 0, 1]), .inLoop (cd Try.prog 4 [7, 0, 1, 0, 0]), .inBlock 2, .code (cd Try.prog 4 [8])] [(1, .int .i64 (n : Int)), (2, .slice b ys.length d), (7, .slice na ((nodesL n).length) nc), (9, .pointer (some ⟨b31, 0, none⟩)), (10, .slice a15 ((msgsOf (aW xs n)).length) c16), (12, .slice sa seen.length sc), (13, .int .i64 (i : Int))] (by as_aux_lemma => kernel_rfl) ?_
            refine WK.join (fun b_ : Bool => b_ = decide ((i < ys.length ∧ i < 50) ∧ seen.length + 1 < n)) (fun b_ => [(1, .int .i64 (n : Int)), (2, .slice b ys.length d), (7, .slice na ((nodesL n).length) nc), (9, .pointer (some ⟨b31, 0, none⟩)), (10, .slice a15 ((msgsOf (aW xs n)).length) c16), (12, .slice sa seen.length sc), (13, .int .i64 (i : Int)), (72, .bool b_)]) [.code (cd Try.prog 4 [7, 0, 1, 0, 0, 0, 1]), .code (cd Try.prog 4 [7, 0, 1, 0, 0, 1]), .inLoop (cd Try.prog 4 [7, 0, 1, 0, 0]), .inBlock 2, .code (cd Try.prog 4 [8])] (fun hJ37 => ?_) (fun bj38 hbj39 => ?_)
            · skip
              refine WK.reg1 (l := sq 0 15) (by as_aux_lemma => kernel_rfl) (by as_aux_lemma => kernel_rfl) ?_
              refine RW.runP 5 [1, 2, 7, 9, 10, 12, 13, 62] (sq 5 15) [(1, .int .i64 (n : Int)), (2, .slice b ys.length d), (7, .slice na ((nodesL n).length) nc), (9, .pointer (some ⟨b31, 0, none⟩)), (10, .slice a15 ((msgsOf (aW xs n)).length) c16), (12, .slice sa seen.length sc), (13, .int .i64 (i : Int)), (62, .bool (decide (((i : Int) : Int) < ((ys.length : Nat) : Int))))] (by as_aux_lemma => kernel_rfl) (by as_aux_lemma => kernel_rfl) ?_
              refine RW.test (fun b_ => [(1, .int .i64 (n : Int)), (2, .slice b ys.length d), (7, .slice na ((nodesL n).length) nc), (9, .pointer (some ⟨b31, 0, none⟩)), (10, .slice a15 ((msgsOf (aW xs n)).length) c16), (12, .slice sa seen.length sc), (13, .int .i64 (i : Int)), (62, .bool b_)]) (decide (((i : Int) : Int) < ((ys.length : Nat) : Int))) (fun h40 => ?_) (fun h40 => ?_)
              · skip
                replace h40 := of_decide_eq_true h40
                refine RW.runP 4 [1, 2, 7, 9, 10, 12, 13, 66] (sq 9 15) [(1, .int .i64 (n : Int)), (2, .slice b ys.length d), (7, .slice na ((nodesL n).length) nc), (9, .pointer (some ⟨b31, 0, none⟩)), (10, .slice a15 ((msgsOf (aW xs n)).length) c16), (12, .slice sa seen.length sc), (13, .int .i64 (i : Int)), (66, .bool (decide (((i : Int) : Int) < 50)))] (by as_aux_lemma => kernel_rfl) (by as_aux_lemma => kernel_rfl) ?_
                refine RW.test (fun b_ => [(1, .int .i64 (n : Int)), (2, .slice b ys.length d), (7, .slice na ((nodesL n).length) nc), (9, .pointer (some ⟨b31, 0, none⟩)), (10, .slice a15 ((msgsOf (aW xs n)).length) c16), (12, .slice sa seen.length sc), (13, .int .i64 (i : Int)), (66, .bool b_)]) (decide (((i : Int) : Int) < 50)) (fun h41 => ?_) (fun h41 => ?_)
                · skip
                  replace h41 := of_decide_eq_true h41
                  refine RW.runP 3 [1, 2, 7, 9, 10, 12, 13, 66, 68, 69] (sq 12 15) [(1, .int .i64 (n : Int)), (2, .slice b ys.length d), (7, .slice na ((nodesL n).length) nc), (9, .pointer (some ⟨b31, 0, none⟩)), (10, .slice a15 ((msgsOf (aW xs n)).length) c16), (12, .slice sa seen.length sc), (13, .int .i64 (i : Int)), (66, .bool true), (68, .int .i64 ((seen.length : Nat) : Int)), (69, .int .i64 (n : Int))] (by as_aux_lemma => kernel_rfl) (by as_aux_lemma => kernel_rfl) ?_
                  refine RW.wr64 (κ := .seq) (d := some 70) (r := (sq 13 15)) (t := (n : Int) - 1) (by as_aux_lemma => kernel_rfl) (by omega) ?_
                  refine RW.fin 2 [1, 2, 7, 9, 10, 12, 13, 72] [(1, .int .i64 (n : Int)), (2, .slice b ys.length d), (7, .slice na ((nodesL n).length) nc), (9, .pointer (some ⟨b31, 0, none⟩)), (10, .slice a15 ((msgsOf (aW xs n)).length) c16), (12, .slice sa seen.length sc), (13, .int .i64 (i : Int)), (72, .bool (decide ((((seen.length : Nat) : Int) : Int) < (n : Int) - 1)))] (by as_aux_lemma => kernel_rfl) ?_
                  exact hJ37 (decide ((((seen.length : Nat) : Int) : Int) < (n : Int) - 1)) (decide_eq_decide.2 (by constructor <;> intro _ <;> omega))
                · skip
                  replace h41 := of_decide_eq_false h41
                  refine RW.fin 6 [1, 2, 7, 9, 10, 12, 13, 72] [(1, .int .i64 (n : Int)), (2, .slice b ys.length d), (7, .slice na ((nodesL n).length) nc), (9, .pointer (some ⟨b31, 0, none⟩)), (10, .slice a15 ((msgsOf (aW xs n)).length) c16), (12, .slice sa seen.length sc), (13, .int .i64 (i : Int)), (72, .bool false)] (by as_aux_lemma => kernel_rfl) ?_
                  exact hJ37 false ((decide_eq_false (by omega)).symm)
              · skip
                replace h40 := of_decide_eq_false h40
                refine RW.fin 10 [1, 2, 7, 9, 10, 12, 13, 72] [(1, .int .i64 (n : Int)), (2, .slice b ys.length d), (7, .slice na ((nodesL n).length) nc), (9, .pointer (some ⟨b31, 0, none⟩)), (10, .slice a15 ((msgsOf (aW xs n)).length) c16), (12, .slice sa seen.length sc), (13, .int .i64 (i : Int)), (72, .bool false)] (by as_aux_lemma => kernel_rfl) ?_
                exact hJ37 false ((decide_eq_false (by omega)).symm)
            · skip
              refine WK.cond1 bj38 (by as_aux_lemma => kernel_rfl) (by as_aux_lemma => kernel_rfl) (fun h42 => ?_) (fun h42 => ?_)
              · skip
                rw [hbj39] at h42
                replace h42 := of_decide_eq_true h42
                refine WK.run 4 [1, 2, 7, 9, 10, 12, 13] [.code (cd Try.prog 4 [7, 0, 1, 0, 0, 1, 0, 0, 0]), .code (cd Try.prog 4 [7, 0, 1, 0, 0, 1, 0, 0, 1]), .inBlock 3, .code (cd Try.prog 4 [7, 0, 1, 0, 0, 2]), .inLoop (cd Try.prog 4 [7, 0, 1, 0, 0]), .inBlock 2, .code (cd Try.prog 4 [8])] [(1, .int .i64 (n : Int)), (2, .slice b ys.length d), (7, .slice na ((nodesL n).length) nc), (9, .pointer (some ⟨b31, 0, none⟩)), (10, .slice a15 ((msgsOf (aW xs n)).length) c16), (12, .slice sa seen.length sc), (13, .int .i64 (i : Int))] (by as_aux_lemma => kernel_rfl) ?_
                refine WK.reg1 (l := sq 0 10) (by as_aux_lemma => kernel_rfl) (by as_aux_lemma => kernel_rfl) ?_
                refine RW.runP 2 [1, 2, 7, 9, 10, 12, 13, 75, 76] (sq 2 10) [(1, .int .i64 (n : Int)), (2, .slice b ys.length d), (7, .slice na ((nodesL n).length) nc), (9, .pointer (some ⟨b31, 0, none⟩)), (10, .slice a15 ((msgsOf (aW xs n)).length) c16), (12, .slice sa seen.length sc), (13, .int .i64 (i : Int)), (75, .slice b ys.length d), (76, .int .i64 (i : Int))] (by as_aux_lemma => kernel_rfl) (by as_aux_lemma => kernel_rfl) ?_
                have hx43 : i < ys.length := by omega
                refine RW.index (κ := .seq) (d := some 77) (r := (sq 3 10)) (T := 25) (e := 3) (ik := .i64) (ix := (i : Int)) (sh := (Shape.int .i64)) (x := ys[i]) (by as_aux_lemma => kernel_rfl) (by as_aux_lemma => kernel_rfl) H 6 rfl i (by omega) (List.getElem?_eq_getElem hx43) ?_
                intro b44 o45 es46 hr47 H
                have hb48 := Shape.i64_bd hr47
                obtain ⟨rfl, -⟩ := hr47
                refine RW.load (κ := .seq) (d := some 78) (r := (sq 4 10)) (T := 3) (b := b44) (o' := o45) (k := 0) (v := .int .i64 (ys[i])) (by as_aux_lemma => kernel_rfl) (H.fc 0 rfl) rfl (by as_aux_lemma => kernel_rfl) ?_
                refine RW.pv (κ := .seq) (d := some 79) (r := (sq 5 10)) (v' := .int .u64 ((ys[i]) % 18446744073709551616)) (v := .int .u64 (IntKind.u64.wrap (ys[i]))) (by as_aux_lemma => kernel_rfl) (by rw [IntKind.wrap_u64]) ?_
                refine RW.runP 1 [1, 2, 7, 9, 10, 12, 13, 79, 80] (sq 6 10) [(1, .int .i64 (n : Int)), (2, .slice b ys.length d), (7, .slice na ((nodesL n).length) nc), (9, .pointer (some ⟨b31, 0, none⟩)), (10, .slice a15 ((msgsOf (aW xs n)).length) c16), (12, .slice sa seen.length sc), (13, .int .i64 (i : Int)), (79, .int .u64 ((ys[i]) % 18446744073709551616)), (80, .int .i64 (n : Int))] (by as_aux_lemma => kernel_rfl) (by as_aux_lemma => kernel_rfl) ?_
                refine RW.pv (κ := .seq) (d := some 81) (r := (sq 7 10)) (v := .int .u64 (IntKind.u64.wrap ((n : Int)))) (v' := .int .u64 ((n : Int))) (by as_aux_lemma => kernel_rfl) (wr_u64 (by omega)) ?_
                refine RW.readS (κ := .seq) (d := some 82) (r := (sq 8 10)) (s := semV (Op.intDiv .rem .u64 ((ys[i]) % 18446744073709551616) (n : Int))) (v := .int .u64 (((ys[i]) % 18446744073709551616) % (n : Int))) (by as_aux_lemma => kernel_rfl) (fun w' _ => semV_run (rem_run_u64 (by omega) (by omega))) ?_
                have hm0 := Int.emod_nonneg (((ys[i]) % 18446744073709551616)) (show (n : Int) ≠ 0 by omega)
                have hm1 := Int.emod_lt_of_pos (((ys[i]) % 18446744073709551616)) (show (0 : Int) < n by omega)
                obtain ⟨c, hc⟩ : ∃ c : Nat, ((ys[i]) % 18446744073709551616) % (n : Int) = (c : Int) := ⟨(((ys[i]) % 18446744073709551616) % (n : Int)).toNat, by omega⟩
                have hcn : c < n := by omega
                refine RW.pv (κ := .seq) (d := some 83) (r := (sq 9 10)) (v := .int .i64 (IntKind.i64.wrap (((ys[i]) % 18446744073709551616) % (n : Int)))) (v' := .int .i64 (c : Int)) (by as_aux_lemma => kernel_rfl) (by rw [hc]; exact wr_i64 (by omega)) ?_
                refine RW.fin 1 [1, 2, 7, 9, 10, 12, 13, 14] [(1, .int .i64 (n : Int)), (2, .slice b ys.length d), (7, .slice na ((nodesL n).length) nc), (9, .pointer (some ⟨b31, 0, none⟩)), (10, .slice a15 ((msgsOf (aW xs n)).length) c16), (12, .slice sa seen.length sc), (13, .int .i64 (i : Int)), (14, .int .i64 (c : Int))] (by as_aux_lemma => kernel_rfl) ?_
                refine WK.run 1 [1, 2, 7, 9, 10, 12, 13, 14] [.code (cd Try.prog 4 [7, 0, 1, 0, 0, 1, 0, 0, 1, 0]), .code (cd Try.prog 4 [7, 0, 1, 0, 0, 1, 0, 0, 2]), .inBlock 3, .code (cd Try.prog 4 [7, 0, 1, 0, 0, 2]), .inLoop (cd Try.prog 4 [7, 0, 1, 0, 0]), .inBlock 2, .code (cd Try.prog 4 [8])] [(1, .int .i64 (n : Int)), (2, .slice b ys.length d), (7, .slice na ((nodesL n).length) nc), (9, .pointer (some ⟨b31, 0, none⟩)), (10, .slice a15 ((msgsOf (aW xs n)).length) c16), (12, .slice sa seen.length sc), (13, .int .i64 (i : Int)), (14, .int .i64 (c : Int))] (by as_aux_lemma => kernel_rfl) ?_
                have H := H.pick [1, 2, 3, 4, 5, 6, 7] rfl
                refine WK.drawH1 [b31] (.leaf [(1, .qui), (2, .qui), (3, .qui), (4, .qui), (5, .qui), (6, .qui), (7, .qui), (8, .qui), (9, .qui), (10, .qui), (0, .seq), (11, .seq), (12, .qui), (13, .qui), (14, .qui), (15, .seq)]) Try_mixed (by as_aux_lemma => kernel_rfl) (by as_aux_lemma => kernel_rfl) ?_
                intro w49 hw50
                have H := H.draw
                rw [← hw50] at H
                clear hw50
                have hS := Chg.refl w49 [b31]
                refine RG.leaf' [(1, .qui), (2, .qui), (3, .qui), (4, .qui), (5, .qui), (6, .qui), (7, .qui), (8, .qui), (9, .qui), (10, .qui), (0, .seq), (11, .seq), (12, .qui), (13, .qui), (14, .qui), (15, .seq)] (by as_aux_lemma => kernel_rfl) ?_
                refine RH.runP hS 2 [1, 2, 7, 9, 10, 12, 13, 14, 86, 87] [(3, .qui), (4, .qui), (5, .qui), (6, .qui), (7, .qui), (8, .qui), (9, .qui), (10, .qui), (0, .seq), (11, .seq), (12, .qui), (13, .qui), (14, .qui), (15, .seq)] [(1, .int .i64 (n : Int)), (2, .slice b ys.length d), (7, .slice na ((nodesL n).length) nc), (9, .pointer (some ⟨b31, 0, none⟩)), (10, .slice a15 ((msgsOf (aW xs n)).length) c16), (12, .slice sa seen.length sc), (13, .int .i64 (i : Int)), (14, .int .i64 (c : Int)), (86, .slice na ((nodesL n).length) nc), (87, .int .i64 (c : Int))] (by as_aux_lemma => kernel_rfl) (by as_aux_lemma => kernel_rfl) ?_
                have hx51 : c < (nodesL n).length := by rw [nodesL_len]; exact hcn
                refine RH.index (d := some 88) (r := [(4, .qui), (5, .qui), (6, .qui), (7, .qui), (8, .qui), (9, .qui), (10, .qui), (0, .seq), (11, .seq), (12, .qui), (13, .qui), (14, .qui), (15, .seq)]) (T := 25) (e := 3) (ik := .i64) (ix := (c : Int)) (sh := (Shape.int .i64)) (x := (20 - (c : Int))) (by as_aux_lemma => kernel_rfl) hS (by as_aux_lemma => kernel_rfl) H 5 rfl c (by omega) (nodesL_get hcn) ?_
                intro b52 o53 es54 hr55 H
                have hb56 := Shape.i64_bd hr55
                obtain ⟨rfl, -⟩ := hr55
                refine RH.load (d := some 89) (r := [(5, .qui), (6, .qui), (7, .qui), (8, .qui), (9, .qui), (10, .qui), (0, .seq), (11, .seq), (12, .qui), (13, .qui), (14, .qui), (15, .seq)]) (T := 3) (b := b52) (o' := o53) (k := 0) (v := .int .i64 (20 - (c : Int))) (by as_aux_lemma => kernel_rfl) hS (H.fc 0 rfl) (by intro hq; simp only [List.mem_cons, List.not_mem_nil, or_false] at hq; exact H.fcne 0 rfl 0 rfl hq) (by simp) rfl (by as_aux_lemma => kernel_rfl) ?_
                refine RH.runP hS 2 [1, 2, 7, 9, 10, 12, 13, 14, 89, 90, 91] [(7, .qui), (8, .qui), (9, .qui), (10, .qui), (0, .seq), (11, .seq), (12, .qui), (13, .qui), (14, .qui), (15, .seq)] [(1, .int .i64 (n : Int)), (2, .slice b ys.length d), (7, .slice na ((nodesL n).length) nc), (9, .pointer (some ⟨b31, 0, none⟩)), (10, .slice a15 ((msgsOf (aW xs n)).length) c16), (12, .slice sa seen.length sc), (13, .int .i64 (i : Int)), (14, .int .i64 (c : Int)), (89, .int .i64 (20 - (c : Int))), (90, .slice a15 ((msgsOf (aW xs n)).length) c16), (91, .int .i64 (c : Int))] (by as_aux_lemma => kernel_rfl) (by as_aux_lemma => kernel_rfl) ?_
                have hx57 : c < (msgsOf (aW xs n)).length := by rw [msgs_all_len hn.1]; exact hcn
                refine RH.index (d := some 92) (r := [(8, .qui), (9, .qui), (10, .qui), (0, .seq), (11, .seq), (12, .qui), (13, .qui), (14, .qui), (15, .seq)]) (T := 33) (e := 57) (ik := .i64) (ix := (c : Int)) (sh := msgS) (x := prepOf (aW xs n) c) (by as_aux_lemma => kernel_rfl) hS (by as_aux_lemma => kernel_rfl) H 5 rfl c (by omega) (msgs_all hn.1 hcn) ?_
                intro b58 o59 es60 hr61 H
                obtain ⟨a10q62, k10q62, cs11q62, cs12q62, a13q62, k13q62, a19q62, k19q62, rfl, hf63, hf64, hf65, hf66, hf67, hf68, hf69, hf70, hf71, hf72, hf73, hf74, hf75, hf76, hf77, hf78, hf79, hf80⟩ := msg_open hr61
                obtain ⟨a0q81, k0q81, a1q81, k1q81, rfl, hf82, hf83⟩ := conf_open hf72
                obtain ⟨cs0q84, rfl, hf85, hf86, hf87, hf88⟩ := hdr_open hf73
                obtain ⟨rfl, hf90, hf91, hf92⟩ := cid_open hf85
                have H := H.add (F := Rp (Shape.slice entS) [.slice a10q62 ((prepOf (aW xs n) c).entries.length) k10q62] ((prepOf (aW xs n) c).entries)) hf71
                have H := H.add (F := Rp (Shape.slice (Shape.int .i64)) [.slice a0q81 (((prepOf (aW xs n) c).conf).voters.length) k0q81] (((prepOf (aW xs n) c).conf).voters)) hf82
                have H := H.add (F := Rp (Shape.slice (Shape.int .i64)) [.slice a1q81 (((prepOf (aW xs n) c).conf).learners.length) k1q81] (((prepOf (aW xs n) c).conf).learners)) hf83
                have H := H.add (F := Rp (Shape.slice (Shape.bv .u8 8)) [.slice a13q62 ((prepOf (aW xs n) c).data.length) k13q62] ((prepOf (aW xs n) c).data)) hf74
                have H := H.add (F := Rp (Shape.slice Shape.str) [.slice a19q62 ((prepOf (aW xs n) c).names.length) k19q62] ((prepOf (aW xs n) c).names)) hf80
                refine RH.runP hS 1 [1, 2, 7, 9, 10, 12, 13, 14, 89, 93] [(9, .qui), (10, .qui), (0, .seq), (11, .seq), (12, .qui), (13, .qui), (14, .qui), (15, .seq)] [(1, .int .i64 (n : Int)), (2, .slice b ys.length d), (7, .slice na ((nodesL n).length) nc), (9, .pointer (some ⟨b31, 0, none⟩)), (10, .slice a15 ((msgsOf (aW xs n)).length) c16), (12, .slice sa seen.length sc), (13, .int .i64 (i : Int)), (14, .int .i64 (c : Int)), (89, .int .i64 (20 - (c : Int))), (93, .pointer (some ⟨b58, o59 + 13, none⟩))] (by as_aux_lemma => kernel_rfl) (by as_aux_lemma => kernel_rfl) ?_
                refine RH.load (d := some 94) (r := [(10, .qui), (0, .seq), (11, .seq), (12, .qui), (13, .qui), (14, .qui), (15, .seq)]) (T := 53) (b := b58) (o' := o59 + 13) (k := 13) (v := .agg (hdrV ((prepOf (aW xs n) c).head)).toArray) (by as_aux_lemma => kernel_rfl) hS (H.fc 5 rfl) (by intro hq; simp only [List.mem_cons, List.not_mem_nil, or_false] at hq; exact H.fcne 5 rfl 0 rfl hq) (by simp) rfl (by as_aux_lemma => kernel_rfl) ?_
                refine RH.runP hS 1 [1, 2, 7, 9, 10, 12, 13, 14, 95] [(0, .seq), (11, .seq), (12, .qui), (13, .qui), (14, .qui), (15, .seq)] [(1, .int .i64 (n : Int)), (2, .slice b ys.length d), (7, .slice na ((nodesL n).length) nc), (9, .pointer (some ⟨b31, 0, none⟩)), (10, .slice a15 ((msgsOf (aW xs n)).length) c16), (12, .slice sa seen.length sc), (13, .int .i64 (i : Int)), (14, .int .i64 (c : Int)), (95, .agg #[.int .i64 10, .int .i64 (20 - (c : Int)), .int .i64 0, .int .u64 0, .int .u64 0, .int .u64 0, .int .u64 0, .int .u64 0, .bool true, .bool false, .slice none 0 0, .slice none 0 0, .slice none 0 0, .int .u64 ((((prepOf (aW xs n) c).head).id).version), .int .i64 ((((prepOf (aW xs n) c).head).id).index), .int .u64 ((((prepOf (aW xs n) c).head).id).epoch), .int .i64 (((prepOf (aW xs n) c).head).kk), .int .i64 (((prepOf (aW xs n) c).head).nn), .int .i64 (((prepOf (aW xs n) c).head).size), .int .u32 (((((prepOf (aW xs n) c).head).sum).toNat : Nat) : Int), .slice none 0 0, .int .u64 0, .int .u64 0, .int .i64 0, .string (⟨#[]⟩), .int .i64 0, .slice none 0 0])] (by as_aux_lemma => kernel_rfl) (by as_aux_lemma => kernel_rfl) ?_
                have Hr := H
                refine RH.chn hS ?_
                refine RW.load (κ := .chn) (d := some 85) (r := []) (T := 32) (b := b31) (o' := 0) (k := 0) (v := .agg (wrV D a3q k3q a4q k4q a5q k5q a6q k6q).toArray) (by as_aux_lemma => kernel_rfl) (H.cells 0 rfl) rfl (by as_aux_lemma => kernel_rfl) ?_
                intro hS
                have Hr := H
                refine RH.chn hS ?_
                -- call
                refine RW.call (κ := .chn) (d := some 96) (r := []) (g := 23) (args := #[.agg (wrV D a3q k3q a4q k4q a5q k5q a6q k6q).toArray, .agg #[.int .i64 10, .int .i64 (20 - (c : Int)), .int .i64 0, .int .u64 0, .int .u64 0, .int .u64 0, .int .u64 0, .int .u64 0, .bool true, .bool false, .slice none 0 0, .slice none 0 0, .slice none 0 0, .int .u64 ((((prepOf (aW xs n) c).head).id).version), .int .i64 ((((prepOf (aW xs n) c).head).id).index), .int .u64 ((((prepOf (aW xs n) c).head).id).epoch), .int .i64 (((prepOf (aW xs n) c).head).kk), .int .i64 (((prepOf (aW xs n) c).head).nn), .int .i64 (((prepOf (aW xs n) c).head).size), .int .u32 (((((prepOf (aW xs n) c).head).sum).toNat : Nat) : Int), .slice none 0 0, .int .u64 0, .int .u64 0, .int .i64 0, .string (⟨#[]⟩), .int .i64 0, .slice none 0 0]]) (by as_aux_lemma => kernel_rfl) (nofun) (got_spec (W := D) (wr_mkV (Shape.u64_in (by first | omega | (simp <;> omega)) (by first | omega | (simp <;> omega))) (Shape.u64_in (by first | omega | (simp <;> omega)) (by first | omega | (simp <;> omega))) ⟨rfl, by first | assumption | (simp [maxLen]; done) | decide⟩ (H.rp 7 rfl) (H.rp 8 rfl) (H.rp 9 rfl) (H.rp 10 rfl) (Shape.i64_in (by first | omega | (simp <;> omega)) (by first | omega | (simp <;> omega))) (Shape.i64_in (by first | omega | (simp <;> omega)) (by first | omega | (simp <;> omega))) (Shape.i64_in (by first | omega | (simp <;> omega)) (by first | omega | (simp <;> omega)))) 10 (20 - (c : Int)) (⟨(((prepOf (aW xs n) c).head).id), ((prepOf (aW xs n) c).head).kk, ((prepOf (aW xs n) c).head).nn, ((prepOf (aW xs n) c).head).size, ((prepOf (aW xs n) c).head).sum⟩) true (.int .i64 0) (.int .u64 0) (.int .u64 0) (.int .u64 0) (.int .u64 0) (.int .u64 0) (.bool false) (.slice none 0 0) (.slice none 0 0) (.slice none 0 0) (.slice none 0 0) (.int .u64 0) (.int .u64 0) (.int .i64 0) (.string (⟨#[]⟩)) (.int .i64 0) (.slice none 0 0) (by first | assumption | omega)) ?_
                rintro _ w95 hE96 ⟨cs99, D98, D100, rfl, hr101, hlaw97⟩
                have H0s := H
                obtain ⟨a3q102, k3q102, a4q102, k4q102, a5q102, k5q102, a6q102, k6q102, rfl, hf103, hf104, hf105, hf106, hf107, hf108, hf109, hf110, hf111, hf112⟩ := wr_open hr101
                have H := H.addN hE96 (F := Rp (Shape.slice hdrS) [.slice a3q102 D98.heads.length k3q102] D98.heads) hf106
                have H := H.add (F := Rp (Shape.slice (Shape.slice (Shape.bv .u8 8))) [.slice a4q102 D98.chunks.length k4q102] D98.chunks) ((H0s.addN hE96 (F := Rp (Shape.slice (Shape.slice (Shape.bv .u8 8))) [.slice a4q102 D98.chunks.length k4q102] D98.chunks) hf107).rp 0 rfl)
                have H := H.add (F := Rp (Shape.slice (Shape.int .i64)) [.slice a5q102 D98.nodes.length k5q102] D98.nodes) ((H0s.addN hE96 (F := Rp (Shape.slice (Shape.int .i64)) [.slice a5q102 D98.nodes.length k5q102] D98.nodes) hf108).rp 0 rfl)
                have H := H.add (F := Rp (Shape.slice (Shape.int .i64)) [.slice a6q102 D98.acks.length k6q102] D98.acks) ((H0s.addN hE96 (F := Rp (Shape.slice (Shape.int .i64)) [.slice a6q102 D98.acks.length k6q102] D98.acks) hf109).rp 0 rfl)
                have hkpD98 := gotOf_keep hlaw97
                have hlkD98 := congrArg List.length hkpD98.1
                intro hS
                refine RH.runP hS 3 [1, 2, 7, 9, 10, 12, 13, 14, 97] [(15, .seq)] [(1, .int .i64 (n : Int)), (2, .slice b ys.length d), (7, .slice na ((nodesL n).length) nc), (9, .pointer (some ⟨b31, 0, none⟩)), (10, .slice a15 ((msgsOf (aW xs n)).length) c16), (12, .slice sa seen.length sc), (13, .int .i64 (i : Int)), (14, .int .i64 (c : Int)), (97, .agg (wrV D98 a3q102 k3q102 a4q102 k4q102 a5q102 k5q102 a6q102 k6q102).toArray)] (by as_aux_lemma => kernel_rfl) (by as_aux_lemma => kernel_rfl) ?_
                refine RH.sto ?_
                refine RW.storeC (d := none) (r := []) (T := 32) (b := b31) (k := 0) (v := .agg (wrV D98 a3q102 k3q102 a4q102 k4q102 a5q102 k5q102 a6q102 k6q102).toArray) (c' := (wrV D98 a3q102 k3q102 a4q102 k4q102 a5q102 k5q102 a6q102 k6q102).toArray) (M' := [(b31, .cells (wrV D98 a3q102 k3q102 a4q102 k4q102 a5q102 k5q102 a6q102 k6q102).toArray 32 (0, 0))]) (by as_aux_lemma => kernel_rfl) H 0 rfl (by as_aux_lemma => kernel_rfl) (by as_aux_lemma => kernel_rfl) ?_
                intro w114 hch113 H
                have hS115 := hS.sto hch113 (.inr (by simp))
                refine ⟨hS115, ?_⟩
                have hS := hS115
                refine RH.fin hS 0 [1, 2, 7, 9, 10, 12, 13, 14] [(1, .int .i64 (n : Int)), (2, .slice b ys.length d), (7, .slice na ((nodesL n).length) nc), (9, .pointer (some ⟨b31, 0, none⟩)), (10, .slice a15 ((msgsOf (aW xs n)).length) c16), (12, .slice sa seen.length sc), (13, .int .i64 (i : Int)), (14, .int .i64 (c : Int))] (by as_aux_lemma => kernel_rfl) ?_
                refine WK.run 1 [1, 2, 7, 9, 10, 12, 13, 14] [.code (cd Try.prog 4 [7, 0, 1, 0, 0, 1, 0, 0, 2, 0]), .code (cd Try.prog 4 [7, 0, 1, 0, 0, 1, 0, 0, 3]), .inBlock 3, .code (cd Try.prog 4 [7, 0, 1, 0, 0, 2]), .inLoop (cd Try.prog 4 [7, 0, 1, 0, 0]), .inBlock 2, .code (cd Try.prog 4 [8])] [(1, .int .i64 (n : Int)), (2, .slice b ys.length d), (7, .slice na ((nodesL n).length) nc), (9, .pointer (some ⟨b31, 0, none⟩)), (10, .slice a15 ((msgsOf (aW xs n)).length) c16), (12, .slice sa seen.length sc), (13, .int .i64 (i : Int)), (14, .int .i64 (c : Int))] (by as_aux_lemma => kernel_rfl) ?_
                have H := H.pick [0, 1, 2, 3, 11, 12, 13, 14, 15, 16, 17] rfl
                refine WK.reg1 (l := sq 0 4) (by as_aux_lemma => kernel_rfl) (by as_aux_lemma => kernel_rfl) ?_
                refine RW.runP 2 [1, 2, 7, 9, 10, 12, 13, 14, 99, 100] (sq 2 4) [(1, .int .i64 (n : Int)), (2, .slice b ys.length d), (7, .slice na ((nodesL n).length) nc), (9, .pointer (some ⟨b31, 0, none⟩)), (10, .slice a15 ((msgsOf (aW xs n)).length) c16), (12, .slice sa seen.length sc), (13, .int .i64 (i : Int)), (14, .int .i64 (c : Int)), (99, .int .i64 (c : Int)), (100, .slice sa seen.length sc)] (by as_aux_lemma => kernel_rfl) (by as_aux_lemma => kernel_rfl) ?_
                refine RW.call (κ := .seq) (d := some 101) (r := (sq 3 4)) (g := 24) (args := #[.int .i64 (c : Int), .slice sa seen.length sc]) (by as_aux_lemma => kernel_rfl) (nofun) (in_spec (S := fun _ => True) (xs := seen) (c : Int) (H.view 0 rfl)) ?_
                rintro _ w116 hE117 rfl
                have H := H.ext hE117
                refine RW.fin 1 [1, 2, 7, 9, 10, 12, 13, 14, 102] [(1, .int .i64 (n : Int)), (2, .slice b ys.length d), (7, .slice na ((nodesL n).length) nc), (9, .pointer (some ⟨b31, 0, none⟩)), (10, .slice a15 ((msgsOf (aW xs n)).length) c16), (12, .slice sa seen.length sc), (13, .int .i64 (i : Int)), (14, .int .i64 (c : Int)), (102, .bool (!(decide ((c : Int) ∈ seen))))] (by as_aux_lemma => kernel_rfl) ?_
                refine WK.cond1 (!(decide ((c : Int) ∈ seen))) (by as_aux_lemma => kernel_rfl) (by as_aux_lemma => kernel_rfl) (fun h118 => ?_) (fun h118 => ?_)
                · skip
                  replace h118 : (decide ((c : Int) ∈ seen)) = false := by revert h118; cases (decide ((c : Int) ∈ seen)) <;> simp
                  replace h118 := of_decide_eq_false h118
                  have hg9 : (D98, D100) = (aD xs n (seen ++ [(c : Int)]) 0, 0) := hlaw97.trans (by rw [hinv1.2.1]; exact got_aD (hd := (prepOf (aW xs n) c).head) hn.1 hcn rfl (prep_head hn.1 hcn) (ack_ne hinv1.2.2.1 hinv1.2.2.2.1 hcn (by omega)))
                  have hD9 : D98 = aD xs n (seen ++ [(c : Int)]) 0 := congrArg Prod.fst hg9
                  refine WK.reg1 (l := sq 0 5) (by as_aux_lemma => kernel_rfl) (by as_aux_lemma => kernel_rfl) ?_
                  refine RW.runP 2 [1, 2, 7, 9, 10, 12, 13, 103, 104] (sq 2 5) [(1, .int .i64 (n : Int)), (2, .slice b ys.length d), (7, .slice na ((nodesL n).length) nc), (9, .pointer (some ⟨b31, 0, none⟩)), (10, .slice a15 ((msgsOf (aW xs n)).length) c16), (12, .slice sa seen.length sc), (13, .int .i64 (i : Int)), (103, .slice sa seen.length sc), (104, .int .i64 (c : Int))] (by as_aux_lemma => kernel_rfl) (by as_aux_lemma => kernel_rfl) ?_
                  refine RW.new (κ := .seq) (d := some 105) (r := (sq 3 5)) (o := .cells #[.int .i64 (c : Int)] 3 (0, 0)) (v := fun b => .slice (some ⟨b, 0, none⟩) 1 1) (fun b => by as_aux_lemma => kernel_rfl) (nofun) H ?_
                  intro b119 w120 H
                  have H := H.freeze 0 rfl (Shape.int .i64) ([(c : Int)] : List Int) 1 (by simp [maxLen]) (by first | exact Nat.le_refl _ | simp) (EsP.cons (c := [.int .i64 (c : Int)]) (Shape.i64_in (by first | omega | (simp <;> omega)) (by first | omega | (simp <;> omega))) EsP.nil)
                  have H : Hp w S [] [(b31, .cells (wrV D98 a3q102 k3q102 a4q102 k4q102 a5q102 k5q102 a6q102 k6q102).toArray 32 (0, 0))] [⟨Shape.int .i64, 3, .slice sa seen.length sc, seen⟩] [Rp (Shape.slice (Shape.int .i64)) [.slice (some ⟨b119, 0, none⟩) 1 1] ([(c : Int)] : List Int), Rp (Shape.slice (Shape.int .i64)) [.slice a6q102 D98.acks.length k6q102] D98.acks, Rp (Shape.slice (Shape.int .i64)) [.slice a5q102 D98.nodes.length k5q102] D98.nodes, Rp (Shape.slice (Shape.slice (Shape.bv .u8 8))) [.slice a4q102 D98.chunks.length k4q102] D98.chunks, Rp (Shape.slice hdrS) [.slice a3q102 D98.heads.length k3q102] D98.heads, Rp (Shape.slice hdrS) [.slice a3q D.heads.length k3q] D.heads, Rp (Shape.slice (Shape.slice (Shape.bv .u8 8))) [.slice a4q D.chunks.length k4q] D.chunks, Rp (Shape.slice (Shape.int .i64)) [.slice a5q D.nodes.length k5q] D.nodes, Rp (Shape.slice (Shape.int .i64)) [.slice a6q D.acks.length k6q] D.acks, Rp (Shape.slice msgS) [.slice a15 ((msgsOf (aW xs n)).length) c16] (msgsOf (aW xs n)), Rp (Shape.slice (Shape.int .i64)) [.slice na ((nodesL n).length) nc] (nodesL n), Rp (Shape.slice (Shape.int .i64)) [.slice b ys.length d] ys] _ := H
                  refine RW.appendW (d := some 106) (r := (sq 4 5)) (T := 25) (ty := 25) (e := 3) (m := 1) (by_ := 8) (v := .slice sa seen.length sc) (a2 := (some ⟨b119, 0, none⟩)) (l2 := 1) (c2 := 1) (zs := seen ++ ([(c : Int)] : List Int)) (by as_aux_lemma => kernel_rfl) (by as_aux_lemma => kernel_rfl) rfl H 0 rfl 0 rfl (rfl) (by simp only [List.length_append, List.length_cons, List.length_nil]; omega) ?_
                  intro a121 c122 w124 H hc123
                  have H : Hp w S [] [(b31, .cells (wrV D98 a3q102 k3q102 a4q102 k4q102 a5q102 k5q102 a6q102 k6q102).toArray 32 (0, 0))] [⟨Shape.int .i64, 3, .slice a121 ((seen ++ ([(c : Int)] : List Int)).length) c122, seen ++ ([(c : Int)] : List Int)⟩] [Rp (Shape.slice (Shape.int .i64)) [.slice (some ⟨b119, 0, none⟩) 1 1] ([(c : Int)] : List Int), Rp (Shape.slice (Shape.int .i64)) [.slice a6q102 D98.acks.length k6q102] D98.acks, Rp (Shape.slice (Shape.int .i64)) [.slice a5q102 D98.nodes.length k5q102] D98.nodes, Rp (Shape.slice (Shape.slice (Shape.bv .u8 8))) [.slice a4q102 D98.chunks.length k4q102] D98.chunks, Rp (Shape.slice hdrS) [.slice a3q102 D98.heads.length k3q102] D98.heads, Rp (Shape.slice hdrS) [.slice a3q D.heads.length k3q] D.heads, Rp (Shape.slice (Shape.slice (Shape.bv .u8 8))) [.slice a4q D.chunks.length k4q] D.chunks, Rp (Shape.slice (Shape.int .i64)) [.slice a5q D.nodes.length k5q] D.nodes, Rp (Shape.slice (Shape.int .i64)) [.slice a6q D.acks.length k6q] D.acks, Rp (Shape.slice msgS) [.slice a15 ((msgsOf (aW xs n)).length) c16] (msgsOf (aW xs n)), Rp (Shape.slice (Shape.int .i64)) [.slice na ((nodesL n).length) nc] (nodesL n), Rp (Shape.slice (Shape.int .i64)) [.slice b ys.length d] ys] _ := H
                  refine RW.fin 1 [1, 2, 7, 9, 10, 12, 13] [(1, .int .i64 (n : Int)), (2, .slice b ys.length d), (7, .slice na ((nodesL n).length) nc), (9, .pointer (some ⟨b31, 0, none⟩)), (10, .slice a15 ((msgsOf (aW xs n)).length) c16), (12, .slice a121 ((seen ++ ([(c : Int)] : List Int)).length) c122), (13, .int .i64 (i : Int))] (by as_aux_lemma => kernel_rfl) ?_
                  refine WK.run 1 [1, 2, 7, 9, 10, 12, 13] [.code (cd Try.prog 4 [7, 0, 1, 0, 0, 2]), .inLoop (cd Try.prog 4 [7, 0, 1, 0, 0]), .inBlock 2, .code (cd Try.prog 4 [8])] [(1, .int .i64 (n : Int)), (2, .slice b ys.length d), (7, .slice na ((nodesL n).length) nc), (9, .pointer (some ⟨b31, 0, none⟩)), (10, .slice a15 ((msgsOf (aW xs n)).length) c16), (12, .slice a121 ((seen ++ ([(c : Int)] : List Int)).length) c122), (13, .int .i64 (i : Int))] (by as_aux_lemma => kernel_rfl) ?_
                  have H := H.pick [1, 2, 3, 4, 5, 6, 7, 8, 9, 10, 11] rfl
                  refine WK.reg1 (l := sq 0 3) (by as_aux_lemma => kernel_rfl) (by as_aux_lemma => kernel_rfl) ?_
                  refine RW.runP 1 [1, 2, 7, 9, 10, 12, 13, 73] (sq 1 3) [(1, .int .i64 (n : Int)), (2, .slice b ys.length d), (7, .slice na ((nodesL n).length) nc), (9, .pointer (some ⟨b31, 0, none⟩)), (10, .slice a15 ((msgsOf (aW xs n)).length) c16), (12, .slice a121 ((seen ++ ([(c : Int)] : List Int)).length) c122), (13, .int .i64 (i : Int)), (73, .int .i64 (i : Int))] (by as_aux_lemma => kernel_rfl) (by as_aux_lemma => kernel_rfl) ?_
                  refine RW.wr64 (κ := .seq) (d := some 74) (r := (sq 2 3)) (t := (i : Int) + 1) (by as_aux_lemma => kernel_rfl) (by omega) ?_
                  refine RW.fin 1 [1, 2, 7, 9, 10, 12, 13] [(1, .int .i64 (n : Int)), (2, .slice b ys.length d), (7, .slice na ((nodesL n).length) nc), (9, .pointer (some ⟨b31, 0, none⟩)), (10, .slice a15 ((msgsOf (aW xs n)).length) c16), (12, .slice a121 ((seen ++ ([(c : Int)] : List Int)).length) c122), (13, .int .i64 ((i : Int) + 1))] (by as_aux_lemma => kernel_rfl) ?_
                  have H := H.pick [3, 2, 1, 0, 8, 9, 10] (G' := [Rp (Shape.slice hdrS) [.slice a3q102 D98.heads.length k3q102] D98.heads, Rp (Shape.slice (Shape.slice (Shape.bv .u8 8))) [.slice a4q102 D98.chunks.length k4q102] D98.chunks, Rp (Shape.slice (Shape.int .i64)) [.slice a5q102 D98.nodes.length k5q102] D98.nodes, Rp (Shape.slice (Shape.int .i64)) [.slice a6q102 D98.acks.length k6q102] D98.acks, Rp (Shape.slice msgS) [.slice a15 ((msgsOf (aW xs n)).length) c16] (msgsOf (aW xs n)), Rp (Shape.slice (Shape.int .i64)) [.slice na ((nodesL n).length) nc] (nodesL n), Rp (Shape.slice (Shape.int .i64)) [.slice b ys.length d] ys]) rfl
                  exact WK.back (hback35 (i + 1, D98, seen ++ ([(c : Int)] : List Int), a3q102, k3q102, a4q102, k4q102, a5q102, k5q102, a6q102, k6q102, a121, c122) _ ⟨H, by omega, by first | exact hD9 | (rw [hD9]; exact aD_same (by assumption)), by first | exact (seen_add hinv1.2.2.1 hinv1.2.2.2.1 hcn (by assumption)).1 | exact hinv1.2.2.1, by first | exact (seen_add hinv1.2.2.1 hinv1.2.2.2.1 hcn (by assumption)).2 | exact hinv1.2.2.2.1, by first | omega | (simp only [List.length_append, List.length_cons, List.length_nil]; omega)⟩ (by simp only []; omega)) (by as_aux_lemma => kernel_rfl)
                · skip
                  replace h118 : (decide ((c : Int) ∈ seen)) = true := by revert h118; cases (decide ((c : Int) ∈ seen)) <;> simp
                  replace h118 := of_decide_eq_true h118
                  have hg9 : (D98, D100) = (aD xs n (seen ++ [(c : Int)]) 0, 0) := hlaw97.trans (by rw [hinv1.2.1]; exact got_aD (hd := (prepOf (aW xs n) c).head) hn.1 hcn rfl (prep_head hn.1 hcn) (ack_ne hinv1.2.2.1 hinv1.2.2.2.1 hcn (by omega)))
                  have hD9 : D98 = aD xs n (seen ++ [(c : Int)]) 0 := congrArg Prod.fst hg9
                  refine WK.run 2 [1, 2, 7, 9, 10, 12, 13] [.code (cd Try.prog 4 [7, 0, 1, 0, 0, 2]), .inLoop (cd Try.prog 4 [7, 0, 1, 0, 0]), .inBlock 2, .code (cd Try.prog 4 [8])] [(1, .int .i64 (n : Int)), (2, .slice b ys.length d), (7, .slice na ((nodesL n).length) nc), (9, .pointer (some ⟨b31, 0, none⟩)), (10, .slice a15 ((msgsOf (aW xs n)).length) c16), (12, .slice sa seen.length sc), (13, .int .i64 (i : Int))] (by as_aux_lemma => kernel_rfl) ?_
                  refine WK.reg1 (l := sq 0 3) (by as_aux_lemma => kernel_rfl) (by as_aux_lemma => kernel_rfl) ?_
                  refine RW.runP 1 [1, 2, 7, 9, 10, 12, 13, 73] (sq 1 3) [(1, .int .i64 (n : Int)), (2, .slice b ys.length d), (7, .slice na ((nodesL n).length) nc), (9, .pointer (some ⟨b31, 0, none⟩)), (10, .slice a15 ((msgsOf (aW xs n)).length) c16), (12, .slice sa seen.length sc), (13, .int .i64 (i : Int)), (73, .int .i64 (i : Int))] (by as_aux_lemma => kernel_rfl) (by as_aux_lemma => kernel_rfl) ?_
                  refine RW.wr64 (κ := .seq) (d := some 74) (r := (sq 2 3)) (t := (i : Int) + 1) (by as_aux_lemma => kernel_rfl) (by omega) ?_
                  refine RW.fin 1 [1, 2, 7, 9, 10, 12, 13] [(1, .int .i64 (n : Int)), (2, .slice b ys.length d), (7, .slice na ((nodesL n).length) nc), (9, .pointer (some ⟨b31, 0, none⟩)), (10, .slice a15 ((msgsOf (aW xs n)).length) c16), (12, .slice sa seen.length sc), (13, .int .i64 ((i : Int) + 1))] (by as_aux_lemma => kernel_rfl) ?_
                  have H := H.pick [3, 2, 1, 0, 8, 9, 10] (G' := [Rp (Shape.slice hdrS) [.slice a3q102 D98.heads.length k3q102] D98.heads, Rp (Shape.slice (Shape.slice (Shape.bv .u8 8))) [.slice a4q102 D98.chunks.length k4q102] D98.chunks, Rp (Shape.slice (Shape.int .i64)) [.slice a5q102 D98.nodes.length k5q102] D98.nodes, Rp (Shape.slice (Shape.int .i64)) [.slice a6q102 D98.acks.length k6q102] D98.acks, Rp (Shape.slice msgS) [.slice a15 ((msgsOf (aW xs n)).length) c16] (msgsOf (aW xs n)), Rp (Shape.slice (Shape.int .i64)) [.slice na ((nodesL n).length) nc] (nodesL n), Rp (Shape.slice (Shape.int .i64)) [.slice b ys.length d] ys]) rfl
                  exact WK.back (hback35 (i + 1, D98, seen, a3q102, k3q102, a4q102, k4q102, a5q102, k5q102, a6q102, k6q102, sa, sc) _ ⟨H, by omega, by first | exact hD9 | (rw [hD9]; exact aD_same (by assumption)), by first | exact (seen_add hinv1.2.2.1 hinv1.2.2.2.1 hcn (by assumption)).1 | exact hinv1.2.2.1, by first | exact (seen_add hinv1.2.2.1 hinv1.2.2.2.1 hcn (by assumption)).2 | exact hinv1.2.2.2.1, by first | omega | (simp only [List.length_append, List.length_cons, List.length_nil]; omega)⟩ (by simp only []; omega)) (by as_aux_lemma => kernel_rfl)
              · skip
                rw [hbj39] at h42
                replace h42 := of_decide_eq_false h42
                refine WK.run 4 [1, 9, 10, 12, 110] [.code (cd Try.prog 4 [8, 0, 1]), .code (cd Try.prog 4 [9])] [(1, .int .i64 (n : Int)), (9, .pointer (some ⟨b31, 0, none⟩)), (10, .slice a15 ((msgsOf (aW xs n)).length) c16), (12, .slice sa seen.length sc), (110, .bool (((seen.length : Nat) : Int) == (n : Int)))] (by as_aux_lemma => kernel_rfl) ?_
                refine WK.cond1 (((seen.length : Nat) : Int) == (n : Int)) (by as_aux_lemma => kernel_rfl) (by as_aux_lemma => kernel_rfl) (fun h125 => ?_) (fun h125 => ?_)
                · skip
                  replace h125 := eq_of_beq h125
                  omega
                · skip
                  replace h125 := ne_of_beq_false h125
                  refine WK.run 7 [1, 9, 10, 12, 15, 16] [.code (cd Try.prog 4 [10, 0, 1, 0]), .inBlock 4, .code (cd Try.prog 4 [11])] [(1, .int .i64 (n : Int)), (9, .pointer (some ⟨b31, 0, none⟩)), (10, .slice a15 ((msgsOf (aW xs n)).length) c16), (12, .slice sa seen.length sc), (15, .slice none 0 0), (16, .int .i64 0)] (by as_aux_lemma => kernel_rfl) ?_
                  have H := H.addRp (Shape.slice msgS) [.slice none 0 0] [] Shape.slice_nil
                  have H : Hp w S [] [(b31, .cells (wrV D a3q k3q a4q k4q a5q k5q a6q k6q).toArray 32 (0, 0))] [⟨Shape.int .i64, 3, .slice sa seen.length sc, seen⟩] [Rp (Shape.slice msgS) [.slice none (([] : List Msg).length) 0] ([] : List Msg), Rp (Shape.slice hdrS) [.slice a3q D.heads.length k3q] D.heads, Rp (Shape.slice (Shape.slice (Shape.bv .u8 8))) [.slice a4q D.chunks.length k4q] D.chunks, Rp (Shape.slice (Shape.int .i64)) [.slice a5q D.nodes.length k5q] D.nodes, Rp (Shape.slice (Shape.int .i64)) [.slice a6q D.acks.length k6q] D.acks, Rp (Shape.slice msgS) [.slice a15 ((msgsOf (aW xs n)).length) c16] (msgsOf (aW xs n)), Rp (Shape.slice (Shape.int .i64)) [.slice na ((nodesL n).length) nc] (nodesL n), Rp (Shape.slice (Shape.int .i64)) [.slice b ys.length d] ys] w36 := H
                  have H := H.pick [0, 1, 2, 3, 4, 5] (G' := [Rp (Shape.slice msgS) [.slice none ([] : List Msg).length 0] ([] : List Msg), Rp (Shape.slice hdrS) [.slice a3q D.heads.length k3q] D.heads, Rp (Shape.slice (Shape.slice (Shape.bv .u8 8))) [.slice a4q D.chunks.length k4q] D.chunks, Rp (Shape.slice (Shape.int .i64)) [.slice a5q D.nodes.length k5q] D.nodes, Rp (Shape.slice (Shape.int .i64)) [.slice a6q D.acks.length k6q] D.acks, Rp (Shape.slice msgS) [.slice a15 ((msgsOf (aW xs n)).length) c16] (msgsOf (aW xs n))]) rfl
                  refine WK.loop (α := Nat × Wr × List Msg × Option Addr × Nat × Option Addr × Nat × Option Addr × Nat × Option Addr × Nat × Option Addr × Nat) (b := cd Try.prog 4 [10, 0, 1, 0, 0]) (by as_aux_lemma => kernel_rfl) (fun st_ => match st_ with | (i, D, ag, a3q, k3q, a4q, k4q, a5q, k5q, a6q, k6q, ga, gc) => [(1, .int .i64 (n : Int)), (9, .pointer (some ⟨b31, 0, none⟩)), (10, .slice a15 ((msgsOf (aW xs n)).length) c16), (12, .slice sa seen.length sc), (15, .slice ga ag.length gc), (16, .int .i64 (i : Int))]) (fun st_ w' => match st_ with | (i, D, ag, a3q, k3q, a4q, k4q, a5q, k5q, a6q, k6q, ga, gc) => Hp w S [] [(b31, .cells (wrV D a3q k3q a4q k4q a5q k5q a6q k6q).toArray 32 (0, 0))] [⟨Shape.int .i64, 3, .slice sa seen.length sc, seen⟩] [Rp (Shape.slice msgS) [.slice ga ag.length gc] ag, Rp (Shape.slice hdrS) [.slice a3q D.heads.length k3q] D.heads, Rp (Shape.slice (Shape.slice (Shape.bv .u8 8))) [.slice a4q D.chunks.length k4q] D.chunks, Rp (Shape.slice (Shape.int .i64)) [.slice a5q D.nodes.length k5q] D.nodes, Rp (Shape.slice (Shape.int .i64)) [.slice a6q D.acks.length k6q] D.acks, Rp (Shape.slice msgS) [.slice a15 ((msgsOf (aW xs n)).length) c16] (msgsOf (aW xs n))] w' ∧ i ≤ 4 ∧ D = aD xs n seen (i : Int) ∧ ag = (if i = 4 then msgsOf (aD xs n seen 4) else [])) (fun st_ => match st_ with | (i, D, ag, a3q, k3q, a4q, k4q, a5q, k5q, a6q, k6q, ga, gc) => 4 - i) (0, D, ([] : List Msg), a3q, k3q, a4q, k4q, a5q, k5q, a6q, k6q, none, 0) ⟨H, by omega, hinv1.2.1, rfl⟩ (rfl) ?_
                  rintro ⟨i, D, ag, a3q, k3q, a4q, k4q, a5q, k5q, a6q, k6q, ga, gc⟩ w127 ⟨H, hinv2⟩ hback126
                  have hDe := hinv2.2.1
                  obtain ⟨hq1, hq2, hq3, hq4, hq5, hq6⟩ := aD_bd (xs := xs) (n := n) (seen := seen) (t := (i : Int)) (by omega)
                  have hq7 := aD_heads (xs := xs) (n := n) (seen := seen) (t := (i : Int)) hn.1
                  have hcb := aD_cb (xs := xs) (n := n) (seen := seen) (t := (i : Int)) (by omega)
                  rw [← hDe] at hq1 hq2 hq3 hq4 hq5 hq6 hq7 hcb
                  refine WK.run 3 [1, 9, 10, 12, 15, 16, 113] [.code (cd Try.prog 4 [10, 0, 1, 0, 0, 0, 1]), .code (cd Try.prog 4 [10, 0, 1, 0, 0, 1]), .inLoop (cd Try.prog 4 [10, 0, 1, 0, 0]), .inBlock 4, .code (cd Try.prog 4 [11])] [(1, .int .i64 (n : Int)), (9, .pointer (some ⟨b31, 0, none⟩)), (10, .slice a15 ((msgsOf (aW xs n)).length) c16), (12, .slice sa seen.length sc), (15, .slice ga ag.length gc), (16, .int .i64 (i : Int)), (113, .bool (decide (((i : Int) : Int) < 4)))] (by as_aux_lemma => kernel_rfl) ?_
                  refine WK.cond1 (decide (((i : Int) : Int) < 4)) (by as_aux_lemma => kernel_rfl) (by as_aux_lemma => kernel_rfl) (fun h128 => ?_) (fun h128 => ?_)
                  · skip
                    replace h128 := of_decide_eq_true h128
                    refine WK.run 3 [1, 9, 10, 12, 16] [.code (cd Try.prog 4 [10, 0, 1, 0, 0, 1, 0, 0]), .inBlock 5, .code (cd Try.prog 4 [10, 0, 1, 0, 0, 2]), .inLoop (cd Try.prog 4 [10, 0, 1, 0, 0]), .inBlock 4, .code (cd Try.prog 4 [11])] [(1, .int .i64 (n : Int)), (9, .pointer (some ⟨b31, 0, none⟩)), (10, .slice a15 ((msgsOf (aW xs n)).length) c16), (12, .slice sa seen.length sc), (16, .int .i64 (i : Int))] (by as_aux_lemma => kernel_rfl) ?_
                    refine WK.reg1 (l := sq 0 8) (by as_aux_lemma => kernel_rfl) (by as_aux_lemma => kernel_rfl) ?_
                    refine RW.load (κ := .seq) (d := some 117) (r := (sq 1 8)) (T := 32) (b := b31) (o' := 0) (k := 0) (v := .agg (wrV D a3q k3q a4q k4q a5q k5q a6q k6q).toArray) (by as_aux_lemma => kernel_rfl) (H.cells 0 rfl) rfl (by as_aux_lemma => kernel_rfl) ?_
                    -- call
                    refine RW.call (κ := .seq) (d := some 118) (r := (sq 2 8)) (g := 25) (args := #[.agg (wrV D a3q k3q a4q k4q a5q k5q a6q k6q).toArray]) (by as_aux_lemma => kernel_rfl) (nofun) (tick_spec (W := D) (wr_mkV (Shape.u64_in (by first | omega | (simp <;> omega)) (by first | omega | (simp <;> omega))) (Shape.u64_in (by first | omega | (simp <;> omega)) (by first | omega | (simp <;> omega))) ⟨rfl, by first | assumption | (simp [maxLen]; done) | decide⟩ (H.rp 1 rfl) (H.rp 2 rfl) (H.rp 3 rfl) (H.rp 4 rfl) (Shape.i64_in (by first | omega | (simp <;> omega)) (by first | omega | (simp <;> omega))) (Shape.i64_in (by first | omega | (simp <;> omega)) (by first | omega | (simp <;> omega))) (Shape.i64_in (by first | omega | (simp <;> omega)) (by first | omega | (simp <;> omega)))) (by first | assumption | omega) (by first | assumption | omega) (by first | assumption | simpa using hcb)) ?_
                    rintro _ w129 hE130 ⟨cs133, a135, c136, D132, D134, D137, rfl, hr138, hr139, hlaw131⟩
                    have H0s := H
                    obtain ⟨a3q140, k3q140, a4q140, k4q140, a5q140, k5q140, a6q140, k6q140, rfl, hf141, hf142, hf143, hf144, hf145, hf146, hf147, hf148, hf149, hf150⟩ := wr_open hr138
                    have H := H.addN hE130 (F := Rp (Shape.slice hdrS) [.slice a3q140 D132.heads.length k3q140] D132.heads) hf144
                    have H := H.add (F := Rp (Shape.slice (Shape.slice (Shape.bv .u8 8))) [.slice a4q140 D132.chunks.length k4q140] D132.chunks) ((H0s.addN hE130 (F := Rp (Shape.slice (Shape.slice (Shape.bv .u8 8))) [.slice a4q140 D132.chunks.length k4q140] D132.chunks) hf145).rp 0 rfl)
                    have H := H.add (F := Rp (Shape.slice (Shape.int .i64)) [.slice a5q140 D132.nodes.length k5q140] D132.nodes) ((H0s.addN hE130 (F := Rp (Shape.slice (Shape.int .i64)) [.slice a5q140 D132.nodes.length k5q140] D132.nodes) hf146).rp 0 rfl)
                    have H := H.add (F := Rp (Shape.slice (Shape.int .i64)) [.slice a6q140 D132.acks.length k6q140] D132.acks) ((H0s.addN hE130 (F := Rp (Shape.slice (Shape.int .i64)) [.slice a6q140 D132.acks.length k6q140] D132.acks) hf147).rp 0 rfl)
                    have H := H.add (F := Rp (Shape.slice msgS) [.slice a135 D134.length c136] D134) ((H0s.addN hE130 (F := Rp (Shape.slice msgS) [.slice a135 D134.length c136] D134) hr139).rp 0 rfl)
                    refine RW.runP 4 [1, 9, 10, 12, 16, 119, 120] (sq 6 8) [(1, .int .i64 (n : Int)), (9, .pointer (some ⟨b31, 0, none⟩)), (10, .slice a15 ((msgsOf (aW xs n)).length) c16), (12, .slice sa seen.length sc), (16, .int .i64 (i : Int)), (119, .agg (wrV D132 a3q140 k3q140 a4q140 k4q140 a5q140 k5q140 a6q140 k6q140).toArray), (120, .slice a135 D134.length c136)] (by as_aux_lemma => kernel_rfl) (by as_aux_lemma => kernel_rfl) ?_
                    refine RW.store (d := none) (r := (sq 7 8)) (T := 32) (b := b31) (k := 0) (v := .agg (wrV D132 a3q140 k3q140 a4q140 k4q140 a5q140 k5q140 a6q140 k6q140).toArray) (c' := (wrV D132 a3q140 k3q140 a4q140 k4q140 a5q140 k5q140 a6q140 k6q140).toArray) (M' := [(b31, .cells (wrV D132 a3q140 k3q140 a4q140 k4q140 a5q140 k5q140 a6q140 k6q140).toArray 32 (0, 0))]) (by as_aux_lemma => kernel_rfl) H 0 rfl (by as_aux_lemma => kernel_rfl) (by as_aux_lemma => kernel_rfl) ?_
                    intro w151 H
                    refine RW.fin 1 [1, 9, 10, 12, 15, 16] [(1, .int .i64 (n : Int)), (9, .pointer (some ⟨b31, 0, none⟩)), (10, .slice a15 ((msgsOf (aW xs n)).length) c16), (12, .slice sa seen.length sc), (15, .slice a135 D134.length c136), (16, .int .i64 (i : Int))] (by as_aux_lemma => kernel_rfl) ?_
                    refine WK.run 1 [1, 9, 10, 12, 15, 16] [.code (cd Try.prog 4 [10, 0, 1, 0, 0, 2]), .inLoop (cd Try.prog 4 [10, 0, 1, 0, 0]), .inBlock 4, .code (cd Try.prog 4 [11])] [(1, .int .i64 (n : Int)), (9, .pointer (some ⟨b31, 0, none⟩)), (10, .slice a15 ((msgsOf (aW xs n)).length) c16), (12, .slice sa seen.length sc), (15, .slice a135 D134.length c136), (16, .int .i64 (i : Int))] (by as_aux_lemma => kernel_rfl) ?_
                    refine WK.reg1 (l := sq 0 3) (by as_aux_lemma => kernel_rfl) (by as_aux_lemma => kernel_rfl) ?_
                    refine RW.runP 1 [1, 9, 10, 12, 15, 16, 114] (sq 1 3) [(1, .int .i64 (n : Int)), (9, .pointer (some ⟨b31, 0, none⟩)), (10, .slice a15 ((msgsOf (aW xs n)).length) c16), (12, .slice sa seen.length sc), (15, .slice a135 D134.length c136), (16, .int .i64 (i : Int)), (114, .int .i64 (i : Int))] (by as_aux_lemma => kernel_rfl) (by as_aux_lemma => kernel_rfl) ?_
                    refine RW.wr64 (κ := .seq) (d := some 115) (r := (sq 2 3)) (t := (i : Int) + 1) (by as_aux_lemma => kernel_rfl) (by omega) ?_
                    refine RW.fin 1 [1, 9, 10, 12, 15, 16] [(1, .int .i64 (n : Int)), (9, .pointer (some ⟨b31, 0, none⟩)), (10, .slice a15 ((msgsOf (aW xs n)).length) c16), (12, .slice sa seen.length sc), (15, .slice a135 D134.length c136), (16, .int .i64 ((i : Int) + 1))] (by as_aux_lemma => kernel_rfl) ?_
                    have hT9 : (D132, D134, D137) = (aD xs n seen ((i : Int) + 1), (if ((i : Int) + 1) % 4 = 0 then msgsOf (aD xs n seen ((i : Int) + 1)) else []), 0) := hlaw131.trans (by rw [hDe]; exact tick_aD hn.1 (by omega) (by omega))
                    obtain ⟨hT1, hT2, hT3⟩ : D132 = aD xs n seen ((i : Int) + 1) ∧ D134 = (if ((i : Int) + 1) % 4 = 0 then msgsOf (aD xs n seen ((i : Int) + 1)) else []) ∧ D137 = 0 := by simpa using hT9
                    have H := H.pick [0, 4, 3, 2, 1, 10] (G' := [Rp (Shape.slice msgS) [.slice a135 D134.length c136] D134, Rp (Shape.slice hdrS) [.slice a3q140 D132.heads.length k3q140] D132.heads, Rp (Shape.slice (Shape.slice (Shape.bv .u8 8))) [.slice a4q140 D132.chunks.length k4q140] D132.chunks, Rp (Shape.slice (Shape.int .i64)) [.slice a5q140 D132.nodes.length k5q140] D132.nodes, Rp (Shape.slice (Shape.int .i64)) [.slice a6q140 D132.acks.length k6q140] D132.acks, Rp (Shape.slice msgS) [.slice a15 ((msgsOf (aW xs n)).length) c16] (msgsOf (aW xs n))]) rfl
                    exact WK.back (hback126 (i + 1, D132, D134, a3q140, k3q140, a4q140, k4q140, a5q140, k5q140, a6q140, k6q140, a135, c136) _ ⟨H, by omega, by rw [hT1]; congr 1, by rw [hT2]; by_cases h4 : i = 3; subst h4; rfl; rw [if_neg (by omega), if_neg (by omega)]⟩ (by simp only []; omega)) (by as_aux_lemma => kernel_rfl)
                  · skip
                    replace h128 := of_decide_eq_false h128
                    have hi4 : i = 4 := by omega
                    have hag : ag = msgsOf (aD xs n seen 4) := by rw [hinv2.2.2, if_pos hi4]
                    have hml := msgs_len (xs := xs) (t := 4) hn.1 hinv1.2.2.1 hinv1.2.2.2.1
                    rw [← hag] at hml
                    refine WK.run 3 [1, 10, 12, 15] [.code (cd Try.prog 4 [11, 0, 0]), .code (cd Try.prog 4 [11, 0, 1]), .code (cd Try.prog 4 [12])] [(1, .int .i64 (n : Int)), (10, .slice a15 ((msgsOf (aW xs n)).length) c16), (12, .slice sa seen.length sc), (15, .slice ga ag.length gc)] (by as_aux_lemma => kernel_rfl) ?_
                    refine WK.reg1 (l := sq 0 7) (by as_aux_lemma => kernel_rfl) (by as_aux_lemma => kernel_rfl) ?_
                    refine RW.runP 5 [1, 10, 12, 15, 123, 124, 126] (sq 5 7) [(1, .int .i64 (n : Int)), (10, .slice a15 ((msgsOf (aW xs n)).length) c16), (12, .slice sa seen.length sc), (15, .slice ga ag.length gc), (123, .int .i64 ((ag.length : Nat) : Int)), (124, .int .i64 (n : Int)), (126, .int .i64 ((seen.length : Nat) : Int))] (by as_aux_lemma => kernel_rfl) (by as_aux_lemma => kernel_rfl) ?_
                    refine RW.wr64 (κ := .seq) (d := some 127) (r := (sq 6 7)) (t := (n : Int) - ((seen.length : Nat) : Int)) (by as_aux_lemma => kernel_rfl) (by omega) ?_
                    refine RW.fin 1 [1, 10, 12, 15, 128] [(1, .int .i64 (n : Int)), (10, .slice a15 ((msgsOf (aW xs n)).length) c16), (12, .slice sa seen.length sc), (15, .slice ga ag.length gc), (128, .bool (((ag.length : Nat) : Int) != ((n : Int) - ((seen.length : Nat) : Int))))] (by as_aux_lemma => kernel_rfl) ?_
                    refine WK.cond1 (((ag.length : Nat) : Int) != ((n : Int) - ((seen.length : Nat) : Int))) (by as_aux_lemma => kernel_rfl) (by as_aux_lemma => kernel_rfl) (fun h152 => ?_) (fun h152 => ?_)
                    · skip
                      replace h152 := bne_iff_ne.1 h152
                      omega
                    · skip
                      replace h152 := (bne_eq_false_iff_eq.1 h152)
                      refine WK.run 5 [1, 10, 12, 15, 17] [.code (cd Try.prog 4 [12, 0, 1, 0]), .inBlock 6, .code (cd Try.prog 4 [13])] [(1, .int .i64 (n : Int)), (10, .slice a15 ((msgsOf (aW xs n)).length) c16), (12, .slice sa seen.length sc), (15, .slice ga ag.length gc), (17, .int .i64 0)] (by as_aux_lemma => kernel_rfl) ?_
                      have H := H.pick [0, 5] (G' := [Rp (Shape.slice msgS) [.slice ga ag.length gc] ag, Rp (Shape.slice msgS) [.slice a15 ((msgsOf (aW xs n)).length) c16] (msgsOf (aW xs n))]) rfl
                      have H := H.drop (M' := []) (W' := [⟨Shape.int .i64, 3, .slice sa seen.length sc, seen⟩]) (by repeat (first | exact List.Sublist.refl _ | exact List.nil_sublist _ | apply List.Sublist.cons_cons | apply List.Sublist.cons)) (by repeat (first | exact List.Sublist.refl _ | exact List.nil_sublist _ | apply List.Sublist.cons_cons | apply List.Sublist.cons))
                      refine WK.loop (α := Nat) (b := cd Try.prog 4 [12, 0, 1, 0, 0]) (by as_aux_lemma => kernel_rfl) (fun z => [(1, .int .i64 (n : Int)), (10, .slice a15 ((msgsOf (aW xs n)).length) c16), (12, .slice sa seen.length sc), (15, .slice ga ag.length gc), (17, .int .i64 (z : Int))]) (fun z w' => Hp w S [] [] [⟨Shape.int .i64, 3, .slice sa seen.length sc, seen⟩] [Rp (Shape.slice msgS) [.slice ga ag.length gc] ag, Rp (Shape.slice msgS) [.slice a15 ((msgsOf (aW xs n)).length) c16] (msgsOf (aW xs n))] w' ∧ z ≤ ag.length) (fun z => ag.length - z) 0 ⟨H, by omega⟩ (rfl) ?_
                      rintro z w154 ⟨H, hinv3⟩ hback153
                      refine WK.run 3 [1, 10, 12, 15, 17, 132] [.code (cd Try.prog 4 [12, 0, 1, 0, 0, 0, 1]), .code (cd Try.prog 4 [12, 0, 1, 0, 0, 1]), .inLoop (cd Try.prog 4 [12, 0, 1, 0, 0]), .inBlock 6, .code (cd Try.prog 4 [13])] [(1, .int .i64 (n : Int)), (10, .slice a15 ((msgsOf (aW xs n)).length) c16), (12, .slice sa seen.length sc), (15, .slice ga ag.length gc), (17, .int .i64 (z : Int)), (132, .bool (decide (((z : Int) : Int) < ((ag.length : Nat) : Int))))] (by as_aux_lemma => kernel_rfl) ?_
                      refine WK.cond1 (decide (((z : Int) : Int) < ((ag.length : Nat) : Int))) (by as_aux_lemma => kernel_rfl) (by as_aux_lemma => kernel_rfl) (fun h155 => ?_) (fun h155 => ?_)
                      · skip
                        replace h155 := of_decide_eq_true h155
                        obtain ⟨cc, hcc, hgx, hns⟩ := msgs_get (xs := xs) (seen := seen) (t := 4) (i := z) hn.1 (by rw [← hag]; omega)
                        rw [← hag] at hgx
                        have hok := prep_ok (xs := xs) hn hxl hcc
                        have hix := hok.2
                        refine WK.run 4 [1, 10, 12, 15, 17] [.code (cd Try.prog 4 [12, 0, 1, 0, 0, 1, 0, 0, 0]), .code (cd Try.prog 4 [12, 0, 1, 0, 0, 1, 0, 0, 1]), .inBlock 7, .code (cd Try.prog 4 [12, 0, 1, 0, 0, 2]), .inLoop (cd Try.prog 4 [12, 0, 1, 0, 0]), .inBlock 6, .code (cd Try.prog 4 [13])] [(1, .int .i64 (n : Int)), (10, .slice a15 ((msgsOf (aW xs n)).length) c16), (12, .slice sa seen.length sc), (15, .slice ga ag.length gc), (17, .int .i64 (z : Int))] (by as_aux_lemma => kernel_rfl) ?_
                        refine WK.reg1 (l := sq 0 8) (by as_aux_lemma => kernel_rfl) (by as_aux_lemma => kernel_rfl) ?_
                        refine RW.runP 2 [1, 10, 12, 15, 17, 135, 136] (sq 2 8) [(1, .int .i64 (n : Int)), (10, .slice a15 ((msgsOf (aW xs n)).length) c16), (12, .slice sa seen.length sc), (15, .slice ga ag.length gc), (17, .int .i64 (z : Int)), (135, .slice ga ag.length gc), (136, .int .i64 (z : Int))] (by as_aux_lemma => kernel_rfl) (by as_aux_lemma => kernel_rfl) ?_
                        have hx156 : z < ag.length := by omega
                        refine RW.index (κ := .seq) (d := some 137) (r := (sq 3 8)) (T := 33) (e := 57) (ik := .i64) (ix := (z : Int)) (sh := msgS) (x := (prepOf (aW xs n) cc)) (by as_aux_lemma => kernel_rfl) (by as_aux_lemma => kernel_rfl) H 0 rfl z (by omega) (hgx) ?_
                        intro b157 o158 es159 hr160 H
                        obtain ⟨a10q161, k10q161, cs11q161, cs12q161, a13q161, k13q161, a19q161, k19q161, rfl, hf162, hf163, hf164, hf165, hf166, hf167, hf168, hf169, hf170, hf171, hf172, hf173, hf174, hf175, hf176, hf177, hf178, hf179⟩ := msg_open hr160
                        obtain ⟨a0q180, k0q180, a1q180, k1q180, rfl, hf181, hf182⟩ := conf_open hf171
                        obtain ⟨cs0q183, rfl, hf184, hf185, hf186, hf187⟩ := hdr_open hf172
                        obtain ⟨rfl, hf189, hf190, hf191⟩ := cid_open hf184
                        have H := H.add (F := Rp (Shape.slice entS) [.slice a10q161 ((prepOf (aW xs n) cc).entries.length) k10q161] ((prepOf (aW xs n) cc).entries)) hf170
                        have H := H.add (F := Rp (Shape.slice (Shape.int .i64)) [.slice a0q180 (((prepOf (aW xs n) cc).conf).voters.length) k0q180] (((prepOf (aW xs n) cc).conf).voters)) hf181
                        have H := H.add (F := Rp (Shape.slice (Shape.int .i64)) [.slice a1q180 (((prepOf (aW xs n) cc).conf).learners.length) k1q180] (((prepOf (aW xs n) cc).conf).learners)) hf182
                        have H := H.add (F := Rp (Shape.slice (Shape.bv .u8 8)) [.slice a13q161 ((prepOf (aW xs n) cc).data.length) k13q161] ((prepOf (aW xs n) cc).data)) hf173
                        have H := H.add (F := Rp (Shape.slice Shape.str) [.slice a19q161 ((prepOf (aW xs n) cc).names.length) k19q161] ((prepOf (aW xs n) cc).names)) hf179
                        refine RW.runP 3 [1, 10, 12, 15, 17, 140] (sq 6 8) [(1, .int .i64 (n : Int)), (10, .slice a15 ((msgsOf (aW xs n)).length) c16), (12, .slice sa seen.length sc), (15, .slice ga ag.length gc), (17, .int .i64 (z : Int)), (140, .pointer (some ⟨b157, o158 + 14, none⟩))] (by as_aux_lemma => kernel_rfl) (by as_aux_lemma => kernel_rfl) ?_
                        refine RW.load (κ := .seq) (d := some 141) (r := (sq 7 8)) (T := 3) (b := b157) (o' := o158 + 14) (k := 14) (v := .int .i64 ((((prepOf (aW xs n) cc).head).id).index)) (by as_aux_lemma => kernel_rfl) (H.fc 5 rfl) rfl (by as_aux_lemma => kernel_rfl) ?_
                        refine RW.fin 1 [1, 10, 12, 15, 17, 18] [(1, .int .i64 (n : Int)), (10, .slice a15 ((msgsOf (aW xs n)).length) c16), (12, .slice sa seen.length sc), (15, .slice ga ag.length gc), (17, .int .i64 (z : Int)), (18, .int .i64 ((((prepOf (aW xs n) cc).head).id).index))] (by as_aux_lemma => kernel_rfl) ?_
                        refine WK.run 1 [1, 10, 12, 15, 17, 18] [.code (cd Try.prog 4 [12, 0, 1, 0, 0, 1, 0, 0, 1, 0]), .code (cd Try.prog 4 [12, 0, 1, 0, 0, 1, 0, 0, 2]), .inBlock 7, .code (cd Try.prog 4 [12, 0, 1, 0, 0, 2]), .inLoop (cd Try.prog 4 [12, 0, 1, 0, 0]), .inBlock 6, .code (cd Try.prog 4 [13])] [(1, .int .i64 (n : Int)), (10, .slice a15 ((msgsOf (aW xs n)).length) c16), (12, .slice sa seen.length sc), (15, .slice ga ag.length gc), (17, .int .i64 (z : Int)), (18, .int .i64 ((((prepOf (aW xs n) cc).head).id).index))] (by as_aux_lemma => kernel_rfl) ?_
                        have H := H.pick [6, 7] rfl
                        refine WK.draw1 24 [(0, .qui), (1, .qui), (2, .qui), (3, .qui), (4, .qui), (5, .qui), (6, .qui), (7, .qui), (8, .qui), (9, .qui), (10, .chn), (11, .qui), (12, .qui), (13, .qui), (14, .qui), (15, .qui), (16, .qui), (17, .qui), (18, .qui), (19, .qui), (20, .qui), (21, .chn), (22, .qui), (23, .qui)] [(0, .qui), (1, .qui), (2, .qui), (3, .qui), (4, .qui), (5, .qui), (6, .qui), (7, .qui), (8, .qui), (9, .qui), (10, .chn), (11, .qui), (12, .qui), (13, .qui), (14, .qui), (15, .qui), (16, .qui), (17, .qui), (18, .qui), (19, .qui), (20, .qui), (21, .chn), (22, .qui), (23, .qui)] Try_mixed (by as_aux_lemma => kernel_rfl) (by as_aux_lemma => kernel_rfl) (by as_aux_lemma => kernel_rfl) ?_
                        have H := H.draw
                        generalize ({ w154 with drawn := w154.drawn + 1 } : World) = w192 at H ⊢
                        refine RW.runP 3 [1, 10, 12, 15, 17, 18, 144] [(3, .qui), (4, .qui), (5, .qui), (6, .qui), (7, .qui), (8, .qui), (9, .qui), (10, .chn), (11, .qui), (12, .qui), (13, .qui), (14, .qui), (15, .qui), (16, .qui), (17, .qui), (18, .qui), (19, .qui), (20, .qui), (21, .chn), (22, .qui), (23, .qui)] [(1, .int .i64 (n : Int)), (10, .slice a15 ((msgsOf (aW xs n)).length) c16), (12, .slice sa seen.length sc), (15, .slice ga ag.length gc), (17, .int .i64 (z : Int)), (18, .int .i64 ((((prepOf (aW xs n) cc).head).id).index)), (144, .bool (decide (((((prepOf (aW xs n) cc).head).id).index : Int) < 0)))] (by as_aux_lemma => kernel_rfl) (by as_aux_lemma => kernel_rfl) ?_
                        refine RW.test (fun b_ => [(1, .int .i64 (n : Int)), (10, .slice a15 ((msgsOf (aW xs n)).length) c16), (12, .slice sa seen.length sc), (15, .slice ga ag.length gc), (17, .int .i64 (z : Int)), (18, .int .i64 ((((prepOf (aW xs n) cc).head).id).index)), (144, .bool b_)]) (decide (((((prepOf (aW xs n) cc).head).id).index : Int) < 0)) (fun h193 => ?_) (fun h193 => ?_)
                        · skip
                          replace h193 := of_decide_eq_true h193
                          omega
                        · skip
                          replace h193 := of_decide_eq_false h193
                          refine RW.runP 5 [1, 10, 12, 15, 17, 18, 149] [(8, .qui), (9, .qui), (10, .chn), (11, .qui), (12, .qui), (13, .qui), (14, .qui), (15, .qui), (16, .qui), (17, .qui), (18, .qui), (19, .qui), (20, .qui), (21, .chn), (22, .qui), (23, .qui)] [(1, .int .i64 (n : Int)), (10, .slice a15 ((msgsOf (aW xs n)).length) c16), (12, .slice sa seen.length sc), (15, .slice ga ag.length gc), (17, .int .i64 (z : Int)), (18, .int .i64 ((((prepOf (aW xs n) cc).head).id).index)), (149, .bool (decide (((((prepOf (aW xs n) cc).head).id).index : Int) ≥ (n : Int))))] (by as_aux_lemma => kernel_rfl) (by as_aux_lemma => kernel_rfl) ?_
                          refine RW.test (fun b_ => [(1, .int .i64 (n : Int)), (10, .slice a15 ((msgsOf (aW xs n)).length) c16), (12, .slice sa seen.length sc), (15, .slice ga ag.length gc), (17, .int .i64 (z : Int)), (18, .int .i64 ((((prepOf (aW xs n) cc).head).id).index)), (149, .bool b_)]) (decide (((((prepOf (aW xs n) cc).head).id).index : Int) ≥ (n : Int))) (fun h194 => ?_) (fun h194 => ?_)
                          · skip
                            replace h194 := of_decide_eq_true h194
                            omega
                          · skip
                            replace h194 := of_decide_eq_false h194
                            refine RW.runP 2 [1, 10, 12, 15, 17, 18, 149, 150, 151] [(10, .chn), (11, .qui), (12, .qui), (13, .qui), (14, .qui), (15, .qui), (16, .qui), (17, .qui), (18, .qui), (19, .qui), (20, .qui), (21, .chn), (22, .qui), (23, .qui)] [(1, .int .i64 (n : Int)), (10, .slice a15 ((msgsOf (aW xs n)).length) c16), (12, .slice sa seen.length sc), (15, .slice ga ag.length gc), (17, .int .i64 (z : Int)), (18, .int .i64 ((((prepOf (aW xs n) cc).head).id).index)), (149, .bool false), (150, .int .i64 ((((prepOf (aW xs n) cc).head).id).index)), (151, .slice sa seen.length sc)] (by as_aux_lemma => kernel_rfl) (by as_aux_lemma => kernel_rfl) ?_
                            refine RW.call (κ := .chn) (d := some 152) (r := [(11, .qui), (12, .qui), (13, .qui), (14, .qui), (15, .qui), (16, .qui), (17, .qui), (18, .qui), (19, .qui), (20, .qui), (21, .chn), (22, .qui), (23, .qui)]) (g := 24) (args := #[.int .i64 ((((prepOf (aW xs n) cc).head).id).index), .slice sa seen.length sc]) (by as_aux_lemma => kernel_rfl) (nofun) (in_spec (S := fun _ => True) (xs := seen) ((((prepOf (aW xs n) cc).head).id).index) (H.view 0 rfl)) ?_
                            rintro _ w195 hE196 rfl
                            have H := H.ext hE196
                            refine RW.runP 2 [1, 10, 12, 15, 17, 18, 154] [(13, .qui), (14, .qui), (15, .qui), (16, .qui), (17, .qui), (18, .qui), (19, .qui), (20, .qui), (21, .chn), (22, .qui), (23, .qui)] [(1, .int .i64 (n : Int)), (10, .slice a15 ((msgsOf (aW xs n)).length) c16), (12, .slice sa seen.length sc), (15, .slice ga ag.length gc), (17, .int .i64 (z : Int)), (18, .int .i64 ((((prepOf (aW xs n) cc).head).id).index)), (154, .bool (decide ((((prepOf (aW xs n) cc).head).id).index ∈ seen)))] (by as_aux_lemma => kernel_rfl) (by as_aux_lemma => kernel_rfl) ?_
                            refine RW.test (fun b_ => [(1, .int .i64 (n : Int)), (10, .slice a15 ((msgsOf (aW xs n)).length) c16), (12, .slice sa seen.length sc), (15, .slice ga ag.length gc), (17, .int .i64 (z : Int)), (18, .int .i64 ((((prepOf (aW xs n) cc).head).id).index)), (154, .bool b_)]) (decide ((((prepOf (aW xs n) cc).head).id).index ∈ seen)) (fun h197 => ?_) (fun h197 => ?_)
                            · skip
                              replace h197 := of_decide_eq_true h197
                              exact absurd (hix ▸ h197) hns
                            · skip
                              replace h197 := of_decide_eq_false h197
                              refine RW.runP 2 [1, 10, 12, 15, 17, 18, 154, 155, 156] [(15, .qui), (16, .qui), (17, .qui), (18, .qui), (19, .qui), (20, .qui), (21, .chn), (22, .qui), (23, .qui)] [(1, .int .i64 (n : Int)), (10, .slice a15 ((msgsOf (aW xs n)).length) c16), (12, .slice sa seen.length sc), (15, .slice ga ag.length gc), (17, .int .i64 (z : Int)), (18, .int .i64 ((((prepOf (aW xs n) cc).head).id).index)), (154, .bool false), (155, .slice ga ag.length gc), (156, .int .i64 (z : Int))] (by as_aux_lemma => kernel_rfl) (by as_aux_lemma => kernel_rfl) ?_
                              have hx198 : z < ag.length := by omega
                              refine RW.index (κ := .qui) (d := some 157) (r := [(16, .qui), (17, .qui), (18, .qui), (19, .qui), (20, .qui), (21, .chn), (22, .qui), (23, .qui)]) (T := 33) (e := 57) (ik := .i64) (ix := (z : Int)) (sh := msgS) (x := (prepOf (aW xs n) cc)) (by as_aux_lemma => kernel_rfl) (by as_aux_lemma => kernel_rfl) H 0 rfl z (by omega) (hgx) ?_
                              intro b199 o200 es201 hr202 H
                              obtain ⟨a10q203, k10q203, cs11q203, cs12q203, a13q203, k13q203, a19q203, k19q203, rfl, hf204, hf205, hf206, hf207, hf208, hf209, hf210, hf211, hf212, hf213, hf214, hf215, hf216, hf217, hf218, hf219, hf220, hf221⟩ := msg_open hr202
                              obtain ⟨a0q222, k0q222, a1q222, k1q222, rfl, hf223, hf224⟩ := conf_open hf213
                              obtain ⟨cs0q225, rfl, hf226, hf227, hf228, hf229⟩ := hdr_open hf214
                              obtain ⟨rfl, hf231, hf232, hf233⟩ := cid_open hf226
                              have H := H.add (F := Rp (Shape.slice entS) [.slice a10q203 ((prepOf (aW xs n) cc).entries.length) k10q203] ((prepOf (aW xs n) cc).entries)) hf212
                              have H := H.add (F := Rp (Shape.slice (Shape.int .i64)) [.slice a0q222 (((prepOf (aW xs n) cc).conf).voters.length) k0q222] (((prepOf (aW xs n) cc).conf).voters)) hf223
                              have H := H.add (F := Rp (Shape.slice (Shape.int .i64)) [.slice a1q222 (((prepOf (aW xs n) cc).conf).learners.length) k1q222] (((prepOf (aW xs n) cc).conf).learners)) hf224
                              have H := H.add (F := Rp (Shape.slice (Shape.bv .u8 8)) [.slice a13q203 ((prepOf (aW xs n) cc).data.length) k13q203] ((prepOf (aW xs n) cc).data)) hf215
                              have H := H.add (F := Rp (Shape.slice Shape.str) [.slice a19q203 ((prepOf (aW xs n) cc).names.length) k19q203] ((prepOf (aW xs n) cc).names)) hf221
                              refine RW.load (κ := .qui) (d := some 158) (r := [(17, .qui), (18, .qui), (19, .qui), (20, .qui), (21, .chn), (22, .qui), (23, .qui)]) (T := 57) (b := b199) (o' := o200) (k := 0) (v := .agg (msgV (prepOf (aW xs n) cc) a10q203 k10q203 a0q222 k0q222 a1q222 k1q222 a13q203 k13q203 a19q203 k19q203).toArray) (by as_aux_lemma => kernel_rfl) (H.fc 5 rfl) rfl (by as_aux_lemma => kernel_rfl) ?_
                              refine RW.runP 2 [1, 10, 12, 15, 17, 154, 158, 159, 160] [(19, .qui), (20, .qui), (21, .chn), (22, .qui), (23, .qui)] [(1, .int .i64 (n : Int)), (10, .slice a15 ((msgsOf (aW xs n)).length) c16), (12, .slice sa seen.length sc), (15, .slice ga ag.length gc), (17, .int .i64 (z : Int)), (154, .bool false), (158, .agg (msgV (prepOf (aW xs n) cc) a10q203 k10q203 a0q222 k0q222 a1q222 k1q222 a13q203 k13q203 a19q203 k19q203).toArray), (159, .slice a15 ((msgsOf (aW xs n)).length) c16), (160, .int .i64 ((((prepOf (aW xs n) cc).head).id).index))] (by as_aux_lemma => kernel_rfl) (by as_aux_lemma => kernel_rfl) ?_
                              have hx234 : cc < (msgsOf (aW xs n)).length := by rw [msgs_all_len hn.1]; exact hcc
                              refine RW.index (κ := .qui) (d := some 161) (r := [(20, .qui), (21, .chn), (22, .qui), (23, .qui)]) (T := 33) (e := 57) (ik := .i64) (ix := (((prepOf (aW xs n) cc).head).id).index) (sh := msgS) (x := (prepOf (aW xs n) cc)) (by as_aux_lemma => kernel_rfl) (by as_aux_lemma => kernel_rfl) H 7 rfl cc (by omega) (msgs_all hn.1 hcc) ?_
                              intro b235 o236 es237 hr238 H
                              obtain ⟨a10q239, k10q239, cs11q239, cs12q239, a13q239, k13q239, a19q239, k19q239, rfl, hf240, hf241, hf242, hf243, hf244, hf245, hf246, hf247, hf248, hf249, hf250, hf251, hf252, hf253, hf254, hf255, hf256, hf257⟩ := msg_open hr238
                              obtain ⟨a0q258, k0q258, a1q258, k1q258, rfl, hf259, hf260⟩ := conf_open hf249
                              obtain ⟨cs0q261, rfl, hf262, hf263, hf264, hf265⟩ := hdr_open hf250
                              obtain ⟨rfl, hf267, hf268, hf269⟩ := cid_open hf262
                              have H := H.add (F := Rp (Shape.slice entS) [.slice a10q239 ((prepOf (aW xs n) cc).entries.length) k10q239] ((prepOf (aW xs n) cc).entries)) hf248
                              have H := H.add (F := Rp (Shape.slice (Shape.int .i64)) [.slice a0q258 (((prepOf (aW xs n) cc).conf).voters.length) k0q258] (((prepOf (aW xs n) cc).conf).voters)) hf259
                              have H := H.add (F := Rp (Shape.slice (Shape.int .i64)) [.slice a1q258 (((prepOf (aW xs n) cc).conf).learners.length) k1q258] (((prepOf (aW xs n) cc).conf).learners)) hf260
                              have H := H.add (F := Rp (Shape.slice (Shape.bv .u8 8)) [.slice a13q239 ((prepOf (aW xs n) cc).data.length) k13q239] ((prepOf (aW xs n) cc).data)) hf251
                              have H := H.add (F := Rp (Shape.slice Shape.str) [.slice a19q239 ((prepOf (aW xs n) cc).names.length) k19q239] ((prepOf (aW xs n) cc).names)) hf257
                              refine RW.load (κ := .qui) (d := some 162) (r := [(21, .chn), (22, .qui), (23, .qui)]) (T := 57) (b := b235) (o' := o236) (k := 0) (v := .agg (msgV (prepOf (aW xs n) cc) a10q239 k10q239 a0q258 k0q258 a1q258 k1q258 a13q239 k13q239 a19q239 k19q239).toArray) (by as_aux_lemma => kernel_rfl) (H.fc 5 rfl) rfl (by as_aux_lemma => kernel_rfl) ?_
                              refine RW.call (κ := .chn) (d := some 163) (r := [(22, .qui), (23, .qui)]) (g := 26) (args := #[.agg (msgV (prepOf (aW xs n) cc) a10q203 k10q203 a0q222 k0q222 a1q222 k1q222 a13q203 k13q203 a19q203 k19q203).toArray, .agg (msgV (prepOf (aW xs n) cc) a10q239 k10q239 a0q258 k0q258 a1q258 k1q258 a13q239 k13q239 a19q239 k19q239).toArray]) (by as_aux_lemma => kernel_rfl) (nofun) (same_spec (S := Av S w [] (idsOf [] [⟨Shape.int .i64, 3, .slice sa seen.length sc, seen⟩])) (m := (prepOf (aW xs n) cc)) hok.1 (H.rp 9 rfl) (H.rp 8 rfl) (H.rp 7 rfl) (H.rp 3 rfl) (H.rp 2 rfl) (H.rp 1 rfl)) ?_
                              rintro _ w270 hE271 rfl
                              have H := H.ext hE271
                              refine RW.fin 2 [1, 10, 12, 15, 17, 165] [(1, .int .i64 (n : Int)), (10, .slice a15 ((msgsOf (aW xs n)).length) c16), (12, .slice sa seen.length sc), (15, .slice ga ag.length gc), (17, .int .i64 (z : Int)), (165, .bool false)] (by as_aux_lemma => kernel_rfl) ?_
                              refine WK.run 3 [1, 10, 12, 15, 17] [.code (cd Try.prog 4 [12, 0, 1, 0, 0, 2]), .inLoop (cd Try.prog 4 [12, 0, 1, 0, 0]), .inBlock 6, .code (cd Try.prog 4 [13])] [(1, .int .i64 (n : Int)), (10, .slice a15 ((msgsOf (aW xs n)).length) c16), (12, .slice sa seen.length sc), (15, .slice ga ag.length gc), (17, .int .i64 (z : Int))] (by as_aux_lemma => kernel_rfl) ?_
                              have H := H.pick [12, 13] rfl
                              refine WK.reg1 (l := sq 0 3) (by as_aux_lemma => kernel_rfl) (by as_aux_lemma => kernel_rfl) ?_
                              refine RW.runP 1 [1, 10, 12, 15, 17, 133] (sq 1 3) [(1, .int .i64 (n : Int)), (10, .slice a15 ((msgsOf (aW xs n)).length) c16), (12, .slice sa seen.length sc), (15, .slice ga ag.length gc), (17, .int .i64 (z : Int)), (133, .int .i64 (z : Int))] (by as_aux_lemma => kernel_rfl) (by as_aux_lemma => kernel_rfl) ?_
                              refine RW.wr64 (κ := .seq) (d := some 134) (r := (sq 2 3)) (t := (z : Int) + 1) (by as_aux_lemma => kernel_rfl) (by omega) ?_
                              refine RW.fin 1 [1, 10, 12, 15, 17] [(1, .int .i64 (n : Int)), (10, .slice a15 ((msgsOf (aW xs n)).length) c16), (12, .slice sa seen.length sc), (15, .slice ga ag.length gc), (17, .int .i64 ((z : Int) + 1))] (by as_aux_lemma => kernel_rfl) ?_
                              exact WK.back (hback153 (z + 1) _ ⟨H, by omega⟩ (by first | omega | (simp only []; omega))) (by as_aux_lemma => kernel_rfl)
                      · skip
                        replace h155 := of_decide_eq_false h155
                        refine WK.run 2 [] [.code (cd Try.prog 4 [13, 0]), .code (cd Try.prog 4 [14])] [] (by as_aux_lemma => kernel_rfl) ?_
                        refine WK.reg1 (l := sq 0 2) (by as_aux_lemma => kernel_rfl) (by as_aux_lemma => kernel_rfl) ?_
                        refine RW.call (κ := .seq) (d := some 166) (r := (sq 1 2)) (g := 22) (args := #[]) (by as_aux_lemma => kernel_rfl) (nofun) (heads_spec (S := fun _ => True)) ?_
                        rintro _ w272 hE273 rfl
                        have H := H.ext hE273
                        refine RW.fin 1 [6] [(6, .bool true)] (by as_aux_lemma => kernel_rfl) ?_
                        refine WK.ret (v := .bool true) Try.func4 (by as_aux_lemma => kernel_rfl) (by as_aux_lemma => kernel_rfl) ?_
                        exact ⟨_, rfl, H.done, rfl⟩


end Go.Proofs.Ytppcdmbkgficiaa
