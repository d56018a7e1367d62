import Derived.Test.YtppcdmbkgficiaaP2
import Derived.Test.YtppcdmbkgficiaaBxGrow
import Derived.Test.YtppcdmbkgficiaaBxMap
namespace Go.Proofs.Ytppcdmbkgficiaa
open Go.BX

theorem grow_spec {S : Nat → Prop} {w : World} {n : Nat} (hn : n ≤ 1099511627776) :
    Calls Try.prog 102 #[.slice none 0 0, .int .i64 (n : Int)] w (Ret fun v w' => Ext w w' ∧ Hp w S [] [] [⟨Shape.bv .u8 8, 5, v, []⟩] [] w') := by
  refine WK.calls1 (fn := Try.f102) (n := 27) (σ := [(0, .slice none 0 0), (1, .int .i64 (n : Int))]) Try.func102 rfl (by as_aux_lemma => kernel_rfl) (by as_aux_lemma => kernel_rfl) (by as_aux_lemma => kernel_rfl) ?_
  have H := Hp.startF (w := w) (S := S) (G := []) .nil
  refine WK.run 5 [0, 1, 6] [.code (cd Try.prog 102 [1, 0, 1]), .code (cd Try.prog 102 [2])] [(0, .slice none 0 0), (1, .int .i64 (n : Int)), (6, .bool (decide (((n : Int) : Int) < 0)))] (by as_aux_lemma => kernel_rfl) ?_
  refine WK.cond1 (decide (((n : Int) : Int) < 0)) (by as_aux_lemma => kernel_rfl) (by as_aux_lemma => kernel_rfl) (fun h1 => ?_) (fun h1 => ?_)
  · skip
    replace h1 := of_decide_eq_true h1
    omega
  · skip
    replace h1 := of_decide_eq_false h1
    refine WK.run 3 [0, 1] [.code (cd Try.prog 102 [2, 0, 0]), .code (cd Try.prog 102 [2, 0, 1]), .code (cd Try.prog 102 [3])] [(0, .slice none 0 0), (1, .int .i64 (n : Int))] (by as_aux_lemma => kernel_rfl) ?_
    refine WK.reg1 (l := sq 0 8) (by as_aux_lemma => kernel_rfl) (by as_aux_lemma => kernel_rfl) ?_
    refine RW.runP 6 [0, 1, 8, 13] (sq 6 8) [(0, .slice none 0 0), (1, .int .i64 (n : Int)), (8, .int .i64 (n : Int)), (13, .int .i64 0)] (by as_aux_lemma => kernel_rfl) (by as_aux_lemma => kernel_rfl) ?_
    refine RW.pv (κ := .seq) (d := some 14) (r := (sq 7 8)) (v' := .int .i64 (n : Int)) (v := .int .i64 (IntKind.i64.wrap ((n : Int) - 0))) (by as_aux_lemma => kernel_rfl) ((wr_i64 (by omega)).trans (by rw [Int.sub_zero])) ?_
    refine RW.fin 1 [0, 1] [(0, .slice none 0 0), (1, .int .i64 (n : Int))] (by as_aux_lemma => kernel_rfl) ?_
    refine WK.run 2 [0, 1, 16] [.code (cd Try.prog 102 [2, 0, 2]), .code (cd Try.prog 102 [3])] [(0, .slice none 0 0), (1, .int .i64 (n : Int)), (16, .bool (decide (((n : Int) : Int) > 0)))] (by as_aux_lemma => kernel_rfl) ?_
    refine WK.cond1 (decide (((n : Int) : Int) > 0)) (by as_aux_lemma => kernel_rfl) (by as_aux_lemma => kernel_rfl) (fun h2 => ?_) (fun h2 => ?_)
    · skip
      replace h2 := of_decide_eq_true h2
      refine WK.reg1 (l := sq 0 10) (by as_aux_lemma => kernel_rfl) (by as_aux_lemma => kernel_rfl) ?_
      refine RW.runP 3 [0, 1, 17, 19] (sq 3 10) [(0, .slice none 0 0), (1, .int .i64 (n : Int)), (17, .slice none 0 0), (19, .int .i64 0)] (by as_aux_lemma => kernel_rfl) (by as_aux_lemma => kernel_rfl) ?_
      refine RW.readS (κ := .seq) (d := some 20) (r := (sq 4 10)) (s := semV (Instr.sliceAt 23 (.slice none 0 0) none (some (.int .i64 0)) none)) (v := .slice none 0 0) (by as_aux_lemma => kernel_rfl) (fun w' _ => semV_run (sliceAt_run0 (e := 5) (m := 1) (by as_aux_lemma => kernel_rfl) (hi := 0) (.mk (by omega)) (by omega))) ?_
      refine RW.runP 1 [0, 20, 21] (sq 5 10) [(0, .slice none 0 0), (20, .slice none 0 0), (21, .int .i64 (n : Int))] (by as_aux_lemma => kernel_rfl) (by as_aux_lemma => kernel_rfl) ?_
      refine RW.appendZN (d := some 22) (r := (sq 6 10)) (T := 23) (TI := 3) (ty := 23) (e := 5) (m := 1) (by_ := 1) (ik := .i64) (j := n) (t := (n : Int)) (by as_aux_lemma => kernel_rfl) (by omega) (by as_aux_lemma => kernel_rfl) (by as_aux_lemma => kernel_rfl) H (by decide) (by omega) (by omega) (by omega) ?_
      intro b3 cc4 c5 w6 H hcs hcc1 hcc2
      have H : Hp w S [] [(b3, .cells c5 5 (0, 0))] [] [] _ := H
      refine RW.runP 2 [0, 22, 24] (sq 8 10) [(0, .slice none 0 0), (22, .slice (some ⟨b3, 0, none⟩) n cc4), (24, .int .i64 0)] (by as_aux_lemma => kernel_rfl) (by as_aux_lemma => kernel_rfl) ?_
      refine RW.sliceR (κ := .seq) (d := some 25) (r := (sq 9 10)) (T := 23) (e := 5) (m := 1) (b := b3) (o := 0) (len := n) (cap := cc4) (lv := none) (hv := (some (.int .i64 0))) (by as_aux_lemma => kernel_rfl) (by as_aux_lemma => kernel_rfl) 0 0 .nil (.mk (by omega)) (by omega) (by omega) ?_
      intro o7 ho8
      obtain rfl : o7 = 0 := by have := ho8 (by omega); omega
      refine RW.fin 1 [0] [(0, .slice (some ⟨b3, 0, none⟩) 0 cc4)] (by as_aux_lemma => kernel_rfl) ?_
      refine WK.run 2 [4] [.code (cd Try.prog 102 [4])] [(4, .slice (some ⟨b3, 0, none⟩) 0 cc4)] (by as_aux_lemma => kernel_rfl) ?_
      refine WK.ret (v := .slice (some ⟨b3, 0, none⟩) 0 cc4) Try.func102 (by as_aux_lemma => kernel_rfl) (by as_aux_lemma => kernel_rfl) ?_
      have H := H.toOwn (sh := Shape.bv .u8 8) (xs := []) (cap := cc4) (by rw [hcs]; rfl) (Nat.zero_le _) (by unfold maxLen; omega) (by simp) EsP.nil
      have H := H.drop (M' := []) (W' := [_]) (List.nil_sublist _) (List.Sublist.refl _)
      exact ⟨_, rfl, H.done, H.pick [] rfl⟩
    · skip
      replace h2 := of_decide_eq_false h2
      refine WK.run 3 [4] [.code (cd Try.prog 102 [4])] [(4, .slice none 0 0)] (by as_aux_lemma => kernel_rfl) ?_
      refine WK.ret (v := .slice none 0 0) Try.func102 (by as_aux_lemma => kernel_rfl) (by as_aux_lemma => kernel_rfl) ?_
      exact ⟨_, rfl, H.done, (H.pick [] rfl).ownNil (Shape.bv .u8 8) 5⟩

def catTo (m : List (List (BitVec 8))) (i : Nat) : List (BitVec 8) := (m.take i).flatten
theorem catTo_succ {m : List (List (BitVec 8))} {i : Nat} (h : i < m.length) : catTo m i ++ m[i] = catTo m (i + 1) := by
  unfold catTo
  rw [List.take_succ_eq_append_getElem h, List.flatten_append]
  simp only [List.flatten_cons, List.flatten_nil, List.append_nil]
theorem catTo_len {m : List (List (BitVec 8))} {l i : Nat} (h : ∀ x ∈ m, x.length = l) (hi : i ≤ m.length) : (catTo m i).length = i * l := by
  induction i with
  | zero => simp [catTo]
  | succ i ih =>
    rw [← catTo_succ (by omega), List.length_append, ih (by omega), h _ (List.getElem_mem _), Nat.succ_mul]
theorem catTo_all (m : List (List (BitVec 8))) : catTo m m.length = m.flatten := by
  unfold catTo
  rw [List.take_length]

theorem concat_spec {S : Nat → Prop} {w : World} {m : List (List (BitVec 8))} {a : Option Addr} {k : Nat} (h : (Shape.slice (Shape.slice (Shape.bv .u8 8))).rep S w [.slice a m.length k] m) (hr : m.length ≤ 255) {l : Nat} (hl : ∀ x ∈ m, x.length = l) (hl2 : l ≤ 65536) :
    Calls Try.prog 70 #[.slice a m.length k] w (Ret fun v w' => Ext w w' ∧ Hp w S [] [] [⟨Shape.bv .u8 8, 5, v, m.flatten⟩] [] w') := by
  have hml := Shape.slice_len h
  have hmm : m.length * l ≤ 255 * 65536 := Nat.mul_le_mul hr hl2
  refine WK.calls1 (fn := Try.f70) (n := 36) (σ := [(0, .slice a m.length k)]) Try.func70 rfl (by as_aux_lemma => kernel_rfl) (by as_aux_lemma => kernel_rfl) (by as_aux_lemma => kernel_rfl) ?_
  have H := Hp.startF (w := w) (S := S) (G := [Rp (Shape.slice (Shape.slice (Shape.bv .u8 8))) [.slice a m.length k] m]) (.rp h .nil)
  refine WK.run 8 [0, 3, 9, 10, 11] [.code (cd Try.prog 70 [2, 0, 1, 0]), .inBlock 0, .code (cd Try.prog 70 [3])] [(0, .slice a m.length k), (3, .int .i64 0), (9, .slice a m.length k), (10, .int .i64 ((m.length : Nat) : Int)), (11, .int .i64 0)] (by as_aux_lemma => kernel_rfl) ?_
  refine WK.loop (α := Nat) (b := cd Try.prog 70 [2, 0, 1, 0, 0]) (by as_aux_lemma => kernel_rfl) (fun i => [(0, .slice a m.length k), (3, .int .i64 ((i * l : Nat) : Int)), (9, .slice a m.length k), (10, .int .i64 ((m.length : Nat) : Int)), (11, .int .i64 (i : Int))]) (fun i w' => Hp w S [] [] [] [Rp (Shape.slice (Shape.slice (Shape.bv .u8 8))) [.slice a m.length k] m] w' ∧ i ≤ m.length) (fun i => m.length - i) 0 ⟨H, Nat.zero_le _⟩ (by simp) ?_
  rintro i w2 ⟨H, hinv0⟩ hback1
  refine WK.run 3 [0, 3, 9, 10, 11, 12] [.code (cd Try.prog 70 [2, 0, 1, 0, 0, 1, 0]), .code (cd Try.prog 70 [2, 0, 1, 0, 0, 2]), .inLoop (cd Try.prog 70 [2, 0, 1, 0, 0]), .inBlock 0, .code (cd Try.prog 70 [3])] [(0, .slice a m.length k), (3, .int .i64 ((i * l : Nat) : Int)), (9, .slice a m.length k), (10, .int .i64 ((m.length : Nat) : Int)), (11, .int .i64 (i : Int)), (12, .bool (decide (((i : Int) : Int) < ((m.length : Nat) : Int))))] (by as_aux_lemma => kernel_rfl) ?_
  refine WK.cond1 (decide (((i : Int) : Int) < ((m.length : Nat) : Int))) (by as_aux_lemma => kernel_rfl) (by as_aux_lemma => kernel_rfl) (fun h3 => ?_) (fun h3 => ?_)
  · skip
    replace h3 := of_decide_eq_true h3
    have hil := hl (m[i]) (List.getElem_mem (by omega))
    have hib : i * l ≤ 255 * 65536 := Nat.mul_le_mul (by omega) hl2
    have his : (i + 1) * l = i * l + l := Nat.succ_mul i l
    refine WK.run 4 [0, 3, 9, 10, 11] [.code (cd Try.prog 70 [2, 0, 1, 0, 0, 2, 0, 0, 0]), .code (cd Try.prog 70 [2, 0, 1, 0, 0, 2, 0, 0, 1]), .inBlock 1, .code (cd Try.prog 70 [2, 0, 1, 0, 0, 3]), .inLoop (cd Try.prog 70 [2, 0, 1, 0, 0]), .inBlock 0, .code (cd Try.prog 70 [3])] [(0, .slice a m.length k), (3, .int .i64 ((i * l : Nat) : Int)), (9, .slice a m.length k), (10, .int .i64 ((m.length : Nat) : Int)), (11, .int .i64 (i : Int))] (by as_aux_lemma => kernel_rfl) ?_
    refine WK.reg1 (l := sq 0 3) (by as_aux_lemma => kernel_rfl) (by as_aux_lemma => kernel_rfl) ?_
    have hx4 : i < m.length := by omega
    refine RW.index (κ := .seq) (d := some 13) (r := (sq 1 3)) (T := 29) (e := 23) (ik := .i64) (ix := (i : Int)) (sh := (Shape.slice (Shape.bv .u8 8))) (x := m[i]) (by as_aux_lemma => kernel_rfl) (by as_aux_lemma => kernel_rfl) H 0 rfl i (by omega) (List.getElem?_eq_getElem hx4) ?_
    intro b5 o6 es7 hr8 H
    obtain ⟨a9, k10, rfl⟩ := Shape.slice_form' hr8
    have H := H.add (F := Rp (Shape.slice (Shape.bv .u8 8)) [.slice a9 ((m[i]).length) k10] (m[i])) hr8
    refine RW.load (κ := .seq) (d := some 14) (r := (sq 2 3)) (T := 23) (b := b5) (o' := o6) (k := 0) (v := .slice a9 ((m[i]).length) k10) (by as_aux_lemma => kernel_rfl) (H.fc 1 rfl) rfl (by as_aux_lemma => kernel_rfl) ?_
    refine RW.fin 1 [0, 3, 5, 9, 10, 11] [(0, .slice a m.length k), (3, .int .i64 ((i * l : Nat) : Int)), (5, .slice a9 ((m[i]).length) k10), (9, .slice a m.length k), (10, .int .i64 ((m.length : Nat) : Int)), (11, .int .i64 (i : Int))] (by as_aux_lemma => kernel_rfl) ?_
    refine WK.run 1 [0, 3, 5, 9, 10, 11] [.code (cd Try.prog 70 [2, 0, 1, 0, 0, 2, 0, 0, 1, 0]), .code (cd Try.prog 70 [2, 0, 1, 0, 0, 2, 0, 0, 2]), .inBlock 1, .code (cd Try.prog 70 [2, 0, 1, 0, 0, 3]), .inLoop (cd Try.prog 70 [2, 0, 1, 0, 0]), .inBlock 0, .code (cd Try.prog 70 [3])] [(0, .slice a m.length k), (3, .int .i64 ((i * l : Nat) : Int)), (5, .slice a9 ((m[i]).length) k10), (9, .slice a m.length k), (10, .int .i64 ((m.length : Nat) : Int)), (11, .int .i64 (i : Int))] (by as_aux_lemma => kernel_rfl) ?_
    refine WK.reg1 (l := sq 0 5) (by as_aux_lemma => kernel_rfl) (by as_aux_lemma => kernel_rfl) ?_
    refine RW.runP 3 [0, 3, 9, 10, 11, 15, 17] (sq 3 5) [(0, .slice a m.length k), (3, .int .i64 ((i * l : Nat) : Int)), (9, .slice a m.length k), (10, .int .i64 ((m.length : Nat) : Int)), (11, .int .i64 (i : Int)), (15, .int .i64 ((i * l : Nat) : Int)), (17, .int .i64 (((m[i]).length : Nat) : Int))] (by as_aux_lemma => kernel_rfl) (by as_aux_lemma => kernel_rfl) ?_
    refine RW.wr64 (κ := .seq) (d := some 18) (r := (sq 4 5)) (t := ((i * l : Nat) : Int) + (((m[i]).length : Nat) : Int)) (by as_aux_lemma => kernel_rfl) (by omega) ?_
    refine RW.fin 1 [0, 3, 9, 10, 11] [(0, .slice a m.length k), (3, .int .i64 (((i * l : Nat) : Int) + (((m[i]).length : Nat) : Int))), (9, .slice a m.length k), (10, .int .i64 ((m.length : Nat) : Int)), (11, .int .i64 (i : Int))] (by as_aux_lemma => kernel_rfl) ?_
    refine WK.run 2 [0, 3, 9, 10, 11, 20] [.code (cd Try.prog 70 [2, 0, 1, 0, 0, 2, 0, 0, 3]), .inBlock 1, .code (cd Try.prog 70 [2, 0, 1, 0, 0, 3]), .inLoop (cd Try.prog 70 [2, 0, 1, 0, 0]), .inBlock 0, .code (cd Try.prog 70 [3])] [(0, .slice a m.length k), (3, .int .i64 (((i * l : Nat) : Int) + (((m[i]).length : Nat) : Int))), (9, .slice a m.length k), (10, .int .i64 ((m.length : Nat) : Int)), (11, .int .i64 (i : Int)), (20, .bool (decide ((((i * l : Nat) : Int) + (((m[i]).length : Nat) : Int) : Int) < 0)))] (by as_aux_lemma => kernel_rfl) ?_
    refine WK.cond1 (decide ((((i * l : Nat) : Int) + (((m[i]).length : Nat) : Int) : Int) < 0)) (by as_aux_lemma => kernel_rfl) (by as_aux_lemma => kernel_rfl) (fun h11 => ?_) (fun h11 => ?_)
    · skip
      replace h11 := of_decide_eq_true h11
      omega
    · skip
      replace h11 := of_decide_eq_false h11
      refine WK.run 2 [0, 3, 9, 10, 11] [.code (cd Try.prog 70 [2, 0, 1, 0, 0, 3]), .inLoop (cd Try.prog 70 [2, 0, 1, 0, 0]), .inBlock 0, .code (cd Try.prog 70 [3])] [(0, .slice a m.length k), (3, .int .i64 (((i * l : Nat) : Int) + (((m[i]).length : Nat) : Int))), (9, .slice a m.length k), (10, .int .i64 ((m.length : Nat) : Int)), (11, .int .i64 (i : Int))] (by as_aux_lemma => kernel_rfl) ?_
      refine WK.reg1 (l := sq 0 2) (by as_aux_lemma => kernel_rfl) (by as_aux_lemma => kernel_rfl) ?_
      refine RW.wr64 (κ := .seq) (d := some 22) (r := (sq 1 2)) (t := (i : Int) + 1) (by as_aux_lemma => kernel_rfl) (by omega) ?_
      refine RW.fin 1 [0, 3, 9, 10, 11] [(0, .slice a m.length k), (3, .int .i64 (((i * l : Nat) : Int) + (((m[i]).length : Nat) : Int))), (9, .slice a m.length k), (10, .int .i64 ((m.length : Nat) : Int)), (11, .int .i64 ((i : Int) + 1))] (by as_aux_lemma => kernel_rfl) ?_
      have H := H.pick [2] (G' := [Rp (Shape.slice (Shape.slice (Shape.bv .u8 8))) [.slice a m.length k] m]) rfl
      exact WK.back (hback1 (i + 1) _ ⟨H, by omega⟩ (by first | omega | (simp only []; omega))) (by rw [his, hil]; simp)
  · skip
    replace h3 := of_decide_eq_false h3
    have hib : i * l ≤ 255 * 65536 := Nat.mul_le_mul (by omega) hl2
    refine WK.run 2 [0, 3] [.code (cd Try.prog 70 [3, 0]), .code (cd Try.prog 70 [4])] [(0, .slice a m.length k), (3, .int .i64 ((i * l : Nat) : Int))] (by as_aux_lemma => kernel_rfl) ?_
    refine WK.reg1 (l := sq 0 3) (by as_aux_lemma => kernel_rfl) (by as_aux_lemma => kernel_rfl) ?_
    refine RW.runP 1 [0, 23] (sq 1 3) [(0, .slice a m.length k), (23, .int .i64 ((i * l : Nat) : Int))] (by as_aux_lemma => kernel_rfl) (by as_aux_lemma => kernel_rfl) ?_
    refine RW.call (κ := .seq) (d := some 24) (r := (sq 2 3)) (g := 102) (args := #[.slice none 0 0, .int .i64 ((i * l : Nat) : Int)]) (by as_aux_lemma => kernel_rfl) (nofun) (grow_spec (S := Av S w [] (idsOf [] [])) (n := i * l) (by omega)) ?_
    rintro v13 w12 - H'
    have H := H.back (M1 := []) (W1 := []) H'
    obtain ⟨a14, c15, rfl, hc16, hm17⟩ := H.ownForm 0 rfl
    have H : Hp w S [] [] [⟨Shape.bv .u8 8, 5, .slice a14 (([] : List (BitVec 8)).length) c15, ([] : List (BitVec 8))⟩] [Rp (Shape.slice (Shape.slice (Shape.bv .u8 8))) [.slice a m.length k] m] _ := H
    refine RW.fin 1 [0, 6] [(0, .slice a m.length k), (6, .slice a14 (([] : List (BitVec 8)).length) c15)] (by as_aux_lemma => kernel_rfl) ?_
    refine WK.run 4 [6, 25, 26, 27] [.code (cd Try.prog 70 [4, 0, 1, 0]), .inBlock 2, .code (cd Try.prog 70 [5])] [(6, .slice a14 (([] : List (BitVec 8)).length) c15), (25, .slice a m.length k), (26, .int .i64 ((m.length : Nat) : Int)), (27, .int .i64 0)] (by as_aux_lemma => kernel_rfl) ?_
    have H := H.drop (M' := []) (W' := [⟨Shape.bv .u8 8, 5, .slice a14 ((catTo m 0).length) c15, catTo m 0⟩]) (by repeat (first | exact List.Sublist.refl _ | exact List.nil_sublist _ | apply List.Sublist.cons_cons | apply List.Sublist.cons)) (by repeat (first | exact List.Sublist.refl _ | exact List.nil_sublist _ | apply List.Sublist.cons_cons | apply List.Sublist.cons))
    refine WK.loop (α := Nat × Option Addr × Nat) (b := cd Try.prog 70 [4, 0, 1, 0, 0]) (by as_aux_lemma => kernel_rfl) (fun st_ => match st_ with | (j, ao, co) => [(6, .slice ao ((catTo m j).length) co), (25, .slice a m.length k), (26, .int .i64 ((m.length : Nat) : Int)), (27, .int .i64 (j : Int))]) (fun st_ w' => match st_ with | (j, ao, co) => Hp w S [] [] [⟨Shape.bv .u8 8, 5, .slice ao ((catTo m j).length) co, catTo m j⟩] [Rp (Shape.slice (Shape.slice (Shape.bv .u8 8))) [.slice a m.length k] m] w' ∧ j ≤ m.length) (fun st_ => match st_ with | (j, ao, co) => m.length - j) (0, a14, c15) ⟨H, Nat.zero_le _⟩ (rfl) ?_
    rintro ⟨j, ao, co⟩ w19 ⟨H, hinv1⟩ hback18
    refine WK.run 3 [6, 25, 26, 27, 28] [.code (cd Try.prog 70 [4, 0, 1, 0, 0, 1, 0]), .code (cd Try.prog 70 [4, 0, 1, 0, 0, 2]), .inLoop (cd Try.prog 70 [4, 0, 1, 0, 0]), .inBlock 2, .code (cd Try.prog 70 [5])] [(6, .slice ao ((catTo m j).length) co), (25, .slice a m.length k), (26, .int .i64 ((m.length : Nat) : Int)), (27, .int .i64 (j : Int)), (28, .bool (decide (((j : Int) : Int) < ((m.length : Nat) : Int))))] (by as_aux_lemma => kernel_rfl) ?_
    refine WK.cond1 (decide (((j : Int) : Int) < ((m.length : Nat) : Int))) (by as_aux_lemma => kernel_rfl) (by as_aux_lemma => kernel_rfl) (fun h20 => ?_) (fun h20 => ?_)
    · skip
      replace h20 := of_decide_eq_true h20
      have hil := hl (m[j]) (List.getElem_mem (by omega))
      have hcl := catTo_len (m := m) hl (show j ≤ m.length by omega)
      have hjb : j * l ≤ 255 * 65536 := Nat.mul_le_mul (by omega) hl2
      refine WK.run 4 [6, 25, 26, 27] [.code (cd Try.prog 70 [4, 0, 1, 0, 0, 2, 0, 0, 0]), .code (cd Try.prog 70 [4, 0, 1, 0, 0, 2, 0, 0, 1]), .inBlock 3, .code (cd Try.prog 70 [4, 0, 1, 0, 0, 3]), .inLoop (cd Try.prog 70 [4, 0, 1, 0, 0]), .inBlock 2, .code (cd Try.prog 70 [5])] [(6, .slice ao ((catTo m j).length) co), (25, .slice a m.length k), (26, .int .i64 ((m.length : Nat) : Int)), (27, .int .i64 (j : Int))] (by as_aux_lemma => kernel_rfl) ?_
      refine WK.reg1 (l := sq 0 3) (by as_aux_lemma => kernel_rfl) (by as_aux_lemma => kernel_rfl) ?_
      have hx21 : j < m.length := by omega
      refine RW.index (κ := .seq) (d := some 29) (r := (sq 1 3)) (T := 29) (e := 23) (ik := .i64) (ix := (j : Int)) (sh := (Shape.slice (Shape.bv .u8 8))) (x := m[j]) (by as_aux_lemma => kernel_rfl) (by as_aux_lemma => kernel_rfl) H 0 rfl j (by omega) (List.getElem?_eq_getElem hx21) ?_
      intro b22 o23 es24 hr25 H
      obtain ⟨a26, k27, rfl⟩ := Shape.slice_form' hr25
      have H := H.add (F := Rp (Shape.slice (Shape.bv .u8 8)) [.slice a26 ((m[j]).length) k27] (m[j])) hr25
      refine RW.load (κ := .seq) (d := some 30) (r := (sq 2 3)) (T := 23) (b := b22) (o' := o23) (k := 0) (v := .slice a26 ((m[j]).length) k27) (by as_aux_lemma => kernel_rfl) (H.fc 1 rfl) rfl (by as_aux_lemma => kernel_rfl) ?_
      refine RW.fin 1 [6, 8, 25, 26, 27] [(6, .slice ao ((catTo m j).length) co), (8, .slice a26 ((m[j]).length) k27), (25, .slice a m.length k), (26, .int .i64 ((m.length : Nat) : Int)), (27, .int .i64 (j : Int))] (by as_aux_lemma => kernel_rfl) ?_
      refine WK.reg1 (l := sq 0 4) (by as_aux_lemma => kernel_rfl) (by as_aux_lemma => kernel_rfl) ?_
      refine RW.runP 2 [6, 25, 26, 27, 31, 32] (sq 2 4) [(6, .slice ao ((catTo m j).length) co), (25, .slice a m.length k), (26, .int .i64 ((m.length : Nat) : Int)), (27, .int .i64 (j : Int)), (31, .slice ao ((catTo m j).length) co), (32, .slice a26 ((m[j]).length) k27)] (by as_aux_lemma => kernel_rfl) (by as_aux_lemma => kernel_rfl) ?_
      refine RW.appendW (d := some 33) (r := (sq 3 4)) (T := 23) (ty := 23) (e := 5) (m := 1) (by_ := 1) (v := .slice ao ((catTo m j).length) co) (a2 := a26) (l2 := ((m[j]).length)) (c2 := k27) (zs := catTo m (j + 1)) (by as_aux_lemma => kernel_rfl) (by as_aux_lemma => kernel_rfl) rfl H 0 rfl 0 rfl (catTo_succ (by omega)) (by rw [← catTo_succ (by omega), List.length_append]; omega) ?_
      intro a28 c29 w31 H hc30
      have H : Hp w S [] [] [⟨Shape.bv .u8 8, 5, .slice a28 ((catTo m (j + 1)).length) c29, catTo m (j + 1)⟩] [Rp (Shape.slice (Shape.bv .u8 8)) [.slice a26 ((m[j]).length) k27] (m[j]), Fc b22 o23 [.slice a26 ((m[j]).length) k27], Rp (Shape.slice (Shape.slice (Shape.bv .u8 8))) [.slice a m.length k] m] _ := H
      refine RW.fin 1 [6, 25, 26, 27] [(6, .slice a28 ((catTo m (j + 1)).length) c29), (25, .slice a m.length k), (26, .int .i64 ((m.length : Nat) : Int)), (27, .int .i64 (j : Int))] (by as_aux_lemma => kernel_rfl) ?_
      refine WK.run 1 [6, 25, 26, 27] [.code (cd Try.prog 70 [4, 0, 1, 0, 0, 3]), .inLoop (cd Try.prog 70 [4, 0, 1, 0, 0]), .inBlock 2, .code (cd Try.prog 70 [5])] [(6, .slice a28 ((catTo m (j + 1)).length) c29), (25, .slice a m.length k), (26, .int .i64 ((m.length : Nat) : Int)), (27, .int .i64 (j : Int))] (by as_aux_lemma => kernel_rfl) ?_
      refine WK.reg1 (l := sq 0 2) (by as_aux_lemma => kernel_rfl) (by as_aux_lemma => kernel_rfl) ?_
      refine RW.wr64 (κ := .seq) (d := some 34) (r := (sq 1 2)) (t := (j : Int) + 1) (by as_aux_lemma => kernel_rfl) (by omega) ?_
      refine RW.fin 1 [6, 25, 26, 27] [(6, .slice a28 ((catTo m (j + 1)).length) c29), (25, .slice a m.length k), (26, .int .i64 ((m.length : Nat) : Int)), (27, .int .i64 ((j : Int) + 1))] (by as_aux_lemma => kernel_rfl) ?_
      have H := H.pick [2] (G' := [Rp (Shape.slice (Shape.slice (Shape.bv .u8 8))) [.slice a m.length k] m]) rfl
      exact WK.back (hback18 (j + 1, a28, c29) _ ⟨H, by omega⟩ (by first | omega | (simp only []; omega))) (by as_aux_lemma => kernel_rfl)
    · skip
      replace h20 := of_decide_eq_false h20
      refine WK.run 3 [2] [.code (cd Try.prog 70 [6])] [(2, .slice ao ((catTo m j).length) co)] (by as_aux_lemma => kernel_rfl) ?_
      refine WK.ret (v := .slice ao ((catTo m j).length) co) Try.func70 (by as_aux_lemma => kernel_rfl) (by as_aux_lemma => kernel_rfl) ?_
      have hje : j = m.length := by omega
      rw [hje, catTo_all] at H
      have H := H.drop (M' := []) (W' := [_]) (List.nil_sublist _) (List.cons_sublist_cons.2 (List.nil_sublist _))
      exact ⟨_, rfl, H.done, by rw [hje, catTo_all]; exact H.pick [] rfl⟩


end Go.Proofs.Ytppcdmbkgficiaa
