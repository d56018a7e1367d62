import Derived.Test.YtppcdmbkgficiaaP2
import Derived.Test.YtppcdmbkgficiaaBxGrow
import Derived.Test.YtppcdmbkgficiaaBxMap
namespace Go.Proofs.Ytppcdmbkgficiaa
open Go.BX

theorem grow_spec {S : Nat → Prop} {w : World} {n : Nat} (hn : n ≤ 1099511627776) :
 Calls Try.prog 102 #[.slice none 0 0, .I n] w (Ret fun v w' => Ext w w' ∧ Hp w S [] [] [⟨Sb, 5, v, []⟩] [] w') := by
 refine qS (fn := Try.f102) (n := 27) (σ := [(0, .slice none 0 0), (1, .I n)]) Try.func102 ?_
 have H := Hp.startF (w := w) (S := S) (G := []) .nil
 refine qR 5 [.c [1, 0, 1], .c [2]] [(0, .slice none 0 0), (1, .I n), (6, .bool (decide (((n : Int) : Int) < 0)))] ?_
 refine qD (((n : Int) : Int) < 0) (fun h1 => ?_) (fun h1 => ?_)
 ·
  omega
 ·
  refine qR 3 [.c [2, 0, 0], .c [2, 0, 1], .c [3]] [(0, .slice none 0 0), (1, .I n)] ?_
  refine qG (sq 0 8) ?_
  refine qP 6 (sq 6 8) [(0, .slice none 0 0), (1, .I n), (8, .I n), (13, .I 0)] ?_
  refine RW.pv (κ := .seq) (d := some 14) (r := (sq 7 8)) (v' := .I n) (v := .I (IntKind.i64.wrap ((n : Int) - 0))) (by as_aux_lemma => kernel_rfl) ((wr_i64 (by omega)).trans (by rw [Int.sub_zero])) ?_
  refine qF 1 [(0, .slice none 0 0), (1, .I n)] ?_
  refine qR 2 [.c [2, 0, 2], .c [3]] [(0, .slice none 0 0), (1, .I n), (16, .bool (decide (((n : Int) : Int) > 0)))] ?_
  refine qD (((n : Int) : Int) > 0) (fun h2 => ?_) (fun h2 => ?_)
  ·
   refine qG (sq 0 10) ?_
   refine qP 3 (sq 3 10) [(0, .slice none 0 0), (1, .I n), (17, .slice none 0 0), (19, .I 0)] ?_
   refine RW.readS (κ := .seq) (d := some 20) (r := (sq 4 10)) (s := semV (Instr.sliceAt 23 (.slice none 0 0) none (some (.I 0)) none)) (v := .slice none 0 0) (by as_aux_lemma => kernel_rfl) (fun w' _ => semV_run (sliceAt_run0 (e := 5) (m := 1) (by as_aux_lemma => kernel_rfl) (hi := 0) (.mk (by omega)) (by omega))) ?_
   refine qP 1 (sq 5 10) [(0, .slice none 0 0), (20, .slice none 0 0), (21, .I n)] ?_
   refine RW.appendZN (d := some 22) (r := (sq 6 10)) (T := 23) (TI := 3) (ty := 23) (e := 5) (m := 1) (by_ := 1) (ik := .i64) (j := n) (t := (n : Int)) (by as_aux_lemma => kernel_rfl) (by omega) (by as_aux_lemma => kernel_rfl) (by as_aux_lemma => kernel_rfl) H (by decide) (by omega) (by omega) (by omega) ?_
   intro b3 cc4 c5 w6 H hcs hcc1 hcc2
   have H : Hp w S [] [(b3, .cells c5 5 (0, 0))] [] [] _ := H
   refine qP 2 (sq 8 10) [(0, .slice none 0 0), (22, .slice (some ⟨b3, 0, none⟩) n cc4), (24, .I 0)] ?_
   refine RW.sliceR (κ := .seq) (d := some 25) (r := (sq 9 10)) (T := 23) (e := 5) (m := 1) (b := b3) (o := 0) (len := n) (cap := cc4) (lv := none) (hv := (some (.I 0))) (by as_aux_lemma => kernel_rfl) (by as_aux_lemma => kernel_rfl) 0 0 .nil (.mk (by omega)) (by omega) (by omega) ?_
   intro o7 ho8
   obtain rfl : o7 = 0 := by have := ho8 (by omega); omega
   refine qF 1 [(0, .slice (some ⟨b3, 0, none⟩) 0 cc4)] ?_
   refine qR 2 [.c [4]] [(4, .slice (some ⟨b3, 0, none⟩) 0 cc4)] ?_
   refine qT (.slice (some ⟨b3, 0, none⟩) 0 cc4) Try.func102 ?_
   have H := H.toOwn (sh := Sb) (xs := []) (cap := cc4) (by rw [hcs]; rfl) (Nat.zero_le _) (by unfold maxLen; omega) (by simp) EsP.nil
   have H := H.drop (M' := []) (W' := [_]) (List.nil_sublist _) (List.Sublist.refl _)
   exact ⟨_, rfl, H.done, H.pick [] rfl⟩
  ·
   refine qR 3 [.c [4]] [(4, .slice none 0 0)] ?_
   refine qT (.slice none 0 0) Try.func102 ?_
   exact ⟨_, rfl, H.done, (H.pick [] rfl).ownNil Sb 5⟩

def catTo (m : List (List (BitVec 8))) (i : Nat) : List (BitVec 8) := (m.take i).flatten
theorem catTo_succ {m : List (List (BitVec 8))} {i : Nat} (h : i < m.length) : catTo m i ++ m[i] = catTo m (i + 1) := by
 unfold catTo
 rw [List.take_succ_eq_append_getElem h, List.flatten_append]
 simp only [List.flatten_cons, List.flatten_nil, List.append_nil]
theorem catTo_len {m : List (List (BitVec 8))} {l i : Nat} (h : ∀ x ∈ m, x.length = l) (hi : i ≤ m.length) : (catTo m i).length = i * l := by
 induction i with
 | zero => simp [catTo]
 | succ i ih =>
  rw [← catTo_succ (by omega), List.length_append, ih (by omega), h _ (List.getElem_mem _), Nat.succ_mul]
theorem catTo_all (m : List (List (BitVec 8))) : catTo m m.length = m.flatten := by
 unfold catTo
 rw [List.take_length]

theorem concat_spec {S : Nat → Prop} {w : World} {m : List (List (BitVec 8))} {a : Option Addr} {k : Nat} (h : (Shape.slice SB).rep S w [.slice a m.length k] m) (hr : m.length ≤ 255) {l : Nat} (hl : ∀ x ∈ m, x.length = l) (hl2 : l ≤ 65536) :
 Calls Try.prog 70 #[.slice a m.length k] w (Ret fun v w' => Ext w w' ∧ Hp w S [] [] [⟨Sb, 5, v, m.flatten⟩] [] w') := by
 have hml := Shape.slice_len h
 have hmm : m.length * l ≤ 255 * 65536 := Nat.mul_le_mul hr hl2
 refine qS (fn := Try.f70) (n := 36) (σ := [(0, .slice a m.length k)]) Try.func70 ?_
 have H := Hp.startF (w := w) (S := S) (G := [Rp (Shape.slice SB) [.slice a m.length k] m]) (.rp h .nil)
 refine qR 8 [.c [2, 0, 1, 0], .b 0, .c [3]] [(0, .slice a m.length k), (3, .I 0), (9, .slice a m.length k), (10, .I ((m.length : Nat) : Int)), (11, .I 0)] ?_
 refine WK.loop (α := Nat) (b := cd Try.prog 70 [2, 0, 1, 0, 0]) (by as_aux_lemma => kernel_rfl) (fun i => [(0, .slice a m.length k), (3, .I ((i * l : Nat) : Int)), (9, .slice a m.length k), (10, .I ((m.length : Nat) : Int)), (11, .I i)]) (fun i w' => Hp w S [] [] [] [Rp (Shape.slice SB) [.slice a m.length k] m] w' ∧ i ≤ m.length) (fun i => m.length - i) 0 ⟨H, Nat.zero_le _⟩ (by simp) ?_
 rintro i w2 ⟨H, hinv0⟩ hback1
 refine qR 3 [.c [2, 0, 1, 0, 0, 1, 0], .c [2, 0, 1, 0, 0, 2], .l [2, 0, 1, 0, 0], .b 0, .c [3]] [(0, .slice a m.length k), (3, .I ((i * l : Nat) : Int)), (9, .slice a m.length k), (10, .I ((m.length : Nat) : Int)), (11, .I i), (12, .bool (decide (((i : Int) : Int) < ((m.length : Nat) : Int))))] ?_
 refine qD (((i : Int) : Int) < ((m.length : Nat) : Int)) (fun h3 => ?_) (fun h3 => ?_)
 ·
  have hil := hl (m[i]) (List.getElem_mem (by omega))
  have hib : i * l ≤ 255 * 65536 := Nat.mul_le_mul (by omega) hl2
  have his : (i + 1) * l = i * l + l := Nat.succ_mul i l
  refine qR 4 [.c [2, 0, 1, 0, 0, 2, 0, 0, 0], .c [2, 0, 1, 0, 0, 2, 0, 0, 1], .b 1, .c [2, 0, 1, 0, 0, 3], .l [2, 0, 1, 0, 0], .b 0, .c [3]] [(0, .slice a m.length k), (3, .I ((i * l : Nat) : Int)), (9, .slice a m.length k), (10, .I ((m.length : Nat) : Int)), (11, .I i)] ?_
  refine qG (sq 0 3) ?_
  have hx4 : i < m.length := by omega
  refine qX .seq 13 (sq 1 3) 29 23 (i : Int) SB (m[i]) H 0 rfl i (by omega) (List.getElem?_eq_getElem hx4) ?_
  intro b5 o6 es7 hr8 H
  obtain ⟨a9, k10, rfl⟩ := Shape.slice_form' hr8
  have H := H.add (F := Rp SB [.slice a9 (m[i]).length k10] (m[i])) hr8
  refine qL .seq 14 (sq 2 3) 23 b5 o6 0 (.slice a9 (m[i]).length k10) (H.fc 1 rfl) ?_
  refine qF 1 [(0, .slice a m.length k), (3, .I ((i * l : Nat) : Int)), (5, .slice a9 (m[i]).length k10), (9, .slice a m.length k), (10, .I ((m.length : Nat) : Int)), (11, .I i)] ?_
  refine qR 1 [.c [2, 0, 1, 0, 0, 2, 0, 0, 1, 0], .c [2, 0, 1, 0, 0, 2, 0, 0, 2], .b 1, .c [2, 0, 1, 0, 0, 3], .l [2, 0, 1, 0, 0], .b 0, .c [3]] [(0, .slice a m.length k), (3, .I ((i * l : Nat) : Int)), (5, .slice a9 (m[i]).length k10), (9, .slice a m.length k), (10, .I ((m.length : Nat) : Int)), (11, .I i)] ?_
  refine qG (sq 0 5) ?_
  refine qP 3 (sq 3 5) [(0, .slice a m.length k), (3, .I ((i * l : Nat) : Int)), (9, .slice a m.length k), (10, .I ((m.length : Nat) : Int)), (11, .I i), (15, .I ((i * l : Nat) : Int)), (17, .I (((m[i]).length : Nat) : Int))] ?_
  refine qI .seq 18 (sq 4 5) (((i * l : Nat) : Int) + (((m[i]).length : Nat) : Int)) ?_
  refine qF 1 [(0, .slice a m.length k), (3, .I (((i * l : Nat) : Int) + (((m[i]).length : Nat) : Int))), (9, .slice a m.length k), (10, .I ((m.length : Nat) : Int)), (11, .I i)] ?_
  refine qR 2 [.c [2, 0, 1, 0, 0, 2, 0, 0, 3], .b 1, .c [2, 0, 1, 0, 0, 3], .l [2, 0, 1, 0, 0], .b 0, .c [3]] [(0, .slice a m.length k), (3, .I (((i * l : Nat) : Int) + (((m[i]).length : Nat) : Int))), (9, .slice a m.length k), (10, .I ((m.length : Nat) : Int)), (11, .I i), (20, .bool (decide ((((i * l : Nat) : Int) + (((m[i]).length : Nat) : Int) : Int) < 0)))] ?_
  refine qD ((((i * l : Nat) : Int) + (((m[i]).length : Nat) : Int) : Int) < 0) (fun h11 => ?_) (fun h11 => ?_)
  ·
   omega
  ·
   refine qR 2 [.c [2, 0, 1, 0, 0, 3], .l [2, 0, 1, 0, 0], .b 0, .c [3]] [(0, .slice a m.length k), (3, .I (((i * l : Nat) : Int) + (((m[i]).length : Nat) : Int))), (9, .slice a m.length k), (10, .I ((m.length : Nat) : Int)), (11, .I i)] ?_
   refine qG (sq 0 2) ?_
   refine qI .seq 22 (sq 1 2) ((i : Int) + 1) ?_
   refine qF 1 [(0, .slice a m.length k), (3, .I (((i * l : Nat) : Int) + (((m[i]).length : Nat) : Int))), (9, .slice a m.length k), (10, .I ((m.length : Nat) : Int)), (11, .I ((i : Int) + 1))] ?_
   have H := H.pick [2] (G' := [Rp (Shape.slice SB) [.slice a m.length k] m]) rfl
   exact WK.back (hback1 (i + 1) _ ⟨H, by omega⟩ (by first | omega | (simp only []; omega))) (by rw [his, hil]; simp)
 ·
  have hib : i * l ≤ 255 * 65536 := Nat.mul_le_mul (by omega) hl2
  refine qR 2 [.c [3, 0], .c [4]] [(0, .slice a m.length k), (3, .I ((i * l : Nat) : Int))] ?_
  refine qG (sq 0 3) ?_
  refine qP 1 (sq 1 3) [(0, .slice a m.length k), (23, .I ((i * l : Nat) : Int))] ?_
  refine qK .seq (some 24) (sq 2 3) 102 #[.slice none 0 0, .I ((i * l : Nat) : Int)] (grow_spec (S := Av S w [] (idsOf [] [])) (n := i * l) (by omega)) ?_
  rintro v13 w12 - H'
  have H := H.back (M1 := []) (W1 := []) H'
  obtain ⟨a14, c15, rfl, hc16, hm17⟩ := H.ownForm 0 rfl
  have H : Hp w S [] [] [⟨Sb, 5, .slice a14 (([] : List (BitVec 8)).length) c15, ([] : List (BitVec 8))⟩] [Rp (Shape.slice SB) [.slice a m.length k] m] _ := H
  refine qF 1 [(0, .slice a m.length k), (6, .slice a14 (([] : List (BitVec 8)).length) c15)] ?_
  refine qR 4 [.c [4, 0, 1, 0], .b 2, .c [5]] [(6, .slice a14 (([] : List (BitVec 8)).length) c15), (25, .slice a m.length k), (26, .I ((m.length : Nat) : Int)), (27, .I 0)] ?_
  have H := H.drop (M' := []) (W' := [⟨Sb, 5, .slice a14 (catTo m 0).length c15, catTo m 0⟩]) (by repeat (first | exact List.Sublist.refl _ | exact List.nil_sublist _ | apply List.Sublist.cons_cons | apply List.Sublist.cons)) (by repeat (first | exact List.Sublist.refl _ | exact List.nil_sublist _ | apply List.Sublist.cons_cons | apply List.Sublist.cons))
  refine WK.loop (α := Nat × Option Addr × Nat) (b := cd Try.prog 70 [4, 0, 1, 0, 0]) (by as_aux_lemma => kernel_rfl) (fun st_ => match st_ with | (j, ao, co) => [(6, .slice ao (catTo m j).length co), (25, .slice a m.length k), (26, .I ((m.length : Nat) : Int)), (27, .I j)]) (fun st_ w' => match st_ with | (j, ao, co) => Hp w S [] [] [⟨Sb, 5, .slice ao (catTo m j).length co, catTo m j⟩] [Rp (Shape.slice SB) [.slice a m.length k] m] w' ∧ j ≤ m.length) (fun st_ => match st_ with | (j, ao, co) => m.length - j) (0, a14, c15) ⟨H, Nat.zero_le _⟩ (rfl) ?_
  rintro ⟨j, ao, co⟩ w19 ⟨H, hinv1⟩ hback18
  refine qR 3 [.c [4, 0, 1, 0, 0, 1, 0], .c [4, 0, 1, 0, 0, 2], .l [4, 0, 1, 0, 0], .b 2, .c [5]] [(6, .slice ao (catTo m j).length co), (25, .slice a m.length k), (26, .I ((m.length : Nat) : Int)), (27, .I j), (28, .bool (decide (((j : Int) : Int) < ((m.length : Nat) : Int))))] ?_
  refine qD (((j : Int) : Int) < ((m.length : Nat) : Int)) (fun h20 => ?_) (fun h20 => ?_)
  ·
   have hil := hl (m[j]) (List.getElem_mem (by omega))
   have hcl := catTo_len (m := m) hl (show j ≤ m.length by omega)
   have hjb : j * l ≤ 255 * 65536 := Nat.mul_le_mul (by omega) hl2
   refine qR 4 [.c [4, 0, 1, 0, 0, 2, 0, 0, 0], .c [4, 0, 1, 0, 0, 2, 0, 0, 1], .b 3, .c [4, 0, 1, 0, 0, 3], .l [4, 0, 1, 0, 0], .b 2, .c [5]] [(6, .slice ao (catTo m j).length co), (25, .slice a m.length k), (26, .I ((m.length : Nat) : Int)), (27, .I j)] ?_
   refine qG (sq 0 3) ?_
   have hx21 : j < m.length := by omega
   refine qX .seq 29 (sq 1 3) 29 23 (j : Int) SB (m[j]) H 0 rfl j (by omega) (List.getElem?_eq_getElem hx21) ?_
   intro b22 o23 es24 hr25 H
   obtain ⟨a26, k27, rfl⟩ := Shape.slice_form' hr25
   have H := H.add (F := Rp SB [.slice a26 (m[j]).length k27] (m[j])) hr25
   refine qL .seq 30 (sq 2 3) 23 b22 o23 0 (.slice a26 (m[j]).length k27) (H.fc 1 rfl) ?_
   refine qF 1 [(6, .slice ao (catTo m j).length co), (8, .slice a26 (m[j]).length k27), (25, .slice a m.length k), (26, .I ((m.length : Nat) : Int)), (27, .I j)] ?_
   refine qG (sq 0 4) ?_
   refine qP 2 (sq 2 4) [(6, .slice ao (catTo m j).length co), (25, .slice a m.length k), (26, .I ((m.length : Nat) : Int)), (27, .I j), (31, .slice ao (catTo m j).length co), (32, .slice a26 (m[j]).length k27)] ?_
   refine RW.appendW (d := some 33) (r := (sq 3 4)) (T := 23) (ty := 23) (e := 5) (m := 1) (by_ := 1) (v := .slice ao (catTo m j).length co) (a2 := a26) (l2 := (m[j]).length) (c2 := k27) (zs := catTo m (j + 1)) (by as_aux_lemma => kernel_rfl) (by as_aux_lemma => kernel_rfl) rfl H 0 rfl 0 rfl (catTo_succ (by omega)) (by rw [← catTo_succ (by omega), List.length_append]; omega) ?_
   intro a28 c29 w31 H hc30
   have H : Hp w S [] [] [⟨Sb, 5, .slice a28 ((catTo m (j + 1)).length) c29, catTo m (j + 1)⟩] [Rp SB [.slice a26 (m[j]).length k27] (m[j]), Fc b22 o23 [.slice a26 (m[j]).length k27], Rp (Shape.slice SB) [.slice a m.length k] m] _ := H
   refine qF 1 [(6, .slice a28 ((catTo m (j + 1)).length) c29), (25, .slice a m.length k), (26, .I ((m.length : Nat) : Int)), (27, .I j)] ?_
   refine qR 1 [.c [4, 0, 1, 0, 0, 3], .l [4, 0, 1, 0, 0], .b 2, .c [5]] [(6, .slice a28 ((catTo m (j + 1)).length) c29), (25, .slice a m.length k), (26, .I ((m.length : Nat) : Int)), (27, .I j)] ?_
   refine qG (sq 0 2) ?_
   refine qI .seq 34 (sq 1 2) ((j : Int) + 1) ?_
   refine qF 1 [(6, .slice a28 ((catTo m (j + 1)).length) c29), (25, .slice a m.length k), (26, .I ((m.length : Nat) : Int)), (27, .I ((j : Int) + 1))] ?_
   have H := H.pick [2] (G' := [Rp (Shape.slice SB) [.slice a m.length k] m]) rfl
   exact WK.back (hback18 (j + 1, a28, c29) _ ⟨H, by omega⟩ (by first | omega | (simp only []; omega))) (by as_aux_lemma => kernel_rfl)
  ·
   refine qR 3 [.c [6]] [(2, .slice ao (catTo m j).length co)] ?_
   refine qT (.slice ao (catTo m j).length co) Try.func70 ?_
   have hje : j = m.length := by omega
   rw [hje, catTo_all] at H
   have H := H.drop (M' := []) (W' := [_]) (List.nil_sublist _) (List.cons_sublist_cons.2 (List.nil_sublist _))
   exact ⟨_, rfl, H.done, by rw [hje, catTo_all]; exact H.pick [] rfl⟩


end Go.Proofs.Ytppcdmbkgficiaa
