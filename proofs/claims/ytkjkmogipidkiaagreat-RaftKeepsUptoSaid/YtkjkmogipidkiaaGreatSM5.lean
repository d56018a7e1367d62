import Derived.Test.YtkjkmogipidkiaaGreatSBxA
import Derived.Test.YtkjkmogipidkiaaGreatSM4
import Derived.Test.YtkjkmogipidkiaaGreatSI3
namespace Go.Proofs.YtkjkmogipidkiaaGreat
open Go.BX
theorem grow_spec {S : Nat → Prop} {w : World} {n : Nat} (hn : n ≤ 4194304) :
 Calls Tryz.prog 138 #[.slice none 0 0, .I n] w (Ret fun v w' => Ext w w' ∧ Hp w S [] [] [⟨Shape.int .i64, 3, v, []⟩] [] w') := by
 refine uS1 Tryz.func138 ?_
 have H := Hp.startF (w := w) (S := S) (G := []) .nil
 refine uR 5 [.c [1, 0, 1], .c [2]] ?_
 refine qD (((n : Int) : Int) < 0) (fun h => ?_) (fun h => ?_)
 ·
  omega
 ·
  refine uR 3 [.c [2, 0, 0], .c [2, 0, 1], .c [3]] ?_
  refine qG (sq 0 8) ?_
  refine uP 6 ?_
  refine RW.pv (κ := .seq) (d := some 14) (r := (sq 7 8)) (v' := .I n) (v := .I (IntKind.i64.wrap ((n : Int) - 0))) (by as_aux_lemma => kernel_rfl) ((wr_i64 (by omega)).trans (by rw [Int.sub_zero])) ?_
  refine uF 1 ?_
  refine uR 2 [.c [2, 0, 2], .c [3]] ?_
  refine qD (((n : Int) : Int) > 0) (fun i => ?_) (fun i => ?_)
  ·
   refine qG (sq 0 10) ?_
   refine uP 3 ?_
   refine RW.readS (κ := .seq) (d := some 20) (r := (sq 4 10)) (s := semV (Instr.sliceAt 26 (.slice none 0 0) none (some (.I 0)) none)) (v := .slice none 0 0) (by as_aux_lemma => kernel_rfl) (fun w' _ => semV_run (sliceAt_run0 (e := 3) (m := 1) (by as_aux_lemma => kernel_rfl) (hi := 0) (.mk (by omega)) (by omega))) ?_
   refine uP 1 ?_
   refine RW.appendZN (d := some 22) (r := (sq 6 10)) (T := 26) (TI := 3) (ty := 26) (e := 3) (m := 1) (by_ := 8) (ik := .i64) (j := n) (t := (n : Int)) (by as_aux_lemma => kernel_rfl) (by omega) (by as_aux_lemma => kernel_rfl) (by as_aux_lemma => kernel_rfl) H (by decide) (by omega) (by omega) (by omega) ?_
   intro f a k _ H hcs _ _
   have H : Hp w S [] [(f, .cells k 3 (0, 0))] [] [] _ := H
   refine uP 2 ?_
   refine RW.sliceR (κ := .seq) (d := some 25) (r := (sq 9 10)) (T := 26) (e := 3) (m := 1) (b := f) (o := 0) (len := n) (cap := a) (lv := none) (hv := (some (.I 0))) (by as_aux_lemma => kernel_rfl) (by as_aux_lemma => kernel_rfl) 0 0 .nil (.mk (by omega)) (by omega) (by omega) ?_
   intro l g
   obtain rfl : l = 0 := by have := g (by omega); omega
   refine uF 1 ?_
   refine uR 2 [.c [4]] ?_
   refine qT (.slice (some ⟨f, 0, none⟩) 0 a) Tryz.func138 ?_
   have H := H.toOwn (sh := Shape.int .i64) (xs := []) (cap := a) (by rw [hcs]; rfl) (Nat.zero_le _) (by unfold maxLen; omega) (by simp) EsP.nil
   have H := H.drop (M' := []) (W' := [_]) (List.nil_sublist _) (List.Sublist.refl _)
   exact ⟨_, rfl, H.done, H.pick [] rfl⟩
  ·
   refine qR 3 [.c [4]] [(4, .slice none 0 0)] ?_
   refine qT (.slice none 0 0) Tryz.func138 ?_
   exact ⟨_, rfl, H.done, (H.pick [] rfl).ownNil (Shape.int .i64) 3⟩
def catI (m : List (List Int)) (i : Nat) : List Int := (m.take i).flatten
theorem catI_succ {m : List (List Int)} {i : Nat} (h : i < m.length) : catI m i ++ m[i] = catI m (i + 1) := by
 unfold catI
 rw [List.take_succ_eq_append_getElem h, List.flatten_append]
 simp only [List.flatten_cons, List.flatten_nil, List.append_nil]
theorem catI_len {m : List (List Int)} {i : Nat} (h : ∀ x ∈ m, x.length ≤ 1048576) (hi : i ≤ m.length) : (catI m i).length ≤ i * 1048576 := by
 induction i with
 | zero => simp [catI]
 | succ i ih =>
  have a := ih (by omega)
  have b := h _ (List.getElem_mem (show i < m.length by omega))
  rw [← catI_succ (by omega), List.length_append]; omega
theorem catI_all (m : List (List Int)) : catI m m.length = m.flatten := by
 unfold catI
 rw [List.take_length]
theorem concat_spec {S : Nat → Prop} {w : World} {m : List (List Int)} {a : Option Addr} {k : Nat} (h : (Shape.slice (Shape.slice (Shape.int .i64))).rep S w [.slice a m.length k] m) (hr : m.length ≤ 4) (hl : ∀ x ∈ m, x.length ≤ 1048576) :
 Calls Tryz.prog 119 #[.slice a m.length k] w (Ret fun v w' => Ext w w' ∧ Hp w S [] [] [⟨Shape.int .i64, 3, v, m.flatten⟩] [] w') := by
 have hml := Shape.slice_len h
 refine uS1 Tryz.func119 ?_
 have H := Hp.startF (.rp h .nil)
 refine qR 8 [.c [2, 0, 1, 0], .b 0, .c [3]] [(0, .slice a m.length k), (3, .I 0), (9, .slice a m.length k), (10, .I ((m.length : Nat) : Int)), (11, .I 0)] ?_
 refine WK.loop (α := Nat) (b := cd Tryz.prog 119 [2, 0, 1, 0, 0]) (by as_aux_lemma => kernel_rfl) (fun i => [(0, .slice a m.length k), (3, .I (((catI m i).length : Nat) : Int)), (9, .slice a m.length k), (10, .I ((m.length : Nat) : Int)), (11, .I i)]) (fun i w' => Hp w S [] [] [] [Rp (Shape.slice (Shape.slice (Shape.int .i64))) [.slice a m.length k] m] w' ∧ i ≤ m.length) (fun i => m.length - i) 0 ⟨H, Nat.zero_le _⟩ (by simp [catI]) ?_
 rintro i _ ⟨H, _⟩ e
 refine uR 3 [.c [2, 0, 1, 0, 0, 1, 0], .c [2, 0, 1, 0, 0, 2], .l [2, 0, 1, 0, 0], .b 0, .c [3]] ?_
 refine qD (((i : Int) : Int) < ((m.length : Nat) : Int)) (fun F => ?_) (fun F => ?_)
 ·
  have hil := hl (m[i]) (List.getElem_mem (by omega))
  have hib := catI_len (i := i) hl (by omega)
  have his := congrArg List.length (catI_succ (m := m) (i := i) (by omega))
  rw [List.length_append] at his
  refine uR 4 [.c [2, 0, 1, 0, 0, 2, 0, 0, 0], .c [2, 0, 1, 0, 0, 2, 0, 0, 1], .b 1, .c [2, 0, 1, 0, 0, 3], .l [2, 0, 1, 0, 0], .b 0, .c [3]] ?_
  refine qG (sq 0 3) ?_
  have y : i < m.length := by omega
  refine uX 194 (i : Int) H 0 rfl i (by omega) (List.getElem?_eq_getElem y) ?_
  intro _ _ _ r H
  obtain ⟨_, _, rfl⟩ := Shape.slice_form' r
  have H := H.addR r
  refine uV 26 0 (H.fc 1 rfl) ?_
  refine uF 1 ?_
  refine uR 1 [.c [2, 0, 1, 0, 0, 2, 0, 0, 1, 0], .c [2, 0, 1, 0, 0, 2, 0, 0, 2], .b 1, .c [2, 0, 1, 0, 0, 3], .l [2, 0, 1, 0, 0], .b 0, .c [3]] ?_
  refine qG (sq 0 5) ?_
  refine uP 3 ?_
  refine uI ((((catI m i).length : Nat) : Int) + (((m[i]).length : Nat) : Int)) ?_
  refine uF 1 ?_
  refine uR 2 [.c [2, 0, 1, 0, 0, 2, 0, 0, 3], .b 1, .c [2, 0, 1, 0, 0, 3], .l [2, 0, 1, 0, 0], .b 0, .c [3]] ?_
  refine qD (((((catI m i).length : Nat) : Int) + (((m[i]).length : Nat) : Int) : Int) < 0) (fun z => ?_) (fun z => ?_)
  ·
   omega
  ·
   refine uR 2 [.c [2, 0, 1, 0, 0, 3], .l [2, 0, 1, 0, 0], .b 0, .c [3]] ?_
   refine qG (sq 0 2) ?_
   refine uI ((i : Int) + 1) ?_
   refine qF 1 [(0, .slice a m.length k), (3, .I ((((catI m i).length : Nat) : Int) + (((m[i]).length : Nat) : Int))), (9, .slice a m.length k), (10, .I ((m.length : Nat) : Int)), (11, .I ((i : Int) + 1))] ?_
   have H := H.pick [2] rfl
   exact WK.back (e (i + 1) _ ⟨H, by omega⟩ (by first | omega | (simp only []; omega))) (by rw [← his]; simp)
 ·
  have hib := catI_len (i := i) hl (by omega)
  refine uR 2 [.c [3, 0], .c [4]] ?_
  refine qG (sq 0 3) ?_
  refine uP 1 ?_
  refine uK (grow_spec (S := Av S w [] (idsOf [] [])) (n := (catI m i).length) (by omega)) ?_
  rintro _ _ - H'
  have H := H.back (M1 := []) (W1 := []) H'
  obtain ⟨f, o, rfl, _, _⟩ := H.ownForm 0 rfl
  have H : Hp w S [] [] [⟨Shape.int .i64, 3, .slice f ([] : List Int).length o, ([] : List Int)⟩] [_] _ := H
  refine uF 1 ?_
  refine qR 4 [.c [4, 0, 1, 0], .b 2, .c [5]] [(6, .slice f ([] : List Int).length o), (25, .slice a m.length k), (26, .I ((m.length : Nat) : Int)), (27, .I 0)] ?_
  have H := H.take 0 1
  refine uL (α := Nat × Option Addr × Nat) (g := 119) (p := [4, 0, 1, 0, 0]) (fun (j, ao, co) => [(6, .slice ao (catI m j).length co), (25, .slice a m.length k), (26, .I ((m.length : Nat) : Int)), (27, .I j)]) (fun (j, ao, co) w' => Hp w S [] [] [⟨Shape.int .i64, 3, .slice ao (catI m j).length co, catI m j⟩] [Rp (Shape.slice (Shape.slice (Shape.int .i64))) [.slice a m.length k] m] w' ∧ j ≤ m.length) (fun (j, ao, co) => m.length - j) (0, f, o) ⟨H, Nat.zero_le _⟩ ?_
  rintro ⟨j, ao, co⟩ _ ⟨H, _⟩ d
  refine uR 3 [.c [4, 0, 1, 0, 0, 1, 0], .c [4, 0, 1, 0, 0, 2], .l [4, 0, 1, 0, 0], .b 2, .c [5]] ?_
  refine qD (((j : Int) : Int) < ((m.length : Nat) : Int)) (fun A => ?_) (fun A => ?_)
  ·
   have hil := hl (m[j]) (List.getElem_mem (by omega))
   have hcl := catI_len (i := j) hl (by omega)
   refine uR 4 [.c [4, 0, 1, 0, 0, 2, 0, 0, 0], .c [4, 0, 1, 0, 0, 2, 0, 0, 1], .b 3, .c [4, 0, 1, 0, 0, 3], .l [4, 0, 1, 0, 0], .b 2, .c [5]] ?_
   refine qG (sq 0 3) ?_
   have u : j < m.length := by omega
   refine uX 194 (j : Int) H 0 rfl j (by omega) (List.getElem?_eq_getElem u) ?_
   intro B C _ q H
   obtain ⟨D, E, rfl⟩ := Shape.slice_form' q
   have H := H.addR q
   refine uV 26 0 (H.fc 1 rfl) ?_
   refine uF 1 ?_
   refine qG (sq 0 4) ?_
   refine uP 2 ?_
   refine uA 26 26 8 (catI m (j + 1)) H 0 rfl 0 rfl (catI_succ (by omega)) (by rw [← catI_succ (by omega), List.length_append]; omega) ?_
   intro s t _ H _
   have H : Hp w S [] [] [⟨Shape.int .i64, 3, .slice s ((catI m (j + 1)).length) t, catI m (j + 1)⟩] [_, Fc B C [.slice D (m[j]).length E], _] _ := H
   refine uF 1 ?_
   refine uR 1 [.c [4, 0, 1, 0, 0, 3], .l [4, 0, 1, 0, 0], .b 2, .c [5]] ?_
   refine qG (sq 0 2) ?_
   refine uI ((j : Int) + 1) ?_
   refine uF 1 ?_
   have H := H.pick [2] rfl
   exact uB (d (j + 1, s, t) _ ⟨H, by omega⟩ (by first | omega | (simp only []; omega)))
  ·
   refine uR 3 [.c [6]] ?_
   refine qT (.slice ao (catI m j).length co) Tryz.func119 ?_
   have hje : j = m.length := by omega
   rw [hje, catI_all] at H
   have H := H.drop (M' := []) (W' := [_]) (List.nil_sublist _) (List.cons_sublist_cons.2 (List.nil_sublist _))
   exact ⟨_, rfl, H.done, by rw [hje, catI_all]; exact H.pick [] rfl⟩
theorem values_spec {S : Nat → Prop} {w : World} {a : Option Addr} {n c : Nat} :
 Calls Tryz.prog 118 #[.slice a n c] w (Ret fun v w' => Ext w w' ∧ ∃ bx : Nat, v = .func (.func 137) #[] #[.P bx 0] ∧ (Fc bx 0 [.slice a n c]).p (Nw S w) w') := by
 refine uS1 Tryz.func118 ?_
 have H := Hp.startF (w := w) (S := S) (G := []) .nil
 refine uR 1 [.c [0], .c [1]] ?_
 refine qG (sq 0 2) ?_
 refine uC #[.slice a n c] 26 H ?_
 intro b _ H
 refine uF 1 ?_
 refine uR 2 [.c [2]] ?_
 refine qT (.func (.func 137) #[] #[.P b 0]) Tryz.func118 ?_
 have H := H.freezeM
 exact ⟨_, rfl, H.done, _, rfl, Fact.step _ (H.fact 0 rfl) fun _ hb _ => ⟨hb.1.imp id (fun h => h.elim id (fun h => by cases h)), rfl⟩⟩
end Go.Proofs.YtkjkmogipidkiaaGreat
