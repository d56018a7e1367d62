import Derived.Test.YtppcdmbkgficiaaM3
namespace Go.Proofs.Ytppcdmbkgficiaa
open Go.BX

theorem invert_spec {S : Nat → Prop} {w : World} {m : List (List (BitVec 8))} {a : Option Addr} {k : Nat} (h : (Shape.slice SB).rep S w [.slice a m.length k] m) (hr : 1 ≤ m.length ∧ m.length ≤ 255) (hc : ∀ x ∈ m, x.length = m.length) (hreg : (redTo m (ident m.length) m.length).1 = m.length) :
 Calls Try.prog 101 #[.slice a m.length k] w (Ret fun v w' => Ext w w' ∧ ∃ (a : Option Addr) (c : Nat), v = .tuple #[.slice a m.length c, .I 0] ∧ Hp w S [] [] [⟨SB, 23, .slice a m.length c, (redTo m (ident m.length) m.length).2.2⟩] [] w') := by
 have hml := Shape.slice_len h
 have hcb : ∀ x ∈ m, x.length ≤ 140737488355328 := fun x hx => by rw [hc x hx]; omega
 refine qS (fn := Try.f101) (n := 34) (σ := [(0, .slice a m.length k)]) Try.func101 ?_
 have H := Hp.startF (w := w) (S := S) (G := [Rp (Shape.slice SB) [.slice a m.length k] m]) (.rp h .nil)
 refine qR 1 [.c [0], .c [1]] [(0, .slice a m.length k)] ?_
 refine qG (sq 0 2) ?_
 refine qP 1 (sq 1 2) [(0, .slice a m.length k)] ?_
 refine qB .seq 3 (sq 2 2) #[.I 0] 34 H ?_
 intro b1 w2 H
 refine qF 0 [(0, .slice a m.length k), (3, .P b1 0)] ?_
 refine qR 1 [.c [1, 0], .c [2]] [(0, .slice a m.length k), (3, .P b1 0)] ?_
 refine WK.defer1 (o := op1 (cd Try.prog 101 [1, 0])) ⟨.fn (.func 95) #[], #[.P b1 0]⟩ (by as_aux_lemma => kernel_rfl) (by as_aux_lemma => kernel_rfl) (by as_aux_lemma => kernel_rfl) (by as_aux_lemma => kernel_rfl) (by as_aux_lemma => kernel_rfl) ?_
 refine qR 1 [.c [2, 0], .c [3]] [(0, .slice a m.length k), (3, .P b1 0)] ?_
 refine qG (sq 0 7) ?_
 refine qP 1 (sq 1 7) [(0, .slice a m.length k), (3, .P b1 0), (10, .slice a m.length k)] ?_
 refine qK .seq (some 11) (sq 2 7) 126 #[.slice a m.length k] (sized_spec (S := Av S w [] (idsOf [(b1, .cells #[.I 0] 34 (0, 0))] [])) (m := m) (H.rp 0 rfl) (by omega) (c := m.length) (hc) (hr)) ?_
 rintro _ w3 hE4 rfl
 have H := H.ext hE4
 refine qF 5 [(0, .slice a m.length k), (3, .P b1 0), (4, .I ((m.length : Nat) : Int)), (5, .I ((m.length : Nat) : Int))] ?_
 refine qR 1 [.c [3, 0], .c [4]] [(0, .slice a m.length k), (3, .P b1 0), (4, .I ((m.length : Nat) : Int)), (5, .I ((m.length : Nat) : Int))] ?_
 refine qG (sq 0 4) ?_
 refine qP 2 (sq 2 4) [(0, .slice a m.length k), (3, .P b1 0), (4, .I ((m.length : Nat) : Int)), (5, .I ((m.length : Nat) : Int)), (14, .I ((m.length : Nat) : Int)), (15, .I ((m.length : Nat) : Int))] ?_
 refine RW.pv (κ := .seq) (d := some 16) (r := (sq 3 4)) (v' := .bool true) (v := .bool (((m.length : Nat) : Int) == ((m.length : Nat) : Int))) (by as_aux_lemma => kernel_rfl) (congrArg Value.bool (beq_self_eq_true _)) ?_
 refine qK .seq (some 17) (sq 4 4) 96 #[.bool true] (needs_spec (S := fun _ => True)) ?_
 rintro _ w5 hE6 rfl
 have H := H.ext hE6
 refine qF 0 [(0, .slice a m.length k), (3, .P b1 0), (4, .I ((m.length : Nat) : Int)), (5, .I ((m.length : Nat) : Int))] ?_
 refine qR 1 [.c [4, 0], .c [5]] [(0, .slice a m.length k), (3, .P b1 0), (4, .I ((m.length : Nat) : Int)), (5, .I ((m.length : Nat) : Int))] ?_
 refine qG (sq 0 7) ?_
 refine qP 1 (sq 1 7) [(0, .slice a m.length k), (3, .P b1 0), (4, .I ((m.length : Nat) : Int)), (5, .I ((m.length : Nat) : Int)), (19, .I ((m.length : Nat) : Int))] ?_
 refine qK .seq (some 20) (sq 2 7) 127 #[.I ((m.length : Nat) : Int)] (identity_spec (S := Av S w [] (idsOf [(b1, .cells #[.I 0] 34 (0, 0))] [])) (n := m.length) (by omega)) ?_
 rintro _ w7 - ⟨a8, c9, rfl, H'⟩
 have H := H.back (M1 := []) (W1 := []) H'
 have H : Hp w S [] [(b1, .cells #[.I 0] 34 (0, 0))] [⟨SB, 23, .slice a8 (ident m.length).length c9, (ident m.length)⟩] [Rp (Shape.slice SB) [.slice a m.length k] m] _ := H
 refine qF 5 [(0, .slice a m.length k), (3, .P b1 0), (4, .I ((m.length : Nat) : Int)), (5, .I ((m.length : Nat) : Int)), (6, .slice a8 (ident m.length).length c9)] ?_
 refine qR 1 [.c [5, 0], .c [6]] [(0, .slice a m.length k), (3, .P b1 0), (4, .I ((m.length : Nat) : Int)), (5, .I ((m.length : Nat) : Int)), (6, .slice a8 (ident m.length).length c9)] ?_
 refine qG (sq 0 6) ?_
 refine qP 1 (sq 1 6) [(3, .P b1 0), (4, .I ((m.length : Nat) : Int)), (5, .I ((m.length : Nat) : Int)), (6, .slice a8 (ident m.length).length c9), (23, .slice a m.length k)] ?_
 refine qK .seq (some 24) (sq 2 6) 128 #[.slice a m.length k] (copied2_spec (m := m) (H.rp 0 rfl) (by omega) (hcb)) ?_
 rintro v11 w10 - H'
 have H := H.back (M1 := []) (W1 := []) H'
 obtain ⟨a12, c13, rfl, hc14, hm15⟩ := H.ownForm 0 rfl
 have H : Hp w S [] [(b1, .cells #[.I 0] 34 (0, 0))] [⟨SB, 23, .slice a12 m.length c13, m⟩, ⟨SB, 23, .slice a8 (ident m.length).length c9, (ident m.length)⟩] [Rp (Shape.slice SB) [.slice a m.length k] m] _ := H
 refine qP 2 (sq 4 6) [(3, .P b1 0), (4, .I ((m.length : Nat) : Int)), (5, .I ((m.length : Nat) : Int)), (26, .agg #[.slice a12 m.length c13, .slice a8 (ident m.length).length c9])] ?_
 refine qB .seq 8 (sq 5 6) #[.slice none 0 0, .slice none 0 0] 209 H ?_
 intro b16 w17 H
 refine RW.store (d := none) (r := (sq 6 6)) (T := 209) (b := b16) (k := 0) (v := .agg #[.slice a12 m.length c13, .slice a8 (ident m.length).length c9]) (c' := #[.slice a12 m.length c13, .slice a8 (ident m.length).length c9]) (M' := [(b16, .cells #[.slice a12 m.length c13, .slice a8 (ident m.length).length c9] 209 (0, 0)), (b1, .cells #[.I 0] 34 (0, 0))]) (by as_aux_lemma => kernel_rfl) H 0 rfl (by as_aux_lemma => kernel_rfl) (by as_aux_lemma => kernel_rfl) ?_
 intro w18 H
 refine qF 0 [(3, .P b1 0), (4, .I ((m.length : Nat) : Int)), (5, .I ((m.length : Nat) : Int)), (8, .P b16 0)] ?_
 refine qR 2 [.c [6, 0, 0], .c [6, 0, 1], .c [7]] [(3, .P b1 0), (4, .I ((m.length : Nat) : Int)), (5, .I ((m.length : Nat) : Int)), (8, .P b16 0)] ?_
 refine qG (sq 0 5) ?_
 refine qL .seq 27 (sq 1 5) 209 b16 0 0 (.agg #[.slice a12 m.length c13, .slice a8 (ident m.length).length c9]) (H.cells 0 rfl) ?_
 refine qP 1 (sq 2 5) [(3, .P b1 0), (4, .I ((m.length : Nat) : Int)), (8, .P b16 0), (27, .agg #[.slice a12 m.length c13, .slice a8 (ident m.length).length c9]), (28, .I ((m.length : Nat) : Int))] ?_
 obtain ⟨lb, hlb⟩ := H.ownLit (by first | omega | (rw [ident_len]; omega)) rfl
 subst hlb
 have H := H.frontW 1 (W' := [⟨SB, 23, .slice a8 (ident m.length).length c9, (ident m.length)⟩, ⟨SB, 23, .slice (some ⟨lb, 0, none⟩) m.length c13, m⟩]) rfl
 obtain ⟨rb, hrb⟩ := H.ownLit (by first | omega | (rw [ident_len]; omega)) rfl
 subst hrb
 have hil := ident_len m.length
 rw [hil] at H
 try rw [hil]
 have H := H.frontW 1 (W' := [⟨SB, 23, .slice (some ⟨lb, 0, none⟩) m.length c13, m⟩, ⟨SB, 23, .slice (some ⟨rb, 0, none⟩) m.length c9, (ident m.length)⟩]) rfl
 refine RW.callS (d := some 29) (r := (sq 3 5)) (g := 129) (args := #[.agg #[.slice (some ⟨lb, 0, none⟩) m.length c13, .slice (some ⟨rb, 0, none⟩) m.length c9], .I ((m.length : Nat) : Int)]) (by as_aux_lemma => kernel_rfl) (reduce_spec (cols := m.length) ((H.lend (M1 := []) (W1 := [⟨SB, 23, .slice (some ⟨lb, 0, none⟩) m.length c13, m⟩, ⟨SB, 23, .slice (some ⟨rb, 0, none⟩) m.length c9, (ident m.length)⟩])).pick [] rfl) rfl hil (by omega) hc (ident_all m.length) (by omega) (Nat.le_refl _)) ?_
 rintro _ w19 ⟨rfl, H'⟩
 have H := H.back (M1 := []) (W1 := [⟨SB, 23, .slice (some ⟨lb, 0, none⟩) m.length c13, m⟩, ⟨SB, 23, .slice (some ⟨rb, 0, none⟩) m.length c9, (ident m.length)⟩]) H'
 have H : Hp w S [] [(b16, .cells #[.slice (some ⟨lb, 0, none⟩) m.length c13, .slice (some ⟨rb, 0, none⟩) m.length c9] 209 (0, 0)), (b1, .cells #[.I 0] 34 (0, 0))] [⟨SB, 23, .slice (some ⟨lb, 0, none⟩) m.length c13, (redTo m (ident m.length) m.length).2.1⟩, ⟨SB, 23, .slice (some ⟨rb, 0, none⟩) m.length c9, (redTo m (ident m.length) m.length).2.2⟩] [Rp (Shape.slice SB) [.slice a m.length k] m] _ := H
 refine qF 2 [(3, .P b1 0), (8, .P b16 0), (31, .bool (decide (((((redTo m (ident m.length) m.length).1 : Nat) : Int) : Int) < ((m.length : Nat) : Int))))] ?_
 refine qD (((((redTo m (ident m.length) m.length).1 : Nat) : Int) : Int) < ((m.length : Nat) : Int)) (fun h20 => ?_) (fun h20 => ?_)
 ·
  omega
 ·
  refine qR 2 [.c [7, 0], .c [8]] [(3, .P b1 0), (8, .P b16 0)] ?_
  refine qG (sq 0 4) ?_
  refine qP 1 (sq 1 4) [(3, .P b1 0), (32, .P b16 1)] ?_
  refine qL .seq 33 (sq 2 4) 29 b16 1 1 (.slice (some ⟨rb, 0, none⟩) m.length c9) (H.cells 0 rfl) ?_
  refine qP 1 (sq 3 4) [(2, .slice (some ⟨rb, 0, none⟩) m.length c9), (3, .P b1 0)] ?_
  refine RW.store (d := none) (r := (sq 4 4)) (T := 34) (b := b1) (k := 0) (v := .I 0) (c' := #[.I 0]) (M' := [(b16, .cells #[.slice (some ⟨lb, 0, none⟩) m.length c13, .slice (some ⟨rb, 0, none⟩) m.length c9] 209 (0, 0)), (b1, .cells #[.I 0] 34 (0, 0))]) (by as_aux_lemma => kernel_rfl) H 1 rfl (by as_aux_lemma => kernel_rfl) (by as_aux_lemma => kernel_rfl) ?_
  intro w21 H
  refine qF 0 [(2, .slice (some ⟨rb, 0, none⟩) m.length c9), (3, .P b1 0)] ?_
  refine WK.retD (v := .tuple #[.slice (some ⟨rb, 0, none⟩) m.length c9, .I 0]) Try.func101 (by as_aux_lemma => kernel_rfl) (refused_defer ⟨b1, 0, none⟩) (RV.res2 (x := .tmp 2) (y := .cell 3 34) (by as_aux_lemma => kernel_rfl) (RV.tmp (by as_aux_lemma => kernel_rfl)) (RV.cell (k := 0) (by as_aux_lemma => kernel_rfl) (H.cells 1 rfl) rfl (by as_aux_lemma => kernel_rfl))) ?_
  have H := H.frontW 1 (W' := [⟨SB, 23, .slice (some ⟨rb, 0, none⟩) m.length c9, (redTo m (ident m.length) m.length).2.2⟩, ⟨SB, 23, .slice (some ⟨lb, 0, none⟩) m.length c13, (redTo m (ident m.length) m.length).2.1⟩]) rfl
  have H := H.drop (M' := []) (W' := [_]) (List.nil_sublist _) (List.cons_sublist_cons.2 (List.nil_sublist _))
  exact ⟨_, rfl, H.done, _, _, rfl, H.pick [] rfl⟩

theorem pickL_len (m : List (List (BitVec 8))) (rows : List Int) : (pickL m rows).length = rows.length := by simp [pickL]
theorem pickL_take {m : List (List (BitVec 8))} {rows : List Int} {i : Nat} (hi : i < rows.length) (h : (rows[i]).toNat < m.length) : (pickL m rows).take i ++ [m[(rows[i]).toNat]] = (pickL m rows).take (i + 1) := by
 rw [List.take_succ_eq_append_getElem (by rw [pickL_len]; exact hi)]
 simp only [pickL, List.getElem_map]
 rw [rowAt_eq h]

theorem pick_spec {S : Nat → Prop} {w : World} {m : List (List (BitVec 8))} {a : Option Addr} {k : Nat} (h : (Shape.slice SB).rep S w [.slice a m.length k] m) {rows : List Int} {b : Option Addr} {kr : Nat} (h2 : (Shape.slice (Shape.int .i64)).rep S w [.slice b rows.length kr] rows) (hr : 1 ≤ m.length ∧ m.length ≤ 255) {c : Nat} (hc : ∀ x ∈ m, x.length = c) (hc2 : 1 ≤ c ∧ c ≤ 255) (hn : 1 ≤ rows.length ∧ rows.length ≤ 255) (hrow : ∀ x ∈ rows, 0 ≤ x ∧ x < (m.length : Int)) :
 Calls Try.prog 100 #[.slice a m.length k, .slice b rows.length kr] w (Ret fun v w' => Ext w w' ∧ ∃ (a : Option Addr) (c : Nat), v = .tuple #[.slice a (pickL m rows).length c, .I 0] ∧ Hp w S [] [] [⟨SB, 23, .slice a (pickL m rows).length c, pickL m rows⟩] [] w') := by
 have hml := Shape.slice_len h
 have hrl := Shape.slice_len h2
 refine qS (fn := Try.f100) (n := 47) (σ := [(0, .slice a m.length k), (1, .slice b rows.length kr)]) Try.func100 ?_
 have H := Hp.startF (w := w) (S := S) (G := [Rp (Shape.slice SB) [.slice a m.length k] m, Rp (Shape.slice (Shape.int .i64)) [.slice b rows.length kr] rows]) (.rp h (.rp h2 .nil))
 refine qR 1 [.c [0], .c [1]] [(0, .slice a m.length k), (1, .slice b rows.length kr)] ?_
 refine qG (sq 0 2) ?_
 refine qP 1 (sq 1 2) [(0, .slice a m.length k), (1, .slice b rows.length kr), (4, .slice none 0 0)] ?_
 refine qB .seq 5 (sq 2 2) #[.I 0] 34 H ?_
 intro b1 w2 H
 refine qF 0 [(0, .slice a m.length k), (1, .slice b rows.length kr), (4, .slice none 0 0), (5, .P b1 0)] ?_
 refine qR 1 [.c [1, 0], .c [2]] [(0, .slice a m.length k), (1, .slice b rows.length kr), (4, .slice none 0 0), (5, .P b1 0)] ?_
 refine WK.defer1 (o := op1 (cd Try.prog 100 [1, 0])) ⟨.fn (.func 95) #[], #[.P b1 0]⟩ (by as_aux_lemma => kernel_rfl) (by as_aux_lemma => kernel_rfl) (by as_aux_lemma => kernel_rfl) (by as_aux_lemma => kernel_rfl) (by as_aux_lemma => kernel_rfl) ?_
 refine qR 1 [.c [2, 0], .c [3]] [(0, .slice a m.length k), (1, .slice b rows.length kr), (4, .slice none 0 0), (5, .P b1 0)] ?_
 refine qG (sq 0 7) ?_
 refine qP 1 (sq 1 7) [(0, .slice a m.length k), (1, .slice b rows.length kr), (4, .slice none 0 0), (5, .P b1 0), (11, .slice a m.length k)] ?_
 refine qK .seq (some 12) (sq 2 7) 126 #[.slice a m.length k] (sized_spec (S := Av S w [] (idsOf [(b1, .cells #[.I 0] 34 (0, 0))] [])) (m := m) (H.rp 0 rfl) (by omega) (c := c) (by assumption) (by omega)) ?_
 rintro _ w3 hE4 rfl
 have H := H.ext hE4
 refine qF 5 [(0, .slice a m.length k), (1, .slice b rows.length kr), (4, .slice none 0 0), (5, .P b1 0), (6, .I ((m.length : Nat) : Int))] ?_
 refine qR 1 [.c [3, 0], .c [4]] [(0, .slice a m.length k), (1, .slice b rows.length kr), (4, .slice none 0 0), (5, .P b1 0), (6, .I ((m.length : Nat) : Int))] ?_
 refine qG (sq 0 9) ?_
 refine qP 2 (sq 2 9) [(0, .slice a m.length k), (1, .slice b rows.length kr), (4, .slice none 0 0), (5, .P b1 0), (6, .I ((m.length : Nat) : Int)), (16, .I ((rows.length : Nat) : Int))] ?_
 refine RW.pv (κ := .seq) (d := some 17) (r := (sq 3 9)) (v' := .bool true) (v := .bool (decide ((((rows.length : Nat) : Int) : Int) > 0))) (by as_aux_lemma => kernel_rfl) (by rw [decide_eq_true (by omega)]) ?_
 refine qP 3 (sq 6 9) [(0, .slice a m.length k), (1, .slice b rows.length kr), (4, .slice none 0 0), (5, .P b1 0), (6, .I ((m.length : Nat) : Int)), (18, .bool true), (20, .I ((rows.length : Nat) : Int))] ?_
 refine RW.pv (κ := .seq) (d := some 21) (r := (sq 7 9)) (v' := .bool true) (v := .bool (decide ((((rows.length : Nat) : Int) : Int) ≤ 255))) (by as_aux_lemma => kernel_rfl) (by rw [decide_eq_true (by omega)]) ?_
 refine qP 1 (sq 8 9) [(0, .slice a m.length k), (1, .slice b rows.length kr), (4, .slice none 0 0), (5, .P b1 0), (6, .I ((m.length : Nat) : Int)), (22, .bool true)] ?_
 refine qK .seq (some 23) (sq 9 9) 96 #[.bool true] (needs_spec (S := fun _ => True)) ?_
 rintro _ w5 hE6 rfl
 have H := H.ext hE6
 refine qF 0 [(0, .slice a m.length k), (1, .slice b rows.length kr), (4, .slice none 0 0), (5, .P b1 0), (6, .I ((m.length : Nat) : Int))] ?_
 refine qR 4 [.c [4, 0, 1, 0], .b 0, .c [5]] [(0, .slice a m.length k), (4, .slice none 0 0), (5, .P b1 0), (6, .I ((m.length : Nat) : Int)), (24, .slice b rows.length kr), (25, .I ((rows.length : Nat) : Int)), (26, .I 0)] ?_
 have H := H.ownNil SB 23
 have H := H.drop (M' := [(b1, .cells #[.I 0] 34 (0, 0))]) (W' := [⟨SB, 23, .slice none (((pickL m rows).take 0).length) 0, (pickL m rows).take 0⟩]) (by repeat (first | exact List.Sublist.refl _ | exact List.nil_sublist _ | apply List.Sublist.cons_cons | apply List.Sublist.cons)) (by repeat (first | exact List.Sublist.refl _ | exact List.nil_sublist _ | apply List.Sublist.cons_cons | apply List.Sublist.cons))
 refine WK.loop (α := Nat × Option Addr × Nat) (b := cd Try.prog 100 [4, 0, 1, 0, 0]) (by as_aux_lemma => kernel_rfl) (fun st_ => match st_ with | (i, ao, co) => [(0, .slice a m.length k), (4, .slice ao (((pickL m rows).take i).length) co), (5, .P b1 0), (6, .I ((m.length : Nat) : Int)), (24, .slice b rows.length kr), (25, .I ((rows.length : Nat) : Int)), (26, .I i)]) (fun st_ w' => match st_ with | (i, ao, co) => Hp w S [] [(b1, .cells #[.I 0] 34 (0, 0))] [⟨SB, 23, .slice ao (((pickL m rows).take i).length) co, (pickL m rows).take i⟩] [Rp (Shape.slice SB) [.slice a m.length k] m, Rp (Shape.slice (Shape.int .i64)) [.slice b rows.length kr] rows] w' ∧ i ≤ rows.length) (fun st_ => match st_ with | (i, ao, co) => rows.length - i) (0, none, 0) ⟨H, Nat.zero_le _⟩ (rfl) ?_
 rintro ⟨i, ao, co⟩ w8 ⟨H, hinv0⟩ hback7
 refine qR 3 [.c [4, 0, 1, 0, 0, 1, 0], .c [4, 0, 1, 0, 0, 2], .l [4, 0, 1, 0, 0], .b 0, .c [5]] [(0, .slice a m.length k), (4, .slice ao (((pickL m rows).take i).length) co), (5, .P b1 0), (6, .I ((m.length : Nat) : Int)), (24, .slice b rows.length kr), (25, .I ((rows.length : Nat) : Int)), (26, .I i), (27, .bool (decide (((i : Int) : Int) < ((rows.length : Nat) : Int))))] ?_
 refine qD (((i : Int) : Int) < ((rows.length : Nat) : Int)) (fun h9 => ?_) (fun h9 => ?_)
 ·
  have hri := hrow (rows[i]) (List.getElem_mem (by omega))
  have hrm : (rows[i]).toNat < m.length := by omega
  have hcr := hc (m[(rows[i]).toNat]) (List.getElem_mem hrm)
  refine qR 4 [.c [4, 0, 1, 0, 0, 2, 0, 0, 0], .c [4, 0, 1, 0, 0, 2, 0, 0, 1], .b 1, .c [4, 0, 1, 0, 0, 3], .l [4, 0, 1, 0, 0], .b 0, .c [5]] [(0, .slice a m.length k), (4, .slice ao (((pickL m rows).take i).length) co), (5, .P b1 0), (6, .I ((m.length : Nat) : Int)), (24, .slice b rows.length kr), (25, .I ((rows.length : Nat) : Int)), (26, .I i)] ?_
  refine qG (sq 0 3) ?_
  have hx10 : i < rows.length := by omega
  refine qX .seq 28 (sq 1 3) 25 3 (i : Int) (Shape.int .i64) (rows[i]) H 1 rfl i (by omega) (List.getElem?_eq_getElem hx10) ?_
  intro b11 o12 es13 hr14 H
  have hb15 := Shape.i64_bd hr14
  obtain ⟨rfl, -⟩ := hr14
  refine qL .seq 29 (sq 2 3) 3 b11 o12 0 (.I (rows[i])) (H.fc 0 rfl) ?_
  refine qF 1 [(0, .slice a m.length k), (4, .slice ao (((pickL m rows).take i).length) co), (5, .P b1 0), (6, .I ((m.length : Nat) : Int)), (9, .I (rows[i])), (24, .slice b rows.length kr), (25, .I ((rows.length : Nat) : Int)), (26, .I i)] ?_
  refine qR 2 [.c [4, 0, 1, 0, 0, 2, 0, 0, 1, 0, 0], .c [4, 0, 1, 0, 0, 2, 0, 0, 1, 0, 1], .c [4, 0, 1, 0, 0, 2, 0, 0, 2], .b 1, .c [4, 0, 1, 0, 0, 3], .l [4, 0, 1, 0, 0], .b 0, .c [5]] [(0, .slice a m.length k), (4, .slice ao (((pickL m rows).take i).length) co), (5, .P b1 0), (6, .I ((m.length : Nat) : Int)), (9, .I (rows[i])), (24, .slice b rows.length kr), (25, .I ((rows.length : Nat) : Int)), (26, .I i)] ?_
  refine qG (sq 0 7) ?_
  refine qP 3 (sq 3 7) [(0, .slice a m.length k), (4, .slice ao (((pickL m rows).take i).length) co), (5, .P b1 0), (6, .I ((m.length : Nat) : Int)), (9, .I (rows[i])), (24, .slice b rows.length kr), (25, .I ((rows.length : Nat) : Int)), (26, .I i), (32, .bool (decide ((rows[i] : Int) < 0)))] ?_
  refine tD (fun b_ => [(0, .slice a m.length k), (4, .slice ao (((pickL m rows).take i).length) co), (5, .P b1 0), (6, .I ((m.length : Nat) : Int)), (9, .I (rows[i])), (24, .slice b rows.length kr), (25, .I ((rows.length : Nat) : Int)), (26, .I i), (32, .bool b_)]) ((rows[i] : Int) < 0) (fun h16 => ?_) (fun h16 => ?_)
  ·
   omega
  ·
   refine qF 4 [(0, .slice a m.length k), (4, .slice ao (((pickL m rows).take i).length) co), (5, .P b1 0), (6, .I ((m.length : Nat) : Int)), (9, .I (rows[i])), (24, .slice b rows.length kr), (25, .I ((rows.length : Nat) : Int)), (26, .I i), (36, .bool (decide ((rows[i] : Int) ≥ ((m.length : Nat) : Int))))] ?_
   refine qD ((rows[i] : Int) ≥ ((m.length : Nat) : Int)) (fun h17 => ?_) (fun h17 => ?_)
   ·
    omega
   ·
    refine qR 1 [.c [4, 0, 1, 0, 0, 2, 0, 0, 2], .b 1, .c [4, 0, 1, 0, 0, 3], .l [4, 0, 1, 0, 0], .b 0, .c [5]] [(0, .slice a m.length k), (4, .slice ao (((pickL m rows).take i).length) co), (5, .P b1 0), (6, .I ((m.length : Nat) : Int)), (9, .I (rows[i])), (24, .slice b rows.length kr), (25, .I ((rows.length : Nat) : Int)), (26, .I i)] ?_
    refine qG (sq 0 9) ?_
    refine qP 3 (sq 3 9) [(0, .slice a m.length k), (4, .slice ao (((pickL m rows).take i).length) co), (5, .P b1 0), (6, .I ((m.length : Nat) : Int)), (24, .slice b rows.length kr), (25, .I ((rows.length : Nat) : Int)), (26, .I i), (37, .slice ao (((pickL m rows).take i).length) co), (38, .slice a m.length k), (39, .I (rows[i]))] ?_
    have hx18 : (rows[i]).toNat < m.length := hrm
    refine qX .seq 40 (sq 4 9) 29 23 (rows[i]) SB (m[(rows[i]).toNat]) H 1 rfl ((rows[i]).toNat) (by omega) (List.getElem?_eq_getElem hx18) ?_
    intro b19 o20 es21 hr22 H
    obtain ⟨a23, k24, rfl⟩ := Shape.slice_form' hr22
    have H := H.add (F := Rp SB [.slice a23 ((m[(rows[i]).toNat]).length) k24] (m[(rows[i]).toNat])) hr22
    refine qL .seq 41 (sq 5 9) 23 b19 o20 0 (.slice a23 ((m[(rows[i]).toNat]).length) k24) (H.fc 1 rfl) ?_
    have H := H.ownNil Sb 5
    have H : Hp w S [] [(b1, .cells #[.I 0] 34 (0, 0))] [⟨Sb, 5, .slice none 0 0, []⟩, ⟨SB, 23, .slice ao (((pickL m rows).take i).length) co, (pickL m rows).take i⟩] [Rp SB [.slice a23 ((m[(rows[i]).toNat]).length) k24] (m[(rows[i]).toNat]), Fc b19 o20 [.slice a23 ((m[(rows[i]).toNat]).length) k24], Fc b11 o12 [.I (rows[i])], Rp (Shape.slice SB) [.slice a m.length k] m, Rp (Shape.slice (Shape.int .i64)) [.slice b rows.length kr] rows] _ := H
    refine RW.appendW (d := some 42) (r := (sq 6 9)) (T := 23) (ty := 23) (e := 5) (m := 1) (by_ := 1) (v := .slice none 0 0) (a2 := a23) (l2 := ((m[(rows[i]).toNat]).length)) (c2 := k24) (zs := m[(rows[i]).toNat]) (by as_aux_lemma => kernel_rfl) (by as_aux_lemma => kernel_rfl) rfl H 0 rfl 0 rfl (rfl) (by omega) ?_
    intro a25 c26 w28 H hc27
    have H : Hp w S [] [(b1, .cells #[.I 0] 34 (0, 0))] [⟨Sb, 5, .slice a25 ((m[(rows[i]).toNat]).length) c26, m[(rows[i]).toNat]⟩, ⟨SB, 23, .slice ao (((pickL m rows).take i).length) co, (pickL m rows).take i⟩] [Rp SB [.slice a23 ((m[(rows[i]).toNat]).length) k24] (m[(rows[i]).toNat]), Fc b19 o20 [.slice a23 ((m[(rows[i]).toNat]).length) k24], Fc b11 o12 [.I (rows[i])], Rp (Shape.slice SB) [.slice a m.length k] m, Rp (Shape.slice (Shape.int .i64)) [.slice b rows.length kr] rows] _ := H
    refine RW.new (κ := .seq) (d := some 43) (r := (sq 7 9)) (o := .cells #[.slice a25 ((m[(rows[i]).toNat]).length) c26] 23 (0, 0)) (v := fun b => .slice (some ⟨b, 0, none⟩) 1 1) (fun b => by as_aux_lemma => kernel_rfl) (nofun) H ?_
    intro b29 w30 H
    have H : Hp w S [] [(b29, .cells #[.slice a25 ((m[(rows[i]).toNat]).length) c26] 23 (0, 0)), (b1, .cells #[.I 0] 34 (0, 0))] [⟨SB, 23, .slice ao (((pickL m rows).take i).length) co, (pickL m rows).take i⟩] [Rp SB [.slice a25 ((m[(rows[i]).toNat]).length) c26] (m[(rows[i]).toNat]), Rp SB [.slice a23 ((m[(rows[i]).toNat]).length) k24] (m[(rows[i]).toNat]), Fc b19 o20 [.slice a23 ((m[(rows[i]).toNat]).length) k24], Fc b11 o12 [.I (rows[i])], Rp (Shape.slice SB) [.slice a m.length k] m, Rp (Shape.slice (Shape.int .i64)) [.slice b rows.length kr] rows] _ := H.freezeW 0 rfl
    have H := H.freeze 0 rfl SB ([m[(rows[i]).toNat]] : List (List (BitVec 8))) 1 (by simp [maxLen]) (by first | exact Nat.le_refl _ | simp) (EsP.cons (c := [.slice a25 ((m[(rows[i]).toNat]).length) c26]) (H.rp 0 rfl) EsP.nil)
    have H : Hp w S [] [(b1, .cells #[.I 0] 34 (0, 0))] [⟨SB, 23, .slice ao (((pickL m rows).take i).length) co, (pickL m rows).take i⟩] [Rp (Shape.slice SB) [.slice (some ⟨b29, 0, none⟩) 1 1] ([m[(rows[i]).toNat]] : List (List (BitVec 8))), Rp SB [.slice a25 ((m[(rows[i]).toNat]).length) c26] (m[(rows[i]).toNat]), Rp SB [.slice a23 ((m[(rows[i]).toNat]).length) k24] (m[(rows[i]).toNat]), Fc b19 o20 [.slice a23 ((m[(rows[i]).toNat]).length) k24], Fc b11 o12 [.I (rows[i])], Rp (Shape.slice SB) [.slice a m.length k] m, Rp (Shape.slice (Shape.int .i64)) [.slice b rows.length kr] rows] _ := H
    refine RW.appendW (d := some 44) (r := (sq 8 9)) (T := 29) (ty := 29) (e := 23) (m := 1) (by_ := 24) (v := .slice ao (((pickL m rows).take i).length) co) (a2 := (some ⟨b29, 0, none⟩)) (l2 := 1) (c2 := 1) (zs := (pickL m rows).take (i + 1)) (by as_aux_lemma => kernel_rfl) (by as_aux_lemma => kernel_rfl) rfl H 0 rfl 0 rfl (pickL_take (by omega) hrm) (by rw [List.length_take, pickL_len]; omega) ?_
    intro a31 c32 w34 H hc33
    have H : Hp w S [] [(b1, .cells #[.I 0] 34 (0, 0))] [⟨SB, 23, .slice a31 (((pickL m rows).take (i + 1)).length) c32, (pickL m rows).take (i + 1)⟩] [Rp (Shape.slice SB) [.slice (some ⟨b29, 0, none⟩) 1 1] ([m[(rows[i]).toNat]] : List (List (BitVec 8))), Rp SB [.slice a25 ((m[(rows[i]).toNat]).length) c26] (m[(rows[i]).toNat]), Rp SB [.slice a23 ((m[(rows[i]).toNat]).length) k24] (m[(rows[i]).toNat]), Fc b19 o20 [.slice a23 ((m[(rows[i]).toNat]).length) k24], Fc b11 o12 [.I (rows[i])], Rp (Shape.slice SB) [.slice a m.length k] m, Rp (Shape.slice (Shape.int .i64)) [.slice b rows.length kr] rows] _ := H
    refine qF 1 [(0, .slice a m.length k), (4, .slice a31 (((pickL m rows).take (i + 1)).length) c32), (5, .P b1 0), (6, .I ((m.length : Nat) : Int)), (24, .slice b rows.length kr), (25, .I ((rows.length : Nat) : Int)), (26, .I i)] ?_
    refine qR 1 [.c [4, 0, 1, 0, 0, 3], .l [4, 0, 1, 0, 0], .b 0, .c [5]] [(0, .slice a m.length k), (4, .slice a31 (((pickL m rows).take (i + 1)).length) c32), (5, .P b1 0), (6, .I ((m.length : Nat) : Int)), (24, .slice b rows.length kr), (25, .I ((rows.length : Nat) : Int)), (26, .I i)] ?_
    refine qG (sq 0 2) ?_
    refine qI .seq 45 (sq 1 2) ((i : Int) + 1) ?_
    refine qF 1 [(0, .slice a m.length k), (4, .slice a31 (((pickL m rows).take (i + 1)).length) c32), (5, .P b1 0), (6, .I ((m.length : Nat) : Int)), (24, .slice b rows.length kr), (25, .I ((rows.length : Nat) : Int)), (26, .I ((i : Int) + 1))] ?_
    have H := H.pick [5, 6] (G' := [Rp (Shape.slice SB) [.slice a m.length k] m, Rp (Shape.slice (Shape.int .i64)) [.slice b rows.length kr] rows]) rfl
    exact WK.back (hback7 (i + 1, a31, c32) _ ⟨H, by omega⟩ (by first | omega | (simp only []; omega))) (by as_aux_lemma => kernel_rfl)
 ·
  refine qR 2 [.c [5, 0], .c [6]] [(4, .slice ao (((pickL m rows).take i).length) co), (5, .P b1 0)] ?_
  refine qG (sq 0 3) ?_
  refine qP 2 (sq 2 3) [(4, .slice ao (((pickL m rows).take i).length) co), (5, .P b1 0)] ?_
  refine RW.store (d := none) (r := (sq 3 3)) (T := 34) (b := b1) (k := 0) (v := .I 0) (c' := #[.I 0]) (M' := [(b1, .cells #[.I 0] 34 (0, 0))]) (by as_aux_lemma => kernel_rfl) H 0 rfl (by as_aux_lemma => kernel_rfl) (by as_aux_lemma => kernel_rfl) ?_
  intro w35 H
  refine qF 0 [(4, .slice ao (((pickL m rows).take i).length) co), (5, .P b1 0)] ?_
  refine WK.retD (v := .tuple #[.slice ao (((pickL m rows).take i).length) co, .I 0]) Try.func100 (by as_aux_lemma => kernel_rfl) (refused_defer ⟨b1, 0, none⟩) (RV.res2 (x := .tmp 4) (y := .cell 5 34) (by as_aux_lemma => kernel_rfl) (RV.tmp (by as_aux_lemma => kernel_rfl)) (RV.cell (k := 0) (by as_aux_lemma => kernel_rfl) (H.cells 0 rfl) rfl (by as_aux_lemma => kernel_rfl))) ?_
  have hie : i = rows.length := by omega
  have hte : (pickL m rows).take i = pickL m rows := List.take_of_length_le (by rw [pickL_len]; omega)
  rw [hte] at H ⊢
  have H := H.drop (M' := []) (W' := [_]) (List.nil_sublist _) (List.cons_sublist_cons.2 (List.nil_sublist _))
  exact ⟨_, rfl, H.done, _, _, rfl, H.pick [] rfl⟩


end Go.Proofs.Ytppcdmbkgficiaa
