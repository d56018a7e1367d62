import Derived.Test.YtppcdmbkgficiaaM3
namespace Go.Proofs.Ytppcdmbkgficiaa
open Go.BX

theorem invert_spec {S : Nat → Prop} {w : World} {m : List (List (BitVec 8))} {a : Option Addr} {k : Nat} (h : (Shape.slice (Shape.slice (Shape.bv .u8 8))).rep S w [.slice a m.length k] m) (hr : 1 ≤ m.length ∧ m.length ≤ 255) (hc : ∀ x ∈ m, x.length = m.length) (hreg : (redTo m (ident m.length) m.length).1 = m.length) :
    Calls Try.prog 101 #[.slice a m.length k] w (Ret fun v w' => Ext w w' ∧ ∃ (a : Option Addr) (c : Nat), v = .tuple #[.slice a m.length c, .int .i64 0] ∧ Hp w S [] [] [⟨Shape.slice (Shape.bv .u8 8), 23, .slice a m.length c, (redTo m (ident m.length) m.length).2.2⟩] [] w') := by
  have hml := Shape.slice_len h
  have hcb : ∀ x ∈ m, x.length ≤ 140737488355328 := fun x hx => by rw [hc x hx]; omega
  refine WK.calls1 (fn := Try.f101) (n := 34) (σ := [(0, .slice a m.length k)]) Try.func101 rfl (by as_aux_lemma => kernel_rfl) (by as_aux_lemma => kernel_rfl) (by as_aux_lemma => kernel_rfl) ?_
  have H := Hp.startF (w := w) (S := S) (G := [Rp (Shape.slice (Shape.slice (Shape.bv .u8 8))) [.slice a m.length k] m]) (.rp h .nil)
  refine WK.run 1 [0] [.code (cd Try.prog 101 [0]), .code (cd Try.prog 101 [1])] [(0, .slice a m.length k)] (by as_aux_lemma => kernel_rfl) ?_
  refine WK.reg1 (l := sq 0 2) (by as_aux_lemma => kernel_rfl) (by as_aux_lemma => kernel_rfl) ?_
  refine RW.runP 1 [0] (sq 1 2) [(0, .slice a m.length k)] (by as_aux_lemma => kernel_rfl) (by as_aux_lemma => kernel_rfl) ?_
  refine RW.new (κ := .seq) (d := some 3) (r := (sq 2 2)) (o := .cells #[.int .i64 0] 34 (0, 0)) (v := fun b => .pointer (some ⟨b, 0, none⟩)) (fun b => by as_aux_lemma => kernel_rfl) (nofun) H ?_
  intro b1 w2 H
  refine RW.fin 0 [0, 3] [(0, .slice a m.length k), (3, .pointer (some ⟨b1, 0, none⟩))] (by as_aux_lemma => kernel_rfl) ?_
  refine WK.run 1 [0, 3] [.code (cd Try.prog 101 [1, 0]), .code (cd Try.prog 101 [2])] [(0, .slice a m.length k), (3, .pointer (some ⟨b1, 0, none⟩))] (by as_aux_lemma => kernel_rfl) ?_
  refine WK.defer1 (o := op1 (cd Try.prog 101 [1, 0])) ⟨.fn (.func 95) #[], #[.pointer (some ⟨b1, 0, none⟩)]⟩ (by as_aux_lemma => kernel_rfl) (by as_aux_lemma => kernel_rfl) (by as_aux_lemma => kernel_rfl) (by as_aux_lemma => kernel_rfl) (by as_aux_lemma => kernel_rfl) ?_
  refine WK.run 1 [0, 3] [.code (cd Try.prog 101 [2, 0]), .code (cd Try.prog 101 [3])] [(0, .slice a m.length k), (3, .pointer (some ⟨b1, 0, none⟩))] (by as_aux_lemma => kernel_rfl) ?_
  refine WK.reg1 (l := sq 0 7) (by as_aux_lemma => kernel_rfl) (by as_aux_lemma => kernel_rfl) ?_
  refine RW.runP 1 [0, 3, 10] (sq 1 7) [(0, .slice a m.length k), (3, .pointer (some ⟨b1, 0, none⟩)), (10, .slice a m.length k)] (by as_aux_lemma => kernel_rfl) (by as_aux_lemma => kernel_rfl) ?_
  refine RW.call (κ := .seq) (d := some 11) (r := (sq 2 7)) (g := 126) (args := #[.slice a m.length k]) (by as_aux_lemma => kernel_rfl) (nofun) (sized_spec (S := Av S w [] (idsOf [(b1, .cells #[.int .i64 0] 34 (0, 0))] [])) (m := m) (H.rp 0 rfl) (by omega) (c := m.length) (hc) (hr)) ?_
  rintro _ w3 hE4 rfl
  have H := H.ext hE4
  refine RW.fin 5 [0, 3, 4, 5] [(0, .slice a m.length k), (3, .pointer (some ⟨b1, 0, none⟩)), (4, .int .i64 ((m.length : Nat) : Int)), (5, .int .i64 ((m.length : Nat) : Int))] (by as_aux_lemma => kernel_rfl) ?_
  refine WK.run 1 [0, 3, 4, 5] [.code (cd Try.prog 101 [3, 0]), .code (cd Try.prog 101 [4])] [(0, .slice a m.length k), (3, .pointer (some ⟨b1, 0, none⟩)), (4, .int .i64 ((m.length : Nat) : Int)), (5, .int .i64 ((m.length : Nat) : Int))] (by as_aux_lemma => kernel_rfl) ?_
  refine WK.reg1 (l := sq 0 4) (by as_aux_lemma => kernel_rfl) (by as_aux_lemma => kernel_rfl) ?_
  refine RW.runP 2 [0, 3, 4, 5, 14, 15] (sq 2 4) [(0, .slice a m.length k), (3, .pointer (some ⟨b1, 0, none⟩)), (4, .int .i64 ((m.length : Nat) : Int)), (5, .int .i64 ((m.length : Nat) : Int)), (14, .int .i64 ((m.length : Nat) : Int)), (15, .int .i64 ((m.length : Nat) : Int))] (by as_aux_lemma => kernel_rfl) (by as_aux_lemma => kernel_rfl) ?_
  refine RW.pv (κ := .seq) (d := some 16) (r := (sq 3 4)) (v' := .bool true) (v := .bool (((m.length : Nat) : Int) == ((m.length : Nat) : Int))) (by as_aux_lemma => kernel_rfl) (congrArg Value.bool (beq_self_eq_true _)) ?_
  refine RW.call (κ := .seq) (d := some 17) (r := (sq 4 4)) (g := 96) (args := #[.bool true]) (by as_aux_lemma => kernel_rfl) (nofun) (needs_spec (S := fun _ => True)) ?_
  rintro _ w5 hE6 rfl
  have H := H.ext hE6
  refine RW.fin 0 [0, 3, 4, 5] [(0, .slice a m.length k), (3, .pointer (some ⟨b1, 0, none⟩)), (4, .int .i64 ((m.length : Nat) : Int)), (5, .int .i64 ((m.length : Nat) : Int))] (by as_aux_lemma => kernel_rfl) ?_
  refine WK.run 1 [0, 3, 4, 5] [.code (cd Try.prog 101 [4, 0]), .code (cd Try.prog 101 [5])] [(0, .slice a m.length k), (3, .pointer (some ⟨b1, 0, none⟩)), (4, .int .i64 ((m.length : Nat) : Int)), (5, .int .i64 ((m.length : Nat) : Int))] (by as_aux_lemma => kernel_rfl) ?_
  refine WK.reg1 (l := sq 0 7) (by as_aux_lemma => kernel_rfl) (by as_aux_lemma => kernel_rfl) ?_
  refine RW.runP 1 [0, 3, 4, 5, 19] (sq 1 7) [(0, .slice a m.length k), (3, .pointer (some ⟨b1, 0, none⟩)), (4, .int .i64 ((m.length : Nat) : Int)), (5, .int .i64 ((m.length : Nat) : Int)), (19, .int .i64 ((m.length : Nat) : Int))] (by as_aux_lemma => kernel_rfl) (by as_aux_lemma => kernel_rfl) ?_
  refine RW.call (κ := .seq) (d := some 20) (r := (sq 2 7)) (g := 127) (args := #[.int .i64 ((m.length : Nat) : Int)]) (by as_aux_lemma => kernel_rfl) (nofun) (identity_spec (S := Av S w [] (idsOf [(b1, .cells #[.int .i64 0] 34 (0, 0))] [])) (n := m.length) (by omega)) ?_
  rintro _ w7 - ⟨a8, c9, rfl, H'⟩
  have H := H.back (M1 := []) (W1 := []) H'
  have H : Hp w S [] [(b1, .cells #[.int .i64 0] 34 (0, 0))] [⟨Shape.slice (Shape.bv .u8 8), 23, .slice a8 ((ident m.length).length) c9, (ident m.length)⟩] [Rp (Shape.slice (Shape.slice (Shape.bv .u8 8))) [.slice a m.length k] m] _ := H
  refine RW.fin 5 [0, 3, 4, 5, 6] [(0, .slice a m.length k), (3, .pointer (some ⟨b1, 0, none⟩)), (4, .int .i64 ((m.length : Nat) : Int)), (5, .int .i64 ((m.length : Nat) : Int)), (6, .slice a8 ((ident m.length).length) c9)] (by as_aux_lemma => kernel_rfl) ?_
  refine WK.run 1 [0, 3, 4, 5, 6] [.code (cd Try.prog 101 [5, 0]), .code (cd Try.prog 101 [6])] [(0, .slice a m.length k), (3, .pointer (some ⟨b1, 0, none⟩)), (4, .int .i64 ((m.length : Nat) : Int)), (5, .int .i64 ((m.length : Nat) : Int)), (6, .slice a8 ((ident m.length).length) c9)] (by as_aux_lemma => kernel_rfl) ?_
  refine WK.reg1 (l := sq 0 6) (by as_aux_lemma => kernel_rfl) (by as_aux_lemma => kernel_rfl) ?_
  refine RW.runP 1 [3, 4, 5, 6, 23] (sq 1 6) [(3, .pointer (some ⟨b1, 0, none⟩)), (4, .int .i64 ((m.length : Nat) : Int)), (5, .int .i64 ((m.length : Nat) : Int)), (6, .slice a8 ((ident m.length).length) c9), (23, .slice a m.length k)] (by as_aux_lemma => kernel_rfl) (by as_aux_lemma => kernel_rfl) ?_
  refine RW.call (κ := .seq) (d := some 24) (r := (sq 2 6)) (g := 128) (args := #[.slice a m.length k]) (by as_aux_lemma => kernel_rfl) (nofun) (copied2_spec (m := m) (H.rp 0 rfl) (by omega) (hcb)) ?_
  rintro v11 w10 - H'
  have H := H.back (M1 := []) (W1 := []) H'
  obtain ⟨a12, c13, rfl, hc14, hm15⟩ := H.ownForm 0 rfl
  have H : Hp w S [] [(b1, .cells #[.int .i64 0] 34 (0, 0))] [⟨Shape.slice (Shape.bv .u8 8), 23, .slice a12 m.length c13, m⟩, ⟨Shape.slice (Shape.bv .u8 8), 23, .slice a8 ((ident m.length).length) c9, (ident m.length)⟩] [Rp (Shape.slice (Shape.slice (Shape.bv .u8 8))) [.slice a m.length k] m] _ := H
  refine RW.runP 2 [3, 4, 5, 26] (sq 4 6) [(3, .pointer (some ⟨b1, 0, none⟩)), (4, .int .i64 ((m.length : Nat) : Int)), (5, .int .i64 ((m.length : Nat) : Int)), (26, .agg #[.slice a12 m.length c13, .slice a8 ((ident m.length).length) c9])] (by as_aux_lemma => kernel_rfl) (by as_aux_lemma => kernel_rfl) ?_
  refine RW.new (κ := .seq) (d := some 8) (r := (sq 5 6)) (o := .cells #[.slice none 0 0, .slice none 0 0] 209 (0, 0)) (v := fun b => .pointer (some ⟨b, 0, none⟩)) (fun b => by as_aux_lemma => kernel_rfl) (nofun) H ?_
  intro b16 w17 H
  refine RW.store (d := none) (r := (sq 6 6)) (T := 209) (b := b16) (k := 0) (v := .agg #[.slice a12 m.length c13, .slice a8 ((ident m.length).length) c9]) (c' := #[.slice a12 m.length c13, .slice a8 ((ident m.length).length) c9]) (M' := [(b16, .cells #[.slice a12 m.length c13, .slice a8 ((ident m.length).length) c9] 209 (0, 0)), (b1, .cells #[.int .i64 0] 34 (0, 0))]) (by as_aux_lemma => kernel_rfl) H 0 rfl (by as_aux_lemma => kernel_rfl) (by as_aux_lemma => kernel_rfl) ?_
  intro w18 H
  refine RW.fin 0 [3, 4, 5, 8] [(3, .pointer (some ⟨b1, 0, none⟩)), (4, .int .i64 ((m.length : Nat) : Int)), (5, .int .i64 ((m.length : Nat) : Int)), (8, .pointer (some ⟨b16, 0, none⟩))] (by as_aux_lemma => kernel_rfl) ?_
  refine WK.run 2 [3, 4, 5, 8] [.code (cd Try.prog 101 [6, 0, 0]), .code (cd Try.prog 101 [6, 0, 1]), .code (cd Try.prog 101 [7])] [(3, .pointer (some ⟨b1, 0, none⟩)), (4, .int .i64 ((m.length : Nat) : Int)), (5, .int .i64 ((m.length : Nat) : Int)), (8, .pointer (some ⟨b16, 0, none⟩))] (by as_aux_lemma => kernel_rfl) ?_
  refine WK.reg1 (l := sq 0 5) (by as_aux_lemma => kernel_rfl) (by as_aux_lemma => kernel_rfl) ?_
  refine RW.load (κ := .seq) (d := some 27) (r := (sq 1 5)) (T := 209) (b := b16) (o' := 0) (k := 0) (v := .agg #[.slice a12 m.length c13, .slice a8 ((ident m.length).length) c9]) (by as_aux_lemma => kernel_rfl) (H.cells 0 rfl) rfl (by as_aux_lemma => kernel_rfl) ?_
  refine RW.runP 1 [3, 4, 8, 27, 28] (sq 2 5) [(3, .pointer (some ⟨b1, 0, none⟩)), (4, .int .i64 ((m.length : Nat) : Int)), (8, .pointer (some ⟨b16, 0, none⟩)), (27, .agg #[.slice a12 m.length c13, .slice a8 ((ident m.length).length) c9]), (28, .int .i64 ((m.length : Nat) : Int))] (by as_aux_lemma => kernel_rfl) (by as_aux_lemma => kernel_rfl) ?_
  obtain ⟨lb, hlb⟩ := H.ownLit (by first | omega | (rw [ident_len]; omega)) rfl
  subst hlb
  have H := H.perms (M' := [(b16, .cells #[.slice (some ⟨lb, 0, none⟩) m.length c13, .slice a8 ((ident m.length).length) c9] 209 (0, 0)), (b1, .cells #[.int .i64 0] 34 (0, 0))]) (W' := [⟨Shape.slice (Shape.bv .u8 8), 23, .slice a8 ((ident m.length).length) c9, (ident m.length)⟩, ⟨Shape.slice (Shape.bv .u8 8), 23, .slice (some ⟨lb, 0, none⟩) m.length c13, m⟩]) (List.Perm.refl _) (List.perm_middle (l₁ := ([⟨Shape.slice (Shape.bv .u8 8), 23, .slice (some ⟨lb, 0, none⟩) m.length c13, m⟩] : List OwnS))).symm
  obtain ⟨rb, hrb⟩ := H.ownLit (by first | omega | (rw [ident_len]; omega)) rfl
  subst hrb
  have hil := ident_len m.length
  rw [hil] at H
  try rw [hil]
  have H := H.perms (M' := [(b16, .cells #[.slice (some ⟨lb, 0, none⟩) m.length c13, .slice (some ⟨rb, 0, none⟩) m.length c9] 209 (0, 0)), (b1, .cells #[.int .i64 0] 34 (0, 0))]) (W' := [⟨Shape.slice (Shape.bv .u8 8), 23, .slice (some ⟨lb, 0, none⟩) m.length c13, m⟩, ⟨Shape.slice (Shape.bv .u8 8), 23, .slice (some ⟨rb, 0, none⟩) m.length c9, (ident m.length)⟩]) (List.Perm.refl _) (List.perm_middle (l₁ := ([⟨Shape.slice (Shape.bv .u8 8), 23, .slice (some ⟨rb, 0, none⟩) m.length c9, (ident m.length)⟩] : List OwnS))).symm
  refine RW.callS (d := some 29) (r := (sq 3 5)) (g := 129) (args := #[.agg #[.slice (some ⟨lb, 0, none⟩) m.length c13, .slice (some ⟨rb, 0, none⟩) m.length c9], .int .i64 ((m.length : Nat) : Int)]) (by as_aux_lemma => kernel_rfl) (reduce_spec (cols := m.length) ((H.lend (M1 := []) (W1 := [⟨Shape.slice (Shape.bv .u8 8), 23, .slice (some ⟨lb, 0, none⟩) m.length c13, m⟩, ⟨Shape.slice (Shape.bv .u8 8), 23, .slice (some ⟨rb, 0, none⟩) m.length c9, (ident m.length)⟩])).pick [] rfl) rfl hil (by omega) hc (ident_all m.length) (by omega) (Nat.le_refl _)) ?_
  rintro _ w19 ⟨rfl, H'⟩
  have H := H.back (M1 := []) (W1 := [⟨Shape.slice (Shape.bv .u8 8), 23, .slice (some ⟨lb, 0, none⟩) m.length c13, m⟩, ⟨Shape.slice (Shape.bv .u8 8), 23, .slice (some ⟨rb, 0, none⟩) m.length c9, (ident m.length)⟩]) H'
  have H : Hp w S [] [(b16, .cells #[.slice (some ⟨lb, 0, none⟩) m.length c13, .slice (some ⟨rb, 0, none⟩) m.length c9] 209 (0, 0)), (b1, .cells #[.int .i64 0] 34 (0, 0))] [⟨Shape.slice (Shape.bv .u8 8), 23, .slice (some ⟨lb, 0, none⟩) m.length c13, (redTo m (ident m.length) m.length).2.1⟩, ⟨Shape.slice (Shape.bv .u8 8), 23, .slice (some ⟨rb, 0, none⟩) m.length c9, (redTo m (ident m.length) m.length).2.2⟩] [Rp (Shape.slice (Shape.slice (Shape.bv .u8 8))) [.slice a m.length k] m] _ := H
  refine RW.fin 2 [3, 8, 31] [(3, .pointer (some ⟨b1, 0, none⟩)), (8, .pointer (some ⟨b16, 0, none⟩)), (31, .bool (decide (((((redTo m (ident m.length) m.length).1 : Nat) : Int) : Int) < ((m.length : Nat) : Int))))] (by as_aux_lemma => kernel_rfl) ?_
  refine WK.cond1 (decide (((((redTo m (ident m.length) m.length).1 : Nat) : Int) : Int) < ((m.length : Nat) : Int))) (by as_aux_lemma => kernel_rfl) (by as_aux_lemma => kernel_rfl) (fun h20 => ?_) (fun h20 => ?_)
  · skip
    replace h20 := of_decide_eq_true h20
    omega
  · skip
    replace h20 := of_decide_eq_false h20
    refine WK.run 2 [3, 8] [.code (cd Try.prog 101 [7, 0]), .code (cd Try.prog 101 [8])] [(3, .pointer (some ⟨b1, 0, none⟩)), (8, .pointer (some ⟨b16, 0, none⟩))] (by as_aux_lemma => kernel_rfl) ?_
    refine WK.reg1 (l := sq 0 4) (by as_aux_lemma => kernel_rfl) (by as_aux_lemma => kernel_rfl) ?_
    refine RW.runP 1 [3, 32] (sq 1 4) [(3, .pointer (some ⟨b1, 0, none⟩)), (32, .pointer (some ⟨b16, 1, none⟩))] (by as_aux_lemma => kernel_rfl) (by as_aux_lemma => kernel_rfl) ?_
    refine RW.load (κ := .seq) (d := some 33) (r := (sq 2 4)) (T := 29) (b := b16) (o' := 1) (k := 1) (v := .slice (some ⟨rb, 0, none⟩) m.length c9) (by as_aux_lemma => kernel_rfl) (H.cells 0 rfl) rfl (by as_aux_lemma => kernel_rfl) ?_
    refine RW.runP 1 [2, 3] (sq 3 4) [(2, .slice (some ⟨rb, 0, none⟩) m.length c9), (3, .pointer (some ⟨b1, 0, none⟩))] (by as_aux_lemma => kernel_rfl) (by as_aux_lemma => kernel_rfl) ?_
    refine RW.store (d := none) (r := (sq 4 4)) (T := 34) (b := b1) (k := 0) (v := .int .i64 0) (c' := #[.int .i64 0]) (M' := [(b16, .cells #[.slice (some ⟨lb, 0, none⟩) m.length c13, .slice (some ⟨rb, 0, none⟩) m.length c9] 209 (0, 0)), (b1, .cells #[.int .i64 0] 34 (0, 0))]) (by as_aux_lemma => kernel_rfl) H 1 rfl (by as_aux_lemma => kernel_rfl) (by as_aux_lemma => kernel_rfl) ?_
    intro w21 H
    refine RW.fin 0 [2, 3] [(2, .slice (some ⟨rb, 0, none⟩) m.length c9), (3, .pointer (some ⟨b1, 0, none⟩))] (by as_aux_lemma => kernel_rfl) ?_
    refine WK.retD (v := .tuple #[.slice (some ⟨rb, 0, none⟩) m.length c9, .int .i64 0]) Try.func101 (by as_aux_lemma => kernel_rfl) (refused_defer ⟨b1, 0, none⟩) (RV.res2 (x := .tmp 2) (y := .cell 3 34) (by as_aux_lemma => kernel_rfl) (RV.tmp (by as_aux_lemma => kernel_rfl)) (RV.cell (k := 0) (by as_aux_lemma => kernel_rfl) (H.cells 1 rfl) rfl (by as_aux_lemma => kernel_rfl))) ?_
    have H := H.perms (M' := [(b16, .cells #[.slice (some ⟨lb, 0, none⟩) m.length c13, .slice (some ⟨rb, 0, none⟩) m.length c9] 209 (0, 0)), (b1, .cells #[.int .i64 0] 34 (0, 0))]) (W' := [⟨Shape.slice (Shape.bv .u8 8), 23, .slice (some ⟨rb, 0, none⟩) m.length c9, (redTo m (ident m.length) m.length).2.2⟩, ⟨Shape.slice (Shape.bv .u8 8), 23, .slice (some ⟨lb, 0, none⟩) m.length c13, (redTo m (ident m.length) m.length).2.1⟩]) (List.Perm.refl _) (List.perm_middle (l₁ := ([⟨Shape.slice (Shape.bv .u8 8), 23, .slice (some ⟨lb, 0, none⟩) m.length c13, (redTo m (ident m.length) m.length).2.1⟩] : List OwnS))).symm
    have H := H.drop (M' := []) (W' := [_]) (List.nil_sublist _) (List.cons_sublist_cons.2 (List.nil_sublist _))
    exact ⟨_, rfl, H.done, _, _, rfl, H.pick [] rfl⟩

theorem pickL_len (m : List (List (BitVec 8))) (rows : List Int) : (pickL m rows).length = rows.length := by simp [pickL]
theorem pickL_take {m : List (List (BitVec 8))} {rows : List Int} {i : Nat} (hi : i < rows.length) (h : (rows[i]).toNat < m.length) : (pickL m rows).take i ++ [m[(rows[i]).toNat]] = (pickL m rows).take (i + 1) := by
  rw [List.take_succ_eq_append_getElem (by rw [pickL_len]; exact hi)]
  simp only [pickL, List.getElem_map]
  rw [rowAt_eq h]

theorem pick_spec {S : Nat → Prop} {w : World} {m : List (List (BitVec 8))} {a : Option Addr} {k : Nat} (h : (Shape.slice (Shape.slice (Shape.bv .u8 8))).rep S w [.slice a m.length k] m) {rows : List Int} {b : Option Addr} {kr : Nat} (h2 : (Shape.slice (Shape.int .i64)).rep S w [.slice b rows.length kr] rows) (hr : 1 ≤ m.length ∧ m.length ≤ 255) {c : Nat} (hc : ∀ x ∈ m, x.length = c) (hc2 : 1 ≤ c ∧ c ≤ 255) (hn : 1 ≤ rows.length ∧ rows.length ≤ 255) (hrow : ∀ x ∈ rows, 0 ≤ x ∧ x < (m.length : Int)) :
    Calls Try.prog 100 #[.slice a m.length k, .slice b rows.length kr] w (Ret fun v w' => Ext w w' ∧ ∃ (a : Option Addr) (c : Nat), v = .tuple #[.slice a (pickL m rows).length c, .int .i64 0] ∧ Hp w S [] [] [⟨Shape.slice (Shape.bv .u8 8), 23, .slice a (pickL m rows).length c, pickL m rows⟩] [] w') := by
  have hml := Shape.slice_len h
  have hrl := Shape.slice_len h2
  refine WK.calls1 (fn := Try.f100) (n := 47) (σ := [(0, .slice a m.length k), (1, .slice b rows.length kr)]) Try.func100 rfl (by as_aux_lemma => kernel_rfl) (by as_aux_lemma => kernel_rfl) (by as_aux_lemma => kernel_rfl) ?_
  have H := Hp.startF (w := w) (S := S) (G := [Rp (Shape.slice (Shape.slice (Shape.bv .u8 8))) [.slice a m.length k] m, Rp (Shape.slice (Shape.int .i64)) [.slice b rows.length kr] rows]) (.rp h (.rp h2 .nil))
  refine WK.run 1 [0, 1] [.code (cd Try.prog 100 [0]), .code (cd Try.prog 100 [1])] [(0, .slice a m.length k), (1, .slice b rows.length kr)] (by as_aux_lemma => kernel_rfl) ?_
  refine WK.reg1 (l := sq 0 2) (by as_aux_lemma => kernel_rfl) (by as_aux_lemma => kernel_rfl) ?_
  refine RW.runP 1 [0, 1, 4] (sq 1 2) [(0, .slice a m.length k), (1, .slice b rows.length kr), (4, .slice none 0 0)] (by as_aux_lemma => kernel_rfl) (by as_aux_lemma => kernel_rfl) ?_
  refine RW.new (κ := .seq) (d := some 5) (r := (sq 2 2)) (o := .cells #[.int .i64 0] 34 (0, 0)) (v := fun b => .pointer (some ⟨b, 0, none⟩)) (fun b => by as_aux_lemma => kernel_rfl) (nofun) H ?_
  intro b1 w2 H
  refine RW.fin 0 [0, 1, 4, 5] [(0, .slice a m.length k), (1, .slice b rows.length kr), (4, .slice none 0 0), (5, .pointer (some ⟨b1, 0, none⟩))] (by as_aux_lemma => kernel_rfl) ?_
  refine WK.run 1 [0, 1, 4, 5] [.code (cd Try.prog 100 [1, 0]), .code (cd Try.prog 100 [2])] [(0, .slice a m.length k), (1, .slice b rows.length kr), (4, .slice none 0 0), (5, .pointer (some ⟨b1, 0, none⟩))] (by as_aux_lemma => kernel_rfl) ?_
  refine WK.defer1 (o := op1 (cd Try.prog 100 [1, 0])) ⟨.fn (.func 95) #[], #[.pointer (some ⟨b1, 0, none⟩)]⟩ (by as_aux_lemma => kernel_rfl) (by as_aux_lemma => kernel_rfl) (by as_aux_lemma => kernel_rfl) (by as_aux_lemma => kernel_rfl) (by as_aux_lemma => kernel_rfl) ?_
  refine WK.run 1 [0, 1, 4, 5] [.code (cd Try.prog 100 [2, 0]), .code (cd Try.prog 100 [3])] [(0, .slice a m.length k), (1, .slice b rows.length kr), (4, .slice none 0 0), (5, .pointer (some ⟨b1, 0, none⟩))] (by as_aux_lemma => kernel_rfl) ?_
  refine WK.reg1 (l := sq 0 7) (by as_aux_lemma => kernel_rfl) (by as_aux_lemma => kernel_rfl) ?_
  refine RW.runP 1 [0, 1, 4, 5, 11] (sq 1 7) [(0, .slice a m.length k), (1, .slice b rows.length kr), (4, .slice none 0 0), (5, .pointer (some ⟨b1, 0, none⟩)), (11, .slice a m.length k)] (by as_aux_lemma => kernel_rfl) (by as_aux_lemma => kernel_rfl) ?_
  refine RW.call (κ := .seq) (d := some 12) (r := (sq 2 7)) (g := 126) (args := #[.slice a m.length k]) (by as_aux_lemma => kernel_rfl) (nofun) (sized_spec (S := Av S w [] (idsOf [(b1, .cells #[.int .i64 0] 34 (0, 0))] [])) (m := m) (H.rp 0 rfl) (by omega) (c := c) (by assumption) (by omega)) ?_
  rintro _ w3 hE4 rfl
  have H := H.ext hE4
  refine RW.fin 5 [0, 1, 4, 5, 6] [(0, .slice a m.length k), (1, .slice b rows.length kr), (4, .slice none 0 0), (5, .pointer (some ⟨b1, 0, none⟩)), (6, .int .i64 ((m.length : Nat) : Int))] (by as_aux_lemma => kernel_rfl) ?_
  refine WK.run 1 [0, 1, 4, 5, 6] [.code (cd Try.prog 100 [3, 0]), .code (cd Try.prog 100 [4])] [(0, .slice a m.length k), (1, .slice b rows.length kr), (4, .slice none 0 0), (5, .pointer (some ⟨b1, 0, none⟩)), (6, .int .i64 ((m.length : Nat) : Int))] (by as_aux_lemma => kernel_rfl) ?_
  refine WK.reg1 (l := sq 0 9) (by as_aux_lemma => kernel_rfl) (by as_aux_lemma => kernel_rfl) ?_
  refine RW.runP 2 [0, 1, 4, 5, 6, 16] (sq 2 9) [(0, .slice a m.length k), (1, .slice b rows.length kr), (4, .slice none 0 0), (5, .pointer (some ⟨b1, 0, none⟩)), (6, .int .i64 ((m.length : Nat) : Int)), (16, .int .i64 ((rows.length : Nat) : Int))] (by as_aux_lemma => kernel_rfl) (by as_aux_lemma => kernel_rfl) ?_
  refine RW.pv (κ := .seq) (d := some 17) (r := (sq 3 9)) (v' := .bool true) (v := .bool (decide ((((rows.length : Nat) : Int) : Int) > 0))) (by as_aux_lemma => kernel_rfl) (by rw [decide_eq_true (by omega)]) ?_
  refine RW.runP 3 [0, 1, 4, 5, 6, 18, 20] (sq 6 9) [(0, .slice a m.length k), (1, .slice b rows.length kr), (4, .slice none 0 0), (5, .pointer (some ⟨b1, 0, none⟩)), (6, .int .i64 ((m.length : Nat) : Int)), (18, .bool true), (20, .int .i64 ((rows.length : Nat) : Int))] (by as_aux_lemma => kernel_rfl) (by as_aux_lemma => kernel_rfl) ?_
  refine RW.pv (κ := .seq) (d := some 21) (r := (sq 7 9)) (v' := .bool true) (v := .bool (decide ((((rows.length : Nat) : Int) : Int) ≤ 255))) (by as_aux_lemma => kernel_rfl) (by rw [decide_eq_true (by omega)]) ?_
  refine RW.runP 1 [0, 1, 4, 5, 6, 22] (sq 8 9) [(0, .slice a m.length k), (1, .slice b rows.length kr), (4, .slice none 0 0), (5, .pointer (some ⟨b1, 0, none⟩)), (6, .int .i64 ((m.length : Nat) : Int)), (22, .bool true)] (by as_aux_lemma => kernel_rfl) (by as_aux_lemma => kernel_rfl) ?_
  refine RW.call (κ := .seq) (d := some 23) (r := (sq 9 9)) (g := 96) (args := #[.bool true]) (by as_aux_lemma => kernel_rfl) (nofun) (needs_spec (S := fun _ => True)) ?_
  rintro _ w5 hE6 rfl
  have H := H.ext hE6
  refine RW.fin 0 [0, 1, 4, 5, 6] [(0, .slice a m.length k), (1, .slice b rows.length kr), (4, .slice none 0 0), (5, .pointer (some ⟨b1, 0, none⟩)), (6, .int .i64 ((m.length : Nat) : Int))] (by as_aux_lemma => kernel_rfl) ?_
  refine WK.run 4 [0, 4, 5, 6, 24, 25, 26] [.code (cd Try.prog 100 [4, 0, 1, 0]), .inBlock 0, .code (cd Try.prog 100 [5])] [(0, .slice a m.length k), (4, .slice none 0 0), (5, .pointer (some ⟨b1, 0, none⟩)), (6, .int .i64 ((m.length : Nat) : Int)), (24, .slice b rows.length kr), (25, .int .i64 ((rows.length : Nat) : Int)), (26, .int .i64 0)] (by as_aux_lemma => kernel_rfl) ?_
  have H := H.ownNil (Shape.slice (Shape.bv .u8 8)) 23
  have H := H.drop (M' := [(b1, .cells #[.int .i64 0] 34 (0, 0))]) (W' := [⟨Shape.slice (Shape.bv .u8 8), 23, .slice none (((pickL m rows).take 0).length) 0, (pickL m rows).take 0⟩]) (by repeat (first | exact List.Sublist.refl _ | exact List.nil_sublist _ | apply List.Sublist.cons_cons | apply List.Sublist.cons)) (by repeat (first | exact List.Sublist.refl _ | exact List.nil_sublist _ | apply List.Sublist.cons_cons | apply List.Sublist.cons))
  refine WK.loop (α := Nat × Option Addr × Nat) (b := cd Try.prog 100 [4, 0, 1, 0, 0]) (by as_aux_lemma => kernel_rfl) (fun st_ => match st_ with | (i, ao, co) => [(0, .slice a m.length k), (4, .slice ao (((pickL m rows).take i).length) co), (5, .pointer (some ⟨b1, 0, none⟩)), (6, .int .i64 ((m.length : Nat) : Int)), (24, .slice b rows.length kr), (25, .int .i64 ((rows.length : Nat) : Int)), (26, .int .i64 (i : Int))]) (fun st_ w' => match st_ with | (i, ao, co) => Hp w S [] [(b1, .cells #[.int .i64 0] 34 (0, 0))] [⟨Shape.slice (Shape.bv .u8 8), 23, .slice ao (((pickL m rows).take i).length) co, (pickL m rows).take i⟩] [Rp (Shape.slice (Shape.slice (Shape.bv .u8 8))) [.slice a m.length k] m, Rp (Shape.slice (Shape.int .i64)) [.slice b rows.length kr] rows] w' ∧ i ≤ rows.length) (fun st_ => match st_ with | (i, ao, co) => rows.length - i) (0, none, 0) ⟨H, Nat.zero_le _⟩ (rfl) ?_
  rintro ⟨i, ao, co⟩ w8 ⟨H, hinv0⟩ hback7
  refine WK.run 3 [0, 4, 5, 6, 24, 25, 26, 27] [.code (cd Try.prog 100 [4, 0, 1, 0, 0, 1, 0]), .code (cd Try.prog 100 [4, 0, 1, 0, 0, 2]), .inLoop (cd Try.prog 100 [4, 0, 1, 0, 0]), .inBlock 0, .code (cd Try.prog 100 [5])] [(0, .slice a m.length k), (4, .slice ao (((pickL m rows).take i).length) co), (5, .pointer (some ⟨b1, 0, none⟩)), (6, .int .i64 ((m.length : Nat) : Int)), (24, .slice b rows.length kr), (25, .int .i64 ((rows.length : Nat) : Int)), (26, .int .i64 (i : Int)), (27, .bool (decide (((i : Int) : Int) < ((rows.length : Nat) : Int))))] (by as_aux_lemma => kernel_rfl) ?_
  refine WK.cond1 (decide (((i : Int) : Int) < ((rows.length : Nat) : Int))) (by as_aux_lemma => kernel_rfl) (by as_aux_lemma => kernel_rfl) (fun h9 => ?_) (fun h9 => ?_)
  · skip
    replace h9 := of_decide_eq_true h9
    have hri := hrow (rows[i]) (List.getElem_mem (by omega))
    have hrm : (rows[i]).toNat < m.length := by omega
    have hcr := hc (m[(rows[i]).toNat]) (List.getElem_mem hrm)
    refine WK.run 4 [0, 4, 5, 6, 24, 25, 26] [.code (cd Try.prog 100 [4, 0, 1, 0, 0, 2, 0, 0, 0]), .code (cd Try.prog 100 [4, 0, 1, 0, 0, 2, 0, 0, 1]), .inBlock 1, .code (cd Try.prog 100 [4, 0, 1, 0, 0, 3]), .inLoop (cd Try.prog 100 [4, 0, 1, 0, 0]), .inBlock 0, .code (cd Try.prog 100 [5])] [(0, .slice a m.length k), (4, .slice ao (((pickL m rows).take i).length) co), (5, .pointer (some ⟨b1, 0, none⟩)), (6, .int .i64 ((m.length : Nat) : Int)), (24, .slice b rows.length kr), (25, .int .i64 ((rows.length : Nat) : Int)), (26, .int .i64 (i : Int))] (by as_aux_lemma => kernel_rfl) ?_
    refine WK.reg1 (l := sq 0 3) (by as_aux_lemma => kernel_rfl) (by as_aux_lemma => kernel_rfl) ?_
    have hx10 : i < rows.length := by omega
    refine RW.index (κ := .seq) (d := some 28) (r := (sq 1 3)) (T := 25) (e := 3) (ik := .i64) (ix := (i : Int)) (sh := (Shape.int .i64)) (x := rows[i]) (by as_aux_lemma => kernel_rfl) (by as_aux_lemma => kernel_rfl) H 1 rfl i (by omega) (List.getElem?_eq_getElem hx10) ?_
    intro b11 o12 es13 hr14 H
    have hb15 := Shape.i64_bd hr14
    obtain ⟨rfl, -⟩ := hr14
    refine RW.load (κ := .seq) (d := some 29) (r := (sq 2 3)) (T := 3) (b := b11) (o' := o12) (k := 0) (v := .int .i64 (rows[i])) (by as_aux_lemma => kernel_rfl) (H.fc 0 rfl) rfl (by as_aux_lemma => kernel_rfl) ?_
    refine RW.fin 1 [0, 4, 5, 6, 9, 24, 25, 26] [(0, .slice a m.length k), (4, .slice ao (((pickL m rows).take i).length) co), (5, .pointer (some ⟨b1, 0, none⟩)), (6, .int .i64 ((m.length : Nat) : Int)), (9, .int .i64 (rows[i])), (24, .slice b rows.length kr), (25, .int .i64 ((rows.length : Nat) : Int)), (26, .int .i64 (i : Int))] (by as_aux_lemma => kernel_rfl) ?_
    refine WK.run 2 [0, 4, 5, 6, 9, 24, 25, 26] [.code (cd Try.prog 100 [4, 0, 1, 0, 0, 2, 0, 0, 1, 0, 0]), .code (cd Try.prog 100 [4, 0, 1, 0, 0, 2, 0, 0, 1, 0, 1]), .code (cd Try.prog 100 [4, 0, 1, 0, 0, 2, 0, 0, 2]), .inBlock 1, .code (cd Try.prog 100 [4, 0, 1, 0, 0, 3]), .inLoop (cd Try.prog 100 [4, 0, 1, 0, 0]), .inBlock 0, .code (cd Try.prog 100 [5])] [(0, .slice a m.length k), (4, .slice ao (((pickL m rows).take i).length) co), (5, .pointer (some ⟨b1, 0, none⟩)), (6, .int .i64 ((m.length : Nat) : Int)), (9, .int .i64 (rows[i])), (24, .slice b rows.length kr), (25, .int .i64 ((rows.length : Nat) : Int)), (26, .int .i64 (i : Int))] (by as_aux_lemma => kernel_rfl) ?_
    refine WK.reg1 (l := sq 0 7) (by as_aux_lemma => kernel_rfl) (by as_aux_lemma => kernel_rfl) ?_
    refine RW.runP 3 [0, 4, 5, 6, 9, 24, 25, 26, 32] (sq 3 7) [(0, .slice a m.length k), (4, .slice ao (((pickL m rows).take i).length) co), (5, .pointer (some ⟨b1, 0, none⟩)), (6, .int .i64 ((m.length : Nat) : Int)), (9, .int .i64 (rows[i])), (24, .slice b rows.length kr), (25, .int .i64 ((rows.length : Nat) : Int)), (26, .int .i64 (i : Int)), (32, .bool (decide ((rows[i] : Int) < 0)))] (by as_aux_lemma => kernel_rfl) (by as_aux_lemma => kernel_rfl) ?_
    refine RW.test (fun b_ => [(0, .slice a m.length k), (4, .slice ao (((pickL m rows).take i).length) co), (5, .pointer (some ⟨b1, 0, none⟩)), (6, .int .i64 ((m.length : Nat) : Int)), (9, .int .i64 (rows[i])), (24, .slice b rows.length kr), (25, .int .i64 ((rows.length : Nat) : Int)), (26, .int .i64 (i : Int)), (32, .bool b_)]) (decide ((rows[i] : Int) < 0)) (fun h16 => ?_) (fun h16 => ?_)
    · skip
      replace h16 := of_decide_eq_true h16
      omega
    · skip
      replace h16 := of_decide_eq_false h16
      refine RW.fin 4 [0, 4, 5, 6, 9, 24, 25, 26, 36] [(0, .slice a m.length k), (4, .slice ao (((pickL m rows).take i).length) co), (5, .pointer (some ⟨b1, 0, none⟩)), (6, .int .i64 ((m.length : Nat) : Int)), (9, .int .i64 (rows[i])), (24, .slice b rows.length kr), (25, .int .i64 ((rows.length : Nat) : Int)), (26, .int .i64 (i : Int)), (36, .bool (decide ((rows[i] : Int) ≥ ((m.length : Nat) : Int))))] (by as_aux_lemma => kernel_rfl) ?_
      refine WK.cond1 (decide ((rows[i] : Int) ≥ ((m.length : Nat) : Int))) (by as_aux_lemma => kernel_rfl) (by as_aux_lemma => kernel_rfl) (fun h17 => ?_) (fun h17 => ?_)
      · skip
        replace h17 := of_decide_eq_true h17
        omega
      · skip
        replace h17 := of_decide_eq_false h17
        refine WK.run 1 [0, 4, 5, 6, 9, 24, 25, 26] [.code (cd Try.prog 100 [4, 0, 1, 0, 0, 2, 0, 0, 2]), .inBlock 1, .code (cd Try.prog 100 [4, 0, 1, 0, 0, 3]), .inLoop (cd Try.prog 100 [4, 0, 1, 0, 0]), .inBlock 0, .code (cd Try.prog 100 [5])] [(0, .slice a m.length k), (4, .slice ao (((pickL m rows).take i).length) co), (5, .pointer (some ⟨b1, 0, none⟩)), (6, .int .i64 ((m.length : Nat) : Int)), (9, .int .i64 (rows[i])), (24, .slice b rows.length kr), (25, .int .i64 ((rows.length : Nat) : Int)), (26, .int .i64 (i : Int))] (by as_aux_lemma => kernel_rfl) ?_
        refine WK.reg1 (l := sq 0 9) (by as_aux_lemma => kernel_rfl) (by as_aux_lemma => kernel_rfl) ?_
        refine RW.runP 3 [0, 4, 5, 6, 24, 25, 26, 37, 38, 39] (sq 3 9) [(0, .slice a m.length k), (4, .slice ao (((pickL m rows).take i).length) co), (5, .pointer (some ⟨b1, 0, none⟩)), (6, .int .i64 ((m.length : Nat) : Int)), (24, .slice b rows.length kr), (25, .int .i64 ((rows.length : Nat) : Int)), (26, .int .i64 (i : Int)), (37, .slice ao (((pickL m rows).take i).length) co), (38, .slice a m.length k), (39, .int .i64 (rows[i]))] (by as_aux_lemma => kernel_rfl) (by as_aux_lemma => kernel_rfl) ?_
        have hx18 : (rows[i]).toNat < m.length := hrm
        refine RW.index (κ := .seq) (d := some 40) (r := (sq 4 9)) (T := 29) (e := 23) (ik := .i64) (ix := rows[i]) (sh := (Shape.slice (Shape.bv .u8 8))) (x := m[(rows[i]).toNat]) (by as_aux_lemma => kernel_rfl) (by as_aux_lemma => kernel_rfl) H 1 rfl ((rows[i]).toNat) (by omega) (List.getElem?_eq_getElem hx18) ?_
        intro b19 o20 es21 hr22 H
        obtain ⟨a23, k24, rfl⟩ := Shape.slice_form' hr22
        have H := H.add (F := Rp (Shape.slice (Shape.bv .u8 8)) [.slice a23 ((m[(rows[i]).toNat]).length) k24] (m[(rows[i]).toNat])) hr22
        refine RW.load (κ := .seq) (d := some 41) (r := (sq 5 9)) (T := 23) (b := b19) (o' := o20) (k := 0) (v := .slice a23 ((m[(rows[i]).toNat]).length) k24) (by as_aux_lemma => kernel_rfl) (H.fc 1 rfl) rfl (by as_aux_lemma => kernel_rfl) ?_
        have H := H.ownNil (Shape.bv .u8 8) 5
        have H : Hp w S [] [(b1, .cells #[.int .i64 0] 34 (0, 0))] [⟨Shape.bv .u8 8, 5, .slice none 0 0, []⟩, ⟨Shape.slice (Shape.bv .u8 8), 23, .slice ao (((pickL m rows).take i).length) co, (pickL m rows).take i⟩] [Rp (Shape.slice (Shape.bv .u8 8)) [.slice a23 ((m[(rows[i]).toNat]).length) k24] (m[(rows[i]).toNat]), Fc b19 o20 [.slice a23 ((m[(rows[i]).toNat]).length) k24], Fc b11 o12 [.int .i64 (rows[i])], Rp (Shape.slice (Shape.slice (Shape.bv .u8 8))) [.slice a m.length k] m, Rp (Shape.slice (Shape.int .i64)) [.slice b rows.length kr] rows] _ := H
        refine RW.appendW (d := some 42) (r := (sq 6 9)) (T := 23) (ty := 23) (e := 5) (m := 1) (by_ := 1) (v := .slice none 0 0) (a2 := a23) (l2 := ((m[(rows[i]).toNat]).length)) (c2 := k24) (zs := m[(rows[i]).toNat]) (by as_aux_lemma => kernel_rfl) (by as_aux_lemma => kernel_rfl) rfl H 0 rfl 0 rfl (rfl) (by omega) ?_
        intro a25 c26 w28 H hc27
        have H : Hp w S [] [(b1, .cells #[.int .i64 0] 34 (0, 0))] [⟨Shape.bv .u8 8, 5, .slice a25 ((m[(rows[i]).toNat]).length) c26, m[(rows[i]).toNat]⟩, ⟨Shape.slice (Shape.bv .u8 8), 23, .slice ao (((pickL m rows).take i).length) co, (pickL m rows).take i⟩] [Rp (Shape.slice (Shape.bv .u8 8)) [.slice a23 ((m[(rows[i]).toNat]).length) k24] (m[(rows[i]).toNat]), Fc b19 o20 [.slice a23 ((m[(rows[i]).toNat]).length) k24], Fc b11 o12 [.int .i64 (rows[i])], Rp (Shape.slice (Shape.slice (Shape.bv .u8 8))) [.slice a m.length k] m, Rp (Shape.slice (Shape.int .i64)) [.slice b rows.length kr] rows] _ := H
        refine RW.new (κ := .seq) (d := some 43) (r := (sq 7 9)) (o := .cells #[.slice a25 ((m[(rows[i]).toNat]).length) c26] 23 (0, 0)) (v := fun b => .slice (some ⟨b, 0, none⟩) 1 1) (fun b => by as_aux_lemma => kernel_rfl) (nofun) H ?_
        intro b29 w30 H
        have H : Hp w S [] [(b29, .cells #[.slice a25 ((m[(rows[i]).toNat]).length) c26] 23 (0, 0)), (b1, .cells #[.int .i64 0] 34 (0, 0))] [⟨Shape.slice (Shape.bv .u8 8), 23, .slice ao (((pickL m rows).take i).length) co, (pickL m rows).take i⟩] [Rp (Shape.slice (Shape.bv .u8 8)) [.slice a25 ((m[(rows[i]).toNat]).length) c26] (m[(rows[i]).toNat]), Rp (Shape.slice (Shape.bv .u8 8)) [.slice a23 ((m[(rows[i]).toNat]).length) k24] (m[(rows[i]).toNat]), Fc b19 o20 [.slice a23 ((m[(rows[i]).toNat]).length) k24], Fc b11 o12 [.int .i64 (rows[i])], Rp (Shape.slice (Shape.slice (Shape.bv .u8 8))) [.slice a m.length k] m, Rp (Shape.slice (Shape.int .i64)) [.slice b rows.length kr] rows] _ := H.freezeW 0 rfl
        have H := H.freeze 0 rfl (Shape.slice (Shape.bv .u8 8)) ([m[(rows[i]).toNat]] : List (List (BitVec 8))) 1 (by simp [maxLen]) (by first | exact Nat.le_refl _ | simp) (EsP.cons (c := [.slice a25 ((m[(rows[i]).toNat]).length) c26]) (H.rp 0 rfl) EsP.nil)
        have H : Hp w S [] [(b1, .cells #[.int .i64 0] 34 (0, 0))] [⟨Shape.slice (Shape.bv .u8 8), 23, .slice ao (((pickL m rows).take i).length) co, (pickL m rows).take i⟩] [Rp (Shape.slice (Shape.slice (Shape.bv .u8 8))) [.slice (some ⟨b29, 0, none⟩) 1 1] ([m[(rows[i]).toNat]] : List (List (BitVec 8))), Rp (Shape.slice (Shape.bv .u8 8)) [.slice a25 ((m[(rows[i]).toNat]).length) c26] (m[(rows[i]).toNat]), Rp (Shape.slice (Shape.bv .u8 8)) [.slice a23 ((m[(rows[i]).toNat]).length) k24] (m[(rows[i]).toNat]), Fc b19 o20 [.slice a23 ((m[(rows[i]).toNat]).length) k24], Fc b11 o12 [.int .i64 (rows[i])], Rp (Shape.slice (Shape.slice (Shape.bv .u8 8))) [.slice a m.length k] m, Rp (Shape.slice (Shape.int .i64)) [.slice b rows.length kr] rows] _ := H
        refine RW.appendW (d := some 44) (r := (sq 8 9)) (T := 29) (ty := 29) (e := 23) (m := 1) (by_ := 24) (v := .slice ao (((pickL m rows).take i).length) co) (a2 := (some ⟨b29, 0, none⟩)) (l2 := 1) (c2 := 1) (zs := (pickL m rows).take (i + 1)) (by as_aux_lemma => kernel_rfl) (by as_aux_lemma => kernel_rfl) rfl H 0 rfl 0 rfl (pickL_take (by omega) hrm) (by rw [List.length_take, pickL_len]; omega) ?_
        intro a31 c32 w34 H hc33
        have H : Hp w S [] [(b1, .cells #[.int .i64 0] 34 (0, 0))] [⟨Shape.slice (Shape.bv .u8 8), 23, .slice a31 (((pickL m rows).take (i + 1)).length) c32, (pickL m rows).take (i + 1)⟩] [Rp (Shape.slice (Shape.slice (Shape.bv .u8 8))) [.slice (some ⟨b29, 0, none⟩) 1 1] ([m[(rows[i]).toNat]] : List (List (BitVec 8))), Rp (Shape.slice (Shape.bv .u8 8)) [.slice a25 ((m[(rows[i]).toNat]).length) c26] (m[(rows[i]).toNat]), Rp (Shape.slice (Shape.bv .u8 8)) [.slice a23 ((m[(rows[i]).toNat]).length) k24] (m[(rows[i]).toNat]), Fc b19 o20 [.slice a23 ((m[(rows[i]).toNat]).length) k24], Fc b11 o12 [.int .i64 (rows[i])], Rp (Shape.slice (Shape.slice (Shape.bv .u8 8))) [.slice a m.length k] m, Rp (Shape.slice (Shape.int .i64)) [.slice b rows.length kr] rows] _ := H
        refine RW.fin 1 [0, 4, 5, 6, 24, 25, 26] [(0, .slice a m.length k), (4, .slice a31 (((pickL m rows).take (i + 1)).length) c32), (5, .pointer (some ⟨b1, 0, none⟩)), (6, .int .i64 ((m.length : Nat) : Int)), (24, .slice b rows.length kr), (25, .int .i64 ((rows.length : Nat) : Int)), (26, .int .i64 (i : Int))] (by as_aux_lemma => kernel_rfl) ?_
        refine WK.run 1 [0, 4, 5, 6, 24, 25, 26] [.code (cd Try.prog 100 [4, 0, 1, 0, 0, 3]), .inLoop (cd Try.prog 100 [4, 0, 1, 0, 0]), .inBlock 0, .code (cd Try.prog 100 [5])] [(0, .slice a m.length k), (4, .slice a31 (((pickL m rows).take (i + 1)).length) c32), (5, .pointer (some ⟨b1, 0, none⟩)), (6, .int .i64 ((m.length : Nat) : Int)), (24, .slice b rows.length kr), (25, .int .i64 ((rows.length : Nat) : Int)), (26, .int .i64 (i : Int))] (by as_aux_lemma => kernel_rfl) ?_
        refine WK.reg1 (l := sq 0 2) (by as_aux_lemma => kernel_rfl) (by as_aux_lemma => kernel_rfl) ?_
        refine RW.wr64 (κ := .seq) (d := some 45) (r := (sq 1 2)) (t := (i : Int) + 1) (by as_aux_lemma => kernel_rfl) (by omega) ?_
        refine RW.fin 1 [0, 4, 5, 6, 24, 25, 26] [(0, .slice a m.length k), (4, .slice a31 (((pickL m rows).take (i + 1)).length) c32), (5, .pointer (some ⟨b1, 0, none⟩)), (6, .int .i64 ((m.length : Nat) : Int)), (24, .slice b rows.length kr), (25, .int .i64 ((rows.length : Nat) : Int)), (26, .int .i64 ((i : Int) + 1))] (by as_aux_lemma => kernel_rfl) ?_
        have H := H.pick [5, 6] (G' := [Rp (Shape.slice (Shape.slice (Shape.bv .u8 8))) [.slice a m.length k] m, Rp (Shape.slice (Shape.int .i64)) [.slice b rows.length kr] rows]) rfl
        exact WK.back (hback7 (i + 1, a31, c32) _ ⟨H, by omega⟩ (by first | omega | (simp only []; omega))) (by as_aux_lemma => kernel_rfl)
  · skip
    replace h9 := of_decide_eq_false h9
    refine WK.run 2 [4, 5] [.code (cd Try.prog 100 [5, 0]), .code (cd Try.prog 100 [6])] [(4, .slice ao (((pickL m rows).take i).length) co), (5, .pointer (some ⟨b1, 0, none⟩))] (by as_aux_lemma => kernel_rfl) ?_
    refine WK.reg1 (l := sq 0 3) (by as_aux_lemma => kernel_rfl) (by as_aux_lemma => kernel_rfl) ?_
    refine RW.runP 2 [4, 5] (sq 2 3) [(4, .slice ao (((pickL m rows).take i).length) co), (5, .pointer (some ⟨b1, 0, none⟩))] (by as_aux_lemma => kernel_rfl) (by as_aux_lemma => kernel_rfl) ?_
    refine RW.store (d := none) (r := (sq 3 3)) (T := 34) (b := b1) (k := 0) (v := .int .i64 0) (c' := #[.int .i64 0]) (M' := [(b1, .cells #[.int .i64 0] 34 (0, 0))]) (by as_aux_lemma => kernel_rfl) H 0 rfl (by as_aux_lemma => kernel_rfl) (by as_aux_lemma => kernel_rfl) ?_
    intro w35 H
    refine RW.fin 0 [4, 5] [(4, .slice ao (((pickL m rows).take i).length) co), (5, .pointer (some ⟨b1, 0, none⟩))] (by as_aux_lemma => kernel_rfl) ?_
    refine WK.retD (v := .tuple #[.slice ao (((pickL m rows).take i).length) co, .int .i64 0]) Try.func100 (by as_aux_lemma => kernel_rfl) (refused_defer ⟨b1, 0, none⟩) (RV.res2 (x := .tmp 4) (y := .cell 5 34) (by as_aux_lemma => kernel_rfl) (RV.tmp (by as_aux_lemma => kernel_rfl)) (RV.cell (k := 0) (by as_aux_lemma => kernel_rfl) (H.cells 0 rfl) rfl (by as_aux_lemma => kernel_rfl))) ?_
    have hie : i = rows.length := by omega
    have hte : (pickL m rows).take i = pickL m rows := List.take_of_length_le (by rw [pickL_len]; omega)
    rw [hte] at H ⊢
    have H := H.drop (M' := []) (W' := [_]) (List.nil_sublist _) (List.cons_sublist_cons.2 (List.nil_sublist _))
    exact ⟨_, rfl, H.done, _, _, rfl, H.pick [] rfl⟩


end Go.Proofs.Ytppcdmbkgficiaa
