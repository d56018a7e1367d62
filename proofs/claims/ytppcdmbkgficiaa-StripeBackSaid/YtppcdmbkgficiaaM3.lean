import Derived.Test.YtppcdmbkgficiaaM2
namespace Go.Proofs.Ytppcdmbkgficiaa
open Go.BX

set_option maxHeartbeats 8000000 in
theorem reduce_spec {S : Nat → Prop} {w : World} {O : List Nat} {lb lc rb rc r c d : Nat} {L0 R0 : List (List (BitVec 8))} (H0 : Hp w S O [] [⟨Shape.slice (Shape.bv .u8 8), 23, .slice (some ⟨lb, 0, none⟩) r lc, L0⟩, ⟨Shape.slice (Shape.bv .u8 8), 23, .slice (some ⟨rb, 0, none⟩) r rc, R0⟩] [] w) (hL0 : L0.length = r) (hR0 : R0.length = r) (hr : r ≤ 255) (hcL0 : ∀ x ∈ L0, x.length = c) (hcR0 : ∀ x ∈ R0, x.length = d) (hcd : c ≤ 255 ∧ d ≤ 255) {cols : Nat} (hcols : cols ≤ c) :
    Calls Try.prog 129 #[.agg #[.slice (some ⟨lb, 0, none⟩) r lc, .slice (some ⟨rb, 0, none⟩) r rc], .int .i64 (cols : Int)] w (Ret fun v w' => v = .int .i64 (((redTo L0 R0 cols).1 : Nat) : Int) ∧ Hp w S O [] [⟨Shape.slice (Shape.bv .u8 8), 23, .slice (some ⟨lb, 0, none⟩) r lc, (redTo L0 R0 cols).2.1⟩, ⟨Shape.slice (Shape.bv .u8 8), 23, .slice (some ⟨rb, 0, none⟩) r rc, (redTo L0 R0 cols).2.2⟩] [] w') := by
  refine WK.calls1 (fn := Try.f129) (n := 73) (σ := [(0, .agg #[.slice (some ⟨lb, 0, none⟩) r lc, .slice (some ⟨rb, 0, none⟩) r rc]), (1, .int .i64 (cols : Int))]) Try.func129 rfl (by as_aux_lemma => kernel_rfl) (by as_aux_lemma => kernel_rfl) (by as_aux_lemma => kernel_rfl) ?_
  have H := H0
  refine WK.run 1 [0, 1] [.code (cd Try.prog 129 [0]), .code (cd Try.prog 129 [1])] [(0, .agg #[.slice (some ⟨lb, 0, none⟩) r lc, .slice (some ⟨rb, 0, none⟩) r rc]), (1, .int .i64 (cols : Int))] (by as_aux_lemma => kernel_rfl) ?_
  refine WK.reg1 (l := sq 0 2) (by as_aux_lemma => kernel_rfl) (by as_aux_lemma => kernel_rfl) ?_
  refine RW.new (κ := .seq) (d := some 2) (r := (sq 1 2)) (o := .cells #[.slice (some ⟨lb, 0, none⟩) r lc, .slice (some ⟨rb, 0, none⟩) r rc] 209 (0, 0)) (v := fun b => .pointer (some ⟨b, 0, none⟩)) (fun b => by as_aux_lemma => kernel_rfl) (nofun) H ?_
  intro b1 w2 H
  refine RW.fin 1 [1, 2] [(1, .int .i64 (cols : Int)), (2, .pointer (some ⟨b1, 0, none⟩))] (by as_aux_lemma => kernel_rfl) ?_
  refine WK.run 6 [1, 2, 5, 6] [.code (cd Try.prog 129 [2, 0, 1, 0]), .inBlock 0, .code (cd Try.prog 129 [3])] [(1, .int .i64 (cols : Int)), (2, .pointer (some ⟨b1, 0, none⟩)), (5, .int .i64 0), (6, .int .i64 0)] (by as_aux_lemma => kernel_rfl) ?_
  refine WK.loop (α := Nat × Nat × List (List (BitVec 8)) × List (List (BitVec 8))) (b := cd Try.prog 129 [2, 0, 1, 0, 0]) (by as_aux_lemma => kernel_rfl) (fun st_ => match st_ with | (cc, dn, L, R) => [(1, .int .i64 (cols : Int)), (2, .pointer (some ⟨b1, 0, none⟩)), (5, .int .i64 (dn : Int)), (6, .int .i64 (cc : Int))]) (fun st_ w' => match st_ with | (cc, dn, L, R) => Hp w S O [(b1, .cells #[.slice (some ⟨lb, 0, none⟩) r lc, .slice (some ⟨rb, 0, none⟩) r rc] 209 (0, 0))] [⟨Shape.slice (Shape.bv .u8 8), 23, .slice (some ⟨lb, 0, none⟩) r lc, L⟩, ⟨Shape.slice (Shape.bv .u8 8), 23, .slice (some ⟨rb, 0, none⟩) r rc, R⟩] [] w' ∧ cc ≤ cols ∧ (dn, L, R) = redTo L0 R0 cc ∧ dn ≤ r ∧ L.length = r ∧ R.length = r ∧ (∀ x ∈ L, x.length = c) ∧ ∀ x ∈ R, x.length = d) (fun st_ => match st_ with | (cc, dn, L, R) => cols - cc) (0, 0, L0, R0) ⟨H, by omega, rfl, by omega, hL0, hR0, hcL0, hcR0⟩ (rfl) ?_
  rintro ⟨cc, dn, L, R⟩ w4 ⟨H, hinv0⟩ hback3
  obtain ⟨hcc, hred, hdn, hL, hR, hcL, hcR⟩ := hinv0
  refine WK.run 3 [1, 2, 5, 6, 10] [.code (cd Try.prog 129 [2, 0, 1, 0, 0, 0, 1]), .code (cd Try.prog 129 [2, 0, 1, 0, 0, 1]), .inLoop (cd Try.prog 129 [2, 0, 1, 0, 0]), .inBlock 0, .code (cd Try.prog 129 [3])] [(1, .int .i64 (cols : Int)), (2, .pointer (some ⟨b1, 0, none⟩)), (5, .int .i64 (dn : Int)), (6, .int .i64 (cc : Int)), (10, .bool (decide (((cc : Int) : Int) < (cols : Int))))] (by as_aux_lemma => kernel_rfl) ?_
  refine WK.cond1 (decide (((cc : Int) : Int) < (cols : Int))) (by as_aux_lemma => kernel_rfl) (by as_aux_lemma => kernel_rfl) (fun h5 => ?_) (fun h5 => ?_)
  · skip
    replace h5 := of_decide_eq_true h5
    refine WK.run 6 [1, 2, 5, 6, 7] [.code (cd Try.prog 129 [2, 0, 1, 0, 0, 1, 0, 0, 1, 0]), .inBlock 2, .inBlock 1, .code (cd Try.prog 129 [2, 0, 1, 0, 0, 2]), .inLoop (cd Try.prog 129 [2, 0, 1, 0, 0]), .inBlock 0, .code (cd Try.prog 129 [3])] [(1, .int .i64 (cols : Int)), (2, .pointer (some ⟨b1, 0, none⟩)), (5, .int .i64 (dn : Int)), (6, .int .i64 (cc : Int)), (7, .int .i64 (dn : Int))] (by as_aux_lemma => kernel_rfl) ?_
    refine WK.loop (α := Nat) (b := cd Try.prog 129 [2, 0, 1, 0, 0, 1, 0, 0, 1, 0, 0]) (by as_aux_lemma => kernel_rfl) (fun i => [(1, .int .i64 (cols : Int)), (2, .pointer (some ⟨b1, 0, none⟩)), (5, .int .i64 (dn : Int)), (6, .int .i64 (cc : Int)), (7, .int .i64 (i : Int))]) (fun i w' => Hp w S O [(b1, .cells #[.slice (some ⟨lb, 0, none⟩) r lc, .slice (some ⟨rb, 0, none⟩) r rc] 209 (0, 0))] [⟨Shape.slice (Shape.bv .u8 8), 23, .slice (some ⟨lb, 0, none⟩) r lc, L⟩, ⟨Shape.slice (Shape.bv .u8 8), 23, .slice (some ⟨rb, 0, none⟩) r rc, R⟩] [] w' ∧ dn ≤ i ∧ i ≤ r ∧ ∀ j, dn ≤ j → j < i → entAt L j cc = 0#8) (fun i => r - i) dn ⟨H, Nat.le_refl _, hdn, fun j h1 h2 => by omega⟩ (rfl) ?_
    rintro i w7 ⟨H, hinv1⟩ hback6
    refine WK.run 2 [1, 2, 5, 6, 7] [.code (cd Try.prog 129 [2, 0, 1, 0, 0, 1, 0, 0, 1, 0, 0, 0, 0]), .code (cd Try.prog 129 [2, 0, 1, 0, 0, 1, 0, 0, 1, 0, 0, 0, 1]), .code (cd Try.prog 129 [2, 0, 1, 0, 0, 1, 0, 0, 1, 0, 0, 1]), .inLoop (cd Try.prog 129 [2, 0, 1, 0, 0, 1, 0, 0, 1, 0, 0]), .inBlock 2, .inBlock 1, .code (cd Try.prog 129 [2, 0, 1, 0, 0, 2]), .inLoop (cd Try.prog 129 [2, 0, 1, 0, 0]), .inBlock 0, .code (cd Try.prog 129 [3])] [(1, .int .i64 (cols : Int)), (2, .pointer (some ⟨b1, 0, none⟩)), (5, .int .i64 (dn : Int)), (6, .int .i64 (cc : Int)), (7, .int .i64 (i : Int))] (by as_aux_lemma => kernel_rfl) ?_
    refine WK.reg1 (l := sq 0 5) (by as_aux_lemma => kernel_rfl) (by as_aux_lemma => kernel_rfl) ?_
    refine RW.runP 2 [1, 2, 5, 6, 7, 14, 15] (sq 2 5) [(1, .int .i64 (cols : Int)), (2, .pointer (some ⟨b1, 0, none⟩)), (5, .int .i64 (dn : Int)), (6, .int .i64 (cc : Int)), (7, .int .i64 (i : Int)), (14, .int .i64 (i : Int)), (15, .pointer (some ⟨b1, 0, none⟩))] (by as_aux_lemma => kernel_rfl) (by as_aux_lemma => kernel_rfl) ?_
    refine RW.load (κ := .seq) (d := some 16) (r := (sq 3 5)) (T := 29) (b := b1) (o' := 0) (k := 0) (v := .slice (some ⟨lb, 0, none⟩) r lc) (by as_aux_lemma => kernel_rfl) (H.cells 0 rfl) rfl (by as_aux_lemma => kernel_rfl) ?_
    refine RW.fin 2 [1, 2, 5, 6, 7, 18] [(1, .int .i64 (cols : Int)), (2, .pointer (some ⟨b1, 0, none⟩)), (5, .int .i64 (dn : Int)), (6, .int .i64 (cc : Int)), (7, .int .i64 (i : Int)), (18, .bool (decide (((i : Int) : Int) < ((r : Nat) : Int))))] (by as_aux_lemma => kernel_rfl) ?_
    refine WK.cond1 (decide (((i : Int) : Int) < ((r : Nat) : Int))) (by as_aux_lemma => kernel_rfl) (by as_aux_lemma => kernel_rfl) (fun h8 => ?_) (fun h8 => ?_)
    · skip
      replace h8 := of_decide_eq_true h8
      have hil : i < L.length := by omega
      have hci := hcL (L[i]) (List.getElem_mem hil)
      refine WK.run 4 [1, 2, 5, 6, 7] [.code (cd Try.prog 129 [2, 0, 1, 0, 0, 1, 0, 0, 1, 0, 0, 1, 0, 0, 0]), .code (cd Try.prog 129 [2, 0, 1, 0, 0, 1, 0, 0, 1, 0, 0, 1, 0, 0, 1]), .inBlock 3, .code (cd Try.prog 129 [2, 0, 1, 0, 0, 1, 0, 0, 1, 0, 0, 2]), .inLoop (cd Try.prog 129 [2, 0, 1, 0, 0, 1, 0, 0, 1, 0, 0]), .inBlock 2, .inBlock 1, .code (cd Try.prog 129 [2, 0, 1, 0, 0, 2]), .inLoop (cd Try.prog 129 [2, 0, 1, 0, 0]), .inBlock 0, .code (cd Try.prog 129 [3])] [(1, .int .i64 (cols : Int)), (2, .pointer (some ⟨b1, 0, none⟩)), (5, .int .i64 (dn : Int)), (6, .int .i64 (cc : Int)), (7, .int .i64 (i : Int))] (by as_aux_lemma => kernel_rfl) ?_
      refine WK.reg1 (l := sq 0 9) (by as_aux_lemma => kernel_rfl) (by as_aux_lemma => kernel_rfl) ?_
      refine RW.runP 1 [1, 2, 5, 6, 7, 21] (sq 1 9) [(1, .int .i64 (cols : Int)), (2, .pointer (some ⟨b1, 0, none⟩)), (5, .int .i64 (dn : Int)), (6, .int .i64 (cc : Int)), (7, .int .i64 (i : Int)), (21, .pointer (some ⟨b1, 0, none⟩))] (by as_aux_lemma => kernel_rfl) (by as_aux_lemma => kernel_rfl) ?_
      refine RW.load (κ := .seq) (d := some 22) (r := (sq 2 9)) (T := 29) (b := b1) (o' := 0) (k := 0) (v := .slice (some ⟨lb, 0, none⟩) r lc) (by as_aux_lemma => kernel_rfl) (H.cells 0 rfl) rfl (by as_aux_lemma => kernel_rfl) ?_
      refine RW.runP 1 [1, 2, 5, 6, 7, 22, 23] (sq 3 9) [(1, .int .i64 (cols : Int)), (2, .pointer (some ⟨b1, 0, none⟩)), (5, .int .i64 (dn : Int)), (6, .int .i64 (cc : Int)), (7, .int .i64 (i : Int)), (22, .slice (some ⟨lb, 0, none⟩) r lc), (23, .int .i64 (i : Int))] (by as_aux_lemma => kernel_rfl) (by as_aux_lemma => kernel_rfl) ?_
      have hn10 : r = L.length := by omega
      have hx9 : i < L.length := by omega
      refine RW.indexW (κ := .seq) (d := some 24) (r := (sq 4 9)) (T := 29) (e := 23) (m := 1) (ik := .i64) (ix := (i : Int)) (sh := (Shape.slice (Shape.bv .u8 8))) (xs := L) (a := (some ⟨lb, 0, none⟩)) (len := r) (cap := lc) (by as_aux_lemma => kernel_rfl) (by as_aux_lemma => kernel_rfl) rfl H i (by omega) hx9 hn10 ?_
      intro b11 es12 ha13 hcell14 hr15
      cases ha13
      obtain ⟨a16, k17, rfl⟩ := Shape.slice_form' hr15
      have H := H.add (F := Rp (Shape.slice (Shape.bv .u8 8)) [.slice a16 ((L[i]).length) k17] (L[i])) hr15
      refine RW.load (κ := .seq) (d := some 25) (r := (sq 5 9)) (T := 23) (b := lb) (o' := i * 1) (k := 0) (v := .slice a16 ((L[i]).length) k17) (by as_aux_lemma => kernel_rfl) hcell14 rfl (by as_aux_lemma => kernel_rfl) ?_
      refine RW.runP 1 [1, 2, 5, 6, 7, 25, 26] (sq 6 9) [(1, .int .i64 (cols : Int)), (2, .pointer (some ⟨b1, 0, none⟩)), (5, .int .i64 (dn : Int)), (6, .int .i64 (cc : Int)), (7, .int .i64 (i : Int)), (25, .slice a16 ((L[i]).length) k17), (26, .int .i64 (cc : Int))] (by as_aux_lemma => kernel_rfl) (by as_aux_lemma => kernel_rfl) ?_
      have hx18 : cc < (L[i]).length := by omega
      refine RW.index (κ := .seq) (d := some 27) (r := (sq 7 9)) (T := 23) (e := 5) (ik := .i64) (ix := (cc : Int)) (sh := (Shape.bv .u8 8)) (x := (L[i])[cc]) (by as_aux_lemma => kernel_rfl) (by as_aux_lemma => kernel_rfl) H 0 rfl cc (by omega) (List.getElem?_eq_getElem hx18) ?_
      intro b19 o20 es21 hr22 H
      obtain rfl := hr22
      refine RW.load (κ := .seq) (d := some 28) (r := (sq 8 9)) (T := 5) (b := b19) (o' := o20) (k := 0) (v := .int .u8 ((((L[i])[cc]).toNat : Nat) : Int)) (by as_aux_lemma => kernel_rfl) (H.fc 0 rfl) rfl (by as_aux_lemma => kernel_rfl) ?_
      refine RW.fin 1 [1, 2, 5, 6, 7, 29] [(1, .int .i64 (cols : Int)), (2, .pointer (some ⟨b1, 0, none⟩)), (5, .int .i64 (dn : Int)), (6, .int .i64 (cc : Int)), (7, .int .i64 (i : Int)), (29, .bool (((((L[i])[cc]).toNat : Nat) : Int) != 0))] (by as_aux_lemma => kernel_rfl) ?_
      refine WK.cond1 (((((L[i])[cc]).toNat : Nat) : Int) != 0) (by as_aux_lemma => kernel_rfl) (by as_aux_lemma => kernel_rfl) (fun h23 => ?_) (fun h23 => ?_)
      · skip
        replace h23 := bne_iff_ne.1 h23
        have hez : entAt L i cc ≠ 0#8 := by rw [entAt_eq hil (by omega)]; exact bvz h23
        have hfp : firstP L cc dn = some i := firstP_some hil hinv1.1 hez hinv1.2.2
        have hsl : (swapL L i dn).length = r := by rw [swapL_len]; exact hL
        have hsr : (swapL R i dn).length = r := by rw [swapL_len]; exact hR
        have hcl := swapL_all (i := i) (j := dn) hcL hil (by omega)
        have hcr := swapL_all (i := i) (j := dn) hcR (by omega) (by omega)
        have hne : entAt (swapL L i dn) dn cc ≠ 0#8 := by rw [swapL_ent (by omega)]; exact hez
        refine WK.run 1 [1, 2, 5, 6, 7] [.code (cd Try.prog 129 [2, 0, 1, 0, 0, 1, 0, 0, 1, 0, 0, 1, 0, 0, 1, 0, 0]), .code (cd Try.prog 129 [2, 0, 1, 0, 0, 1, 0, 0, 1, 0, 0, 1, 0, 0, 1, 0, 1]), .inBlock 3, .code (cd Try.prog 129 [2, 0, 1, 0, 0, 1, 0, 0, 1, 0, 0, 2]), .inLoop (cd Try.prog 129 [2, 0, 1, 0, 0, 1, 0, 0, 1, 0, 0]), .inBlock 2, .inBlock 1, .code (cd Try.prog 129 [2, 0, 1, 0, 0, 2]), .inLoop (cd Try.prog 129 [2, 0, 1, 0, 0]), .inBlock 0, .code (cd Try.prog 129 [3])] [(1, .int .i64 (cols : Int)), (2, .pointer (some ⟨b1, 0, none⟩)), (5, .int .i64 (dn : Int)), (6, .int .i64 (cc : Int)), (7, .int .i64 (i : Int))] (by as_aux_lemma => kernel_rfl) ?_
        refine WK.joinW (fun w_ => Hp w S O [(b1, .cells #[.slice (some ⟨lb, 0, none⟩) r lc, .slice (some ⟨rb, 0, none⟩) r rc] 209 (0, 0))] [⟨Shape.slice (Shape.bv .u8 8), 23, .slice (some ⟨lb, 0, none⟩) r lc, (swapL L i dn)⟩, ⟨Shape.slice (Shape.bv .u8 8), 23, .slice (some ⟨rb, 0, none⟩) r rc, R⟩] [] w_) [(1, .int .i64 (cols : Int)), (2, .pointer (some ⟨b1, 0, none⟩)), (5, .int .i64 (dn : Int)), (6, .int .i64 (cc : Int)), (7, .int .i64 (i : Int))] [.code (cd Try.prog 129 [2, 0, 1, 0, 0, 1, 0, 0, 1, 0, 0, 1, 0, 0, 1, 0, 1]), .inBlock 3, .code (cd Try.prog 129 [2, 0, 1, 0, 0, 1, 0, 0, 1, 0, 0, 2]), .inLoop (cd Try.prog 129 [2, 0, 1, 0, 0, 1, 0, 0, 1, 0, 0]), .inBlock 2, .inBlock 1, .code (cd Try.prog 129 [2, 0, 1, 0, 0, 2]), .inLoop (cd Try.prog 129 [2, 0, 1, 0, 0]), .inBlock 0, .code (cd Try.prog 129 [3])] (fun hJ24 => ?_) (fun w25 H => ?_)
        · skip
          refine WK.drawH1 [lb] (.node [(0, .qui), (1, .qui), (2, .qui), (3, .qui), (4, .qui), (5, .qui), (6, .qui), (7, .qui), (8, .qui), (9, .qui), (11, .qui), (12, .qui), (13, .qui), (14, .qui)] (.cons 10 (.leaf [(15, .seq), (16, .qui), (17, .seq), (18, .qui), (19, .seq)]) (.cons 15 (.leaf [(10, .seq), (16, .qui), (17, .seq), (18, .qui), (19, .seq)]) .nil))) Try_mixed (by as_aux_lemma => kernel_rfl) (by as_aux_lemma => kernel_rfl) ?_
          intro w26 hw27
          have H := H.draw
          rw [← hw27] at H
          clear hw27
          have hS := Chg.refl w26 [lb]
          refine RG.node' [(0, .qui), (1, .qui), (2, .qui), (3, .qui), (4, .qui), (5, .qui), (6, .qui), (7, .qui), (8, .qui), (9, .qui), (11, .qui), (12, .qui), (13, .qui), (14, .qui)] (by as_aux_lemma => kernel_rfl) ?_
          refine RH.runP hS 1 [1, 2, 5, 6, 7, 30] [(1, .qui), (2, .qui), (3, .qui), (4, .qui), (5, .qui), (6, .qui), (7, .qui), (8, .qui), (9, .qui), (11, .qui), (12, .qui), (13, .qui), (14, .qui)] [(1, .int .i64 (cols : Int)), (2, .pointer (some ⟨b1, 0, none⟩)), (5, .int .i64 (dn : Int)), (6, .int .i64 (cc : Int)), (7, .int .i64 (i : Int)), (30, .pointer (some ⟨b1, 0, none⟩))] (by as_aux_lemma => kernel_rfl) (by as_aux_lemma => kernel_rfl) ?_
          refine RH.load (d := some 31) (r := [(2, .qui), (3, .qui), (4, .qui), (5, .qui), (6, .qui), (7, .qui), (8, .qui), (9, .qui), (11, .qui), (12, .qui), (13, .qui), (14, .qui)]) (T := 29) (b := b1) (o' := 0) (k := 0) (v := .slice (some ⟨lb, 0, none⟩) r lc) (by as_aux_lemma => kernel_rfl) hS (H.cells 0 rfl) (by intro hq; simp only [List.mem_cons, List.not_mem_nil, or_false] at hq; exact H.neMW 0 rfl 0 rfl hq) (by simp) rfl (by as_aux_lemma => kernel_rfl) ?_
          refine RH.runP hS 2 [1, 2, 5, 6, 7, 31, 32, 33] [(4, .qui), (5, .qui), (6, .qui), (7, .qui), (8, .qui), (9, .qui), (11, .qui), (12, .qui), (13, .qui), (14, .qui)] [(1, .int .i64 (cols : Int)), (2, .pointer (some ⟨b1, 0, none⟩)), (5, .int .i64 (dn : Int)), (6, .int .i64 (cc : Int)), (7, .int .i64 (i : Int)), (31, .slice (some ⟨lb, 0, none⟩) r lc), (32, .int .i64 (i : Int)), (33, .pointer (some ⟨b1, 0, none⟩))] (by as_aux_lemma => kernel_rfl) (by as_aux_lemma => kernel_rfl) ?_
          refine RH.load (d := some 34) (r := [(5, .qui), (6, .qui), (7, .qui), (8, .qui), (9, .qui), (11, .qui), (12, .qui), (13, .qui), (14, .qui)]) (T := 29) (b := b1) (o' := 0) (k := 0) (v := .slice (some ⟨lb, 0, none⟩) r lc) (by as_aux_lemma => kernel_rfl) hS (H.cells 0 rfl) (by intro hq; simp only [List.mem_cons, List.not_mem_nil, or_false] at hq; exact H.neMW 0 rfl 0 rfl hq) (by simp) rfl (by as_aux_lemma => kernel_rfl) ?_
          refine RH.runP hS 2 [1, 2, 5, 6, 7, 31, 32, 34, 35, 36] [(7, .qui), (8, .qui), (9, .qui), (11, .qui), (12, .qui), (13, .qui), (14, .qui)] [(1, .int .i64 (cols : Int)), (2, .pointer (some ⟨b1, 0, none⟩)), (5, .int .i64 (dn : Int)), (6, .int .i64 (cc : Int)), (7, .int .i64 (i : Int)), (31, .slice (some ⟨lb, 0, none⟩) r lc), (32, .int .i64 (i : Int)), (34, .slice (some ⟨lb, 0, none⟩) r lc), (35, .int .i64 (dn : Int)), (36, .pointer (some ⟨b1, 0, none⟩))] (by as_aux_lemma => kernel_rfl) (by as_aux_lemma => kernel_rfl) ?_
          refine RH.load (d := some 37) (r := [(8, .qui), (9, .qui), (11, .qui), (12, .qui), (13, .qui), (14, .qui)]) (T := 29) (b := b1) (o' := 0) (k := 0) (v := .slice (some ⟨lb, 0, none⟩) r lc) (by as_aux_lemma => kernel_rfl) hS (H.cells 0 rfl) (by intro hq; simp only [List.mem_cons, List.not_mem_nil, or_false] at hq; exact H.neMW 0 rfl 0 rfl hq) (by simp) rfl (by as_aux_lemma => kernel_rfl) ?_
          refine RH.runP hS 1 [1, 2, 5, 6, 7, 31, 32, 34, 35, 37, 38] [(9, .qui), (11, .qui), (12, .qui), (13, .qui), (14, .qui)] [(1, .int .i64 (cols : Int)), (2, .pointer (some ⟨b1, 0, none⟩)), (5, .int .i64 (dn : Int)), (6, .int .i64 (cc : Int)), (7, .int .i64 (i : Int)), (31, .slice (some ⟨lb, 0, none⟩) r lc), (32, .int .i64 (i : Int)), (34, .slice (some ⟨lb, 0, none⟩) r lc), (35, .int .i64 (dn : Int)), (37, .slice (some ⟨lb, 0, none⟩) r lc), (38, .int .i64 (dn : Int))] (by as_aux_lemma => kernel_rfl) (by as_aux_lemma => kernel_rfl) ?_
          have hn29 : r = L.length := by omega
          have hx28 : dn < L.length := by omega
          refine RH.indexW (d := some 39) (r := [(11, .qui), (12, .qui), (13, .qui), (14, .qui)]) (T := 29) (e := 23) (m := 1) (ik := .i64) (ix := (dn : Int)) (sh := (Shape.slice (Shape.bv .u8 8))) (xs := L) (a := (some ⟨lb, 0, none⟩)) (len := r) (cap := lc) (by as_aux_lemma => kernel_rfl) hS (by as_aux_lemma => kernel_rfl) rfl H dn (by omega) hx28 hn29 ?_
          intro b30 es31 ha32 hcell33 hr34
          cases ha32
          obtain ⟨a35, k36, rfl⟩ := Shape.slice_form' hr34
          have H := H.add (F := Rp (Shape.slice (Shape.bv .u8 8)) [.slice a35 ((L[dn]).length) k36] (L[dn])) hr34
          refine RH.runP hS 1 [1, 2, 5, 6, 7, 31, 32, 34, 35, 39, 41] [(12, .qui), (13, .qui), (14, .qui)] [(1, .int .i64 (cols : Int)), (2, .pointer (some ⟨b1, 0, none⟩)), (5, .int .i64 (dn : Int)), (6, .int .i64 (cc : Int)), (7, .int .i64 (i : Int)), (31, .slice (some ⟨lb, 0, none⟩) r lc), (32, .int .i64 (i : Int)), (34, .slice (some ⟨lb, 0, none⟩) r lc), (35, .int .i64 (dn : Int)), (39, .pointer (some ⟨lb, dn * 1, none⟩)), (41, .pointer (some ⟨b1, 0, none⟩))] (by as_aux_lemma => kernel_rfl) (by as_aux_lemma => kernel_rfl) ?_
          refine RH.load (d := some 42) (r := [(13, .qui), (14, .qui)]) (T := 29) (b := b1) (o' := 0) (k := 0) (v := .slice (some ⟨lb, 0, none⟩) r lc) (by as_aux_lemma => kernel_rfl) hS (H.cells 0 rfl) (by intro hq; simp only [List.mem_cons, List.not_mem_nil, or_false] at hq; exact H.neMW 0 rfl 0 rfl hq) (by simp) rfl (by as_aux_lemma => kernel_rfl) ?_
          refine RH.runP hS 1 [1, 2, 5, 6, 7, 31, 32, 34, 35, 39, 42, 43] [(14, .qui)] [(1, .int .i64 (cols : Int)), (2, .pointer (some ⟨b1, 0, none⟩)), (5, .int .i64 (dn : Int)), (6, .int .i64 (cc : Int)), (7, .int .i64 (i : Int)), (31, .slice (some ⟨lb, 0, none⟩) r lc), (32, .int .i64 (i : Int)), (34, .slice (some ⟨lb, 0, none⟩) r lc), (35, .int .i64 (dn : Int)), (39, .pointer (some ⟨lb, dn * 1, none⟩)), (42, .slice (some ⟨lb, 0, none⟩) r lc), (43, .int .i64 (i : Int))] (by as_aux_lemma => kernel_rfl) (by as_aux_lemma => kernel_rfl) ?_
          have hn38 : r = L.length := by omega
          have hx37 : i < L.length := by omega
          refine RH.indexW (d := some 44) (r := []) (T := 29) (e := 23) (m := 1) (ik := .i64) (ix := (i : Int)) (sh := (Shape.slice (Shape.bv .u8 8))) (xs := L) (a := (some ⟨lb, 0, none⟩)) (len := r) (cap := lc) (by as_aux_lemma => kernel_rfl) hS (by as_aux_lemma => kernel_rfl) rfl H i (by omega) hx37 hn38 ?_
          intro b39 es40 ha41 hcell42 hr43
          cases ha41
          obtain ⟨a44, k45, rfl⟩ := Shape.slice_form' hr43
          have H := H.add (F := Rp (Shape.slice (Shape.bv .u8 8)) [.slice a44 ((L[i]).length) k45] (L[i])) hr43
          refine RH.finB hS 0 [1, 2, 5, 6, 7, 31, 32, 34, 35, 39, 44] [(1, .int .i64 (cols : Int)), (2, .pointer (some ⟨b1, 0, none⟩)), (5, .int .i64 (dn : Int)), (6, .int .i64 (cc : Int)), (7, .int .i64 (i : Int)), (31, .slice (some ⟨lb, 0, none⟩) r lc), (32, .int .i64 (i : Int)), (34, .slice (some ⟨lb, 0, none⟩) r lc), (35, .int .i64 (dn : Int)), (39, .pointer (some ⟨lb, dn * 1, none⟩)), (44, .pointer (some ⟨lb, i * 1, none⟩))] (by as_aux_lemma => kernel_rfl) ?_
          refine (RGB.cons' ?_ (RGB.cons' ?_ RGB.nil'))
          · skip
            refine RG.leaf' [(10, .seq), (15, .seq), (16, .qui), (17, .seq), (18, .qui), (19, .seq)] (by as_aux_lemma => kernel_rfl) ?_
            have Hr := H
            refine RH.chn hS ?_
            refine RW.load (κ := .chn) (d := some 40) (r := []) (T := 23) (b := lb) (o' := dn * 1) (k := 0) (v := .slice a35 ((L[dn]).length) k36) (by as_aux_lemma => kernel_rfl) hcell33 rfl (by as_aux_lemma => kernel_rfl) ?_
            intro hS
            have Hr := H
            refine RH.chn hS ?_
            refine RW.load (κ := .chn) (d := some 45) (r := []) (T := 23) (b := lb) (o' := i * 1) (k := 0) (v := .slice a44 ((L[i]).length) k45) (by as_aux_lemma => kernel_rfl) hcell42 rfl (by as_aux_lemma => kernel_rfl) ?_
            intro hS
            have hn49 : r = L.length := by omega
            have hx48 : i < L.length := by omega
            refine RH.indexW (d := some 46) (r := [(17, .seq), (18, .qui), (19, .seq)]) (T := 29) (e := 23) (m := 1) (ik := .i64) (ix := (i : Int)) (sh := (Shape.slice (Shape.bv .u8 8))) (xs := L) (a := (some ⟨lb, 0, none⟩)) (len := r) (cap := lc) (by as_aux_lemma => kernel_rfl) hS (by as_aux_lemma => kernel_rfl) rfl H i (by omega) hx48 hn49 ?_
            intro b50 es51 ha52 hcell53 hr54
            cases ha52
            obtain ⟨a55, k56, rfl⟩ := Shape.slice_form' hr54
            have H := H.add (F := Rp (Shape.slice (Shape.bv .u8 8)) [.slice a55 ((L[i]).length) k56] (L[i])) hr54
            have Hr := H
            refine RH.sto ?_
            refine RW.storeWC (d := none) (r := []) (e := 23) (m := 1) (b := lb) (k := i) (v := .slice a35 ((L[dn]).length) k36) (by as_aux_lemma => kernel_rfl) rfl (by as_aux_lemma => kernel_rfl) H rfl hx48 hn49 (L[dn]) (H.rp 2 rfl) ?_
            intro w58 hch57 H
            have hS59 := hS.sto hch57 (.inr (by simp))
            refine ⟨hS59, ?_⟩
            have hS := hS59
            have hn61 : r = (L.set i (L[dn])).length := by rw [List.length_set]; omega
            have hx60 : dn < (L.set i (L[dn])).length := by rw [List.length_set]; omega
            refine RH.indexW (d := some 47) (r := [(19, .seq)]) (T := 29) (e := 23) (m := 1) (ik := .i64) (ix := (dn : Int)) (sh := (Shape.slice (Shape.bv .u8 8))) (xs := L.set i (L[dn])) (a := (some ⟨lb, 0, none⟩)) (len := r) (cap := lc) (by as_aux_lemma => kernel_rfl) hS (by as_aux_lemma => kernel_rfl) rfl H dn (by omega) hx60 hn61 ?_
            intro b62 es63 ha64 hcell65 hr66
            cases ha64
            obtain ⟨a67, k68, rfl⟩ := Shape.slice_form' hr66
            have H := H.add (F := Rp (Shape.slice (Shape.bv .u8 8)) [.slice a67 (((L.set i (L[dn]))[dn]).length) k68] ((L.set i (L[dn]))[dn])) hr66
            refine RH.sto ?_
            refine RW.storeWC (d := none) (r := []) (e := 23) (m := 1) (b := lb) (k := dn) (v := .slice a44 ((L[i]).length) k45) (by as_aux_lemma => kernel_rfl) rfl (by as_aux_lemma => kernel_rfl) H rfl hx60 hn61 (L[i]) (H.rp 2 rfl) ?_
            intro w70 hch69 H
            have H := H.reW (ys := swapL L i dn) (by unfold swapL; rw [rowAt_eq (show dn < L.length by omega), rowAt_eq (show i < L.length by omega)])
            have hS71 := hS.sto hch69 (.inr (by simp))
            refine ⟨hS71, ?_⟩
            have hS := hS71
            refine RH.fin hS 0 [1, 2, 5, 6, 7] [(1, .int .i64 (cols : Int)), (2, .pointer (some ⟨b1, 0, none⟩)), (5, .int .i64 (dn : Int)), (6, .int .i64 (cc : Int)), (7, .int .i64 (i : Int))] (by as_aux_lemma => kernel_rfl) ?_
            have H := H.pick [] (G' := []) rfl
            exact hJ24 _ H
          · skip
            refine RG.leaf' [(15, .seq), (10, .seq), (16, .qui), (17, .seq), (18, .qui), (19, .seq)] (by as_aux_lemma => kernel_rfl) ?_
            have Hr := H
            refine RH.chn hS ?_
            refine RW.load (κ := .chn) (d := some 45) (r := []) (T := 23) (b := lb) (o' := i * 1) (k := 0) (v := .slice a44 ((L[i]).length) k45) (by as_aux_lemma => kernel_rfl) hcell42 rfl (by as_aux_lemma => kernel_rfl) ?_
            intro hS
            have Hr := H
            refine RH.chn hS ?_
            refine RW.load (κ := .chn) (d := some 40) (r := []) (T := 23) (b := lb) (o' := dn * 1) (k := 0) (v := .slice a35 ((L[dn]).length) k36) (by as_aux_lemma => kernel_rfl) hcell33 rfl (by as_aux_lemma => kernel_rfl) ?_
            intro hS
            have hn75 : r = L.length := by omega
            have hx74 : i < L.length := by omega
            refine RH.indexW (d := some 46) (r := [(17, .seq), (18, .qui), (19, .seq)]) (T := 29) (e := 23) (m := 1) (ik := .i64) (ix := (i : Int)) (sh := (Shape.slice (Shape.bv .u8 8))) (xs := L) (a := (some ⟨lb, 0, none⟩)) (len := r) (cap := lc) (by as_aux_lemma => kernel_rfl) hS (by as_aux_lemma => kernel_rfl) rfl H i (by omega) hx74 hn75 ?_
            intro b76 es77 ha78 hcell79 hr80
            cases ha78
            obtain ⟨a81, k82, rfl⟩ := Shape.slice_form' hr80
            have H := H.add (F := Rp (Shape.slice (Shape.bv .u8 8)) [.slice a81 ((L[i]).length) k82] (L[i])) hr80
            have Hr := H
            refine RH.sto ?_
            refine RW.storeWC (d := none) (r := []) (e := 23) (m := 1) (b := lb) (k := i) (v := .slice a35 ((L[dn]).length) k36) (by as_aux_lemma => kernel_rfl) rfl (by as_aux_lemma => kernel_rfl) H rfl hx74 hn75 (L[dn]) (H.rp 2 rfl) ?_
            intro w84 hch83 H
            have hS85 := hS.sto hch83 (.inr (by simp))
            refine ⟨hS85, ?_⟩
            have hS := hS85
            have hn87 : r = (L.set i (L[dn])).length := by rw [List.length_set]; omega
            have hx86 : dn < (L.set i (L[dn])).length := by rw [List.length_set]; omega
            refine RH.indexW (d := some 47) (r := [(19, .seq)]) (T := 29) (e := 23) (m := 1) (ik := .i64) (ix := (dn : Int)) (sh := (Shape.slice (Shape.bv .u8 8))) (xs := L.set i (L[dn])) (a := (some ⟨lb, 0, none⟩)) (len := r) (cap := lc) (by as_aux_lemma => kernel_rfl) hS (by as_aux_lemma => kernel_rfl) rfl H dn (by omega) hx86 hn87 ?_
            intro b88 es89 ha90 hcell91 hr92
            cases ha90
            obtain ⟨a93, k94, rfl⟩ := Shape.slice_form' hr92
            have H := H.add (F := Rp (Shape.slice (Shape.bv .u8 8)) [.slice a93 (((L.set i (L[dn]))[dn]).length) k94] ((L.set i (L[dn]))[dn])) hr92
            refine RH.sto ?_
            refine RW.storeWC (d := none) (r := []) (e := 23) (m := 1) (b := lb) (k := dn) (v := .slice a44 ((L[i]).length) k45) (by as_aux_lemma => kernel_rfl) rfl (by as_aux_lemma => kernel_rfl) H rfl hx86 hn87 (L[i]) (H.rp 2 rfl) ?_
            intro w96 hch95 H
            have H := H.reW (ys := swapL L i dn) (by unfold swapL; rw [rowAt_eq (show dn < L.length by omega), rowAt_eq (show i < L.length by omega)])
            have hS97 := hS.sto hch95 (.inr (by simp))
            refine ⟨hS97, ?_⟩
            have hS := hS97
            refine RH.fin hS 0 [1, 2, 5, 6, 7] [(1, .int .i64 (cols : Int)), (2, .pointer (some ⟨b1, 0, none⟩)), (5, .int .i64 (dn : Int)), (6, .int .i64 (cc : Int)), (7, .int .i64 (i : Int))] (by as_aux_lemma => kernel_rfl) ?_
            have H := H.pick [] (G' := []) rfl
            exact hJ24 _ H
        · skip
          refine WK.run 1 [1, 2, 5, 6, 7] [.code (cd Try.prog 129 [2, 0, 1, 0, 0, 1, 0, 0, 1, 0, 0, 1, 0, 0, 1, 0, 1, 0]), .code (cd Try.prog 129 [2, 0, 1, 0, 0, 1, 0, 0, 1, 0, 0, 1, 0, 0, 1, 0, 2]), .inBlock 3, .code (cd Try.prog 129 [2, 0, 1, 0, 0, 1, 0, 0, 1, 0, 0, 2]), .inLoop (cd Try.prog 129 [2, 0, 1, 0, 0, 1, 0, 0, 1, 0, 0]), .inBlock 2, .inBlock 1, .code (cd Try.prog 129 [2, 0, 1, 0, 0, 2]), .inLoop (cd Try.prog 129 [2, 0, 1, 0, 0]), .inBlock 0, .code (cd Try.prog 129 [3])] [(1, .int .i64 (cols : Int)), (2, .pointer (some ⟨b1, 0, none⟩)), (5, .int .i64 (dn : Int)), (6, .int .i64 (cc : Int)), (7, .int .i64 (i : Int))] (by as_aux_lemma => kernel_rfl) ?_
          refine WK.joinW (fun w_ => Hp w S O [(b1, .cells #[.slice (some ⟨lb, 0, none⟩) r lc, .slice (some ⟨rb, 0, none⟩) r rc] 209 (0, 0))] [⟨Shape.slice (Shape.bv .u8 8), 23, .slice (some ⟨lb, 0, none⟩) r lc, (swapL L i dn)⟩, ⟨Shape.slice (Shape.bv .u8 8), 23, .slice (some ⟨rb, 0, none⟩) r rc, (swapL R i dn)⟩] [] w_) [(1, .int .i64 (cols : Int)), (2, .pointer (some ⟨b1, 0, none⟩)), (5, .int .i64 (dn : Int)), (6, .int .i64 (cc : Int))] [.code (cd Try.prog 129 [2, 0, 1, 0, 0, 1, 0, 0, 1, 0, 0, 1, 0, 0, 1, 0, 2]), .inBlock 3, .code (cd Try.prog 129 [2, 0, 1, 0, 0, 1, 0, 0, 1, 0, 0, 2]), .inLoop (cd Try.prog 129 [2, 0, 1, 0, 0, 1, 0, 0, 1, 0, 0]), .inBlock 2, .inBlock 1, .code (cd Try.prog 129 [2, 0, 1, 0, 0, 2]), .inLoop (cd Try.prog 129 [2, 0, 1, 0, 0]), .inBlock 0, .code (cd Try.prog 129 [3])] (fun hJ98 => ?_) (fun w99 H => ?_)
          · skip
            refine WK.drawH1 [rb] (.node [(0, .qui), (1, .qui), (2, .qui), (3, .qui), (4, .qui), (5, .qui), (6, .qui), (7, .qui), (8, .qui), (9, .qui), (11, .qui), (12, .qui), (13, .qui), (14, .qui)] (.cons 10 (.leaf [(15, .seq), (16, .qui), (17, .seq), (18, .qui), (19, .seq)]) (.cons 15 (.leaf [(10, .seq), (16, .qui), (17, .seq), (18, .qui), (19, .seq)]) .nil))) Try_mixed (by as_aux_lemma => kernel_rfl) (by as_aux_lemma => kernel_rfl) ?_
            intro w100 hw101
            have H := H.draw
            rw [← hw101] at H
            clear hw101
            have hS := Chg.refl w100 [rb]
            refine RG.node' [(0, .qui), (1, .qui), (2, .qui), (3, .qui), (4, .qui), (5, .qui), (6, .qui), (7, .qui), (8, .qui), (9, .qui), (11, .qui), (12, .qui), (13, .qui), (14, .qui)] (by as_aux_lemma => kernel_rfl) ?_
            refine RH.runP hS 1 [1, 2, 5, 6, 7, 48] [(1, .qui), (2, .qui), (3, .qui), (4, .qui), (5, .qui), (6, .qui), (7, .qui), (8, .qui), (9, .qui), (11, .qui), (12, .qui), (13, .qui), (14, .qui)] [(1, .int .i64 (cols : Int)), (2, .pointer (some ⟨b1, 0, none⟩)), (5, .int .i64 (dn : Int)), (6, .int .i64 (cc : Int)), (7, .int .i64 (i : Int)), (48, .pointer (some ⟨b1, 1, none⟩))] (by as_aux_lemma => kernel_rfl) (by as_aux_lemma => kernel_rfl) ?_
            refine RH.load (d := some 49) (r := [(2, .qui), (3, .qui), (4, .qui), (5, .qui), (6, .qui), (7, .qui), (8, .qui), (9, .qui), (11, .qui), (12, .qui), (13, .qui), (14, .qui)]) (T := 29) (b := b1) (o' := 1) (k := 1) (v := .slice (some ⟨rb, 0, none⟩) r rc) (by as_aux_lemma => kernel_rfl) hS (H.cells 0 rfl) (by intro hq; simp only [List.mem_cons, List.not_mem_nil, or_false] at hq; exact H.neMW 0 rfl 1 rfl hq) (by simp) rfl (by as_aux_lemma => kernel_rfl) ?_
            refine RH.runP hS 2 [1, 2, 5, 6, 7, 49, 50, 51] [(4, .qui), (5, .qui), (6, .qui), (7, .qui), (8, .qui), (9, .qui), (11, .qui), (12, .qui), (13, .qui), (14, .qui)] [(1, .int .i64 (cols : Int)), (2, .pointer (some ⟨b1, 0, none⟩)), (5, .int .i64 (dn : Int)), (6, .int .i64 (cc : Int)), (7, .int .i64 (i : Int)), (49, .slice (some ⟨rb, 0, none⟩) r rc), (50, .int .i64 (i : Int)), (51, .pointer (some ⟨b1, 1, none⟩))] (by as_aux_lemma => kernel_rfl) (by as_aux_lemma => kernel_rfl) ?_
            refine RH.load (d := some 52) (r := [(5, .qui), (6, .qui), (7, .qui), (8, .qui), (9, .qui), (11, .qui), (12, .qui), (13, .qui), (14, .qui)]) (T := 29) (b := b1) (o' := 1) (k := 1) (v := .slice (some ⟨rb, 0, none⟩) r rc) (by as_aux_lemma => kernel_rfl) hS (H.cells 0 rfl) (by intro hq; simp only [List.mem_cons, List.not_mem_nil, or_false] at hq; exact H.neMW 0 rfl 1 rfl hq) (by simp) rfl (by as_aux_lemma => kernel_rfl) ?_
            refine RH.runP hS 2 [1, 2, 5, 6, 7, 49, 50, 52, 53, 54] [(7, .qui), (8, .qui), (9, .qui), (11, .qui), (12, .qui), (13, .qui), (14, .qui)] [(1, .int .i64 (cols : Int)), (2, .pointer (some ⟨b1, 0, none⟩)), (5, .int .i64 (dn : Int)), (6, .int .i64 (cc : Int)), (7, .int .i64 (i : Int)), (49, .slice (some ⟨rb, 0, none⟩) r rc), (50, .int .i64 (i : Int)), (52, .slice (some ⟨rb, 0, none⟩) r rc), (53, .int .i64 (dn : Int)), (54, .pointer (some ⟨b1, 1, none⟩))] (by as_aux_lemma => kernel_rfl) (by as_aux_lemma => kernel_rfl) ?_
            refine RH.load (d := some 55) (r := [(8, .qui), (9, .qui), (11, .qui), (12, .qui), (13, .qui), (14, .qui)]) (T := 29) (b := b1) (o' := 1) (k := 1) (v := .slice (some ⟨rb, 0, none⟩) r rc) (by as_aux_lemma => kernel_rfl) hS (H.cells 0 rfl) (by intro hq; simp only [List.mem_cons, List.not_mem_nil, or_false] at hq; exact H.neMW 0 rfl 1 rfl hq) (by simp) rfl (by as_aux_lemma => kernel_rfl) ?_
            refine RH.runP hS 1 [1, 2, 5, 6, 7, 49, 50, 52, 53, 55, 56] [(9, .qui), (11, .qui), (12, .qui), (13, .qui), (14, .qui)] [(1, .int .i64 (cols : Int)), (2, .pointer (some ⟨b1, 0, none⟩)), (5, .int .i64 (dn : Int)), (6, .int .i64 (cc : Int)), (7, .int .i64 (i : Int)), (49, .slice (some ⟨rb, 0, none⟩) r rc), (50, .int .i64 (i : Int)), (52, .slice (some ⟨rb, 0, none⟩) r rc), (53, .int .i64 (dn : Int)), (55, .slice (some ⟨rb, 0, none⟩) r rc), (56, .int .i64 (dn : Int))] (by as_aux_lemma => kernel_rfl) (by as_aux_lemma => kernel_rfl) ?_
            have H := H.perms (M' := [(b1, .cells #[.slice (some ⟨lb, 0, none⟩) r lc, .slice (some ⟨rb, 0, none⟩) r rc] 209 (0, 0))]) (W' := [⟨Shape.slice (Shape.bv .u8 8), 23, .slice (some ⟨rb, 0, none⟩) r rc, R⟩, ⟨Shape.slice (Shape.bv .u8 8), 23, .slice (some ⟨lb, 0, none⟩) r lc, (swapL L i dn)⟩]) (List.Perm.refl _) (List.perm_middle (l₁ := ([⟨Shape.slice (Shape.bv .u8 8), 23, .slice (some ⟨lb, 0, none⟩) r lc, (swapL L i dn)⟩] : List OwnS))).symm
            have hn103 : r = R.length := by omega
            have hx102 : dn < R.length := by omega
            refine RH.indexW (d := some 57) (r := [(11, .qui), (12, .qui), (13, .qui), (14, .qui)]) (T := 29) (e := 23) (m := 1) (ik := .i64) (ix := (dn : Int)) (sh := (Shape.slice (Shape.bv .u8 8))) (xs := R) (a := (some ⟨rb, 0, none⟩)) (len := r) (cap := rc) (by as_aux_lemma => kernel_rfl) hS (by as_aux_lemma => kernel_rfl) rfl H dn (by omega) hx102 hn103 ?_
            intro b104 es105 ha106 hcell107 hr108
            cases ha106
            obtain ⟨a109, k110, rfl⟩ := Shape.slice_form' hr108
            have H := H.add (F := Rp (Shape.slice (Shape.bv .u8 8)) [.slice a109 ((R[dn]).length) k110] (R[dn])) hr108
            refine RH.runP hS 1 [1, 2, 5, 6, 7, 49, 50, 52, 53, 57, 59] [(12, .qui), (13, .qui), (14, .qui)] [(1, .int .i64 (cols : Int)), (2, .pointer (some ⟨b1, 0, none⟩)), (5, .int .i64 (dn : Int)), (6, .int .i64 (cc : Int)), (7, .int .i64 (i : Int)), (49, .slice (some ⟨rb, 0, none⟩) r rc), (50, .int .i64 (i : Int)), (52, .slice (some ⟨rb, 0, none⟩) r rc), (53, .int .i64 (dn : Int)), (57, .pointer (some ⟨rb, dn * 1, none⟩)), (59, .pointer (some ⟨b1, 1, none⟩))] (by as_aux_lemma => kernel_rfl) (by as_aux_lemma => kernel_rfl) ?_
            refine RH.load (d := some 60) (r := [(13, .qui), (14, .qui)]) (T := 29) (b := b1) (o' := 1) (k := 1) (v := .slice (some ⟨rb, 0, none⟩) r rc) (by as_aux_lemma => kernel_rfl) hS (H.cells 0 rfl) (by intro hq; simp only [List.mem_cons, List.not_mem_nil, or_false] at hq; exact H.neMW 0 rfl 0 rfl hq) (by simp) rfl (by as_aux_lemma => kernel_rfl) ?_
            refine RH.runP hS 1 [1, 2, 5, 6, 49, 50, 52, 53, 57, 60, 61] [(14, .qui)] [(1, .int .i64 (cols : Int)), (2, .pointer (some ⟨b1, 0, none⟩)), (5, .int .i64 (dn : Int)), (6, .int .i64 (cc : Int)), (49, .slice (some ⟨rb, 0, none⟩) r rc), (50, .int .i64 (i : Int)), (52, .slice (some ⟨rb, 0, none⟩) r rc), (53, .int .i64 (dn : Int)), (57, .pointer (some ⟨rb, dn * 1, none⟩)), (60, .slice (some ⟨rb, 0, none⟩) r rc), (61, .int .i64 (i : Int))] (by as_aux_lemma => kernel_rfl) (by as_aux_lemma => kernel_rfl) ?_
            have hn112 : r = R.length := by omega
            have hx111 : i < R.length := by omega
            refine RH.indexW (d := some 62) (r := []) (T := 29) (e := 23) (m := 1) (ik := .i64) (ix := (i : Int)) (sh := (Shape.slice (Shape.bv .u8 8))) (xs := R) (a := (some ⟨rb, 0, none⟩)) (len := r) (cap := rc) (by as_aux_lemma => kernel_rfl) hS (by as_aux_lemma => kernel_rfl) rfl H i (by omega) hx111 hn112 ?_
            intro b113 es114 ha115 hcell116 hr117
            cases ha115
            obtain ⟨a118, k119, rfl⟩ := Shape.slice_form' hr117
            have H := H.add (F := Rp (Shape.slice (Shape.bv .u8 8)) [.slice a118 ((R[i]).length) k119] (R[i])) hr117
            refine RH.finB hS 0 [1, 2, 5, 6, 49, 50, 52, 53, 57, 62] [(1, .int .i64 (cols : Int)), (2, .pointer (some ⟨b1, 0, none⟩)), (5, .int .i64 (dn : Int)), (6, .int .i64 (cc : Int)), (49, .slice (some ⟨rb, 0, none⟩) r rc), (50, .int .i64 (i : Int)), (52, .slice (some ⟨rb, 0, none⟩) r rc), (53, .int .i64 (dn : Int)), (57, .pointer (some ⟨rb, dn * 1, none⟩)), (62, .pointer (some ⟨rb, i * 1, none⟩))] (by as_aux_lemma => kernel_rfl) ?_
            refine (RGB.cons' ?_ (RGB.cons' ?_ RGB.nil'))
            · skip
              refine RG.leaf' [(10, .seq), (15, .seq), (16, .qui), (17, .seq), (18, .qui), (19, .seq)] (by as_aux_lemma => kernel_rfl) ?_
              have Hr := H
              refine RH.chn hS ?_
              refine RW.load (κ := .chn) (d := some 58) (r := []) (T := 23) (b := rb) (o' := dn * 1) (k := 0) (v := .slice a109 ((R[dn]).length) k110) (by as_aux_lemma => kernel_rfl) hcell107 rfl (by as_aux_lemma => kernel_rfl) ?_
              intro hS
              have Hr := H
              refine RH.chn hS ?_
              refine RW.load (κ := .chn) (d := some 63) (r := []) (T := 23) (b := rb) (o' := i * 1) (k := 0) (v := .slice a118 ((R[i]).length) k119) (by as_aux_lemma => kernel_rfl) hcell116 rfl (by as_aux_lemma => kernel_rfl) ?_
              intro hS
              have hn123 : r = R.length := by omega
              have hx122 : i < R.length := by omega
              refine RH.indexW (d := some 64) (r := [(17, .seq), (18, .qui), (19, .seq)]) (T := 29) (e := 23) (m := 1) (ik := .i64) (ix := (i : Int)) (sh := (Shape.slice (Shape.bv .u8 8))) (xs := R) (a := (some ⟨rb, 0, none⟩)) (len := r) (cap := rc) (by as_aux_lemma => kernel_rfl) hS (by as_aux_lemma => kernel_rfl) rfl H i (by omega) hx122 hn123 ?_
              intro b124 es125 ha126 hcell127 hr128
              cases ha126
              obtain ⟨a129, k130, rfl⟩ := Shape.slice_form' hr128
              have H := H.add (F := Rp (Shape.slice (Shape.bv .u8 8)) [.slice a129 ((R[i]).length) k130] (R[i])) hr128
              have Hr := H
              refine RH.sto ?_
              refine RW.storeWC (d := none) (r := []) (e := 23) (m := 1) (b := rb) (k := i) (v := .slice a109 ((R[dn]).length) k110) (by as_aux_lemma => kernel_rfl) rfl (by as_aux_lemma => kernel_rfl) H rfl hx122 hn123 (R[dn]) (H.rp 2 rfl) ?_
              intro w132 hch131 H
              have hS133 := hS.sto hch131 (.inr (by simp))
              refine ⟨hS133, ?_⟩
              have hS := hS133
              have hn135 : r = (R.set i (R[dn])).length := by rw [List.length_set]; omega
              have hx134 : dn < (R.set i (R[dn])).length := by rw [List.length_set]; omega
              refine RH.indexW (d := some 65) (r := [(19, .seq)]) (T := 29) (e := 23) (m := 1) (ik := .i64) (ix := (dn : Int)) (sh := (Shape.slice (Shape.bv .u8 8))) (xs := R.set i (R[dn])) (a := (some ⟨rb, 0, none⟩)) (len := r) (cap := rc) (by as_aux_lemma => kernel_rfl) hS (by as_aux_lemma => kernel_rfl) rfl H dn (by omega) hx134 hn135 ?_
              intro b136 es137 ha138 hcell139 hr140
              cases ha138
              obtain ⟨a141, k142, rfl⟩ := Shape.slice_form' hr140
              have H := H.add (F := Rp (Shape.slice (Shape.bv .u8 8)) [.slice a141 (((R.set i (R[dn]))[dn]).length) k142] ((R.set i (R[dn]))[dn])) hr140
              refine RH.sto ?_
              refine RW.storeWC (d := none) (r := []) (e := 23) (m := 1) (b := rb) (k := dn) (v := .slice a118 ((R[i]).length) k119) (by as_aux_lemma => kernel_rfl) rfl (by as_aux_lemma => kernel_rfl) H rfl hx134 hn135 (R[i]) (H.rp 2 rfl) ?_
              intro w144 hch143 H
              have H := H.reW (ys := swapL R i dn) (by unfold swapL; rw [rowAt_eq (show dn < R.length by omega), rowAt_eq (show i < R.length by omega)])
              have hS145 := hS.sto hch143 (.inr (by simp))
              refine ⟨hS145, ?_⟩
              have hS := hS145
              refine RH.fin hS 0 [1, 2, 5, 6] [(1, .int .i64 (cols : Int)), (2, .pointer (some ⟨b1, 0, none⟩)), (5, .int .i64 (dn : Int)), (6, .int .i64 (cc : Int))] (by as_aux_lemma => kernel_rfl) ?_
              have H := H.pick [] (G' := []) rfl
              have H := H.perms (M' := [(b1, .cells #[.slice (some ⟨lb, 0, none⟩) r lc, .slice (some ⟨rb, 0, none⟩) r rc] 209 (0, 0))]) (W' := [⟨Shape.slice (Shape.bv .u8 8), 23, .slice (some ⟨lb, 0, none⟩) r lc, (swapL L i dn)⟩, ⟨Shape.slice (Shape.bv .u8 8), 23, .slice (some ⟨rb, 0, none⟩) r rc, swapL R i dn⟩]) (List.Perm.refl _) (List.perm_middle (l₁ := ([⟨Shape.slice (Shape.bv .u8 8), 23, .slice (some ⟨rb, 0, none⟩) r rc, swapL R i dn⟩] : List OwnS))).symm
              exact hJ98 _ H
            · skip
              refine RG.leaf' [(15, .seq), (10, .seq), (16, .qui), (17, .seq), (18, .qui), (19, .seq)] (by as_aux_lemma => kernel_rfl) ?_
              have Hr := H
              refine RH.chn hS ?_
              refine RW.load (κ := .chn) (d := some 63) (r := []) (T := 23) (b := rb) (o' := i * 1) (k := 0) (v := .slice a118 ((R[i]).length) k119) (by as_aux_lemma => kernel_rfl) hcell116 rfl (by as_aux_lemma => kernel_rfl) ?_
              intro hS
              have Hr := H
              refine RH.chn hS ?_
              refine RW.load (κ := .chn) (d := some 58) (r := []) (T := 23) (b := rb) (o' := dn * 1) (k := 0) (v := .slice a109 ((R[dn]).length) k110) (by as_aux_lemma => kernel_rfl) hcell107 rfl (by as_aux_lemma => kernel_rfl) ?_
              intro hS
              have hn149 : r = R.length := by omega
              have hx148 : i < R.length := by omega
              refine RH.indexW (d := some 64) (r := [(17, .seq), (18, .qui), (19, .seq)]) (T := 29) (e := 23) (m := 1) (ik := .i64) (ix := (i : Int)) (sh := (Shape.slice (Shape.bv .u8 8))) (xs := R) (a := (some ⟨rb, 0, none⟩)) (len := r) (cap := rc) (by as_aux_lemma => kernel_rfl) hS (by as_aux_lemma => kernel_rfl) rfl H i (by omega) hx148 hn149 ?_
              intro b150 es151 ha152 hcell153 hr154
              cases ha152
              obtain ⟨a155, k156, rfl⟩ := Shape.slice_form' hr154
              have H := H.add (F := Rp (Shape.slice (Shape.bv .u8 8)) [.slice a155 ((R[i]).length) k156] (R[i])) hr154
              have Hr := H
              refine RH.sto ?_
              refine RW.storeWC (d := none) (r := []) (e := 23) (m := 1) (b := rb) (k := i) (v := .slice a109 ((R[dn]).length) k110) (by as_aux_lemma => kernel_rfl) rfl (by as_aux_lemma => kernel_rfl) H rfl hx148 hn149 (R[dn]) (H.rp 2 rfl) ?_
              intro w158 hch157 H
              have hS159 := hS.sto hch157 (.inr (by simp))
              refine ⟨hS159, ?_⟩
              have hS := hS159
              have hn161 : r = (R.set i (R[dn])).length := by rw [List.length_set]; omega
              have hx160 : dn < (R.set i (R[dn])).length := by rw [List.length_set]; omega
              refine RH.indexW (d := some 65) (r := [(19, .seq)]) (T := 29) (e := 23) (m := 1) (ik := .i64) (ix := (dn : Int)) (sh := (Shape.slice (Shape.bv .u8 8))) (xs := R.set i (R[dn])) (a := (some ⟨rb, 0, none⟩)) (len := r) (cap := rc) (by as_aux_lemma => kernel_rfl) hS (by as_aux_lemma => kernel_rfl) rfl H dn (by omega) hx160 hn161 ?_
              intro b162 es163 ha164 hcell165 hr166
              cases ha164
              obtain ⟨a167, k168, rfl⟩ := Shape.slice_form' hr166
              have H := H.add (F := Rp (Shape.slice (Shape.bv .u8 8)) [.slice a167 (((R.set i (R[dn]))[dn]).length) k168] ((R.set i (R[dn]))[dn])) hr166
              refine RH.sto ?_
              refine RW.storeWC (d := none) (r := []) (e := 23) (m := 1) (b := rb) (k := dn) (v := .slice a118 ((R[i]).length) k119) (by as_aux_lemma => kernel_rfl) rfl (by as_aux_lemma => kernel_rfl) H rfl hx160 hn161 (R[i]) (H.rp 2 rfl) ?_
              intro w170 hch169 H
              have H := H.reW (ys := swapL R i dn) (by unfold swapL; rw [rowAt_eq (show dn < R.length by omega), rowAt_eq (show i < R.length by omega)])
              have hS171 := hS.sto hch169 (.inr (by simp))
              refine ⟨hS171, ?_⟩
              have hS := hS171
              refine RH.fin hS 0 [1, 2, 5, 6] [(1, .int .i64 (cols : Int)), (2, .pointer (some ⟨b1, 0, none⟩)), (5, .int .i64 (dn : Int)), (6, .int .i64 (cc : Int))] (by as_aux_lemma => kernel_rfl) ?_
              have H := H.pick [] (G' := []) rfl
              have H := H.perms (M' := [(b1, .cells #[.slice (some ⟨lb, 0, none⟩) r lc, .slice (some ⟨rb, 0, none⟩) r rc] 209 (0, 0))]) (W' := [⟨Shape.slice (Shape.bv .u8 8), 23, .slice (some ⟨lb, 0, none⟩) r lc, (swapL L i dn)⟩, ⟨Shape.slice (Shape.bv .u8 8), 23, .slice (some ⟨rb, 0, none⟩) r rc, swapL R i dn⟩]) (List.Perm.refl _) (List.perm_middle (l₁ := ([⟨Shape.slice (Shape.bv .u8 8), 23, .slice (some ⟨rb, 0, none⟩) r rc, swapL R i dn⟩] : List OwnS))).symm
              exact hJ98 _ H
          · skip
            refine WK.run 1 [1, 2, 5, 6] [.code (cd Try.prog 129 [2, 0, 1, 0, 0, 1, 0, 0, 1, 0, 0, 1, 0, 0, 1, 0, 2, 0]), .code (cd Try.prog 129 [2, 0, 1, 0, 0, 1, 0, 0, 1, 0, 0, 1, 0, 0, 1, 0, 3]), .inBlock 3, .code (cd Try.prog 129 [2, 0, 1, 0, 0, 1, 0, 0, 1, 0, 0, 2]), .inLoop (cd Try.prog 129 [2, 0, 1, 0, 0, 1, 0, 0, 1, 0, 0]), .inBlock 2, .inBlock 1, .code (cd Try.prog 129 [2, 0, 1, 0, 0, 2]), .inLoop (cd Try.prog 129 [2, 0, 1, 0, 0]), .inBlock 0, .code (cd Try.prog 129 [3])] [(1, .int .i64 (cols : Int)), (2, .pointer (some ⟨b1, 0, none⟩)), (5, .int .i64 (dn : Int)), (6, .int .i64 (cc : Int))] (by as_aux_lemma => kernel_rfl) ?_
            refine WK.reg1 (l := sq 0 4) (by as_aux_lemma => kernel_rfl) (by as_aux_lemma => kernel_rfl) ?_
            refine RW.load (κ := .seq) (d := some 66) (r := (sq 1 4)) (T := 209) (b := b1) (o' := 0) (k := 0) (v := .agg #[.slice (some ⟨lb, 0, none⟩) r lc, .slice (some ⟨rb, 0, none⟩) r rc]) (by as_aux_lemma => kernel_rfl) (H.cells 0 rfl) rfl (by as_aux_lemma => kernel_rfl) ?_
            refine RW.runP 2 [1, 2, 5, 6, 66, 67, 68] (sq 3 4) [(1, .int .i64 (cols : Int)), (2, .pointer (some ⟨b1, 0, none⟩)), (5, .int .i64 (dn : Int)), (6, .int .i64 (cc : Int)), (66, .agg #[.slice (some ⟨lb, 0, none⟩) r lc, .slice (some ⟨rb, 0, none⟩) r rc]), (67, .int .i64 (dn : Int)), (68, .int .i64 (cc : Int))] (by as_aux_lemma => kernel_rfl) (by as_aux_lemma => kernel_rfl) ?_
            refine RW.callS (d := some 69) (r := (sq 4 4)) (g := 152) (args := #[.agg #[.slice (some ⟨lb, 0, none⟩) r lc, .slice (some ⟨rb, 0, none⟩) r rc], .int .i64 (dn : Int), .int .i64 (cc : Int)]) (by as_aux_lemma => kernel_rfl) (clear_spec ((H.lend (M1 := []) (W1 := [⟨Shape.slice (Shape.bv .u8 8), 23, .slice (some ⟨lb, 0, none⟩) r lc, (swapL L i dn)⟩, ⟨Shape.slice (Shape.bv .u8 8), 23, .slice (some ⟨rb, 0, none⟩) r rc, (swapL R i dn)⟩])).pick [] rfl) hsl hsr hr hcl hcr hcd (at_ := dn) (col := cc) (by omega) (by omega) hne) ?_
            rintro _ w172 ⟨rfl, H'⟩
            have H := H.back (M1 := []) (W1 := [⟨Shape.slice (Shape.bv .u8 8), 23, .slice (some ⟨lb, 0, none⟩) r lc, (swapL L i dn)⟩, ⟨Shape.slice (Shape.bv .u8 8), 23, .slice (some ⟨rb, 0, none⟩) r rc, (swapL R i dn)⟩]) H'
            have H : Hp w S O [(b1, .cells #[.slice (some ⟨lb, 0, none⟩) r lc, .slice (some ⟨rb, 0, none⟩) r rc] 209 (0, 0))] [⟨Shape.slice (Shape.bv .u8 8), 23, .slice (some ⟨lb, 0, none⟩) r lc, (clearL (swapL L i dn) dn cc)⟩, ⟨Shape.slice (Shape.bv .u8 8), 23, .slice (some ⟨rb, 0, none⟩) r rc, (clearR (swapL L i dn) (swapL R i dn) dn cc)⟩] [] _ := H
            refine RW.fin 0 [1, 2, 5, 6] [(1, .int .i64 (cols : Int)), (2, .pointer (some ⟨b1, 0, none⟩)), (5, .int .i64 (dn : Int)), (6, .int .i64 (cc : Int))] (by as_aux_lemma => kernel_rfl) ?_
            refine WK.run 1 [1, 2, 5, 6] [.code (cd Try.prog 129 [2, 0, 1, 0, 0, 1, 0, 0, 1, 0, 0, 1, 0, 0, 1, 0, 3, 0]), .code (cd Try.prog 129 [2, 0, 1, 0, 0, 1, 0, 0, 1, 0, 0, 1, 0, 0, 1, 0, 4]), .inBlock 3, .code (cd Try.prog 129 [2, 0, 1, 0, 0, 1, 0, 0, 1, 0, 0, 2]), .inLoop (cd Try.prog 129 [2, 0, 1, 0, 0, 1, 0, 0, 1, 0, 0]), .inBlock 2, .inBlock 1, .code (cd Try.prog 129 [2, 0, 1, 0, 0, 2]), .inLoop (cd Try.prog 129 [2, 0, 1, 0, 0]), .inBlock 0, .code (cd Try.prog 129 [3])] [(1, .int .i64 (cols : Int)), (2, .pointer (some ⟨b1, 0, none⟩)), (5, .int .i64 (dn : Int)), (6, .int .i64 (cc : Int))] (by as_aux_lemma => kernel_rfl) ?_
            refine WK.reg1 (l := sq 0 3) (by as_aux_lemma => kernel_rfl) (by as_aux_lemma => kernel_rfl) ?_
            refine RW.runP 1 [1, 2, 5, 6, 70] (sq 1 3) [(1, .int .i64 (cols : Int)), (2, .pointer (some ⟨b1, 0, none⟩)), (5, .int .i64 (dn : Int)), (6, .int .i64 (cc : Int)), (70, .int .i64 (dn : Int))] (by as_aux_lemma => kernel_rfl) (by as_aux_lemma => kernel_rfl) ?_
            refine RW.wr64 (κ := .seq) (d := some 71) (r := (sq 2 3)) (t := (dn : Int) + 1) (by as_aux_lemma => kernel_rfl) (by omega) ?_
            refine RW.fin 1 [1, 2, 5, 6] [(1, .int .i64 (cols : Int)), (2, .pointer (some ⟨b1, 0, none⟩)), (5, .int .i64 ((dn : Int) + 1)), (6, .int .i64 (cc : Int))] (by as_aux_lemma => kernel_rfl) ?_
            refine WK.run 2 [1, 2, 5, 6] [.code (cd Try.prog 129 [2, 0, 1, 0, 0, 2]), .inLoop (cd Try.prog 129 [2, 0, 1, 0, 0]), .inBlock 0, .code (cd Try.prog 129 [3])] [(1, .int .i64 (cols : Int)), (2, .pointer (some ⟨b1, 0, none⟩)), (5, .int .i64 ((dn : Int) + 1)), (6, .int .i64 (cc : Int))] (by as_aux_lemma => kernel_rfl) ?_
            refine WK.reg1 (l := sq 0 3) (by as_aux_lemma => kernel_rfl) (by as_aux_lemma => kernel_rfl) ?_
            refine RW.runP 1 [1, 2, 5, 6, 11] (sq 1 3) [(1, .int .i64 (cols : Int)), (2, .pointer (some ⟨b1, 0, none⟩)), (5, .int .i64 ((dn : Int) + 1)), (6, .int .i64 (cc : Int)), (11, .int .i64 (cc : Int))] (by as_aux_lemma => kernel_rfl) (by as_aux_lemma => kernel_rfl) ?_
            refine RW.wr64 (κ := .seq) (d := some 12) (r := (sq 2 3)) (t := (cc : Int) + 1) (by as_aux_lemma => kernel_rfl) (by omega) ?_
            refine RW.fin 1 [1, 2, 5, 6] [(1, .int .i64 (cols : Int)), (2, .pointer (some ⟨b1, 0, none⟩)), (5, .int .i64 ((dn : Int) + 1)), (6, .int .i64 ((cc : Int) + 1))] (by as_aux_lemma => kernel_rfl) ?_
            exact WK.back (hback3 (cc + 1, dn + 1, (clearL (swapL L i dn) dn cc), (clearR (swapL L i dn) (swapL R i dn) dn cc)) _ ⟨H, by omega, by rw [redTo_succ, ← hred]; first | exact (redStep_hit hfp).symm | exact (redStep_miss hfn).symm, by omega, by first | exact hL | (rw [clearL_len]; exact hsl), by first | exact hR | (rw [clearR_len]; exact hsr), by first | exact hcL | exact clearL_all hcl (by omega), by first | exact hcR | exact clearR_all hcr (by omega)⟩ (by simp only []; omega)) (by as_aux_lemma => kernel_rfl)
      · skip
        replace h23 := (bne_eq_false_iff_eq.1 h23)
        refine WK.run 2 [1, 2, 5, 6, 7] [.code (cd Try.prog 129 [2, 0, 1, 0, 0, 1, 0, 0, 1, 0, 0, 2]), .inLoop (cd Try.prog 129 [2, 0, 1, 0, 0, 1, 0, 0, 1, 0, 0]), .inBlock 2, .inBlock 1, .code (cd Try.prog 129 [2, 0, 1, 0, 0, 2]), .inLoop (cd Try.prog 129 [2, 0, 1, 0, 0]), .inBlock 0, .code (cd Try.prog 129 [3])] [(1, .int .i64 (cols : Int)), (2, .pointer (some ⟨b1, 0, none⟩)), (5, .int .i64 (dn : Int)), (6, .int .i64 (cc : Int)), (7, .int .i64 (i : Int))] (by as_aux_lemma => kernel_rfl) ?_
        refine WK.reg1 (l := sq 0 3) (by as_aux_lemma => kernel_rfl) (by as_aux_lemma => kernel_rfl) ?_
        refine RW.runP 1 [1, 2, 5, 6, 7, 19] (sq 1 3) [(1, .int .i64 (cols : Int)), (2, .pointer (some ⟨b1, 0, none⟩)), (5, .int .i64 (dn : Int)), (6, .int .i64 (cc : Int)), (7, .int .i64 (i : Int)), (19, .int .i64 (i : Int))] (by as_aux_lemma => kernel_rfl) (by as_aux_lemma => kernel_rfl) ?_
        refine RW.wr64 (κ := .seq) (d := some 20) (r := (sq 2 3)) (t := (i : Int) + 1) (by as_aux_lemma => kernel_rfl) (by omega) ?_
        refine RW.fin 1 [1, 2, 5, 6, 7] [(1, .int .i64 (cols : Int)), (2, .pointer (some ⟨b1, 0, none⟩)), (5, .int .i64 (dn : Int)), (6, .int .i64 (cc : Int)), (7, .int .i64 ((i : Int) + 1))] (by as_aux_lemma => kernel_rfl) ?_
        have H := H.pick [] (G' := []) rfl
        exact WK.back (hback6 (i + 1) _ ⟨H, by omega, by omega, fun j h1 h2 => by
              rcases Nat.lt_or_ge j i with h3 | h3
              · exact hinv1.2.2 j h1 h3
              · obtain rfl : j = i := by omega
                rw [entAt_eq hil (by omega)]
                exact bvz0 (by omega)⟩ (by first | omega | (simp only []; omega))) (by as_aux_lemma => kernel_rfl)
    · skip
      replace h8 := of_decide_eq_false h8
      have hfn : firstP L cc dn = none := firstP_none fun j h1 h2 => hinv1.2.2 j h1 (by omega)
      refine WK.run 2 [1, 2, 5, 6] [.code (cd Try.prog 129 [2, 0, 1, 0, 0, 2]), .inLoop (cd Try.prog 129 [2, 0, 1, 0, 0]), .inBlock 0, .code (cd Try.prog 129 [3])] [(1, .int .i64 (cols : Int)), (2, .pointer (some ⟨b1, 0, none⟩)), (5, .int .i64 (dn : Int)), (6, .int .i64 (cc : Int))] (by as_aux_lemma => kernel_rfl) ?_
      refine WK.reg1 (l := sq 0 3) (by as_aux_lemma => kernel_rfl) (by as_aux_lemma => kernel_rfl) ?_
      refine RW.runP 1 [1, 2, 5, 6, 11] (sq 1 3) [(1, .int .i64 (cols : Int)), (2, .pointer (some ⟨b1, 0, none⟩)), (5, .int .i64 (dn : Int)), (6, .int .i64 (cc : Int)), (11, .int .i64 (cc : Int))] (by as_aux_lemma => kernel_rfl) (by as_aux_lemma => kernel_rfl) ?_
      refine RW.wr64 (κ := .seq) (d := some 12) (r := (sq 2 3)) (t := (cc : Int) + 1) (by as_aux_lemma => kernel_rfl) (by omega) ?_
      refine RW.fin 1 [1, 2, 5, 6] [(1, .int .i64 (cols : Int)), (2, .pointer (some ⟨b1, 0, none⟩)), (5, .int .i64 (dn : Int)), (6, .int .i64 ((cc : Int) + 1))] (by as_aux_lemma => kernel_rfl) ?_
      exact WK.back (hback3 (cc + 1, dn, L, R) _ ⟨H, by omega, by rw [redTo_succ, ← hred]; first | exact (redStep_hit hfp).symm | exact (redStep_miss hfn).symm, by omega, by first | exact hL | (rw [clearL_len]; exact hsl), by first | exact hR | (rw [clearR_len]; exact hsr), by first | exact hcL | exact clearL_all hcl (by omega), by first | exact hcR | exact clearR_all hcr (by omega)⟩ (by simp only []; omega)) (by as_aux_lemma => kernel_rfl)
  · skip
    replace h5 := of_decide_eq_false h5
    refine WK.run 3 [4] [.code (cd Try.prog 129 [4])] [(4, .int .i64 (dn : Int))] (by as_aux_lemma => kernel_rfl) ?_
    refine WK.ret (v := .int .i64 (dn : Int)) Try.func129 (by as_aux_lemma => kernel_rfl) (by as_aux_lemma => kernel_rfl) ?_
    have hce : cc = cols := by omega
    rw [hce] at hred
    have h1 := congrArg (·.1) hred
    have h2 := congrArg (·.2.1) hred
    have h3 := congrArg (·.2.2) hred
    simp only at h1 h2 h3
    rw [← h1, ← h2, ← h3]
    exact ⟨_, rfl, rfl, (H.dropM 0).pick [] rfl⟩


end Go.Proofs.Ytppcdmbkgficiaa
