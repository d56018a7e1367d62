import Derived.Test.YtppcdmbkgficiaaSBxA
import Derived.Test.YtppcdmbkgficiaaSM2
namespace Go.Proofs.Ytppcdmbkgficiaa
open Go.BX
set_option maxHeartbeats 8000000 in
theorem reduce_spec {S : Nat → Prop} {w : World} {O : List Nat} {lb lc rb rc r c d : Nat} {L0 R0 : List (List (BitVec 8))} (H0 : Hp w S O [] [⟨SB, 23, .slice (some ⟨lb, 0, none⟩) r lc, L0⟩, ⟨SB, 23, .slice (some ⟨rb, 0, none⟩) r rc, R0⟩] [] w) (hL0 : L0.length = r) (hR0 : R0.length = r) (hr : r ≤ 255) (hcL0 : ∀ x ∈ L0, x.length = c) (hcR0 : ∀ x ∈ R0, x.length = d) (hcd : c ≤ 255 ∧ d ≤ 255) {cols : Nat} (hcols : cols ≤ c) :
 Calls Try.prog 129 #[.agg #[.slice (some ⟨lb, 0, none⟩) r lc, .slice (some ⟨rb, 0, none⟩) r rc], .I cols] w (Ret fun v w' => v = .I (((redTo L0 R0 cols).1 : Nat) : Int) ∧ Hp w S O [] [⟨SB, 23, .slice (some ⟨lb, 0, none⟩) r lc, (redTo L0 R0 cols).2.1⟩, ⟨SB, 23, .slice (some ⟨rb, 0, none⟩) r rc, (redTo L0 R0 cols).2.2⟩] [] w') := by
 refine uS1 Try.func129 ?_
 have H := H0
 refine uR 1 [.c [0], .c [1]] ?_
 refine qG (sq 0 2) ?_
 refine uC #[.slice (some ⟨lb, 0, none⟩) r lc, .slice (some ⟨rb, 0, none⟩) r rc] 209 H ?_
 intro f _ H
 refine uF 1 ?_
 refine uR 6 [.c [2, 0, 1, 0], .b 0, .c [3]] ?_
 refine uL (α := Nat × Nat × List (List (BitVec 8)) × List (List (BitVec 8))) (g := 129) (p := [2, 0, 1, 0, 0]) (fun (cc, dn, L, R) => [(1, .I cols), (2, .P f 0), (5, .I dn), (6, .I cc)]) (fun (cc, dn, L, R) w' => Hp w S O [(f, .cells #[.slice (some ⟨lb, 0, none⟩) r lc, .slice (some ⟨rb, 0, none⟩) r rc] 209 (0, 0))] [⟨SB, 23, .slice (some ⟨lb, 0, none⟩) r lc, L⟩, ⟨SB, 23, .slice (some ⟨rb, 0, none⟩) r rc, R⟩] [] w' ∧ cc ≤ cols ∧ (dn, L, R) = redTo L0 R0 cc ∧ dn ≤ r ∧ L.length = r ∧ R.length = r ∧ (∀ x ∈ L, x.length = c) ∧ ∀ x ∈ R, x.length = d) (fun (cc, dn, L, R) => cols - cc) (0, 0, L0, R0) ⟨H, by omega, rfl, by omega, hL0, hR0, hcL0, hcR0⟩ ?_
 rintro ⟨cc, dn, L, R⟩ _ ⟨H, F0⟩ t
 obtain ⟨hcc, hred, hdn, hL, hR, hcL, hcR⟩ := F0
 refine uR 3 [.c [2, 0, 1, 0, 0, 0, 1], .c [2, 0, 1, 0, 0, 1], .l [2, 0, 1, 0, 0], .b 0, .c [3]] ?_
 refine qD (((cc : Int) : Int) < (cols : Int)) (fun h5 => ?_) (fun h5 => ?_)
 ·
  refine uR 6 [.c [2, 0, 1, 0, 0, 1, 0, 0, 1, 0], .b 2, .b 1, .c [2, 0, 1, 0, 0, 2], .l [2, 0, 1, 0, 0], .b 0, .c [3]] ?_
  refine uL (α := Nat) (g := 129) (p := [2, 0, 1, 0, 0, 1, 0, 0, 1, 0, 0]) (fun i => [(1, .I cols), (2, .P f 0), (5, .I dn), (6, .I cc), (7, .I i)]) (fun i w' => Hp w S O [(f, .cells #[.slice (some ⟨lb, 0, none⟩) r lc, .slice (some ⟨rb, 0, none⟩) r rc] 209 (0, 0))] [⟨SB, 23, .slice (some ⟨lb, 0, none⟩) r lc, L⟩, ⟨SB, 23, .slice (some ⟨rb, 0, none⟩) r rc, R⟩] [] w' ∧ dn ≤ i ∧ i ≤ r ∧ ∀ j, dn ≤ j → j < i → entAt L j cc = 0#8) (fun i => r - i) dn ⟨H, Nat.le_refl _, hdn, fun j u h2 => by omega⟩ ?_
  rintro i _ ⟨H, h⟩ a0
  refine uR 2 [.c [2, 0, 1, 0, 0, 1, 0, 0, 1, 0, 0, 0, 0], .c [2, 0, 1, 0, 0, 1, 0, 0, 1, 0, 0, 0, 1], .c [2, 0, 1, 0, 0, 1, 0, 0, 1, 0, 0, 1], .l [2, 0, 1, 0, 0, 1, 0, 0, 1, 0, 0], .b 2, .b 1, .c [2, 0, 1, 0, 0, 2], .l [2, 0, 1, 0, 0], .b 0, .c [3]] ?_
  refine qG (sq 0 5) ?_
  refine uP 2 ?_
  refine uV 29 0 (H.cells 0 rfl) ?_
  refine uF 2 ?_
  refine qD (((i : Int) : Int) < ((r : Nat) : Int)) (fun h8 => ?_) (fun h8 => ?_)
  ·
   have hil : i < L.length := by omega
   have hci := hcL (L[i]) (List.getElem_mem hil)
   refine uR 4 [.c [2, 0, 1, 0, 0, 1, 0, 0, 1, 0, 0, 1, 0, 0, 0], .c [2, 0, 1, 0, 0, 1, 0, 0, 1, 0, 0, 1, 0, 0, 1], .b 3, .c [2, 0, 1, 0, 0, 1, 0, 0, 1, 0, 0, 2], .l [2, 0, 1, 0, 0, 1, 0, 0, 1, 0, 0], .b 2, .b 1, .c [2, 0, 1, 0, 0, 2], .l [2, 0, 1, 0, 0], .b 0, .c [3]] ?_
   refine qG (sq 0 9) ?_
   refine uP 1 ?_
   refine uV 29 0 (H.cells 0 rfl) ?_
   refine uP 1 ?_
   have c1 : r = L.length := by omega
   have r1 : i < L.length := by omega
   refine RW.indexW (κ := .seq) (d := some 24) (r := (sq 4 9)) (T := 29) (e := 23) (m := 1) (ik := .i64) (ix := (i : Int)) (sh := SB) (xs := L) (a := (some ⟨lb, 0, none⟩)) (len := r) (cap := lc) (by as_aux_lemma => kernel_rfl) (by as_aux_lemma => kernel_rfl) rfl H i (by omega) r1 c1 ?_
   intro _ _ d1 Z b0
   cases d1
   obtain ⟨_, _, rfl⟩ := Shape.slice_form' b0
   have H := H.addR b0
   refine uV 23 0 Z ?_
   refine uP 1 ?_
   have e1 : cc < (L[i]).length := by omega
   refine uX 23 (cc : Int) H 0 rfl cc (by omega) (List.getElem?_eq_getElem e1) ?_
   intro _ _ _ f1 H
   obtain rfl := f1
   refine uV 5 0 (H.fc 0 rfl) ?_
   refine uF 1 ?_
   refine qN ((((L[i])[cc]).toNat : Nat) : Int) 0 (fun X0 => ?_) (fun X0 => ?_)
   ·
    have hez : entAt L i cc ≠ 0#8 := by rw [entAt_eq hil (by omega)]; exact bvz X0
    have hfp : firstP L cc dn = some i := firstP_some hil h.1 hez h.2.2
    have hsl : (swapL L i dn).length = r := by rw [swapL_len]; exact hL
    have hsr : (swapL R i dn).length = r := by rw [swapL_len]; exact hR
    have hcl := swapL_all (i := i) (j := dn) hcL hil (by omega)
    have hcr := swapL_all (i := i) (j := dn) hcR (by omega) (by omega)
    have hne : entAt (swapL L i dn) dn cc ≠ 0#8 := by rw [swapL_ent (by omega)]; exact hez
    refine uR 1 [.c [2, 0, 1, 0, 0, 1, 0, 0, 1, 0, 0, 1, 0, 0, 1, 0, 0], .c [2, 0, 1, 0, 0, 1, 0, 0, 1, 0, 0, 1, 0, 0, 1, 0, 1], .b 3, .c [2, 0, 1, 0, 0, 1, 0, 0, 1, 0, 0, 2], .l [2, 0, 1, 0, 0, 1, 0, 0, 1, 0, 0], .b 2, .b 1, .c [2, 0, 1, 0, 0, 2], .l [2, 0, 1, 0, 0], .b 0, .c [3]] ?_
    refine WK.joinW (fun w_ => Hp w S O [(f, .cells #[.slice (some ⟨lb, 0, none⟩) r lc, .slice (some ⟨rb, 0, none⟩) r rc] 209 (0, 0))] [⟨SB, 23, .slice (some ⟨lb, 0, none⟩) r lc, (swapL L i dn)⟩, ⟨SB, 23, .slice (some ⟨rb, 0, none⟩) r rc, R⟩] [] w_) [(1, .I cols), (2, .P f 0), (5, .I dn), (6, .I cc), (7, .I i)] [Cq Try.prog 129 [2, 0, 1, 0, 0, 1, 0, 0, 1, 0, 0, 1, 0, 0, 1, 0, 1], .inBlock 3, Cq Try.prog 129 [2, 0, 1, 0, 0, 1, 0, 0, 1, 0, 0, 2], Lq Try.prog 129 [2, 0, 1, 0, 0, 1, 0, 0, 1, 0, 0], .inBlock 2, .inBlock 1, Cq Try.prog 129 [2, 0, 1, 0, 0, 2], Lq Try.prog 129 [2, 0, 1, 0, 0], .inBlock 0, Cq Try.prog 129 [3]] (fun c0 => ?_) (fun t1 H => ?_)
    ·
     refine WK.drawH1 [lb] (.node (qs [0, 1, 2, 3, 4, 5, 6, 7, 8, 9, 11, 12, 13, 14]) (.cons 10 (.leaf [(15, .seq), (16, .qui), (17, .seq), (18, .qui), (19, .seq)]) (.cons 15 (.leaf [(10, .seq), (16, .qui), (17, .seq), (18, .qui), (19, .seq)]) .nil))) Try_mixed (by as_aux_lemma => kernel_rfl) (by as_aux_lemma => kernel_rfl) ?_
     intro s1 d0
     have H := H.draw
     rw [← d0] at H
     clear d0
     have hS := Chg.refl s1 [lb]
     refine RG.node' (qs [0, 1, 2, 3, 4, 5, 6, 7, 8, 9, 11, 12, 13, 14]) (by as_aux_lemma => kernel_rfl) ?_
     refine uHP hS 1 ?_
     refine uHV 29 0 hS (H.cells 0 rfl) (nq1 (H.neMW 0 rfl 0 rfl)) ?_
     refine qHP hS 2 (qs [4, 5, 6, 7, 8, 9, 11, 12, 13, 14]) [(1, .I cols), (2, .P f 0), (5, .I dn), (6, .I cc), (7, .I i), (31, .slice (some ⟨lb, 0, none⟩) r lc), (32, .I i), (33, .P f 0)] ?_
     refine uHV 29 0 hS (H.cells 0 rfl) (nq1 (H.neMW 0 rfl 0 rfl)) ?_
     refine uHP hS 2 ?_
     refine uHV 29 0 hS (H.cells 0 rfl) (nq1 (H.neMW 0 rfl 0 rfl)) ?_
     refine uHP hS 1 ?_
     have g1 : r = L.length := by omega
     have h1 : dn < L.length := by omega
     refine RH.indexW (d := some 39) (r := (qs [11, 12, 13, 14])) (T := 29) (e := 23) (m := 1) (ik := .i64) (ix := (dn : Int)) (sh := SB) (xs := L) (a := (some ⟨lb, 0, none⟩)) (len := r) (cap := lc) (by as_aux_lemma => kernel_rfl) hS (by as_aux_lemma => kernel_rfl) rfl H dn (by omega) h1 g1 ?_
     intro _ _ i1 q e0
     cases i1
     obtain ⟨Y0, Z0, rfl⟩ := Shape.slice_form' e0
     have H := H.addR e0
     refine uHP hS 1 ?_
     refine uHV 29 0 hS (H.cells 0 rfl) (nq1 (H.neMW 0 rfl 0 rfl)) ?_
     refine uHP hS 1 ?_
     have j1 : r = L.length := by omega
     have k1 : i < L.length := by omega
     refine RH.indexW (d := some 44) (r := []) (T := 29) (e := 23) (m := 1) (ik := .i64) (ix := (i : Int)) (sh := SB) (xs := L) (a := (some ⟨lb, 0, none⟩)) (len := r) (cap := lc) (by as_aux_lemma => kernel_rfl) hS (by as_aux_lemma => kernel_rfl) rfl H i (by omega) k1 j1 ?_
     intro _ _ l1 s f0
     cases l1
     obtain ⟨a1, b1, rfl⟩ := Shape.slice_form' f0
     have H := H.addR f0
     refine uHB hS 0 ?_
     refine (RGB.cons' ?_ (RGB.cons' ?_ RGB.nil'))
     ·
      refine RG.leaf' [(10, .seq), (15, .seq), (16, .qui), (17, .seq), (18, .qui), (19, .seq)] (by as_aux_lemma => kernel_rfl) ?_
      have Hr := H
      refine RH.chn hS ?_
      refine uV 23 0 q ?_
      intro hS
      have Hr := H
      refine RH.chn hS ?_
      refine uV 23 0 s ?_
      intro hS
      have g0 : r = L.length := by omega
      have h0 : i < L.length := by omega
      refine RH.indexW (d := some 46) (r := [(17, .seq), (18, .qui), (19, .seq)]) (T := 29) (e := 23) (m := 1) (ik := .i64) (ix := (i : Int)) (sh := SB) (xs := L) (a := (some ⟨lb, 0, none⟩)) (len := r) (cap := lc) (by as_aux_lemma => kernel_rfl) hS (by as_aux_lemma => kernel_rfl) rfl H i (by omega) h0 g0 ?_
      intro _ _ m1 _ i0
      cases m1
      obtain ⟨_, _, rfl⟩ := Shape.slice_form' i0
      have H := H.addR i0
      have Hr := H
      refine RH.sto ?_
      refine RW.storeWC (d := none) (r := []) (e := 23) (m := 1) (b := lb) (k := i) (v := .slice Y0 (L[dn]).length Z0) (by as_aux_lemma => kernel_rfl) rfl (by as_aux_lemma => kernel_rfl) H rfl h0 g0 (L[dn]) (H.rp 2 rfl) ?_
      intro _ G0 H
      have j0 := hS.sto G0 (.inr (by simp))
      refine ⟨j0, ?_⟩
      have hS := j0
      have k0 : r = (L.set i (L[dn])).length := by rw [List.length_set]; omega
      have l0 : dn < (L.set i (L[dn])).length := by rw [List.length_set]; omega
      refine RH.indexW (d := some 47) (r := [(19, .seq)]) (T := 29) (e := 23) (m := 1) (ik := .i64) (ix := (dn : Int)) (sh := SB) (xs := L.set i (L[dn])) (a := (some ⟨lb, 0, none⟩)) (len := r) (cap := lc) (by as_aux_lemma => kernel_rfl) hS (by as_aux_lemma => kernel_rfl) rfl H dn (by omega) l0 k0 ?_
      intro _ _ n1 _ m0
      cases n1
      obtain ⟨_, _, rfl⟩ := Shape.slice_form' m0
      have H := H.addR m0
      refine RH.sto ?_
      refine RW.storeWC (d := none) (r := []) (e := 23) (m := 1) (b := lb) (k := dn) (v := .slice a1 (L[i]).length b1) (by as_aux_lemma => kernel_rfl) rfl (by as_aux_lemma => kernel_rfl) H rfl l0 k0 (L[i]) (H.rp 2 rfl) ?_
      intro _ I0 H
      have H := H.reW (ys := swapL L i dn) (by unfold swapL; rw [rowAt_eq (show dn < L.length by omega), rowAt_eq (show i < L.length by omega)])
      have n0 := hS.sto I0 (.inr (by simp))
      refine ⟨n0, ?_⟩
      have hS := n0
      refine uHF hS 0 ?_
      have H := H.pick [] rfl
      exact uB (c0 _ H)
     ·
      refine RG.leaf' [(15, .seq), (10, .seq), (16, .qui), (17, .seq), (18, .qui), (19, .seq)] (by as_aux_lemma => kernel_rfl) ?_
      have Hr := H
      refine RH.chn hS ?_
      refine uV 23 0 s ?_
      intro hS
      have Hr := H
      refine RH.chn hS ?_
      refine uV 23 0 q ?_
      intro hS
      have o0 : r = L.length := by omega
      have p0 : i < L.length := by omega
      refine RH.indexW (d := some 46) (r := [(17, .seq), (18, .qui), (19, .seq)]) (T := 29) (e := 23) (m := 1) (ik := .i64) (ix := (i : Int)) (sh := SB) (xs := L) (a := (some ⟨lb, 0, none⟩)) (len := r) (cap := lc) (by as_aux_lemma => kernel_rfl) hS (by as_aux_lemma => kernel_rfl) rfl H i (by omega) p0 o0 ?_
      intro _ _ o1 _ q0
      cases o1
      obtain ⟨_, _, rfl⟩ := Shape.slice_form' q0
      have H := H.addR q0
      have Hr := H
      refine RH.sto ?_
      refine RW.storeWC (d := none) (r := []) (e := 23) (m := 1) (b := lb) (k := i) (v := .slice Y0 (L[dn]).length Z0) (by as_aux_lemma => kernel_rfl) rfl (by as_aux_lemma => kernel_rfl) H rfl p0 o0 (L[dn]) (H.rp 2 rfl) ?_
      intro _ J0 H
      have r0 := hS.sto J0 (.inr (by simp))
      refine ⟨r0, ?_⟩
      have hS := r0
      have s0 : r = (L.set i (L[dn])).length := by rw [List.length_set]; omega
      have t0 : dn < (L.set i (L[dn])).length := by rw [List.length_set]; omega
      refine RH.indexW (d := some 47) (r := [(19, .seq)]) (T := 29) (e := 23) (m := 1) (ik := .i64) (ix := (dn : Int)) (sh := SB) (xs := L.set i (L[dn])) (a := (some ⟨lb, 0, none⟩)) (len := r) (cap := lc) (by as_aux_lemma => kernel_rfl) hS (by as_aux_lemma => kernel_rfl) rfl H dn (by omega) t0 s0 ?_
      intro _ _ p1 _ u0
      cases p1
      obtain ⟨_, _, rfl⟩ := Shape.slice_form' u0
      have H := H.addR u0
      refine RH.sto ?_
      refine RW.storeWC (d := none) (r := []) (e := 23) (m := 1) (b := lb) (k := dn) (v := .slice a1 (L[i]).length b1) (by as_aux_lemma => kernel_rfl) rfl (by as_aux_lemma => kernel_rfl) H rfl t0 s0 (L[i]) (H.rp 2 rfl) ?_
      intro _ K0 H
      have H := H.reW (ys := swapL L i dn) (by unfold swapL; rw [rowAt_eq (show dn < L.length by omega), rowAt_eq (show i < L.length by omega)])
      have v0 := hS.sto K0 (.inr (by simp))
      refine ⟨v0, ?_⟩
      have hS := v0
      refine uHF hS 0 ?_
      have H := H.pick [] rfl
      exact uB (c0 _ H)
    ·
     refine uR 1 [.c [2, 0, 1, 0, 0, 1, 0, 0, 1, 0, 0, 1, 0, 0, 1, 0, 1, 0], .c [2, 0, 1, 0, 0, 1, 0, 0, 1, 0, 0, 1, 0, 0, 1, 0, 2], .b 3, .c [2, 0, 1, 0, 0, 1, 0, 0, 1, 0, 0, 2], .l [2, 0, 1, 0, 0, 1, 0, 0, 1, 0, 0], .b 2, .b 1, .c [2, 0, 1, 0, 0, 2], .l [2, 0, 1, 0, 0], .b 0, .c [3]] ?_
     refine WK.joinW (fun w_ => Hp w S O [(f, .cells #[.slice (some ⟨lb, 0, none⟩) r lc, .slice (some ⟨rb, 0, none⟩) r rc] 209 (0, 0))] [⟨SB, 23, .slice (some ⟨lb, 0, none⟩) r lc, (swapL L i dn)⟩, ⟨SB, 23, .slice (some ⟨rb, 0, none⟩) r rc, (swapL R i dn)⟩] [] w_) [(1, .I cols), (2, .P f 0), (5, .I dn), (6, .I cc)] [Cq Try.prog 129 [2, 0, 1, 0, 0, 1, 0, 0, 1, 0, 0, 1, 0, 0, 1, 0, 2], .inBlock 3, Cq Try.prog 129 [2, 0, 1, 0, 0, 1, 0, 0, 1, 0, 0, 2], Lq Try.prog 129 [2, 0, 1, 0, 0, 1, 0, 0, 1, 0, 0], .inBlock 2, .inBlock 1, Cq Try.prog 129 [2, 0, 1, 0, 0, 2], Lq Try.prog 129 [2, 0, 1, 0, 0], .inBlock 0, Cq Try.prog 129 [3]] (fun w0 => ?_) (fun u1 H => ?_)
     ·
      refine WK.drawH1 [rb] (.node (qs [0, 1, 2, 3, 4, 5, 6, 7, 8, 9, 11, 12, 13, 14]) (.cons 10 (.leaf [(15, .seq), (16, .qui), (17, .seq), (18, .qui), (19, .seq)]) (.cons 15 (.leaf [(10, .seq), (16, .qui), (17, .seq), (18, .qui), (19, .seq)]) .nil))) Try_mixed (by as_aux_lemma => kernel_rfl) (by as_aux_lemma => kernel_rfl) ?_
      intro q1 y
      have H := H.draw
      rw [← y] at H
      clear y
      have hS := Chg.refl q1 [rb]
      refine RG.node' (qs [0, 1, 2, 3, 4, 5, 6, 7, 8, 9, 11, 12, 13, 14]) (by as_aux_lemma => kernel_rfl) ?_
      refine uHP hS 1 ?_
      refine uHV 29 1 hS (H.cells 0 rfl) (nq1 (H.neMW 0 rfl 1 rfl)) ?_
      refine uHP hS 2 ?_
      refine uHV 29 1 hS (H.cells 0 rfl) (nq1 (H.neMW 0 rfl 1 rfl)) ?_
      refine uHP hS 2 ?_
      refine uHV 29 1 hS (H.cells 0 rfl) (nq1 (H.neMW 0 rfl 1 rfl)) ?_
      refine uHP hS 1 ?_
      have H := H.frontW 1 (W' := [⟨SB, 23, .slice (some ⟨rb, 0, none⟩) r rc, R⟩, ⟨SB, 23, .slice (some ⟨lb, 0, none⟩) r lc, (swapL L i dn)⟩]) rfl
      have M0 : r = R.length := by omega
      have N0 : dn < R.length := by omega
      refine RH.indexW (d := some 57) (r := (qs [11, 12, 13, 14])) (T := 29) (e := 23) (m := 1) (ik := .i64) (ix := (dn : Int)) (sh := SB) (xs := R) (a := (some ⟨rb, 0, none⟩)) (len := r) (cap := rc) (by as_aux_lemma => kernel_rfl) hS (by as_aux_lemma => kernel_rfl) rfl H dn (by omega) N0 M0 ?_
      intro _ _ O0 n z
      cases O0
      obtain ⟨x0, y0, rfl⟩ := Shape.slice_form' z
      have H := H.addR z
      refine qHP hS 1 (qs [12, 13, 14]) [(1, .I cols), (2, .P f 0), (5, .I dn), (6, .I cc), (7, .I i), (49, .slice (some ⟨rb, 0, none⟩) r rc), (50, .I i), (52, .slice (some ⟨rb, 0, none⟩) r rc), (53, .I dn), (57, .pointer (some ⟨rb, dn * 1, none⟩)), (59, .P f 1)] ?_
      refine uHV 29 1 hS (H.cells 0 rfl) (nq1 (H.neMW 0 rfl 0 rfl)) ?_
      refine uHP hS 1 ?_
      have P0 : r = R.length := by omega
      have Q0 : i < R.length := by omega
      refine RH.indexW (d := some 62) (r := []) (T := 29) (e := 23) (m := 1) (ik := .i64) (ix := (i : Int)) (sh := SB) (xs := R) (a := (some ⟨rb, 0, none⟩)) (len := r) (cap := rc) (by as_aux_lemma => kernel_rfl) hS (by as_aux_lemma => kernel_rfl) rfl H i (by omega) Q0 P0 ?_
      intro _ _ S0 o A
      cases S0
      obtain ⟨z0, A0, rfl⟩ := Shape.slice_form' A
      have H := H.addR A
      refine uHB hS 0 ?_
      refine (RGB.cons' ?_ (RGB.cons' ?_ RGB.nil'))
      ·
       refine RG.leaf' [(10, .seq), (15, .seq), (16, .qui), (17, .seq), (18, .qui), (19, .seq)] (by as_aux_lemma => kernel_rfl) ?_
       have Hr := H
       refine RH.chn hS ?_
       refine uV 23 0 n ?_
       intro hS
       have Hr := H
       refine RH.chn hS ?_
       refine uV 23 0 o ?_
       intro hS
       have B : r = R.length := by omega
       have C : i < R.length := by omega
       refine RH.indexW (d := some 64) (r := [(17, .seq), (18, .qui), (19, .seq)]) (T := 29) (e := 23) (m := 1) (ik := .i64) (ix := (i : Int)) (sh := SB) (xs := R) (a := (some ⟨rb, 0, none⟩)) (len := r) (cap := rc) (by as_aux_lemma => kernel_rfl) hS (by as_aux_lemma => kernel_rfl) rfl H i (by omega) C B ?_
       intro _ _ T0 _ D
       cases T0
       obtain ⟨_, _, rfl⟩ := Shape.slice_form' D
       have H := H.addR D
       have Hr := H
       refine RH.sto ?_
       refine RW.storeWC (d := none) (r := []) (e := 23) (m := 1) (b := rb) (k := i) (v := .slice x0 (R[dn]).length y0) (by as_aux_lemma => kernel_rfl) rfl (by as_aux_lemma => kernel_rfl) H rfl C B (R[dn]) (H.rp 2 rfl) ?_
       intro _ B0 H
       have E := hS.sto B0 (.inr (by simp))
       refine ⟨E, ?_⟩
       have hS := E
       have F : r = (R.set i (R[dn])).length := by rw [List.length_set]; omega
       have G : dn < (R.set i (R[dn])).length := by rw [List.length_set]; omega
       refine RH.indexW (d := some 65) (r := [(19, .seq)]) (T := 29) (e := 23) (m := 1) (ik := .i64) (ix := (dn : Int)) (sh := SB) (xs := R.set i (R[dn])) (a := (some ⟨rb, 0, none⟩)) (len := r) (cap := rc) (by as_aux_lemma => kernel_rfl) hS (by as_aux_lemma => kernel_rfl) rfl H dn (by omega) G F ?_
       intro _ _ U0 _ J
       cases U0
       obtain ⟨_, _, rfl⟩ := Shape.slice_form' J
       have H := H.addR J
       refine RH.sto ?_
       refine RW.storeWC (d := none) (r := []) (e := 23) (m := 1) (b := rb) (k := dn) (v := .slice z0 (R[i]).length A0) (by as_aux_lemma => kernel_rfl) rfl (by as_aux_lemma => kernel_rfl) H rfl G F (R[i]) (H.rp 2 rfl) ?_
       intro _ C0 H
       have H := H.reW (ys := swapL R i dn) (by unfold swapL; rw [rowAt_eq (show dn < R.length by omega), rowAt_eq (show i < R.length by omega)])
       have K := hS.sto C0 (.inr (by simp))
       refine ⟨K, ?_⟩
       have hS := K
       refine uHF hS 0 ?_
       have H := H.pick [] rfl
       have H := H.frontW 1 (W' := [⟨SB, 23, .slice (some ⟨lb, 0, none⟩) r lc, (swapL L i dn)⟩, ⟨SB, 23, .slice (some ⟨rb, 0, none⟩) r rc, swapL R i dn⟩]) rfl
       exact uB (w0 _ H)
      ·
       refine RG.leaf' [(15, .seq), (10, .seq), (16, .qui), (17, .seq), (18, .qui), (19, .seq)] (by as_aux_lemma => kernel_rfl) ?_
       have Hr := H
       refine RH.chn hS ?_
       refine uV 23 0 o ?_
       intro hS
       have Hr := H
       refine RH.chn hS ?_
       refine uV 23 0 n ?_
       intro hS
       have M : r = R.length := by omega
       have N : i < R.length := by omega
       refine RH.indexW (d := some 64) (r := [(17, .seq), (18, .qui), (19, .seq)]) (T := 29) (e := 23) (m := 1) (ik := .i64) (ix := (i : Int)) (sh := SB) (xs := R) (a := (some ⟨rb, 0, none⟩)) (len := r) (cap := rc) (by as_aux_lemma => kernel_rfl) hS (by as_aux_lemma => kernel_rfl) rfl H i (by omega) N M ?_
       intro _ _ V0 _ Q
       cases V0
       obtain ⟨_, _, rfl⟩ := Shape.slice_form' Q
       have H := H.addR Q
       have Hr := H
       refine RH.sto ?_
       refine RW.storeWC (d := none) (r := []) (e := 23) (m := 1) (b := rb) (k := i) (v := .slice x0 (R[dn]).length y0) (by as_aux_lemma => kernel_rfl) rfl (by as_aux_lemma => kernel_rfl) H rfl N M (R[dn]) (H.rp 2 rfl) ?_
       intro _ D0 H
       have U := hS.sto D0 (.inr (by simp))
       refine ⟨U, ?_⟩
       have hS := U
       have V : r = (R.set i (R[dn])).length := by rw [List.length_set]; omega
       have W : dn < (R.set i (R[dn])).length := by rw [List.length_set]; omega
       refine RH.indexW (d := some 65) (r := [(19, .seq)]) (T := 29) (e := 23) (m := 1) (ik := .i64) (ix := (dn : Int)) (sh := SB) (xs := R.set i (R[dn])) (a := (some ⟨rb, 0, none⟩)) (len := r) (cap := rc) (by as_aux_lemma => kernel_rfl) hS (by as_aux_lemma => kernel_rfl) rfl H dn (by omega) W V ?_
       intro _ _ W0 _ X
       cases W0
       obtain ⟨_, _, rfl⟩ := Shape.slice_form' X
       have H := H.addR X
       refine RH.sto ?_
       refine RW.storeWC (d := none) (r := []) (e := 23) (m := 1) (b := rb) (k := dn) (v := .slice z0 (R[i]).length A0) (by as_aux_lemma => kernel_rfl) rfl (by as_aux_lemma => kernel_rfl) H rfl W V (R[i]) (H.rp 2 rfl) ?_
       intro _ E0 H
       have H := H.reW (ys := swapL R i dn) (by unfold swapL; rw [rowAt_eq (show dn < R.length by omega), rowAt_eq (show i < R.length by omega)])
       have Y := hS.sto E0 (.inr (by simp))
       refine ⟨Y, ?_⟩
       have hS := Y
       refine uHF hS 0 ?_
       have H := H.pick [] rfl
       have H := H.frontW 1 (W' := [⟨SB, 23, .slice (some ⟨lb, 0, none⟩) r lc, (swapL L i dn)⟩, ⟨SB, 23, .slice (some ⟨rb, 0, none⟩) r rc, swapL R i dn⟩]) rfl
       exact uB (w0 _ H)
     ·
      refine uR 1 [.c [2, 0, 1, 0, 0, 1, 0, 0, 1, 0, 0, 1, 0, 0, 1, 0, 2, 0], .c [2, 0, 1, 0, 0, 1, 0, 0, 1, 0, 0, 1, 0, 0, 1, 0, 3], .b 3, .c [2, 0, 1, 0, 0, 1, 0, 0, 1, 0, 0, 2], .l [2, 0, 1, 0, 0, 1, 0, 0, 1, 0, 0], .b 2, .b 1, .c [2, 0, 1, 0, 0, 2], .l [2, 0, 1, 0, 0], .b 0, .c [3]] ?_
      refine qG (sq 0 4) ?_
      refine uV 209 0 (H.cells 0 rfl) ?_
      refine uP 2 ?_
      refine uKS (clear_spec ((H.lend (M1 := []) (W1 := [⟨SB, 23, .slice (some ⟨lb, 0, none⟩) r lc, (swapL L i dn)⟩, ⟨SB, 23, .slice (some ⟨rb, 0, none⟩) r rc, (swapL R i dn)⟩])).pick [] rfl) hsl hsr hr hcl hcr hcd (at_ := dn) (col := cc) (by omega) (by omega) hne) ?_
      rintro _ _ ⟨rfl, H'⟩
      have H := H.back (M1 := []) (W1 := [⟨SB, 23, .slice (some ⟨lb, 0, none⟩) r lc, (swapL L i dn)⟩, ⟨SB, 23, .slice (some ⟨rb, 0, none⟩) r rc, (swapL R i dn)⟩]) H'
      have H : Hp w S O [_] [⟨SB, 23, .slice (some ⟨lb, 0, none⟩) r lc, (clearL (swapL L i dn) dn cc)⟩, ⟨SB, 23, .slice (some ⟨rb, 0, none⟩) r rc, (clearR (swapL L i dn) (swapL R i dn) dn cc)⟩] [] _ := H
      refine uF 0 ?_
      refine uR 1 [.c [2, 0, 1, 0, 0, 1, 0, 0, 1, 0, 0, 1, 0, 0, 1, 0, 3, 0], .c [2, 0, 1, 0, 0, 1, 0, 0, 1, 0, 0, 1, 0, 0, 1, 0, 4], .b 3, .c [2, 0, 1, 0, 0, 1, 0, 0, 1, 0, 0, 2], .l [2, 0, 1, 0, 0, 1, 0, 0, 1, 0, 0], .b 2, .b 1, .c [2, 0, 1, 0, 0, 2], .l [2, 0, 1, 0, 0], .b 0, .c [3]] ?_
      refine qG (sq 0 3) ?_
      refine uP 1 ?_
      refine uI ((dn : Int) + 1) ?_
      refine uF 1 ?_
      refine uR 2 [.c [2, 0, 1, 0, 0, 2], .l [2, 0, 1, 0, 0], .b 0, .c [3]] ?_
      refine qG (sq 0 3) ?_
      refine uP 1 ?_
      refine uI ((cc : Int) + 1) ?_
      refine qF 1 [(1, .I cols), (2, .P f 0), (5, .I ((dn : Int) + 1)), (6, .I ((cc : Int) + 1))] ?_
      exact uB (t (cc + 1, dn + 1, (clearL (swapL L i dn) dn cc), (clearR (swapL L i dn) (swapL R i dn) dn cc)) _ ⟨H, by omega, by rw [redTo_succ, ← hred]; first | exact (redStep_hit hfp).symm | exact (redStep_miss hfn).symm, by omega, by first | exact hL | (rw [clearL_len]; exact hsl), by first | exact hR | (rw [clearR_len]; exact hsr), by first | exact hcL | exact clearL_all hcl (by omega), by first | exact hcR | exact clearR_all hcr (by omega)⟩ (by simp only []; omega))
   ·
    refine uR 2 [.c [2, 0, 1, 0, 0, 1, 0, 0, 1, 0, 0, 2], .l [2, 0, 1, 0, 0, 1, 0, 0, 1, 0, 0], .b 2, .b 1, .c [2, 0, 1, 0, 0, 2], .l [2, 0, 1, 0, 0], .b 0, .c [3]] ?_
    refine qG (sq 0 3) ?_
    refine qP 1 (sq 1 3) [(1, .I cols), (2, .P f 0), (5, .I dn), (6, .I cc), (7, .I i), (19, .I i)] ?_
    refine uI ((i : Int) + 1) ?_
    refine qF 1 [(1, .I cols), (2, .P f 0), (5, .I dn), (6, .I cc), (7, .I ((i : Int) + 1))] ?_
    have H := H.pick [] rfl
    exact WK.back (a0 (i + 1) _ ⟨H, by omega, by omega, fun j u h2 => by
     rcases Nat.lt_or_ge j i with h3 | h3
     · exact h.2.2 j u h3
     · obtain rfl : j = i := by omega
       rw [entAt_eq hil (by omega)]
       exact bvz0 (by omega)⟩ (by first | omega | (simp only []; omega))) (by as_aux_lemma => kernel_rfl)
  ·
   have hfn : firstP L cc dn = none := firstP_none fun j u h2 => h.2.2 j u (by omega)
   refine uR 2 [.c [2, 0, 1, 0, 0, 2], .l [2, 0, 1, 0, 0], .b 0, .c [3]] ?_
   refine qG (sq 0 3) ?_
   refine uP 1 ?_
   refine uI ((cc : Int) + 1) ?_
   refine qF 1 [(1, .I cols), (2, .P f 0), (5, .I dn), (6, .I ((cc : Int) + 1))] ?_
   exact uB (t (cc + 1, dn, L, R) _ ⟨H, by omega, by rw [redTo_succ, ← hred]; first | exact (redStep_hit hfp).symm | exact (redStep_miss hfn).symm, by omega, by first | exact hL | (rw [clearL_len]; exact hsl), by first | exact hR | (rw [clearR_len]; exact hsr), by first | exact hcL | exact clearL_all hcl (by omega), by first | exact hcR | exact clearR_all hcr (by omega)⟩ (by simp only []; omega))
 ·
  refine uR 3 [.c [4]] ?_
  refine qT (.I dn) Try.func129 ?_
  have hce : cc = cols := by omega
  rw [hce] at hred
  have u := congrArg (·.1) hred
  have h2 := congrArg (·.2.1) hred
  have h3 := congrArg (·.2.2) hred
  simp only at u h2 h3
  rw [← u, ← h2, ← h3]
  exact ⟨_, rfl, rfl, (H.dropM 0).pick [] rfl⟩
theorem invert_spec {S : Nat → Prop} {w : World} {m : List (List (BitVec 8))} {a : Option Addr} {k : Nat} (h : (Shape.slice SB).rep S w [.slice a m.length k] m) (hr : 1 ≤ m.length ∧ m.length ≤ 255) (hc : ∀ x ∈ m, x.length = m.length) (hreg : (redTo m (ident m.length) m.length).1 = m.length) :
 Calls Try.prog 101 #[.slice a m.length k] w (Ret fun v w' => Ext w w' ∧ ∃ (a : Option Addr) (c : Nat), v = .tuple #[.slice a m.length c, .I 0] ∧ Hp w S [] [] [⟨SB, 23, .slice a m.length c, (redTo m (ident m.length) m.length).2.2⟩] [] w') := by
 have hml := Shape.slice_len h
 have hcb : ∀ x ∈ m, x.length ≤ 140737488355328 := fun x hx => by rw [hc x hx]; omega
 refine uS1 Try.func101 ?_
 have H := Hp.startF (.rp h .nil)
 refine uR 1 [.c [0], .c [1]] ?_
 refine qG (sq 0 2) ?_
 refine uP 1 ?_
 refine uC #[.I 0] 34 H ?_
 intro f _ H
 refine uF 0 ?_
 refine uR 1 [.c [1, 0], .c [2]] ?_
 refine WK.defer1 (o := op1 (cd Try.prog 101 [1, 0])) ⟨.fn (.func 95) #[], #[.P f 0]⟩ (by as_aux_lemma => kernel_rfl) (by as_aux_lemma => kernel_rfl) (by as_aux_lemma => kernel_rfl) (by as_aux_lemma => kernel_rfl) (by as_aux_lemma => kernel_rfl) ?_
 refine uR 1 [.c [2, 0], .c [3]] ?_
 refine qG (sq 0 7) ?_
 refine uP 1 ?_
 refine uK (sized_spec (m := m) (H.rp 0 rfl) (by omega) (c := m.length) (hc) (hr)) ?_
 rintro _ _ l rfl
 have H := H.ext l
 refine uF 5 ?_
 refine uR 1 [.c [3, 0], .c [4]] ?_
 refine qG (sq 0 4) ?_
 refine uP 2 ?_
 refine RW.pv (κ := .seq) (d := some 16) (r := (sq 3 4)) (v' := .bool true) (v := .bool (((m.length : Nat) : Int) == ((m.length : Nat) : Int))) (by as_aux_lemma => kernel_rfl) (congrArg Value.bool (beq_self_eq_true _)) ?_
 refine uK (needs_spec (S := fun _ => True)) ?_
 rintro _ _ p rfl
 have H := H.ext p
 refine uF 0 ?_
 refine qR 1 [.c [4, 0], .c [5]] [(0, .slice a m.length k), (3, .P f 0), (4, .I ((m.length : Nat) : Int)), (5, .I ((m.length : Nat) : Int))] ?_
 refine qG (sq 0 7) ?_
 refine uP 1 ?_
 refine uK (identity_spec (S := Av S w [] (idsOf [(f, .cells #[.I 0] 34 (0, 0))] [])) (n := m.length) (by omega)) ?_
 rintro _ _ - ⟨j, e, rfl, H'⟩
 have H := H.back (M1 := []) (W1 := []) H'
 have H : Hp w S [] [_] [⟨SB, 23, .slice j (ident m.length).length e, (ident m.length)⟩] [_] _ := H
 refine uF 5 ?_
 refine uR 1 [.c [5, 0], .c [6]] ?_
 refine qG (sq 0 6) ?_
 refine uP 1 ?_
 refine uK (copied2_spec (m := m) (H.rp 0 rfl) (by omega) (hcb)) ?_
 rintro _ _ - H'
 have H := H.back (M1 := []) (W1 := []) H'
 obtain ⟨g, b, rfl, _, _⟩ := H.ownForm 0 rfl
 have H : Hp w S [] [_] [⟨SB, 23, .slice g m.length b, m⟩, _] [_] _ := H
 refine uP 2 ?_
 refine uC #[.slice none 0 0, .slice none 0 0] 209 H ?_
 intro i _ H
 refine uW 209 0 #[.slice g m.length b, .slice j (ident m.length).length e] H 0 rfl ?_
 intro _ H
 refine uF 0 ?_
 refine uR 2 [.c [6, 0, 0], .c [6, 0, 1], .c [7]] ?_
 refine qG (sq 0 5) ?_
 refine uV 209 0 (H.cells 0 rfl) ?_
 refine uP 1 ?_
 obtain ⟨lb, hlb⟩ := H.ownLit (by first | omega | (rw [ident_len]; omega)) rfl
 subst hlb
 have H := H.frontW 1 (W' := [⟨SB, 23, .slice j (ident m.length).length e, (ident m.length)⟩, ⟨SB, 23, .slice (some ⟨lb, 0, none⟩) m.length b, m⟩]) rfl
 obtain ⟨rb, hrb⟩ := H.ownLit (by first | omega | (rw [ident_len]; omega)) rfl
 subst hrb
 have hil := ident_len m.length
 rw [hil] at H
 try rw [hil]
 have H := H.frontW 1 (W' := [⟨SB, 23, .slice (some ⟨lb, 0, none⟩) m.length b, m⟩, ⟨SB, 23, .slice (some ⟨rb, 0, none⟩) m.length e, (ident m.length)⟩]) rfl
 refine uKS (reduce_spec (cols := m.length) ((H.lend (M1 := []) (W1 := [⟨SB, 23, .slice (some ⟨lb, 0, none⟩) m.length b, m⟩, ⟨SB, 23, .slice (some ⟨rb, 0, none⟩) m.length e, (ident m.length)⟩])).pick [] rfl) rfl hil (by omega) hc (ident_all m.length) (by omega) (Nat.le_refl _)) ?_
 rintro _ _ ⟨rfl, H'⟩
 have H := H.back (M1 := []) (W1 := [⟨SB, 23, .slice (some ⟨lb, 0, none⟩) m.length b, m⟩, ⟨SB, 23, .slice (some ⟨rb, 0, none⟩) m.length e, (ident m.length)⟩]) H'
 have H : Hp w S [] [(i, .cells #[.slice (some ⟨lb, 0, none⟩) m.length b, .slice (some ⟨rb, 0, none⟩) m.length e] 209 (0, 0)), _] [⟨SB, 23, .slice (some ⟨lb, 0, none⟩) m.length b, (redTo m (ident m.length) m.length).2.1⟩, ⟨SB, 23, .slice (some ⟨rb, 0, none⟩) m.length e, (redTo m (ident m.length) m.length).2.2⟩] [_] _ := H
 refine uF 2 ?_
 refine qD (((((redTo m (ident m.length) m.length).1 : Nat) : Int) : Int) < ((m.length : Nat) : Int)) (fun q => ?_) (fun q => ?_)
 ·
  omega
 ·
  refine uR 2 [.c [7, 0], .c [8]] ?_
  refine qG (sq 0 4) ?_
  refine qP 1 (sq 1 4) [(3, .P f 0), (32, .P i 1)] ?_
  refine uV 29 1 (H.cells 0 rfl) ?_
  refine uP 1 ?_
  refine uW 34 0 #[.I 0] H 1 rfl ?_
  intro _ H
  refine uF 0 ?_
  refine WK.retD (v := .tuple #[.slice (some ⟨rb, 0, none⟩) m.length e, .I 0]) Try.func101 (by as_aux_lemma => kernel_rfl) (refused_defer ⟨f, 0, none⟩) (RV.res2 (x := .tmp 2) (y := .cell 3 34) (by as_aux_lemma => kernel_rfl) (RV.tmp (by as_aux_lemma => kernel_rfl)) (RV.cell (k := 0) (by as_aux_lemma => kernel_rfl) (H.cells 1 rfl) rfl (by as_aux_lemma => kernel_rfl))) ?_
  have H := H.frontW 1 (W' := [⟨SB, 23, .slice (some ⟨rb, 0, none⟩) m.length e, (redTo m (ident m.length) m.length).2.2⟩, ⟨SB, 23, .slice (some ⟨lb, 0, none⟩) m.length b, (redTo m (ident m.length) m.length).2.1⟩]) rfl
  have H := H.drop (M' := []) (W' := [_]) (List.nil_sublist _) (List.cons_sublist_cons.2 (List.nil_sublist _))
  exact ⟨_, rfl, H.done, _, _, rfl, H.pick [] rfl⟩
theorem pickL_len (m : List (List (BitVec 8))) (rows : List Int) : (pickL m rows).length = rows.length := by simp [pickL]
theorem pickL_take {m : List (List (BitVec 8))} {rows : List Int} {i : Nat} (hi : i < rows.length) (h : (rows[i]).toNat < m.length) : (pickL m rows).take i ++ [m[(rows[i]).toNat]] = (pickL m rows).take (i + 1) := by
 rw [List.take_succ_eq_append_getElem (by rw [pickL_len]; exact hi)]
 simp only [pickL, List.getElem_map]
 rw [rowAt_eq h]
theorem pick_spec {S : Nat → Prop} {w : World} {m : List (List (BitVec 8))} {a : Option Addr} {k : Nat} (h : (Shape.slice SB).rep S w [.slice a m.length k] m) {rows : List Int} {b : Option Addr} {kr : Nat} (h2 : (Shape.slice (Shape.int .i64)).rep S w [.slice b rows.length kr] rows) (hr : 1 ≤ m.length ∧ m.length ≤ 255) {c : Nat} (hc : ∀ x ∈ m, x.length = c) (hc2 : 1 ≤ c ∧ c ≤ 255) (hn : 1 ≤ rows.length ∧ rows.length ≤ 255) (hrow : ∀ x ∈ rows, 0 ≤ x ∧ x < (m.length : Int)) :
 Calls Try.prog 100 #[.slice a m.length k, .slice b rows.length kr] w (Ret fun v w' => Ext w w' ∧ ∃ (a : Option Addr) (c : Nat), v = .tuple #[.slice a (pickL m rows).length c, .I 0] ∧ Hp w S [] [] [⟨SB, 23, .slice a (pickL m rows).length c, pickL m rows⟩] [] w') := by
 have hml := Shape.slice_len h
 have hrl := Shape.slice_len h2
 refine uS1 Try.func100 ?_
 have H := Hp.startF (.rp h (.rp h2 .nil))
 refine uR 1 [.c [0], .c [1]] ?_
 refine qG (sq 0 2) ?_
 refine uP 1 ?_
 refine uC #[.I 0] 34 H ?_
 intro j _ H
 refine uF 0 ?_
 refine uR 1 [.c [1, 0], .c [2]] ?_
 refine WK.defer1 (o := op1 (cd Try.prog 100 [1, 0])) ⟨.fn (.func 95) #[], #[.P j 0]⟩ (by as_aux_lemma => kernel_rfl) (by as_aux_lemma => kernel_rfl) (by as_aux_lemma => kernel_rfl) (by as_aux_lemma => kernel_rfl) (by as_aux_lemma => kernel_rfl) ?_
 refine uR 1 [.c [2, 0], .c [3]] ?_
 refine qG (sq 0 7) ?_
 refine uP 1 ?_
 refine uK (sized_spec (m := m) (H.rp 0 rfl) (by omega) (c := c) (by assumption) (by omega)) ?_
 rintro _ _ C rfl
 have H := H.ext C
 refine uF 5 ?_
 refine uR 1 [.c [3, 0], .c [4]] ?_
 refine qG (sq 0 9) ?_
 refine uP 2 ?_
 refine RW.pv (κ := .seq) (d := some 17) (r := (sq 3 9)) (v' := .bool true) (v := .bool (decide ((((rows.length : Nat) : Int) : Int) > 0))) (by as_aux_lemma => kernel_rfl) (by rw [decide_eq_true (by omega)]) ?_
 refine uP 3 ?_
 refine RW.pv (κ := .seq) (d := some 21) (r := (sq 7 9)) (v' := .bool true) (v := .bool (decide ((((rows.length : Nat) : Int) : Int) ≤ 255))) (by as_aux_lemma => kernel_rfl) (by rw [decide_eq_true (by omega)]) ?_
 refine qP 1 (sq 8 9) [(0, .slice a m.length k), (1, .slice b rows.length kr), (4, .slice none 0 0), (5, .P j 0), (6, .I ((m.length : Nat) : Int)), (22, .bool true)] ?_
 refine uK (needs_spec (S := fun _ => True)) ?_
 rintro _ _ D rfl
 have H := H.ext D
 refine uF 0 ?_
 refine uR 4 [.c [4, 0, 1, 0], .b 0, .c [5]] ?_
 have H := H.ownNil SB 23
 have H := H.drop (M' := [(j, .cells #[.I 0] 34 (0, 0))]) (W' := [⟨SB, 23, .slice none (((pickL m rows).take 0).length) 0, (pickL m rows).take 0⟩]) (by repeat (first | exact List.Sublist.refl _ | exact List.nil_sublist _ | apply List.Sublist.cons_cons | apply List.Sublist.cons)) (by repeat (first | exact List.Sublist.refl _ | exact List.nil_sublist _ | apply List.Sublist.cons_cons | apply List.Sublist.cons))
 refine uL (α := Nat × Option Addr × Nat) (g := 100) (p := [4, 0, 1, 0, 0]) (fun (i, ao, co) => [(0, .slice a m.length k), (4, .slice ao (((pickL m rows).take i).length) co), (5, .P j 0), (6, .I ((m.length : Nat) : Int)), (24, .slice b rows.length kr), (25, .I ((rows.length : Nat) : Int)), (26, .I i)]) (fun (i, ao, co) w' => Hp w S [] [(j, .cells #[.I 0] 34 (0, 0))] [⟨SB, 23, .slice ao (((pickL m rows).take i).length) co, (pickL m rows).take i⟩] [Rp (Shape.slice SB) [.slice a m.length k] m, Rp (Shape.slice (Shape.int .i64)) [.slice b rows.length kr] rows] w' ∧ i ≤ rows.length) (fun (i, ao, co) => rows.length - i) (0, none, 0) ⟨H, Nat.zero_le _⟩ ?_
 rintro ⟨i, ao, co⟩ _ ⟨H, _⟩ n
 refine uR 3 [.c [4, 0, 1, 0, 0, 1, 0], .c [4, 0, 1, 0, 0, 2], .l [4, 0, 1, 0, 0], .b 0, .c [5]] ?_
 refine qD (((i : Int) : Int) < ((rows.length : Nat) : Int)) (fun O => ?_) (fun O => ?_)
 ·
  have hri := hrow (rows[i]) (List.getElem_mem (by omega))
  have hrm : (rows[i]).toNat < m.length := by omega
  have hcr := hc (m[(rows[i]).toNat]) (List.getElem_mem hrm)
  refine uR 4 [.c [4, 0, 1, 0, 0, 2, 0, 0, 0], .c [4, 0, 1, 0, 0, 2, 0, 0, 1], .b 1, .c [4, 0, 1, 0, 0, 3], .l [4, 0, 1, 0, 0], .b 0, .c [5]] ?_
  refine qG (sq 0 3) ?_
  have A : i < rows.length := by omega
  refine uX 25 (i : Int) H 1 rfl i (by omega) (List.getElem?_eq_getElem A) ?_
  intro E F _ q H
  have Q := Shape.i64_bd q
  obtain ⟨rfl, -⟩ := q
  refine uV 3 0 (H.fc 0 rfl) ?_
  refine uF 1 ?_
  refine uR 2 [.c [4, 0, 1, 0, 0, 2, 0, 0, 1, 0, 0], .c [4, 0, 1, 0, 0, 2, 0, 0, 1, 0, 1], .c [4, 0, 1, 0, 0, 2, 0, 0, 2], .b 1, .c [4, 0, 1, 0, 0, 3], .l [4, 0, 1, 0, 0], .b 0, .c [5]] ?_
  refine qG (sq 0 7) ?_
  refine uP 3 ?_
  refine uD 32 ((rows[i] : Int) < 0) (fun G => ?_) (fun G => ?_)
  ·
   omega
  ·
   refine uF 4 ?_
   refine qD ((rows[i] : Int) ≥ ((m.length : Nat) : Int)) (fun J => ?_) (fun J => ?_)
   ·
    omega
   ·
    refine uR 1 [.c [4, 0, 1, 0, 0, 2, 0, 0, 2], .b 1, .c [4, 0, 1, 0, 0, 3], .l [4, 0, 1, 0, 0], .b 0, .c [5]] ?_
    refine qG (sq 0 9) ?_
    refine uP 3 ?_
    have B : (rows[i]).toNat < m.length := hrm
    refine uX 29 (rows[i]) H 1 rfl ((rows[i]).toNat) (by omega) (List.getElem?_eq_getElem B) ?_
    intro K L _ s H
    obtain ⟨M, N, rfl⟩ := Shape.slice_form' s
    have H := H.addR s
    refine uV 23 0 (H.fc 1 rfl) ?_
    have H := H.ownNil Sb 5
    have H : Hp w S [] [_] [⟨Sb, 5, .slice none 0 0, []⟩, _] [_, Fc K L [.slice M ((m[(rows[i]).toNat]).length) N], Fc E F [.I (rows[i])], _, _] _ := H
    refine uA 23 23 1 (m[(rows[i]).toNat]) H 0 rfl 0 rfl (rfl) (by omega) ?_
    intro e f _ H _
    have H : Hp w S [] [_] [⟨Sb, 5, .slice e ((m[(rows[i]).toNat]).length) f, m[(rows[i]).toNat]⟩, _] [_, _, _, _, _] _ := H
    refine RW.new (κ := .seq) (d := some 43) (r := (sq 7 9)) (o := .cells #[.slice e ((m[(rows[i]).toNat]).length) f] 23 (0, 0)) (v := fun b => .slice (some ⟨b, 0, none⟩) 1 1) (fun b => by as_aux_lemma => kernel_rfl) (nofun) H ?_
    intro z _ H
    have H : Hp w S [] [(z, .cells #[.slice e ((m[(rows[i]).toNat]).length) f] 23 (0, 0)), _] [_] [Rp SB [.slice e ((m[(rows[i]).toNat]).length) f] (m[(rows[i]).toNat]), _, _, _, _, _] _ := H.freezeW 0 rfl
    have H := H.freeze 0 rfl SB ([m[(rows[i]).toNat]] : List (List (BitVec 8))) 1 (by simp [maxLen]) (by first | exact Nat.le_refl _ | simp) (EsP.cons (c := [.slice e ((m[(rows[i]).toNat]).length) f]) (H.rp 0 rfl) EsP.nil)
    have H : Hp w S [] [_] [_] [Rp (Shape.slice SB) [.slice (some ⟨z, 0, none⟩) 1 1] ([m[(rows[i]).toNat]] : List (List (BitVec 8))), _, _, _, _, _, _] _ := H
    refine uA 29 29 24 ((pickL m rows).take (i + 1)) H 0 rfl 0 rfl (pickL_take (by omega) hrm) (by rw [List.length_take, pickL_len]; omega) ?_
    intro t u _ H _
    have H : Hp w S [] [_] [⟨SB, 23, .slice t (((pickL m rows).take (i + 1)).length) u, (pickL m rows).take (i + 1)⟩] [_, _, _, _, _, _, _] _ := H
    refine uF 1 ?_
    refine uR 1 [.c [4, 0, 1, 0, 0, 3], .l [4, 0, 1, 0, 0], .b 0, .c [5]] ?_
    refine qG (sq 0 2) ?_
    refine uI ((i : Int) + 1) ?_
    refine qF 1 [(0, .slice a m.length k), (4, .slice t (((pickL m rows).take (i + 1)).length) u), (5, .P j 0), (6, .I ((m.length : Nat) : Int)), (24, .slice b rows.length kr), (25, .I ((rows.length : Nat) : Int)), (26, .I ((i : Int) + 1))] ?_
    have H := H.pick [5, 6] rfl
    exact uB (n (i + 1, t, u) _ ⟨H, by omega⟩ (by first | omega | (simp only []; omega)))
 ·
  refine uR 2 [.c [5, 0], .c [6]] ?_
  refine qG (sq 0 3) ?_
  refine uP 2 ?_
  refine uW 34 0 #[.I 0] H 0 rfl ?_
  intro _ H
  refine uF 0 ?_
  refine WK.retD (v := .tuple #[.slice ao (((pickL m rows).take i).length) co, .I 0]) Try.func100 (by as_aux_lemma => kernel_rfl) (refused_defer ⟨j, 0, none⟩) (RV.res2 (x := .tmp 4) (y := .cell 5 34) (by as_aux_lemma => kernel_rfl) (RV.tmp (by as_aux_lemma => kernel_rfl)) (RV.cell (k := 0) (by as_aux_lemma => kernel_rfl) (H.cells 0 rfl) rfl (by as_aux_lemma => kernel_rfl))) ?_
  have hie : i = rows.length := by omega
  have hte : (pickL m rows).take i = pickL m rows := List.take_of_length_le (by rw [pickL_len]; omega)
  rw [hte] at H ⊢
  have H := H.drop (M' := []) (W' := [_]) (List.nil_sublist _) (List.cons_sublist_cons.2 (List.nil_sublist _))
  exact ⟨_, rfl, H.done, _, _, rfl, H.pick [] rfl⟩
end Go.Proofs.Ytppcdmbkgficiaa
