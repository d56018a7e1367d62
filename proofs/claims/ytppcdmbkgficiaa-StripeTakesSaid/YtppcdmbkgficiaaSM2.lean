import Derived.Test.YtppcdmbkgficiaaSBxA
import Derived.Test.YtppcdmbkgficiaaSM1
namespace Go.Proofs.Ytppcdmbkgficiaa
open Go.BX
set_option maxHeartbeats 8000000 in
theorem clear_spec {S : Nat → Prop} {w : World} {O : List Nat} {lb lc rb rc r c d : Nat} {L R : List (List (BitVec 8))} (H0 : Hp w S O [] [⟨SB, 23, .slice (some ⟨lb, 0, none⟩) r lc, L⟩, ⟨SB, 23, .slice (some ⟨rb, 0, none⟩) r rc, R⟩] [] w) (hL : L.length = r) (hR : R.length = r) (hr : r ≤ 255) (hcL : ∀ x ∈ L, x.length = c) (hcR : ∀ x ∈ R, x.length = d) (hcd : c ≤ 255 ∧ d ≤ 255) {at_ col : Nat} (hat : at_ < r) (hcol : col < c) (hne : entAt L at_ col ≠ 0#8) :
 Calls Try.prog 152 #[.agg #[.slice (some ⟨lb, 0, none⟩) r lc, .slice (some ⟨rb, 0, none⟩) r rc], .I at_, .I col] w (Ret fun v w' => v = .tuple #[] ∧ Hp w S O [] [⟨SB, 23, .slice (some ⟨lb, 0, none⟩) r lc, (clearL L at_ col)⟩, ⟨SB, 23, .slice (some ⟨rb, 0, none⟩) r rc, (clearR L R at_ col)⟩] [] w') := by
 have hLa := hcL (L[at_]) (List.getElem_mem (by omega))
 have hRa := hcR (R[at_]) (List.getElem_mem (by omega))
 have hnz : (((L[at_][col]).toNat : Nat) : Int) ≠ 0 := fun e => hne ((entAt_eq (by omega) (by omega)).trans (bvz0 e))
 refine uS1 Try.func152 ?_
 have H := H0
 refine uR 1 [.c [0], .c [1]] ?_
 refine qG (sq 0 1) ?_
 refine uC #[.slice (some ⟨lb, 0, none⟩) r lc, .slice (some ⟨rb, 0, none⟩) r rc] 209 H ?_
 intro n _ H
 refine uF 0 ?_
 refine uR 1 [.c [1, 0], .c [2]] ?_
 refine qG (sq 0 14) ?_
 refine uP 1 ?_
 refine uV 29 0 (H.cells 0 rfl) ?_
 refine uP 1 ?_
 have d2 : r = L.length := by omega
 have hx3 : at_ < L.length := by omega
 refine RW.indexW (κ := .seq) (d := some 15) (r := (sq 4 14)) (T := 29) (e := 23) (m := 1) (ik := .i64) (ix := (at_ : Int)) (sh := SB) (xs := L) (a := (some ⟨lb, 0, none⟩)) (len := r) (cap := lc) (by as_aux_lemma => kernel_rfl) (by as_aux_lemma => kernel_rfl) rfl H at_ (by omega) hx3 d2 ?_
 intro _ _ f2 O0 K1
 cases f2
 obtain ⟨_, _, rfl⟩ := Shape.slice_form' K1
 have H := H.addR K1
 refine uV 23 0 O0 ?_
 refine uP 1 ?_
 have L1 : col < (L[at_]).length := by omega
 refine uX 23 (col : Int) H 0 rfl col (by omega) (List.getElem?_eq_getElem L1) ?_
 intro g2 h2 _ N1 H
 obtain rfl := N1
 refine uV 5 0 (H.fc 0 rfl) ?_
 refine uK (div1_spec (S := fun _ => True) ((L[at_])[col]) (by assumption)) ?_
 rintro _ _ O1 rfl
 have H := H.ext O1
 refine uF 5 ?_
 refine uR 1 [.c [2, 0], .c [3]] ?_
 refine WK.joinW (fun w_ => Hp w S O [(n, .cells #[.slice (some ⟨lb, 0, none⟩) r lc, .slice (some ⟨rb, 0, none⟩) r rc] 209 (0, 0))] [⟨SB, 23, .slice (some ⟨lb, 0, none⟩) r lc, (L.set at_ (scaleL L[at_] (ginv (L[at_])[col])))⟩, ⟨SB, 23, .slice (some ⟨rb, 0, none⟩) r rc, (R.set at_ (scaleL R[at_] (ginv (L[at_])[col])))⟩] [] w_) [(1, .I at_), (2, .I col), (3, .P n 0)] [Cq Try.prog 152 [3]] (fun g0 => ?_) (fun o2 H => ?_)
 ·
  refine WK.drawH1 [lb, rb] (.node (qs [0, 1, 2, 3, 4, 5, 6, 7, 8, 9, 11, 13, 14, 15, 16, 18]) (.cons 10 (.node [] (.cons 12 (.leaf [(17, .seq), (19, .seq), (20, .qui), (21, .seq), (22, .qui), (23, .seq)]) (.cons 17 (.leaf [(12, .seq), (19, .seq), (20, .qui), (21, .seq), (22, .qui), (23, .seq)]) .nil))) (.cons 17 (.leaf [(10, .seq), (12, .seq), (19, .seq), (20, .qui), (21, .seq), (22, .qui), (23, .seq)]) .nil))) Try_mixed (by as_aux_lemma => kernel_rfl) (by as_aux_lemma => kernel_rfl) ?_
  intro i2 P0
  have H := H.draw
  rw [← P0] at H
  clear P0
  have hS := Chg.refl i2 [lb, rb]
  refine RG.node' (qs [0, 1, 2, 3, 4, 5, 6, 7, 8, 9, 11, 13, 14, 15, 16, 18]) (by as_aux_lemma => kernel_rfl) ?_
  refine uHP hS 1 ?_
  refine RH.load (d := some 24) (r := (qs [2, 3, 4, 5, 6, 7, 8, 9, 11, 13, 14, 15, 16, 18])) (T := 29) (b := n) (o' := 0) (k := 0) (v := .slice (some ⟨lb, 0, none⟩) r lc) (by as_aux_lemma => kernel_rfl) hS (H.cells 0 rfl) (by intro hq; simp only [List.mem_cons, List.not_mem_nil, or_false] at hq; rcases hq with hq | hq; exact H.neMW 0 rfl 0 rfl hq; exact H.neMW 0 rfl 1 rfl hq) (by simp) rfl (by as_aux_lemma => kernel_rfl) ?_
  refine uHP hS 2 ?_
  refine RH.load (d := some 27) (r := (qs [5, 6, 7, 8, 9, 11, 13, 14, 15, 16, 18])) (T := 29) (b := n) (o' := 1) (k := 1) (v := .slice (some ⟨rb, 0, none⟩) r rc) (by as_aux_lemma => kernel_rfl) hS (H.cells 0 rfl) (by intro hq; simp only [List.mem_cons, List.not_mem_nil, or_false] at hq; rcases hq with hq | hq; exact H.neMW 0 rfl 0 rfl hq; exact H.neMW 0 rfl 1 rfl hq) (by simp) rfl (by as_aux_lemma => kernel_rfl) ?_
  refine qHP hS 2 (qs [7, 8, 9, 11, 13, 14, 15, 16, 18]) [(1, .I at_), (2, .I col), (3, .P n 0), (6, .int .u8 (((ginv ((L[at_])[col])).toNat : Nat) : Int)), (24, .slice (some ⟨lb, 0, none⟩) r lc), (25, .I at_), (27, .slice (some ⟨rb, 0, none⟩) r rc), (28, .I at_), (29, .P n 0)] ?_
  refine RH.load (d := some 30) (r := (qs [8, 9, 11, 13, 14, 15, 16, 18])) (T := 29) (b := n) (o' := 0) (k := 0) (v := .slice (some ⟨lb, 0, none⟩) r lc) (by as_aux_lemma => kernel_rfl) hS (H.cells 0 rfl) (by intro hq; simp only [List.mem_cons, List.not_mem_nil, or_false] at hq; rcases hq with hq | hq; exact H.neMW 0 rfl 0 rfl hq; exact H.neMW 0 rfl 1 rfl hq) (by simp) rfl (by as_aux_lemma => kernel_rfl) ?_
  refine uHP hS 1 ?_
  have P1 : r = L.length := by omega
  have Q1 : at_ < L.length := by omega
  refine RH.indexW (d := some 32) (r := (qs [11, 13, 14, 15, 16, 18])) (T := 29) (e := 23) (m := 1) (ik := .i64) (ix := (at_ : Int)) (sh := SB) (xs := L) (a := (some ⟨lb, 0, none⟩)) (len := r) (cap := lc) (by as_aux_lemma => kernel_rfl) hS (by as_aux_lemma => kernel_rfl) rfl H at_ (by omega) Q1 P1 ?_
  intro _ _ R1 u Q0
  cases R1
  obtain ⟨_, _, rfl⟩ := Shape.slice_form' Q0
  have H := H.addR Q0
  refine uHP hS 2 ?_
  refine RH.load (d := some 37) (r := (qs [15, 16, 18])) (T := 29) (b := n) (o' := 1) (k := 1) (v := .slice (some ⟨rb, 0, none⟩) r rc) (by as_aux_lemma => kernel_rfl) hS (H.cells 0 rfl) (by intro hq; simp only [List.mem_cons, List.not_mem_nil, or_false] at hq; rcases hq with hq | hq; exact H.neMW 0 rfl 0 rfl hq; exact H.neMW 0 rfl 1 rfl hq) (by simp) rfl (by as_aux_lemma => kernel_rfl) ?_
  refine uHP hS 1 ?_
  have H := H.frontW 1 (W' := [⟨SB, 23, .slice (some ⟨rb, 0, none⟩) r rc, R⟩, ⟨SB, 23, .slice (some ⟨lb, 0, none⟩) r lc, L⟩]) rfl
  have R0 : r = R.length := by omega
  have S0 : at_ < R.length := by omega
  refine RH.indexW (d := some 39) (r := [(18, .qui)]) (T := 29) (e := 23) (m := 1) (ik := .i64) (ix := (at_ : Int)) (sh := SB) (xs := R) (a := (some ⟨rb, 0, none⟩)) (len := r) (cap := rc) (by as_aux_lemma => kernel_rfl) hS (by as_aux_lemma => kernel_rfl) rfl H at_ (by omega) S0 R0 ?_
  intro _ _ S1 y T0
  cases S1
  obtain ⟨_, _, rfl⟩ := Shape.slice_form' T0
  have H := H.addR T0
  refine uHB hS 1 ?_
  refine (RGB.cons' ?_ (RGB.cons' ?_ RGB.nil'))
  ·
   refine RG.node' [(10, .seq)] (by as_aux_lemma => kernel_rfl) ?_
   have Hr := H
   refine RH.chn hS ?_
   refine uV 23 0 u ?_
   intro hS
   refine uHB hS 0 ?_
   refine (RGB.cons' ?_ (RGB.cons' ?_ RGB.nil'))
   ·
    refine RG.leaf' [(12, .seq), (17, .seq), (19, .seq), (20, .qui), (21, .seq), (22, .qui), (23, .seq)] (by as_aux_lemma => kernel_rfl) ?_
    have Hr := H
    refine RH.chn hS ?_
    refine uK (scaled_spec (row := L[at_]) (ginv ((L[at_])[col])) (H.rp 1 rfl) (by omega)) ?_
    rintro _ _ - H'
    have H := H.back (M1 := []) (W1 := []) H'
    obtain ⟨Z, a0, rfl, _, _⟩ := H.ownForm 0 rfl
    have H : Hp w S O [_] [⟨Sb, 5, .slice Z ((scaleL (L[at_]) (ginv ((L[at_])[col]))).length) a0, (scaleL (L[at_]) (ginv ((L[at_])[col])))⟩, _, _] [_, _, Fc g2 h2 [.int .u8 ((((L[at_])[col]).toNat : Nat) : Int)], _] _ := H
    intro hS
    refine RH.chn hS ?_
    have H := H.frontW 1 (W' := [⟨SB, 23, .slice (some ⟨rb, 0, none⟩) r rc, R⟩, ⟨Sb, 5, .slice Z ((scaleL (L[at_]) (ginv ((L[at_])[col]))).length) a0, (scaleL (L[at_]) (ginv ((L[at_])[col])))⟩, ⟨SB, 23, .slice (some ⟨lb, 0, none⟩) r lc, L⟩]) rfl
    obtain ⟨_, N0, U0⟩ := H.ownAt at_ S0 R0
    obtain ⟨_, _, rfl⟩ := Shape.slice_form' U0
    have H := H.addR U0
    refine uV 23 0 N0 ?_
    intro hS
    refine RH.chn hS ?_
    refine uK (scaled_spec (row := R[at_]) (ginv ((L[at_])[col])) (H.rp 0 rfl) (by omega)) ?_
    rintro _ _ - H'
    have H := H.back (M1 := []) (W1 := []) H'
    obtain ⟨b0, c0, rfl, _, _⟩ := H.ownForm 0 rfl
    have H : Hp w S O [_] [⟨Sb, 5, .slice b0 ((scaleL (R[at_]) (ginv ((L[at_])[col]))).length) c0, (scaleL (R[at_]) (ginv ((L[at_])[col])))⟩, _, _, _] [_, _, _, _, _] _ := H
    intro hS
    have H := H.frontW 3 (W' := [⟨SB, 23, .slice (some ⟨lb, 0, none⟩) r lc, L⟩, ⟨Sb, 5, .slice b0 ((scaleL (R[at_]) (ginv ((L[at_])[col]))).length) c0, (scaleL (R[at_]) (ginv ((L[at_])[col])))⟩, ⟨SB, 23, .slice (some ⟨rb, 0, none⟩) r rc, R⟩, ⟨Sb, 5, .slice Z ((scaleL (L[at_]) (ginv ((L[at_])[col]))).length) a0, (scaleL (L[at_]) (ginv ((L[at_])[col])))⟩]) rfl
    have V0 : r = L.length := by omega
    have W0 : at_ < L.length := by omega
    refine RH.indexW (d := some 43) (r := [(21, .seq), (22, .qui), (23, .seq)]) (T := 29) (e := 23) (m := 1) (ik := .i64) (ix := (at_ : Int)) (sh := SB) (xs := L) (a := (some ⟨lb, 0, none⟩)) (len := r) (cap := lc) (by as_aux_lemma => kernel_rfl) hS (by as_aux_lemma => kernel_rfl) rfl H at_ (by omega) W0 V0 ?_
    intro _ _ T1 _ X0
    cases T1
    obtain ⟨_, _, rfl⟩ := Shape.slice_form' X0
    have H := H.addR X0
    refine RH.sto ?_
    have H : Hp w S O [_] [_, _, _] [Rp SB [.slice Z ((scaleL (L[at_]) (ginv ((L[at_])[col]))).length) a0] (scaleL (L[at_]) (ginv ((L[at_])[col]))), _, _, _, _, _, _] _ := H.freezeW 3 rfl
    refine RW.storeWC (d := none) (r := []) (e := 23) (m := 1) (b := lb) (k := at_) (v := .slice Z ((scaleL (L[at_]) (ginv ((L[at_])[col]))).length) a0) (by as_aux_lemma => kernel_rfl) rfl (by as_aux_lemma => kernel_rfl) H rfl W0 V0 (scaleL (L[at_]) (ginv ((L[at_])[col]))) (H.rp 0 rfl) ?_
    intro _ n1 H
    have Y0 := hS.sto n1 (.inr (by simp))
    refine ⟨Y0, ?_⟩
    have hS := Y0
    have H := H.frontW 2 (W' := [⟨SB, 23, .slice (some ⟨rb, 0, none⟩) r rc, R⟩, ⟨SB, 23, .slice (some ⟨lb, 0, none⟩) r lc, L.set at_ (scaleL (L[at_]) (ginv ((L[at_])[col])))⟩, ⟨Sb, 5, .slice b0 ((scaleL (R[at_]) (ginv ((L[at_])[col]))).length) c0, (scaleL (R[at_]) (ginv ((L[at_])[col])))⟩]) rfl
    have Z0 : r = R.length := by omega
    have a1 : at_ < R.length := by omega
    refine RH.indexW (d := some 44) (r := [(23, .seq)]) (T := 29) (e := 23) (m := 1) (ik := .i64) (ix := (at_ : Int)) (sh := SB) (xs := R) (a := (some ⟨rb, 0, none⟩)) (len := r) (cap := rc) (by as_aux_lemma => kernel_rfl) hS (by as_aux_lemma => kernel_rfl) rfl H at_ (by omega) a1 Z0 ?_
    intro _ _ U1 _ b1
    cases U1
    obtain ⟨_, _, rfl⟩ := Shape.slice_form' b1
    have H := H.addR b1
    refine RH.sto ?_
    have H : Hp w S O [_] [_, _] [Rp SB [.slice b0 ((scaleL (R[at_]) (ginv ((L[at_])[col]))).length) c0] (scaleL (R[at_]) (ginv ((L[at_])[col]))), _, _, _, _, _, _, _, _] _ := H.freezeW 2 rfl
    refine RW.storeWC (d := none) (r := []) (e := 23) (m := 1) (b := rb) (k := at_) (v := .slice b0 ((scaleL (R[at_]) (ginv ((L[at_])[col]))).length) c0) (by as_aux_lemma => kernel_rfl) rfl (by as_aux_lemma => kernel_rfl) H rfl a1 Z0 (scaleL (R[at_]) (ginv ((L[at_])[col]))) (H.rp 0 rfl) ?_
    intro _ o1 H
    have c1 := hS.sto o1 (.inr (by simp))
    refine ⟨c1, ?_⟩
    have hS := c1
    refine uHF hS 0 ?_
    have H := H.pick [] rfl
    have H := H.frontW 1 (W' := [⟨SB, 23, .slice (some ⟨lb, 0, none⟩) r lc, L.set at_ (scaleL (L[at_]) (ginv ((L[at_])[col])))⟩, ⟨SB, 23, .slice (some ⟨rb, 0, none⟩) r rc, R.set at_ (scaleL (R[at_]) (ginv ((L[at_])[col])))⟩]) rfl
    exact uB (g0 _ H)
   ·
    refine RG.leaf' [(17, .seq), (12, .seq), (19, .seq), (20, .qui), (21, .seq), (22, .qui), (23, .seq)] (by as_aux_lemma => kernel_rfl) ?_
    have Hr := H
    refine RH.chn hS ?_
    refine uV 23 0 y ?_
    intro hS
    have Hr := H
    refine RH.chn hS ?_
    refine uK (scaled_spec (row := L[at_]) (ginv ((L[at_])[col])) (H.rp 1 rfl) (by omega)) ?_
    rintro _ _ - H'
    have H := H.back (M1 := []) (W1 := []) H'
    obtain ⟨j0, k0, rfl, _, _⟩ := H.ownForm 0 rfl
    have H : Hp w S O [_] [⟨Sb, 5, .slice j0 ((scaleL (L[at_]) (ginv ((L[at_])[col]))).length) k0, (scaleL (L[at_]) (ginv ((L[at_])[col])))⟩, _, _] [_, _, _, _] _ := H
    intro hS
    refine RH.chn hS ?_
    refine uK (scaled_spec (row := R[at_]) (ginv ((L[at_])[col])) (H.rp 0 rfl) (by omega)) ?_
    rintro _ _ - H'
    have H := H.back (M1 := []) (W1 := []) H'
    obtain ⟨d0, e0, rfl, _, _⟩ := H.ownForm 0 rfl
    have H : Hp w S O [_] [⟨Sb, 5, .slice d0 ((scaleL (R[at_]) (ginv ((L[at_])[col]))).length) e0, (scaleL (R[at_]) (ginv ((L[at_])[col])))⟩, _, _, _] [_, _, _, _] _ := H
    intro hS
    have H := H.frontW 3 (W' := [⟨SB, 23, .slice (some ⟨lb, 0, none⟩) r lc, L⟩, ⟨Sb, 5, .slice d0 ((scaleL (R[at_]) (ginv ((L[at_])[col]))).length) e0, (scaleL (R[at_]) (ginv ((L[at_])[col])))⟩, ⟨Sb, 5, .slice j0 ((scaleL (L[at_]) (ginv ((L[at_])[col]))).length) k0, (scaleL (L[at_]) (ginv ((L[at_])[col])))⟩, ⟨SB, 23, .slice (some ⟨rb, 0, none⟩) r rc, R⟩]) rfl
    have l0 : r = L.length := by omega
    have m0 : at_ < L.length := by omega
    refine RH.indexW (d := some 43) (r := [(21, .seq), (22, .qui), (23, .seq)]) (T := 29) (e := 23) (m := 1) (ik := .i64) (ix := (at_ : Int)) (sh := SB) (xs := L) (a := (some ⟨lb, 0, none⟩)) (len := r) (cap := lc) (by as_aux_lemma => kernel_rfl) hS (by as_aux_lemma => kernel_rfl) rfl H at_ (by omega) m0 l0 ?_
    intro _ _ p1 _ n0
    cases p1
    obtain ⟨_, _, rfl⟩ := Shape.slice_form' n0
    have H := H.addR n0
    refine RH.sto ?_
    have H : Hp w S O [_] [_, _, _] [Rp SB [.slice j0 ((scaleL (L[at_]) (ginv ((L[at_])[col]))).length) k0] (scaleL (L[at_]) (ginv ((L[at_])[col]))), _, _, _, _, _] _ := H.freezeW 2 rfl
    refine RW.storeWC (d := none) (r := []) (e := 23) (m := 1) (b := lb) (k := at_) (v := .slice j0 ((scaleL (L[at_]) (ginv ((L[at_])[col]))).length) k0) (by as_aux_lemma => kernel_rfl) rfl (by as_aux_lemma => kernel_rfl) H rfl m0 l0 (scaleL (L[at_]) (ginv ((L[at_])[col]))) (H.rp 0 rfl) ?_
    intro _ d1 H
    have o0 := hS.sto d1 (.inr (by simp))
    refine ⟨o0, ?_⟩
    have hS := o0
    have H := H.frontW 2 (W' := [⟨SB, 23, .slice (some ⟨rb, 0, none⟩) r rc, R⟩, ⟨SB, 23, .slice (some ⟨lb, 0, none⟩) r lc, L.set at_ (scaleL (L[at_]) (ginv ((L[at_])[col])))⟩, ⟨Sb, 5, .slice d0 ((scaleL (R[at_]) (ginv ((L[at_])[col]))).length) e0, (scaleL (R[at_]) (ginv ((L[at_])[col])))⟩]) rfl
    have p0 : r = R.length := by omega
    have q0 : at_ < R.length := by omega
    refine RH.indexW (d := some 44) (r := [(23, .seq)]) (T := 29) (e := 23) (m := 1) (ik := .i64) (ix := (at_ : Int)) (sh := SB) (xs := R) (a := (some ⟨rb, 0, none⟩)) (len := r) (cap := rc) (by as_aux_lemma => kernel_rfl) hS (by as_aux_lemma => kernel_rfl) rfl H at_ (by omega) q0 p0 ?_
    intro _ _ q1 _ r0
    cases q1
    obtain ⟨_, _, rfl⟩ := Shape.slice_form' r0
    have H := H.addR r0
    refine RH.sto ?_
    have H : Hp w S O [_] [_, _] [Rp SB [.slice d0 ((scaleL (R[at_]) (ginv ((L[at_])[col]))).length) e0] (scaleL (R[at_]) (ginv ((L[at_])[col]))), _, _, _, _, _, _, _] _ := H.freezeW 2 rfl
    refine RW.storeWC (d := none) (r := []) (e := 23) (m := 1) (b := rb) (k := at_) (v := .slice d0 ((scaleL (R[at_]) (ginv ((L[at_])[col]))).length) e0) (by as_aux_lemma => kernel_rfl) rfl (by as_aux_lemma => kernel_rfl) H rfl q0 p0 (scaleL (R[at_]) (ginv ((L[at_])[col]))) (H.rp 0 rfl) ?_
    intro _ hch122 H
    have s0 := hS.sto hch122 (.inr (by simp))
    refine ⟨s0, ?_⟩
    have hS := s0
    refine uHF hS 0 ?_
    have H := H.pick [] rfl
    have H := H.frontW 1 (W' := [⟨SB, 23, .slice (some ⟨lb, 0, none⟩) r lc, L.set at_ (scaleL (L[at_]) (ginv ((L[at_])[col])))⟩, ⟨SB, 23, .slice (some ⟨rb, 0, none⟩) r rc, R.set at_ (scaleL (R[at_]) (ginv ((L[at_])[col])))⟩]) rfl
    exact uB (g0 _ H)
  ·
   refine RG.leaf' [(17, .seq), (10, .seq), (12, .seq), (19, .seq), (20, .qui), (21, .seq), (22, .qui), (23, .seq)] (by as_aux_lemma => kernel_rfl) ?_
   have Hr := H
   refine RH.chn hS ?_
   refine uV 23 0 y ?_
   intro hS
   have Hr := H
   refine RH.chn hS ?_
   refine uV 23 0 u ?_
   intro hS
   have Hr := H
   refine RH.chn hS ?_
   refine uK (scaled_spec (row := L[at_]) (ginv ((L[at_])[col])) (H.rp 1 rfl) (by omega)) ?_
   rintro _ _ - H'
   have H := H.back (M1 := []) (W1 := []) H'
   obtain ⟨C, D, rfl, _, _⟩ := H.ownForm 0 rfl
   have H : Hp w S O [_] [⟨Sb, 5, .slice C ((scaleL (L[at_]) (ginv ((L[at_])[col]))).length) D, (scaleL (L[at_]) (ginv ((L[at_])[col])))⟩, _, _] [_, _, _, _] _ := H
   intro hS
   refine RH.chn hS ?_
   refine uK (scaled_spec (row := R[at_]) (ginv ((L[at_])[col])) (H.rp 0 rfl) (by omega)) ?_
   rintro _ _ - H'
   have H := H.back (M1 := []) (W1 := []) H'
   obtain ⟨o, q, rfl, _, _⟩ := H.ownForm 0 rfl
   have H : Hp w S O [_] [⟨Sb, 5, .slice o ((scaleL (R[at_]) (ginv ((L[at_])[col]))).length) q, (scaleL (R[at_]) (ginv ((L[at_])[col])))⟩, _, _, _] [_, _, _, _] _ := H
   intro hS
   have H := H.frontW 3 (W' := [⟨SB, 23, .slice (some ⟨lb, 0, none⟩) r lc, L⟩, ⟨Sb, 5, .slice o ((scaleL (R[at_]) (ginv ((L[at_])[col]))).length) q, (scaleL (R[at_]) (ginv ((L[at_])[col])))⟩, ⟨Sb, 5, .slice C ((scaleL (L[at_]) (ginv ((L[at_])[col]))).length) D, (scaleL (L[at_]) (ginv ((L[at_])[col])))⟩, ⟨SB, 23, .slice (some ⟨rb, 0, none⟩) r rc, R⟩]) rfl
   have t0 : r = L.length := by omega
   have u0 : at_ < L.length := by omega
   refine RH.indexW (d := some 43) (r := [(21, .seq), (22, .qui), (23, .seq)]) (T := 29) (e := 23) (m := 1) (ik := .i64) (ix := (at_ : Int)) (sh := SB) (xs := L) (a := (some ⟨lb, 0, none⟩)) (len := r) (cap := lc) (by as_aux_lemma => kernel_rfl) hS (by as_aux_lemma => kernel_rfl) rfl H at_ (by omega) u0 t0 ?_
   intro _ _ r1 _ v0
   cases r1
   obtain ⟨_, _, rfl⟩ := Shape.slice_form' v0
   have H := H.addR v0
   refine RH.sto ?_
   have H : Hp w S O [_] [_, _, _] [Rp SB [.slice C ((scaleL (L[at_]) (ginv ((L[at_])[col]))).length) D] (scaleL (L[at_]) (ginv ((L[at_])[col]))), _, _, _, _, _] _ := H.freezeW 2 rfl
   refine RW.storeWC (d := none) (r := []) (e := 23) (m := 1) (b := lb) (k := at_) (v := .slice C ((scaleL (L[at_]) (ginv ((L[at_])[col]))).length) D) (by as_aux_lemma => kernel_rfl) rfl (by as_aux_lemma => kernel_rfl) H rfl u0 t0 (scaleL (L[at_]) (ginv ((L[at_])[col]))) (H.rp 0 rfl) ?_
   intro _ f1 H
   have w0 := hS.sto f1 (.inr (by simp))
   refine ⟨w0, ?_⟩
   have hS := w0
   have H := H.frontW 2 (W' := [⟨SB, 23, .slice (some ⟨rb, 0, none⟩) r rc, R⟩, ⟨SB, 23, .slice (some ⟨lb, 0, none⟩) r lc, L.set at_ (scaleL (L[at_]) (ginv ((L[at_])[col])))⟩, ⟨Sb, 5, .slice o ((scaleL (R[at_]) (ginv ((L[at_])[col]))).length) q, (scaleL (R[at_]) (ginv ((L[at_])[col])))⟩]) rfl
   have x0 : r = R.length := by omega
   have y0 : at_ < R.length := by omega
   refine RH.indexW (d := some 44) (r := [(23, .seq)]) (T := 29) (e := 23) (m := 1) (ik := .i64) (ix := (at_ : Int)) (sh := SB) (xs := R) (a := (some ⟨rb, 0, none⟩)) (len := r) (cap := rc) (by as_aux_lemma => kernel_rfl) hS (by as_aux_lemma => kernel_rfl) rfl H at_ (by omega) y0 x0 ?_
   intro _ _ s1 _ z0
   cases s1
   obtain ⟨_, _, rfl⟩ := Shape.slice_form' z0
   have H := H.addR z0
   refine RH.sto ?_
   have H : Hp w S O [_] [_, _] [Rp SB [.slice o ((scaleL (R[at_]) (ginv ((L[at_])[col]))).length) q] (scaleL (R[at_]) (ginv ((L[at_])[col]))), _, _, _, _, _, _, _] _ := H.freezeW 2 rfl
   refine RW.storeWC (d := none) (r := []) (e := 23) (m := 1) (b := rb) (k := at_) (v := .slice o ((scaleL (R[at_]) (ginv ((L[at_])[col]))).length) q) (by as_aux_lemma => kernel_rfl) rfl (by as_aux_lemma => kernel_rfl) H rfl y0 x0 (scaleL (R[at_]) (ginv ((L[at_])[col]))) (H.rp 0 rfl) ?_
   intro _ g1 H
   have A0 := hS.sto g1 (.inr (by simp))
   refine ⟨A0, ?_⟩
   have hS := A0
   refine uHF hS 0 ?_
   have H := H.pick [] rfl
   have H := H.frontW 1 (W' := [⟨SB, 23, .slice (some ⟨lb, 0, none⟩) r lc, L.set at_ (scaleL (L[at_]) (ginv ((L[at_])[col])))⟩, ⟨SB, 23, .slice (some ⟨rb, 0, none⟩) r rc, R.set at_ (scaleL (R[at_]) (ginv ((L[at_])[col])))⟩]) rfl
   exact uB (g0 _ H)
 ·
  refine uR 1 [.c [3, 0], .c [4]] ?_
  refine qG (sq 0 4) ?_
  refine uP 1 ?_
  refine uV 29 0 (H.cells 0 rfl) ?_
  refine uF 2 ?_
  refine uR 1 [.c [4, 0], .b 0] ?_
  obtain ⟨pl, hpl⟩ : ∃ z, z = (scaleL L[at_] (ginv (L[at_])[col])) := ⟨_, rfl⟩
  obtain ⟨pr, hpr⟩ : ∃ z, z = (scaleL R[at_] (ginv (L[at_])[col])) := ⟨_, rfl⟩
  obtain ⟨f, B⟩ : ∃ z, z = L.set at_ pl := ⟨_, rfl⟩
  obtain ⟨i, f0⟩ : ∃ z, z = R.set at_ pr := ⟨_, rfl⟩
  have hLp : ∀ h : at_ < f.length, f[at_] = pl := by subst B; intro h; simp
  have hRp : ∀ h : at_ < i.length, i[at_] = pr := by subst f0; intro h; simp
  rw [← hpl, ← hpr, ← B, ← f0] at H
  have V1 : f.length = r := by rw [B, List.length_set]; exact hL
  have n2 : i.length = r := by rw [f0, List.length_set]; exact hR
  have hpll : pl.length = c := by rw [hpl, scaleL_len]; exact hLa
  have hprl : pr.length = d := by rw [hpr, scaleL_len]; exact hRa
  have j2 : ∀ x ∈ f, x.length = c := by rw [B]; exact set_all hcL hpll
  have k2 : ∀ x ∈ i, x.length = d := by rw [f0]; exact set_all hcR hprl
  have l2 := clTo_zero f f pl at_ col
  have m2 := clTo_zero i f pr at_ col
  rw [← l2, ← m2] at H
  have H : Hp w S O [_] [⟨SB, 23, .slice (some ⟨lb, 0, none⟩) r lc, (clTo f f pl at_ col 0)⟩, ⟨SB, 23, .slice (some ⟨rb, 0, none⟩) r rc, (clTo i f pr at_ col 0)⟩] [] _ := H
  refine uL (α := Nat) (g := 152) (p := [4, 0, 0]) (fun k => [(1, .I at_), (2, .I col), (3, .P n 0), (46, .slice (some ⟨lb, 0, none⟩) r lc), (47, .I ((r : Nat) : Int)), (48, .I k)]) (fun k w' => Hp w S O [(n, .cells #[.slice (some ⟨lb, 0, none⟩) r lc, .slice (some ⟨rb, 0, none⟩) r rc] 209 (0, 0))] [⟨SB, 23, .slice (some ⟨lb, 0, none⟩) r lc, (clTo f f pl at_ col k)⟩, ⟨SB, 23, .slice (some ⟨rb, 0, none⟩) r rc, (clTo i f pr at_ col k)⟩] [] w' ∧ k ≤ r) (fun k => r - k) 0 ⟨H, Nat.zero_le _⟩ ?_
  rintro k _ ⟨H, _⟩ j
  refine uR 3 [.c [4, 0, 0, 1, 0], .c [4, 0, 0, 2], .l [4, 0, 0], .b 0] ?_
  refine qD (((k : Int) : Int) < ((r : Nat) : Int)) (fun X1 => ?_) (fun X1 => ?_)
  ·
   have p2 := j2 (f[k]) (List.getElem_mem (by omega))
   have q2 := k2 (i[k]) (List.getElem_mem (by omega))
   have hen : entAt f k col = (f[k])[col] := entAt_eq (by omega) (by omega)
   refine uR 4 [.c [4, 0, 0, 2, 0, 0, 0], .c [4, 0, 0, 2, 0, 0, 1], .b 1, .c [4, 0, 0, 3], .l [4, 0, 0], .b 0] ?_
   refine qG (sq 0 5) ?_
   refine uP 1 ?_
   have t1 : r = (clTo f f pl at_ col k).length := by rw [clTo_len]; omega
   have u1 : k < (clTo f f pl at_ col k).length := by rw [clTo_len]; omega
   refine RW.indexW (κ := .seq) (d := some 51) (r := (sq 2 5)) (T := 29) (e := 23) (m := 1) (ik := .i64) (ix := (k : Int)) (sh := SB) (xs := (clTo f f pl at_ col k)) (a := (some ⟨lb, 0, none⟩)) (len := r) (cap := lc) (by as_aux_lemma => kernel_rfl) (by as_aux_lemma => kernel_rfl) rfl H k (by omega) u1 t1 ?_
   intro _ _ v1 h0 E
   cases v1
   rw [clTo_get (by omega) (.inl (by omega)) _] at E
   obtain ⟨h1, i1, rfl⟩ := Shape.slice_form' E
   have H := H.addR E
   refine uV 23 0 h0 ?_
   refine uF 2 ?_
   refine uR 1 [.c [4, 0, 0, 2, 0, 0, 1, 0], .c [4, 0, 0, 2, 0, 0, 2], .b 1, .c [4, 0, 0, 3], .l [4, 0, 0], .b 0] ?_
   refine qG (sq 0 5) ?_
   refine uP 2 ?_
   have w1 : col < (f[k]).length := by omega
   refine uX 23 (col : Int) H 0 rfl col (by omega) (List.getElem?_eq_getElem w1) ?_
   intro Y1 Z1 _ x1 H
   obtain rfl := x1
   refine uV 5 0 (H.fc 0 rfl) ?_
   refine uF 1 ?_
   refine uR 1 [.c [4, 0, 0, 2, 0, 0, 2, 0], .c [4, 0, 0, 2, 0, 0, 3], .b 1, .c [4, 0, 0, 3], .l [4, 0, 0], .b 0] ?_
   refine qG (sq 0 7) ?_
   refine uP 4 ?_
   refine uN 60 (k : Int) (at_ : Int) (fun a2 => ?_) (fun a2 => ?_)
   ·
    refine uF 3 ?_
    refine qN ((((f[k])[col]).toNat : Nat) : Int) 0 (fun j1 => ?_) (fun j1 => ?_)
    ·
     have hcz : (f[k])[col] ≠ 0#8 := bvz j1
     refine qR 1 [.c [4, 0, 0, 2, 0, 0, 3, 0, 0], .c [4, 0, 0, 2, 0, 0, 3, 0, 1], .b 1, .c [4, 0, 0, 3], .l [4, 0, 0], .b 0] [(1, .I at_), (2, .I col), (3, .P n 0), (8, .I k), (9, .slice h1 (f[k]).length i1), (10, .int .u8 ((((f[k])[col]).toNat : Nat) : Int)), (46, .slice (some ⟨lb, 0, none⟩) r lc), (47, .I ((r : Nat) : Int)), (48, .I k)] ?_
     refine WK.drawH1 [lb] (.leaf [(0, .qui), (1, .qui), (2, .qui), (3, .qui), (4, .qui), (5, .qui), (6, .qui), (7, .qui), (9, .qui), (8, .seq), (10, .seq), (11, .qui), (12, .qui), (13, .qui), (14, .qui), (15, .seq)]) Try_mixed (by as_aux_lemma => kernel_rfl) (by as_aux_lemma => kernel_rfl) ?_
     intro b2 B0
     have H := H.draw
     rw [← B0] at H
     clear B0
     have hS := Chg.refl b2 [lb]
     refine RG.leaf' [(0, .qui), (1, .qui), (2, .qui), (3, .qui), (4, .qui), (5, .qui), (6, .qui), (7, .qui), (9, .qui), (8, .seq), (10, .seq), (11, .qui), (12, .qui), (13, .qui), (14, .qui), (15, .seq)] (by as_aux_lemma => kernel_rfl) ?_
     refine uHP hS 1 ?_
     refine uHV 29 0 hS (H.cells 0 rfl) (nq1 (H.neMW 0 rfl 0 rfl)) ?_
     refine uHP hS 3 ?_
     refine uHV 29 0 hS (H.cells 0 rfl) (nq1 (H.neMW 0 rfl 0 rfl)) ?_
     refine uHP hS 1 ?_
     have y1 : r = (clTo f f pl at_ col k).length := by rw [clTo_len]; omega
     have z1 : at_ < (clTo f f pl at_ col k).length := by rw [clTo_len]; omega
     refine RH.indexW (d := some 72) (r := [(9, .qui), (8, .seq), (10, .seq), (11, .qui), (12, .qui), (13, .qui), (14, .qui), (15, .seq)]) (T := 29) (e := 23) (m := 1) (ik := .i64) (ix := (at_ : Int)) (sh := SB) (xs := (clTo f f pl at_ col k)) (a := (some ⟨lb, 0, none⟩)) (len := r) (cap := lc) (by as_aux_lemma => kernel_rfl) hS (by as_aux_lemma => kernel_rfl) rfl H at_ (by omega) z1 y1 ?_
     intro _ _ A1 i0 F
     cases A1
     rw [(clTo_get (by omega) (.inr rfl) _).trans (hLp _)] at F
     obtain ⟨_, _, rfl⟩ := Shape.slice_form' F
     have H := H.addR F
     refine uHP hS 1 ?_
     have Hr := H
     refine RH.chn hS ?_
     refine uV 23 0 i0 ?_
     intro hS
     have Hr := H
     refine RH.chn hS ?_
     refine uK (mix_spec (xs := f[k]) (ys := pl) ((f[k])[col]) (H.rp 2 rfl) (H.rp 0 rfl) (by first | omega | assumption) (by omega)) ?_
     rintro _ _ - ⟨G, J, rfl, H'⟩
     have H := H.back (M1 := []) (W1 := []) H'
     have H : Hp w S O [_] [⟨Sb, 5, .slice G ((mixL (f[k]) pl ((f[k])[col])).length) J, mixL (f[k]) pl ((f[k])[col])⟩, _, _] [_, Fc Y1 Z1 [.int .u8 ((((f[k])[col]).toNat : Nat) : Int)], _] _ := H
     intro hS
     refine uHP hS 3 ?_
     have H := H.frontW 1 (W' := [⟨SB, 23, .slice (some ⟨lb, 0, none⟩) r lc, (clTo f f pl at_ col k)⟩, ⟨Sb, 5, .slice G ((mixL (f[k]) pl ((f[k])[col])).length) J, mixL (f[k]) pl ((f[k])[col])⟩, ⟨SB, 23, .slice (some ⟨rb, 0, none⟩) r rc, (clTo i f pr at_ col k)⟩]) rfl
     have C0 : r = (clTo f f pl at_ col k).length := by rw [clTo_len]; omega
     have D0 : k < (clTo f f pl at_ col k).length := by rw [clTo_len]; omega
     refine RH.indexW (d := some 78) (r := [(15, .seq)]) (T := 29) (e := 23) (m := 1) (ik := .i64) (ix := (k : Int)) (sh := SB) (xs := (clTo f f pl at_ col k)) (a := (some ⟨lb, 0, none⟩)) (len := r) (cap := lc) (by as_aux_lemma => kernel_rfl) hS (by as_aux_lemma => kernel_rfl) rfl H k (by omega) D0 C0 ?_
     intro _ _ B1 _ K
     cases B1
     rw [clTo_get (by omega) (.inl (by omega)) _] at K
     obtain ⟨_, _, rfl⟩ := Shape.slice_form' K
     have H := H.addR K
     refine RH.sto ?_
     have H : Hp w S O [_] [_, _] [Rp SB [.slice G ((mixL (f[k]) pl ((f[k])[col])).length) J] (mixL (f[k]) pl ((f[k])[col])), _, _, _, _] _ := H.freezeW 1 rfl
     refine RW.storeWC (d := none) (r := []) (e := 23) (m := 1) (b := lb) (k := k) (v := .slice G ((mixL (f[k]) pl ((f[k])[col])).length) J) (by as_aux_lemma => kernel_rfl) rfl (by as_aux_lemma => kernel_rfl) H rfl D0 C0 (mixL (f[k]) pl ((f[k])[col])) (H.rp 0 rfl) ?_
     intro _ k1 H
     have H := H.reW (ys := clTo f f pl at_ col (k + 1)) (clTo_hit' (by omega) (by omega) hen hcz rfl)
     have E0 := hS.sto k1 (.inr (by simp))
     refine ⟨E0, ?_⟩
     have hS := E0
     refine uHF hS 0 ?_
     refine WK.drawH1 [rb] (.node (qs [0, 1, 2, 3, 4, 5, 6, 8, 9, 10, 11, 13]) (.cons 7 (.leaf [(12, .seq), (14, .seq), (15, .qui), (16, .qui), (17, .qui), (18, .qui), (19, .seq)]) (.cons 12 (.leaf [(7, .seq), (14, .seq), (15, .qui), (16, .qui), (17, .qui), (18, .qui), (19, .seq)]) .nil))) Try_mixed (by as_aux_lemma => kernel_rfl) (by as_aux_lemma => kernel_rfl) ?_
     intro c2 F0
     have H := H.draw
     rw [← F0] at H
     clear F0
     have hS := Chg.refl c2 [rb]
     refine RG.node' (qs [0, 1, 2, 3, 4, 5, 6, 8, 9, 10, 11, 13]) (by as_aux_lemma => kernel_rfl) ?_
     refine uHP hS 1 ?_
     refine uHV 29 1 hS (H.cells 0 rfl) (nq1 (H.neMW 0 rfl 1 rfl)) ?_
     refine uHP hS 2 ?_
     refine uHV 29 1 hS (H.cells 0 rfl) (nq1 (H.neMW 0 rfl 1 rfl)) ?_
     refine uHP hS 1 ?_
     have H := H.frontW 1 (W' := [⟨SB, 23, .slice (some ⟨rb, 0, none⟩) r rc, (clTo i f pr at_ col k)⟩, ⟨SB, 23, .slice (some ⟨lb, 0, none⟩) r lc, clTo f f pl at_ col (k + 1)⟩]) rfl
     have C1 : r = (clTo i f pr at_ col k).length := by rw [clTo_len]; omega
     have D1 : k < (clTo i f pr at_ col k).length := by rw [clTo_len]; omega
     refine RH.indexW (d := some 86) (r := (qs [8, 9, 10, 11, 13])) (T := 29) (e := 23) (m := 1) (ik := .i64) (ix := (k : Int)) (sh := SB) (xs := (clTo i f pr at_ col k)) (a := (some ⟨rb, 0, none⟩)) (len := r) (cap := rc) (by as_aux_lemma => kernel_rfl) hS (by as_aux_lemma => kernel_rfl) rfl H k (by omega) D1 C1 ?_
     intro _ _ E1 s M
     cases E1
     rw [clTo_get (by omega) (.inl (by omega)) _] at M
     obtain ⟨_, _, rfl⟩ := Shape.slice_form' M
     have H := H.addR M
     refine uHP hS 1 ?_
     refine uHV 29 1 hS (H.cells 0 rfl) (nq1 (H.neMW 0 rfl 0 rfl)) ?_
     refine qHP hS 1 (qs [11, 13]) [(1, .I at_), (2, .I col), (3, .P n 0), (10, .int .u8 ((((f[k])[col]).toNat : Nat) : Int)), (46, .slice (some ⟨lb, 0, none⟩) r lc), (47, .I ((r : Nat) : Int)), (48, .I k), (81, .slice (some ⟨rb, 0, none⟩) r rc), (82, .I k), (86, .pointer (some ⟨rb, k * 1, none⟩)), (89, .slice (some ⟨rb, 0, none⟩) r rc), (90, .I at_)] ?_
     have F1 : r = (clTo i f pr at_ col k).length := by rw [clTo_len]; omega
     have G1 : at_ < (clTo i f pr at_ col k).length := by rw [clTo_len]; omega
     refine RH.indexW (d := some 91) (r := [(13, .qui)]) (T := 29) (e := 23) (m := 1) (ik := .i64) (ix := (at_ : Int)) (sh := SB) (xs := (clTo i f pr at_ col k)) (a := (some ⟨rb, 0, none⟩)) (len := r) (cap := rc) (by as_aux_lemma => kernel_rfl) hS (by as_aux_lemma => kernel_rfl) rfl H at_ (by omega) G1 F1 ?_
     intro _ _ H1 t N
     cases H1
     rw [(clTo_get (by omega) (.inr rfl) _).trans (hRp _)] at N
     obtain ⟨_, _, rfl⟩ := Shape.slice_form' N
     have H := H.addR N
     refine uHB hS 1 ?_
     refine (RGB.cons' ?_ (RGB.cons' ?_ RGB.nil'))
     ·
      refine RG.leaf' [(7, .seq), (12, .seq), (14, .seq), (15, .qui), (16, .qui), (17, .qui), (18, .qui), (19, .seq)] (by as_aux_lemma => kernel_rfl) ?_
      have Hr := H
      refine RH.chn hS ?_
      refine uV 23 0 s ?_
      intro hS
      have Hr := H
      refine RH.chn hS ?_
      refine uV 23 0 t ?_
      intro hS
      have Hr := H
      refine RH.chn hS ?_
      refine uK (mix_spec (xs := i[k]) (ys := pr) ((f[k])[col]) (H.rp 1 rfl) (H.rp 0 rfl) (by first | omega | assumption) (by omega)) ?_
      rintro _ _ - ⟨Q, U, rfl, H'⟩
      have H := H.back (M1 := []) (W1 := []) H'
      have H : Hp w S O [_] [⟨Sb, 5, .slice Q ((mixL (i[k]) pr ((f[k])[col])).length) U, mixL (i[k]) pr ((f[k])[col])⟩, _, _] [_, _, _, _, _, _, _] _ := H
      intro hS
      refine uHP hS 3 ?_
      have H := H.frontW 1 (W' := [⟨SB, 23, .slice (some ⟨rb, 0, none⟩) r rc, (clTo i f pr at_ col k)⟩, ⟨Sb, 5, .slice Q ((mixL (i[k]) pr ((f[k])[col])).length) U, mixL (i[k]) pr ((f[k])[col])⟩, ⟨SB, 23, .slice (some ⟨lb, 0, none⟩) r lc, clTo f f pl at_ col (k + 1)⟩]) rfl
      have G0 : r = (clTo i f pr at_ col k).length := by rw [clTo_len]; omega
      have I0 : k < (clTo i f pr at_ col k).length := by rw [clTo_len]; omega
      refine RH.indexW (d := some 97) (r := [(19, .seq)]) (T := 29) (e := 23) (m := 1) (ik := .i64) (ix := (k : Int)) (sh := SB) (xs := (clTo i f pr at_ col k)) (a := (some ⟨rb, 0, none⟩)) (len := r) (cap := rc) (by as_aux_lemma => kernel_rfl) hS (by as_aux_lemma => kernel_rfl) rfl H k (by omega) I0 G0 ?_
      intro _ _ I1 _ V
      cases I1
      rw [clTo_get (by omega) (.inl (by omega)) _] at V
      obtain ⟨_, _, rfl⟩ := Shape.slice_form' V
      have H := H.addR V
      refine RH.sto ?_
      have H : Hp w S O [_] [_, _] [Rp SB [.slice Q ((mixL (i[k]) pr ((f[k])[col])).length) U] (mixL (i[k]) pr ((f[k])[col])), _, _, _, _, _, _, _, _] _ := H.freezeW 1 rfl
      refine RW.storeWC (d := none) (r := []) (e := 23) (m := 1) (b := rb) (k := k) (v := .slice Q ((mixL (i[k]) pr ((f[k])[col])).length) U) (by as_aux_lemma => kernel_rfl) rfl (by as_aux_lemma => kernel_rfl) H rfl I0 G0 (mixL (i[k]) pr ((f[k])[col])) (H.rp 0 rfl) ?_
      intro _ l1 H
      have H := H.reW (ys := clTo i f pr at_ col (k + 1)) (clTo_hit' (by omega) (by omega) hen hcz rfl)
      have J0 := hS.sto l1 (.inr (by simp))
      refine ⟨J0, ?_⟩
      have hS := J0
      refine uHF hS 0 ?_
      refine uR 1 [.c [4, 0, 0, 3], .l [4, 0, 0], .b 0] ?_
      refine qG (sq 0 2) ?_
      refine uI ((k : Int) + 1) ?_
      refine uF 1 ?_
      have H := H.pick [] rfl
      have H := H.frontW 1 (W' := [⟨SB, 23, .slice (some ⟨lb, 0, none⟩) r lc, clTo f f pl at_ col (k + 1)⟩, ⟨SB, 23, .slice (some ⟨rb, 0, none⟩) r rc, clTo i f pr at_ col (k + 1)⟩]) rfl
      exact uB (j (k + 1) _ ⟨H, by omega⟩ (by first | omega | (simp only []; omega)))
     ·
      refine RG.leaf' [(12, .seq), (7, .seq), (14, .seq), (15, .qui), (16, .qui), (17, .qui), (18, .qui), (19, .seq)] (by as_aux_lemma => kernel_rfl) ?_
      have Hr := H
      refine RH.chn hS ?_
      refine uV 23 0 t ?_
      intro hS
      have Hr := H
      refine RH.chn hS ?_
      refine uV 23 0 s ?_
      intro hS
      have Hr := H
      refine RH.chn hS ?_
      refine uK (mix_spec (xs := i[k]) (ys := pr) ((f[k])[col]) (H.rp 1 rfl) (H.rp 0 rfl) (by first | omega | assumption) (by omega)) ?_
      rintro _ _ - ⟨W, X, rfl, H'⟩
      have H := H.back (M1 := []) (W1 := []) H'
      have H : Hp w S O [_] [⟨Sb, 5, .slice W ((mixL (i[k]) pr ((f[k])[col])).length) X, mixL (i[k]) pr ((f[k])[col])⟩, _, _] [_, _, _, _, _, _, _] _ := H
      intro hS
      refine uHP hS 3 ?_
      have H := H.frontW 1 (W' := [⟨SB, 23, .slice (some ⟨rb, 0, none⟩) r rc, (clTo i f pr at_ col k)⟩, ⟨Sb, 5, .slice W ((mixL (i[k]) pr ((f[k])[col])).length) X, mixL (i[k]) pr ((f[k])[col])⟩, ⟨SB, 23, .slice (some ⟨lb, 0, none⟩) r lc, clTo f f pl at_ col (k + 1)⟩]) rfl
      have K0 : r = (clTo i f pr at_ col k).length := by rw [clTo_len]; omega
      have L0 : k < (clTo i f pr at_ col k).length := by rw [clTo_len]; omega
      refine RH.indexW (d := some 97) (r := [(19, .seq)]) (T := 29) (e := 23) (m := 1) (ik := .i64) (ix := (k : Int)) (sh := SB) (xs := (clTo i f pr at_ col k)) (a := (some ⟨rb, 0, none⟩)) (len := r) (cap := rc) (by as_aux_lemma => kernel_rfl) hS (by as_aux_lemma => kernel_rfl) rfl H k (by omega) L0 K0 ?_
      intro _ _ J1 _ Y
      cases J1
      rw [clTo_get (by omega) (.inl (by omega)) _] at Y
      obtain ⟨_, _, rfl⟩ := Shape.slice_form' Y
      have H := H.addR Y
      refine RH.sto ?_
      have H : Hp w S O [_] [_, _] [Rp SB [.slice W ((mixL (i[k]) pr ((f[k])[col])).length) X] (mixL (i[k]) pr ((f[k])[col])), _, _, _, _, _, _, _, _] _ := H.freezeW 1 rfl
      refine RW.storeWC (d := none) (r := []) (e := 23) (m := 1) (b := rb) (k := k) (v := .slice W ((mixL (i[k]) pr ((f[k])[col])).length) X) (by as_aux_lemma => kernel_rfl) rfl (by as_aux_lemma => kernel_rfl) H rfl L0 K0 (mixL (i[k]) pr ((f[k])[col])) (H.rp 0 rfl) ?_
      intro _ m1 H
      have H := H.reW (ys := clTo i f pr at_ col (k + 1)) (clTo_hit' (by omega) (by omega) hen hcz rfl)
      have M0 := hS.sto m1 (.inr (by simp))
      refine ⟨M0, ?_⟩
      have hS := M0
      refine uHF hS 0 ?_
      refine uR 1 [.c [4, 0, 0, 3], .l [4, 0, 0], .b 0] ?_
      refine qG (sq 0 2) ?_
      refine uI ((k : Int) + 1) ?_
      refine uF 1 ?_
      have H := H.pick [] rfl
      have H := H.frontW 1 (W' := [⟨SB, 23, .slice (some ⟨lb, 0, none⟩) r lc, clTo f f pl at_ col (k + 1)⟩, ⟨SB, 23, .slice (some ⟨rb, 0, none⟩) r rc, clTo i f pr at_ col (k + 1)⟩]) rfl
      exact uB (j (k + 1) _ ⟨H, by omega⟩ (by first | omega | (simp only []; omega)))
    ·
     refine uR 2 [.c [4, 0, 0, 3], .l [4, 0, 0], .b 0] ?_
     refine qG (sq 0 2) ?_
     refine uI ((k : Int) + 1) ?_
     refine uF 1 ?_
     have hms : k = at_ ∨ entAt f k col = 0#8 := by first | exact .inl (by omega) | exact .inr (hen.trans (bvz0 (by omega)))
     rw [clTo_miss (A := f) (p := pl) hms, clTo_miss (A := i) (p := pr) hms] at H
     have H : Hp w S O [_] [⟨SB, 23, .slice (some ⟨lb, 0, none⟩) r lc, (clTo f f pl at_ col (k + 1))⟩, ⟨SB, 23, .slice (some ⟨rb, 0, none⟩) r rc, (clTo i f pr at_ col (k + 1))⟩] [_, _] _ := H
     have H := H.pick [] rfl
     exact uB (j (k + 1) _ ⟨H, by omega⟩ (by first | omega | (simp only []; omega)))
   ·
    refine qF 3 [(1, .I at_), (2, .I col), (3, .P n 0), (8, .I k), (9, .slice h1 (f[k]).length i1), (10, .int .u8 ((((f[k])[col]).toNat : Nat) : Int)), (46, .slice (some ⟨lb, 0, none⟩) r lc), (47, .I ((r : Nat) : Int)), (48, .I k), (63, .bool false)] ?_
    refine uR 3 [.c [4, 0, 0, 3], .l [4, 0, 0], .b 0] ?_
    refine qG (sq 0 2) ?_
    refine uI ((k : Int) + 1) ?_
    refine uF 1 ?_
    have hms : k = at_ ∨ entAt f k col = 0#8 := by first | exact .inl (by omega) | exact .inr (hen.trans (bvz0 (by omega)))
    rw [clTo_miss (A := f) (p := pl) hms, clTo_miss (A := i) (p := pr) hms] at H
    have H : Hp w S O [_] [_, _] [_, _] _ := H
    have H := H.pick [] rfl
    exact uB (j (k + 1) _ ⟨H, by omega⟩ (by first | omega | (simp only []; omega)))
  ·
   refine uR 1 [] ?_
   refine WK.fin (v := .tuple #[]) Try.func152 (by as_aux_lemma => kernel_rfl) ?_
   have hke : k = r := by omega
   rw [hke] at H
   have hla : at_ < L.length := by omega
   have hra : at_ < R.length := by omega
   have hlc : col < (L[at_]).length := by omega
   have e1 : clTo f f pl at_ col r = clearL L at_ col := by
    unfold clearL
    dsimp only
    rw [rowAt_eq hla, entAt_eq hla hlc, ← hpl, ← B, V1]
   have e2 : clTo i f pr at_ col r = clearR L R at_ col := by
    unfold clearR
    dsimp only
    rw [rowAt_eq hla, rowAt_eq hra, entAt_eq hla hlc, ← hpl, ← hpr, ← B, ← f0, hR]
   rw [e1, e2] at H
   have H := H.dropM 0
   exact ⟨_, rfl, rfl, H.pick [] rfl⟩
end Go.Proofs.Ytppcdmbkgficiaa
