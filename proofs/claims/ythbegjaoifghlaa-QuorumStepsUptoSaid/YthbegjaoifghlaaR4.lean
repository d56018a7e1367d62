import Derived.Test.YthbegjaoifghlaaR3
namespace Go.Proofs.Ythbegjaoifghlaa
open Go.BX

theorem stepOf_len {C D : Conf} {Z : CStep} {e : Int} (h : (D, e) = stepOf C Z) : D.voters.length + D.learners.length ≤ 4194304 := by
  unfold stepOf at h
  split at h
  · obtain ⟨rfl, -⟩ := Prod.mk.inj h; simp
  · rename_i hs
    have hok : okConf C = true := by
      unfold stepOk at hs
      cases hq : okConf C with
      | true => rfl
      | false => rw [hq] at hs; simp at hs
    have hl := ok_len hok
    have d1 : (drp Z.node C.voters).length ≤ C.voters.length := drp_le
    have d2 : (drp Z.node C.learners).length ≤ C.learners.length := drp_le
    split at h
    · obtain ⟨rfl, -⟩ := Prod.mk.inj h; simp only [ins_length]; omega
    · split at h
      · obtain ⟨rfl, -⟩ := Prod.mk.inj h; simp only [ins_length]; omega
      · split at h
        · obtain ⟨rfl, -⟩ := Prod.mk.inj h; simp only []; omega
        · obtain ⟨rfl, -⟩ := Prod.mk.inj h; simp

theorem steps_spec {S : Nat → Prop} {w : World} {cs : List Value} {C : Conf} (h : confS.rep S w cs C) {zs : List Value} {Z : CStep} (hz : cstepS.rep S w zs Z) (hb1 : C.voters.length ≤ 1048576) (hb2 : C.learners.length ≤ 1048576) :
    Calls Try.prog 4 #[.agg cs.toArray, .agg zs.toArray] w (Ret fun v w' => Ext w w' ∧ v = .bool true) := by
  obtain ⟨a0C, k0C, a1C, k1C, rfl, hvC, hlC⟩ := conf_open h
  obtain ⟨rfl, hb1Z, hb2Z⟩ := cstep_open hz
  refine WK.calls1 (fn := Try.f4) (n := 40) (σ := [(0, .agg #[.slice a0C C.voters.length k0C, .slice a1C C.learners.length k1C]), (1, .agg #[.int .i64 Z.kind, .int .i64 Z.node])]) Try.func4 rfl (by as_aux_lemma => kernel_rfl) (by as_aux_lemma => kernel_rfl) (by as_aux_lemma => kernel_rfl) ?_
  have H := Hp.startF (w := w) (S := S) (G := [Rp (Shape.slice (Shape.int .i64)) [.slice a0C C.voters.length k0C] C.voters, Rp (Shape.slice (Shape.int .i64)) [.slice a1C C.learners.length k1C] C.learners]) (.rp hvC (.rp hlC .nil))
  refine WK.run 1 [0, 1] [.code (cd Try.prog 4 [0]), .code (cd Try.prog 4 [1])] [(0, .agg #[.slice a0C C.voters.length k0C, .slice a1C C.learners.length k1C]), (1, .agg #[.int .i64 Z.kind, .int .i64 Z.node])] (by as_aux_lemma => kernel_rfl) ?_
  refine WK.reg1 (l := sq 0 3) (by as_aux_lemma => kernel_rfl) (by as_aux_lemma => kernel_rfl) ?_
  refine RW.new (κ := .seq) (d := some 2) (r := (sq 1 3)) (o := .cells #[.slice a0C C.voters.length k0C, .slice a1C C.learners.length k1C] 24 (0, 0)) (v := fun b => .pointer (some ⟨b, 0, none⟩)) (fun b => by as_aux_lemma => kernel_rfl) (nofun) H ?_
  intro b1 w2 H
  refine RW.new (κ := .seq) (d := some 3) (r := (sq 2 3)) (o := .cells #[.int .i64 Z.kind, .int .i64 Z.node] 34 (0, 0)) (v := fun b => .pointer (some ⟨b, 0, none⟩)) (fun b => by as_aux_lemma => kernel_rfl) (nofun) H ?_
  intro b3 w4 H
  refine RW.fin 1 [2, 3] [(2, .pointer (some ⟨b1, 0, none⟩)), (3, .pointer (some ⟨b3, 0, none⟩))] (by as_aux_lemma => kernel_rfl) ?_
  refine WK.run 1 [2, 3] [.code (cd Try.prog 4 [1, 0]), .code (cd Try.prog 4 [2])] [(2, .pointer (some ⟨b1, 0, none⟩)), (3, .pointer (some ⟨b3, 0, none⟩))] (by as_aux_lemma => kernel_rfl) ?_
  refine WK.reg1 (l := sq 0 4) (by as_aux_lemma => kernel_rfl) (by as_aux_lemma => kernel_rfl) ?_
  refine RW.load (κ := .seq) (d := some 10) (r := (sq 1 4)) (T := 24) (b := b1) (o' := 0) (k := 0) (v := .agg #[.slice a0C C.voters.length k0C, .slice a1C C.learners.length k1C]) (by as_aux_lemma => kernel_rfl) (H.cells 1 rfl) rfl (by as_aux_lemma => kernel_rfl) ?_
  refine RW.call (κ := .seq) (d := some 11) (r := (sq 2 4)) (g := 12) (args := #[.agg #[.slice a0C C.voters.length k0C, .slice a1C C.learners.length k1C]]) (by as_aux_lemma => kernel_rfl) (nofun) (refcopy_spec (C := C) (conf_mk (H.rp 0 rfl) (H.rp 1 rfl)) (by omega) (by omega)) ?_
  rintro _ w5 hE8 ⟨_, rfl, hr9⟩
  obtain ⟨a11, k12, a13, k14, rfl, hv15, hl16⟩ := conf_open hr9
  have H2 := H.addN hE8 (F := Rp (Shape.slice (Shape.int .i64)) [.slice a11 C.voters.length k12] C.voters) hv15
  have H := H2.add (F := Rp (Shape.slice (Shape.int .i64)) [.slice a13 C.learners.length k14] C.learners) ((H.addN hE8 (F := Rp (Shape.slice (Shape.int .i64)) [.slice a13 C.learners.length k14] C.learners) hl16).rp 0 rfl)
  refine RW.new (κ := .seq) (d := some 5) (r := (sq 3 4)) (o := .cells #[.slice none 0 0, .slice none 0 0] 24 (0, 0)) (v := fun b => .pointer (some ⟨b, 0, none⟩)) (fun b => by as_aux_lemma => kernel_rfl) (nofun) H ?_
  intro b17 w18 H
  refine RW.store (d := none) (r := (sq 4 4)) (T := 24) (b := b17) (k := 0) (v := .agg #[.slice a11 C.voters.length k12, .slice a13 C.learners.length k14]) (c' := #[.slice a11 C.voters.length k12, .slice a13 C.learners.length k14]) (M' := [(b17, .cells #[.slice a11 C.voters.length k12, .slice a13 C.learners.length k14] 24 (0, 0)), (b3, .cells #[.int .i64 Z.kind, .int .i64 Z.node] 34 (0, 0)), (b1, .cells #[.slice a0C C.voters.length k0C, .slice a1C C.learners.length k1C] 24 (0, 0))]) (by as_aux_lemma => kernel_rfl) H 0 rfl (by as_aux_lemma => kernel_rfl) (by as_aux_lemma => kernel_rfl) ?_
  intro w19 H
  refine RW.fin 0 [2, 3, 5] [(2, .pointer (some ⟨b1, 0, none⟩)), (3, .pointer (some ⟨b3, 0, none⟩)), (5, .pointer (some ⟨b17, 0, none⟩))] (by as_aux_lemma => kernel_rfl) ?_
  refine WK.run 1 [2, 3, 5] [.code (cd Try.prog 4 [2, 0]), .code (cd Try.prog 4 [3])] [(2, .pointer (some ⟨b1, 0, none⟩)), (3, .pointer (some ⟨b3, 0, none⟩)), (5, .pointer (some ⟨b17, 0, none⟩))] (by as_aux_lemma => kernel_rfl) ?_
  refine WK.reg1 (l := sq 0 9) (by as_aux_lemma => kernel_rfl) (by as_aux_lemma => kernel_rfl) ?_
  refine RW.load (κ := .seq) (d := some 13) (r := (sq 1 9)) (T := 24) (b := b17) (o' := 0) (k := 0) (v := .agg #[.slice a11 C.voters.length k12, .slice a13 C.learners.length k14]) (by as_aux_lemma => kernel_rfl) (H.cells 0 rfl) rfl (by as_aux_lemma => kernel_rfl) ?_
  refine RW.load (κ := .seq) (d := some 14) (r := (sq 2 9)) (T := 34) (b := b3) (o' := 0) (k := 0) (v := .agg #[.int .i64 Z.kind, .int .i64 Z.node]) (by as_aux_lemma => kernel_rfl) (H.cells 1 rfl) rfl (by as_aux_lemma => kernel_rfl) ?_
  refine RW.call (κ := .seq) (d := some 15) (r := (sq 3 9)) (g := 13) (args := #[.agg #[.slice a11 C.voters.length k12, .slice a13 C.learners.length k14], .agg #[.int .i64 Z.kind, .int .i64 Z.node]]) (by as_aux_lemma => kernel_rfl) (nofun) (step_spec (C := C) (Z := Z) (conf_mk (H.rp 1 rfl) (H.rp 0 rfl)) (cstep_mk (Shape.int_mk ⟨by simp [IntKind.min, IntKind.max, IntKind.signed, IntKind.bits]; omega, by simp [IntKind.min, IntKind.max, IntKind.signed, IntKind.bits]; omega⟩) (Shape.int_mk ⟨by simp [IntKind.min, IntKind.max, IntKind.signed, IntKind.bits]; omega, by simp [IntKind.min, IntKind.max, IntKind.signed, IntKind.bits]; omega⟩))) ?_
  rintro _ w20 hE23 ⟨_, D21, e22, rfl, hr24, hD25⟩
  have hlnD21 := stepOf_len hD25
  obtain ⟨a26, k27, a28, k29, rfl, hv30, hl31⟩ := conf_open hr24
  have H2 := H.addN hE23 (F := Rp (Shape.slice (Shape.int .i64)) [.slice a26 D21.voters.length k27] D21.voters) hv30
  have H := H2.add (F := Rp (Shape.slice (Shape.int .i64)) [.slice a28 D21.learners.length k29] D21.learners) ((H.addN hE23 (F := Rp (Shape.slice (Shape.int .i64)) [.slice a28 D21.learners.length k29] D21.learners) hl31).rp 0 rfl)
  refine RW.runP 3 [2, 3, 5, 16, 17] (sq 6 9) [(2, .pointer (some ⟨b1, 0, none⟩)), (3, .pointer (some ⟨b3, 0, none⟩)), (5, .pointer (some ⟨b17, 0, none⟩)), (16, .agg #[.slice a26 D21.voters.length k27, .slice a28 D21.learners.length k29]), (17, .int .i64 e22)] (by as_aux_lemma => kernel_rfl) (by as_aux_lemma => kernel_rfl) ?_
  refine RW.new (κ := .seq) (d := some 6) (r := (sq 7 9)) (o := .cells #[.slice none 0 0, .slice none 0 0] 24 (0, 0)) (v := fun b => .pointer (some ⟨b, 0, none⟩)) (fun b => by as_aux_lemma => kernel_rfl) (nofun) H ?_
  intro b32 w33 H
  refine RW.store (d := none) (r := (sq 8 9)) (T := 24) (b := b32) (k := 0) (v := .agg #[.slice a26 D21.voters.length k27, .slice a28 D21.learners.length k29]) (c' := #[.slice a26 D21.voters.length k27, .slice a28 D21.learners.length k29]) (M' := [(b32, .cells #[.slice a26 D21.voters.length k27, .slice a28 D21.learners.length k29] 24 (0, 0)), (b17, .cells #[.slice a11 C.voters.length k12, .slice a13 C.learners.length k14] 24 (0, 0)), (b3, .cells #[.int .i64 Z.kind, .int .i64 Z.node] 34 (0, 0)), (b1, .cells #[.slice a0C C.voters.length k0C, .slice a1C C.learners.length k1C] 24 (0, 0))]) (by as_aux_lemma => kernel_rfl) H 0 rfl (by as_aux_lemma => kernel_rfl) (by as_aux_lemma => kernel_rfl) ?_
  intro w34 H
  refine RW.fin 1 [2, 3, 5, 6, 7] [(2, .pointer (some ⟨b1, 0, none⟩)), (3, .pointer (some ⟨b3, 0, none⟩)), (5, .pointer (some ⟨b17, 0, none⟩)), (6, .pointer (some ⟨b32, 0, none⟩)), (7, .int .i64 e22)] (by as_aux_lemma => kernel_rfl) ?_
  refine WK.run 1 [2, 3, 5, 6, 7] [.code (cd Try.prog 4 [3, 0]), .code (cd Try.prog 4 [4])] [(2, .pointer (some ⟨b1, 0, none⟩)), (3, .pointer (some ⟨b3, 0, none⟩)), (5, .pointer (some ⟨b17, 0, none⟩)), (6, .pointer (some ⟨b32, 0, none⟩)), (7, .int .i64 e22)] (by as_aux_lemma => kernel_rfl) ?_
  refine WK.reg1 (l := sq 0 9) (by as_aux_lemma => kernel_rfl) (by as_aux_lemma => kernel_rfl) ?_
  refine RW.load (κ := .seq) (d := some 19) (r := (sq 1 9)) (T := 24) (b := b1) (o' := 0) (k := 0) (v := .agg #[.slice a0C C.voters.length k0C, .slice a1C C.learners.length k1C]) (by as_aux_lemma => kernel_rfl) (H.cells 3 rfl) rfl (by as_aux_lemma => kernel_rfl) ?_
  refine RW.load (κ := .seq) (d := some 20) (r := (sq 2 9)) (T := 34) (b := b3) (o' := 0) (k := 0) (v := .agg #[.int .i64 Z.kind, .int .i64 Z.node]) (by as_aux_lemma => kernel_rfl) (H.cells 2 rfl) rfl (by as_aux_lemma => kernel_rfl) ?_
  refine RW.call (κ := .seq) (d := some 21) (r := (sq 3 9)) (g := 14) (args := #[.agg #[.slice a0C C.voters.length k0C, .slice a1C C.learners.length k1C], .agg #[.int .i64 Z.kind, .int .i64 Z.node]]) (by as_aux_lemma => kernel_rfl) (nofun) (refstep_spec (C := C) (Z := Z) (conf_mk (H.rp 4 rfl) (H.rp 5 rfl)) (cstep_mk (Shape.int_mk ⟨by simp [IntKind.min, IntKind.max, IntKind.signed, IntKind.bits]; omega, by simp [IntKind.min, IntKind.max, IntKind.signed, IntKind.bits]; omega⟩) (Shape.int_mk ⟨by simp [IntKind.min, IntKind.max, IntKind.signed, IntKind.bits]; omega, by simp [IntKind.min, IntKind.max, IntKind.signed, IntKind.bits]; omega⟩))) ?_
  rintro _ w35 hE38 ⟨_, D36, e37, rfl, hr39, hD40⟩
  have hlnD36 := stepOf_len hD40
  obtain ⟨a41, k42, a43, k44, rfl, hv45, hl46⟩ := conf_open hr39
  have H2 := H.addN hE38 (F := Rp (Shape.slice (Shape.int .i64)) [.slice a41 D36.voters.length k42] D36.voters) hv45
  have H := H2.add (F := Rp (Shape.slice (Shape.int .i64)) [.slice a43 D36.learners.length k44] D36.learners) ((H.addN hE38 (F := Rp (Shape.slice (Shape.int .i64)) [.slice a43 D36.learners.length k44] D36.learners) hl46).rp 0 rfl)
  refine RW.runP 3 [2, 5, 6, 7, 22, 23] (sq 6 9) [(2, .pointer (some ⟨b1, 0, none⟩)), (5, .pointer (some ⟨b17, 0, none⟩)), (6, .pointer (some ⟨b32, 0, none⟩)), (7, .int .i64 e22), (22, .agg #[.slice a41 D36.voters.length k42, .slice a43 D36.learners.length k44]), (23, .int .i64 e37)] (by as_aux_lemma => kernel_rfl) (by as_aux_lemma => kernel_rfl) ?_
  refine RW.new (κ := .seq) (d := some 8) (r := (sq 7 9)) (o := .cells #[.slice none 0 0, .slice none 0 0] 24 (0, 0)) (v := fun b => .pointer (some ⟨b, 0, none⟩)) (fun b => by as_aux_lemma => kernel_rfl) (nofun) H ?_
  intro b47 w48 H
  refine RW.store (d := none) (r := (sq 8 9)) (T := 24) (b := b47) (k := 0) (v := .agg #[.slice a41 D36.voters.length k42, .slice a43 D36.learners.length k44]) (c' := #[.slice a41 D36.voters.length k42, .slice a43 D36.learners.length k44]) (M' := [(b47, .cells #[.slice a41 D36.voters.length k42, .slice a43 D36.learners.length k44] 24 (0, 0)), (b32, .cells #[.slice a26 D21.voters.length k27, .slice a28 D21.learners.length k29] 24 (0, 0)), (b17, .cells #[.slice a11 C.voters.length k12, .slice a13 C.learners.length k14] 24 (0, 0)), (b3, .cells #[.int .i64 Z.kind, .int .i64 Z.node] 34 (0, 0)), (b1, .cells #[.slice a0C C.voters.length k0C, .slice a1C C.learners.length k1C] 24 (0, 0))]) (by as_aux_lemma => kernel_rfl) H 0 rfl (by as_aux_lemma => kernel_rfl) (by as_aux_lemma => kernel_rfl) ?_
  intro w49 H
  refine RW.fin 1 [2, 5, 6, 7, 8, 9] [(2, .pointer (some ⟨b1, 0, none⟩)), (5, .pointer (some ⟨b17, 0, none⟩)), (6, .pointer (some ⟨b32, 0, none⟩)), (7, .int .i64 e22), (8, .pointer (some ⟨b47, 0, none⟩)), (9, .int .i64 e37)] (by as_aux_lemma => kernel_rfl) ?_
  refine WK.run 1 [2, 5, 6, 7, 8, 9] [.code (cd Try.prog 4 [4, 0]), .code (cd Try.prog 4 [5])] [(2, .pointer (some ⟨b1, 0, none⟩)), (5, .pointer (some ⟨b17, 0, none⟩)), (6, .pointer (some ⟨b32, 0, none⟩)), (7, .int .i64 e22), (8, .pointer (some ⟨b47, 0, none⟩)), (9, .int .i64 e37)] (by as_aux_lemma => kernel_rfl) ?_
  refine WK.reg1 (l := sq 0 17) (by as_aux_lemma => kernel_rfl) (by as_aux_lemma => kernel_rfl) ?_
  refine RW.load (κ := .seq) (d := some 24) (r := (sq 1 17)) (T := 24) (b := b32) (o' := 0) (k := 0) (v := .agg #[.slice a26 D21.voters.length k27, .slice a28 D21.learners.length k29]) (by as_aux_lemma => kernel_rfl) (H.cells 1 rfl) rfl (by as_aux_lemma => kernel_rfl) ?_
  refine RW.load (κ := .seq) (d := some 25) (r := (sq 2 17)) (T := 24) (b := b47) (o' := 0) (k := 0) (v := .agg #[.slice a41 D36.voters.length k42, .slice a43 D36.learners.length k44]) (by as_aux_lemma => kernel_rfl) (H.cells 0 rfl) rfl (by as_aux_lemma => kernel_rfl) ?_
  refine RW.call (κ := .seq) (d := some 26) (r := (sq 3 17)) (g := 15) (args := #[.agg #[.slice a26 D21.voters.length k27, .slice a28 D21.learners.length k29], .agg #[.slice a41 D36.voters.length k42, .slice a43 D36.learners.length k44]]) (by as_aux_lemma => kernel_rfl) (nofun) (sameconf_spec (C := D21) (D := D36) (conf_mk (H.rp 3 rfl) (H.rp 2 rfl)) (conf_mk (H.rp 1 rfl) (H.rp 0 rfl)) (by first | omega | assumption) (by first | omega | assumption)) ?_
  rintro _ w50 hE51 rfl
  have H := H.ext hE51
  refine RW.runP 1 [2, 5, 7, 9, 27] (sq 4 17) [(2, .pointer (some ⟨b1, 0, none⟩)), (5, .pointer (some ⟨b17, 0, none⟩)), (7, .int .i64 e22), (9, .int .i64 e37), (27, .bool ((strOf (confE D21)).toList == (strOf (confE D36)).toList))] (by as_aux_lemma => kernel_rfl) (by as_aux_lemma => kernel_rfl) ?_
  refine RW.test (fun b_ => [(2, .pointer (some ⟨b1, 0, none⟩)), (5, .pointer (some ⟨b17, 0, none⟩)), (7, .int .i64 e22), (9, .int .i64 e37), (27, .bool b_)]) ((strOf (confE D21)).toList == (strOf (confE D36)).toList) (fun h52 => ?_) (fun h52 => ?_)
  · skip
    replace h52 := eq_of_beq h52
    refine RW.runP 5 [2, 5, 32] (sq 9 17) [(2, .pointer (some ⟨b1, 0, none⟩)), (5, .pointer (some ⟨b17, 0, none⟩)), (32, .bool (e22 == e37))] (by as_aux_lemma => kernel_rfl) (by as_aux_lemma => kernel_rfl) ?_
    refine RW.test (fun b_ => [(2, .pointer (some ⟨b1, 0, none⟩)), (5, .pointer (some ⟨b17, 0, none⟩)), (32, .bool b_)]) (e22 == e37) (fun h53 => ?_) (fun h53 => ?_)
    · skip
      replace h53 := eq_of_beq h53
      refine RW.load (κ := .seq) (d := some 33) (r := (sq 10 17)) (T := 24) (b := b17) (o' := 0) (k := 0) (v := .agg #[.slice a11 C.voters.length k12, .slice a13 C.learners.length k14]) (by as_aux_lemma => kernel_rfl) (H.cells 2 rfl) rfl (by as_aux_lemma => kernel_rfl) ?_
      refine RW.load (κ := .seq) (d := some 34) (r := (sq 11 17)) (T := 24) (b := b1) (o' := 0) (k := 0) (v := .agg #[.slice a0C C.voters.length k0C, .slice a1C C.learners.length k1C]) (by as_aux_lemma => kernel_rfl) (H.cells 4 rfl) rfl (by as_aux_lemma => kernel_rfl) ?_
      refine RW.call (κ := .seq) (d := some 35) (r := (sq 12 17)) (g := 15) (args := #[.agg #[.slice a11 C.voters.length k12, .slice a13 C.learners.length k14], .agg #[.slice a0C C.voters.length k0C, .slice a1C C.learners.length k1C]]) (by as_aux_lemma => kernel_rfl) (nofun) (sameconf_spec (C := C) (D := C) (conf_mk (H.rp 5 rfl) (H.rp 4 rfl)) (conf_mk (H.rp 6 rfl) (H.rp 7 rfl)) (by first | omega | assumption) (by first | omega | assumption)) ?_
      rintro _ w54 hE55 rfl
      have H := H.ext hE55
      refine RW.runP 2 [37] (sq 14 17) [(37, .bool ((strOf (confE C)).toList == (strOf (confE C)).toList))] (by as_aux_lemma => kernel_rfl) (by as_aux_lemma => kernel_rfl) ?_
      refine RW.test (fun b_ => [(37, .bool b_)]) ((strOf (confE C)).toList == (strOf (confE C)).toList) (fun h56 => ?_) (fun h56 => ?_)
      · skip
        replace h56 := eq_of_beq h56
        refine RW.call (κ := .seq) (d := some 38) (r := (sq 15 17)) (g := 9) (args := #[]) (by as_aux_lemma => kernel_rfl) (nofun) (heads_spec (S := fun _ => True)) ?_
        rintro _ w57 hE58 rfl
        have H := H.ext hE58
        refine RW.fin 2 [4] [(4, .bool true)] (by as_aux_lemma => kernel_rfl) ?_
        refine WK.ret (v := .bool true) Try.func4 (by as_aux_lemma => kernel_rfl) (by as_aux_lemma => kernel_rfl) ?_
        exact ⟨_, rfl, H.done, rfl⟩
      · skip
        replace h56 := ne_of_beq_false h56
        exact absurd rfl h56
    · skip
      replace h53 := ne_of_beq_false h53
      exact absurd (Prod.mk.inj (hD25.trans hD40.symm)).2 h53
  · skip
    replace h52 := ne_of_beq_false h52
    exact absurd (by rw [(Prod.mk.inj (hD25.trans hD40.symm)).1]) h52


end Go.Proofs.Ythbegjaoifghlaa
