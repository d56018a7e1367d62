import Derived.Test.YthbegjaoifghlaaSQ1
namespace Go.Proofs.Ythbegjaoifghlaa
open Go.BX
theorem check_spec {S : Nat → Prop} {w : World} {cs : List Value} {C : Conf} (h : confS.rep S w cs C) :
 Calls Try.prog 7 #[.agg cs.toArray] w (Ret fun v w' => Ext w w' ∧ v = .int .i64 (errOf (okConf C))) := by
 obtain ⟨a0C, k0C, a1C, k1C, rfl, hvC, hlC⟩ := conf_open h
 refine WK.calls1 (fn := Try.f7) (n := 27) (σ := [(0, .agg #[.slice a0C C.voters.length k0C, .slice a1C C.learners.length k1C])]) Try.func7 rfl (by as_aux_lemma => kernel_rfl) (by as_aux_lemma => kernel_rfl) (by as_aux_lemma => kernel_rfl) ?_
 have H := Hp.startF (w := w) (S := S) (G := [Rp (Shape.slice (Shape.int .i64)) [.slice a0C C.voters.length k0C] C.voters, Rp (Shape.slice (Shape.int .i64)) [.slice a1C C.learners.length k1C] C.learners]) (.rp hvC (.rp hlC .nil))
 refine WK.run 1 [0] [.code (cd Try.prog 7 [0]), .code (cd Try.prog 7 [1])] [(0, .agg #[.slice a0C C.voters.length k0C, .slice a1C C.learners.length k1C])] (by as_aux_lemma => kernel_rfl) ?_
 refine WK.reg1 (l := sq 0 2) (by as_aux_lemma => kernel_rfl) (by as_aux_lemma => kernel_rfl) ?_
 refine RW.new (κ := .seq) (d := some 1) (r := (sq 1 2)) (o := .cells #[.slice a0C C.voters.length k0C, .slice a1C C.learners.length k1C] 24 (0, 0)) (v := fun b => .pointer (some ⟨b, 0, none⟩)) (fun b => by as_aux_lemma => kernel_rfl) (nofun) H ?_
 intro b1 w2 H
 refine RW.fin 1 [1] [(1, .pointer (some ⟨b1, 0, none⟩))] (by as_aux_lemma => kernel_rfl) ?_
 refine WK.run 2 [1] [.code (cd Try.prog 7 [1, 0, 0]), .code (cd Try.prog 7 [1, 0, 1]), .code (cd Try.prog 7 [2])] [(1, .pointer (some ⟨b1, 0, none⟩))] (by as_aux_lemma => kernel_rfl) ?_
 refine WK.reg1 (l := sq 0 24) (by as_aux_lemma => kernel_rfl) (by as_aux_lemma => kernel_rfl) ?_
 refine RW.runP 1 [1, 3] (sq 1 24) [(1, .pointer (some ⟨b1, 0, none⟩)), (3, .pointer (some ⟨b1, 0, none⟩))] (by as_aux_lemma => kernel_rfl) (by as_aux_lemma => kernel_rfl) ?_
 refine RW.load (κ := .seq) (d := some 4) (r := (sq 2 24)) (T := 22) (b := b1) (o' := 0) (k := 0) (v := .slice a0C C.voters.length k0C) (by as_aux_lemma => kernel_rfl) (H.cells 0 rfl) rfl (by as_aux_lemma => kernel_rfl) ?_
 refine RW.runP 3 [1, 7] (sq 5 24) [(1, .pointer (some ⟨b1, 0, none⟩)), (7, .bool (((C.voters.length : Nat) : Int) == 0))] (by as_aux_lemma => kernel_rfl) (by as_aux_lemma => kernel_rfl) ?_
 refine RW.test (fun b_ => [(1, .pointer (some ⟨b1, 0, none⟩)), (7, .bool b_)]) (((C.voters.length : Nat) : Int) == 0) (fun h3 => ?_) (fun h3 => ?_)
 ·
  replace h3 := eq_of_beq h3
  refine RW.fin 19 [26] [(26, .bool true)] (by as_aux_lemma => kernel_rfl) ?_
  refine WK.run 3 [2] [.code (cd Try.prog 7 [1, 0, 1, 0, 1]), .code (cd Try.prog 7 [2])] [(2, .int .i64 120)] (by as_aux_lemma => kernel_rfl) ?_
  refine WK.ret (v := .int .i64 120) Try.func7 (by as_aux_lemma => kernel_rfl) (by as_aux_lemma => kernel_rfl) ?_
  refine ⟨_, rfl, H.done, ?_⟩
  congr 1
  exact (errOf_no fun hk => by obtain ⟨k1, k2, k3, k4⟩ := okConf_iff.1 hk; first | omega | simp_all).symm
 ·
  replace h3 := ne_of_beq_false h3
  refine RW.runP 1 [1, 7, 8] (sq 6 24) [(1, .pointer (some ⟨b1, 0, none⟩)), (7, .bool false), (8, .pointer (some ⟨b1, 0, none⟩))] (by as_aux_lemma => kernel_rfl) (by as_aux_lemma => kernel_rfl) ?_
  refine RW.load (κ := .seq) (d := some 9) (r := (sq 7 24)) (T := 22) (b := b1) (o' := 0) (k := 0) (v := .slice a0C C.voters.length k0C) (by as_aux_lemma => kernel_rfl) (H.cells 0 rfl) rfl (by as_aux_lemma => kernel_rfl) ?_
  refine RW.call (κ := .seq) (d := some 10) (r := (sq 8 24)) (g := 18) (args := #[.slice a0C C.voters.length k0C]) (by as_aux_lemma => kernel_rfl) (nofun) (rises_spec (H.rp 0 rfl)) ?_
  rintro _ w4 hE5 rfl
  have H := H.ext hE5
  refine RW.runP 3 [1, 13] (sq 11 24) [(1, .pointer (some ⟨b1, 0, none⟩)), (13, .bool (!(risesFrom 0 C.voters)))] (by as_aux_lemma => kernel_rfl) (by as_aux_lemma => kernel_rfl) ?_
  refine RW.test (fun b_ => [(1, .pointer (some ⟨b1, 0, none⟩)), (13, .bool b_)]) (!(risesFrom 0 C.voters)) (fun h6 => ?_) (fun h6 => ?_)
  ·
   replace h6 : (risesFrom 0 C.voters) = false := by revert h6; cases (risesFrom 0 C.voters) <;> simp
   refine RW.fin 13 [26] [(26, .bool true)] (by as_aux_lemma => kernel_rfl) ?_
   refine WK.run 3 [2] [.code (cd Try.prog 7 [1, 0, 1, 0, 1]), .code (cd Try.prog 7 [2])] [(2, .int .i64 120)] (by as_aux_lemma => kernel_rfl) ?_
   refine WK.ret (v := .int .i64 120) Try.func7 (by as_aux_lemma => kernel_rfl) (by as_aux_lemma => kernel_rfl) ?_
   refine ⟨_, rfl, H.done, ?_⟩
   congr 1
   exact (errOf_no fun hk => by obtain ⟨k1, k2, k3, k4⟩ := okConf_iff.1 hk; first | omega | simp_all).symm
  ·
   replace h6 : (risesFrom 0 C.voters) = true := by revert h6; cases (risesFrom 0 C.voters) <;> simp
   refine RW.runP 1 [1, 13, 14] (sq 12 24) [(1, .pointer (some ⟨b1, 0, none⟩)), (13, .bool false), (14, .pointer (some ⟨b1, 1, none⟩))] (by as_aux_lemma => kernel_rfl) (by as_aux_lemma => kernel_rfl) ?_
   refine RW.load (κ := .seq) (d := some 15) (r := (sq 13 24)) (T := 22) (b := b1) (o' := 1) (k := 1) (v := .slice a1C C.learners.length k1C) (by as_aux_lemma => kernel_rfl) (H.cells 0 rfl) rfl (by as_aux_lemma => kernel_rfl) ?_
   refine RW.call (κ := .seq) (d := some 16) (r := (sq 14 24)) (g := 18) (args := #[.slice a1C C.learners.length k1C]) (by as_aux_lemma => kernel_rfl) (nofun) (rises_spec (H.rp 1 rfl)) ?_
   rintro _ w7 hE8 rfl
   have H := H.ext hE8
   refine RW.runP 3 [1, 19] (sq 17 24) [(1, .pointer (some ⟨b1, 0, none⟩)), (19, .bool (!(risesFrom 0 C.learners)))] (by as_aux_lemma => kernel_rfl) (by as_aux_lemma => kernel_rfl) ?_
   refine RW.test (fun b_ => [(1, .pointer (some ⟨b1, 0, none⟩)), (19, .bool b_)]) (!(risesFrom 0 C.learners)) (fun h9 => ?_) (fun h9 => ?_)
   ·
    replace h9 : (risesFrom 0 C.learners) = false := by revert h9; cases (risesFrom 0 C.learners) <;> simp
    refine RW.fin 7 [26] [(26, .bool true)] (by as_aux_lemma => kernel_rfl) ?_
    refine WK.run 3 [2] [.code (cd Try.prog 7 [1, 0, 1, 0, 1]), .code (cd Try.prog 7 [2])] [(2, .int .i64 120)] (by as_aux_lemma => kernel_rfl) ?_
    refine WK.ret (v := .int .i64 120) Try.func7 (by as_aux_lemma => kernel_rfl) (by as_aux_lemma => kernel_rfl) ?_
    refine ⟨_, rfl, H.done, ?_⟩
    congr 1
    exact (errOf_no fun hk => by obtain ⟨k1, k2, k3, k4⟩ := okConf_iff.1 hk; first | omega | simp_all).symm
   ·
    replace h9 : (risesFrom 0 C.learners) = true := by revert h9; cases (risesFrom 0 C.learners) <;> simp
    refine RW.runP 1 [1, 19, 20] (sq 18 24) [(1, .pointer (some ⟨b1, 0, none⟩)), (19, .bool false), (20, .pointer (some ⟨b1, 0, none⟩))] (by as_aux_lemma => kernel_rfl) (by as_aux_lemma => kernel_rfl) ?_
    refine RW.load (κ := .seq) (d := some 21) (r := (sq 19 24)) (T := 22) (b := b1) (o' := 0) (k := 0) (v := .slice a0C C.voters.length k0C) (by as_aux_lemma => kernel_rfl) (H.cells 0 rfl) rfl (by as_aux_lemma => kernel_rfl) ?_
    refine RW.runP 1 [19, 21, 22] (sq 20 24) [(19, .bool false), (21, .slice a0C C.voters.length k0C), (22, .pointer (some ⟨b1, 1, none⟩))] (by as_aux_lemma => kernel_rfl) (by as_aux_lemma => kernel_rfl) ?_
    refine RW.load (κ := .seq) (d := some 23) (r := (sq 21 24)) (T := 22) (b := b1) (o' := 1) (k := 1) (v := .slice a1C C.learners.length k1C) (by as_aux_lemma => kernel_rfl) (H.cells 0 rfl) rfl (by as_aux_lemma => kernel_rfl) ?_
    refine RW.call (κ := .seq) (d := some 24) (r := (sq 22 24)) (g := 19) (args := #[.slice a0C C.voters.length k0C, .slice a1C C.learners.length k1C]) (by as_aux_lemma => kernel_rfl) (nofun) (common_spec (H.rp 0 rfl) (H.rp 1 rfl)) ?_
    rintro _ w10 hE11 rfl
    have H := H.ext hE11
    refine RW.fin 2 [26] [(26, .bool (decide ((((common C.voters C.learners : Nat) : Int) : Int) > 0)))] (by as_aux_lemma => kernel_rfl) ?_
    refine WK.cond1 (decide ((((common C.voters C.learners : Nat) : Int) : Int) > 0)) (by as_aux_lemma => kernel_rfl) (by as_aux_lemma => kernel_rfl) (fun h12 => ?_) (fun h12 => ?_)
    ·
     replace h12 := of_decide_eq_true h12
     refine WK.run 2 [2] [.code (cd Try.prog 7 [1, 0, 1, 0, 1]), .code (cd Try.prog 7 [2])] [(2, .int .i64 120)] (by as_aux_lemma => kernel_rfl) ?_
     refine WK.ret (v := .int .i64 120) Try.func7 (by as_aux_lemma => kernel_rfl) (by as_aux_lemma => kernel_rfl) ?_
     refine ⟨_, rfl, H.done, ?_⟩
     congr 1
     exact (errOf_no fun hk => by obtain ⟨k1, k2, k3, k4⟩ := okConf_iff.1 hk; first | omega | simp_all).symm
    ·
     replace h12 := of_decide_eq_false h12
     refine WK.run 3 [2] [.code (cd Try.prog 7 [3])] [(2, .int .i64 0)] (by as_aux_lemma => kernel_rfl) ?_
     refine WK.ret (v := .int .i64 0) Try.func7 (by as_aux_lemma => kernel_rfl) (by as_aux_lemma => kernel_rfl) ?_
     refine ⟨_, rfl, H.done, ?_⟩
     congr 1
     exact (errOf_yes (okConf_iff.2 ⟨by omega, by assumption, by assumption, by omega⟩)).symm
theorem most_spec {S : Nat → Prop} {w : World} {cs : List Value} {C : Conf} (h : confS.rep S w cs C) (m : Int) (hm : 0 ≤ m ∧ m ≤ 4611686018427387903) :
 Calls Try.prog 20 #[.agg cs.toArray, .int .i64 m] w (Ret fun v w' => Ext w w' ∧ v = .bool (decide (2 * m > (C.voters.length : Int)))) := by
 obtain ⟨a0C, k0C, a1C, k1C, rfl, hvC, hlC⟩ := conf_open h
 refine WK.calls1 (fn := Try.f20) (n := 11) (σ := [(0, .agg #[.slice a0C C.voters.length k0C, .slice a1C C.learners.length k1C]), (1, .int .i64 m)]) Try.func20 rfl (by as_aux_lemma => kernel_rfl) (by as_aux_lemma => kernel_rfl) (by as_aux_lemma => kernel_rfl) ?_
 have H := Hp.startF (w := w) (S := S) (G := [Rp (Shape.slice (Shape.int .i64)) [.slice a0C C.voters.length k0C] C.voters, Rp (Shape.slice (Shape.int .i64)) [.slice a1C C.learners.length k1C] C.learners]) (.rp hvC (.rp hlC .nil))
 refine WK.run 1 [0, 1] [.code (cd Try.prog 20 [0]), .code (cd Try.prog 20 [1])] [(0, .agg #[.slice a0C C.voters.length k0C, .slice a1C C.learners.length k1C]), (1, .int .i64 m)] (by as_aux_lemma => kernel_rfl) ?_
 refine WK.reg1 (l := sq 0 2) (by as_aux_lemma => kernel_rfl) (by as_aux_lemma => kernel_rfl) ?_
 refine RW.new (κ := .seq) (d := some 2) (r := (sq 1 2)) (o := .cells #[.slice a0C C.voters.length k0C, .slice a1C C.learners.length k1C] 24 (0, 0)) (v := fun b => .pointer (some ⟨b, 0, none⟩)) (fun b => by as_aux_lemma => kernel_rfl) (nofun) H ?_
 intro b1 w2 H
 refine RW.fin 1 [1, 2] [(1, .int .i64 m), (2, .pointer (some ⟨b1, 0, none⟩))] (by as_aux_lemma => kernel_rfl) ?_
 refine WK.run 1 [1, 2] [.code (cd Try.prog 20 [1, 0]), .code (cd Try.prog 20 [2])] [(1, .int .i64 m), (2, .pointer (some ⟨b1, 0, none⟩))] (by as_aux_lemma => kernel_rfl) ?_
 refine WK.reg1 (l := sq 0 7) (by as_aux_lemma => kernel_rfl) (by as_aux_lemma => kernel_rfl) ?_
 refine RW.runP 1 [2, 5] (sq 1 7) [(2, .pointer (some ⟨b1, 0, none⟩)), (5, .int .i64 m)] (by as_aux_lemma => kernel_rfl) (by as_aux_lemma => kernel_rfl) ?_
 refine RW.wr64 (κ := .seq) (d := some 6) (r := (sq 2 7)) (t := 2 * m) (by as_aux_lemma => kernel_rfl) (by omega) ?_
 refine RW.runP 1 [6, 7] (sq 3 7) [(6, .int .i64 (2 * m)), (7, .pointer (some ⟨b1, 0, none⟩))] (by as_aux_lemma => kernel_rfl) (by as_aux_lemma => kernel_rfl) ?_
 refine RW.load (κ := .seq) (d := some 8) (r := (sq 4 7)) (T := 22) (b := b1) (o' := 0) (k := 0) (v := .slice a0C C.voters.length k0C) (by as_aux_lemma => kernel_rfl) (H.cells 0 rfl) rfl (by as_aux_lemma => kernel_rfl) ?_
 refine RW.fin 3 [4] [(4, .bool (decide ((2 * m : Int) > ((C.voters.length : Nat) : Int))))] (by as_aux_lemma => kernel_rfl) ?_
 refine WK.ret (v := .bool (decide ((2 * m : Int) > ((C.voters.length : Nat) : Int)))) Try.func20 (by as_aux_lemma => kernel_rfl) (by as_aux_lemma => kernel_rfl) ?_
 exact ⟨_, rfl, H.done, rfl⟩
theorem majority_spec {S : Nat → Prop} {w : World} {cs : List Value} {C : Conf} (h : confS.rep S w cs C) {xs : List Int} {a : Option Addr} {c : Nat} (hxs : (Shape.slice (.int .i64)).rep S w [.slice a xs.length c] xs) (hsm : C.voters.length ≤ 4611686018427387903) :
 Calls Try.prog 8 #[.agg cs.toArray, .slice a xs.length c] w (Ret fun v w' => Ext w w' ∧ v = .bool (majB C xs)) := by
 obtain ⟨a0C, k0C, a1C, k1C, rfl, hvC, hlC⟩ := conf_open h
 refine WK.calls1 (fn := Try.f8) (n := 11) (σ := [(0, .agg #[.slice a0C C.voters.length k0C, .slice a1C C.learners.length k1C]), (1, .slice a xs.length c)]) Try.func8 rfl (by as_aux_lemma => kernel_rfl) (by as_aux_lemma => kernel_rfl) (by as_aux_lemma => kernel_rfl) ?_
 have H := Hp.startF (w := w) (S := S) (G := [Rp (Shape.slice (Shape.int .i64)) [.slice a0C C.voters.length k0C] C.voters, Rp (Shape.slice (Shape.int .i64)) [.slice a1C C.learners.length k1C] C.learners, Rp (Shape.slice (Shape.int .i64)) [.slice a xs.length c] xs]) (.rp hvC (.rp hlC (.rp hxs .nil)))
 refine WK.run 1 [0, 1] [.code (cd Try.prog 8 [0]), .code (cd Try.prog 8 [1])] [(0, .agg #[.slice a0C C.voters.length k0C, .slice a1C C.learners.length k1C]), (1, .slice a xs.length c)] (by as_aux_lemma => kernel_rfl) ?_
 refine WK.reg1 (l := sq 0 2) (by as_aux_lemma => kernel_rfl) (by as_aux_lemma => kernel_rfl) ?_
 refine RW.new (κ := .seq) (d := some 2) (r := (sq 1 2)) (o := .cells #[.slice a0C C.voters.length k0C, .slice a1C C.learners.length k1C] 24 (0, 0)) (v := fun b => .pointer (some ⟨b, 0, none⟩)) (fun b => by as_aux_lemma => kernel_rfl) (nofun) H ?_
 intro b1 w2 H
 refine RW.fin 1 [1, 2] [(1, .slice a xs.length c), (2, .pointer (some ⟨b1, 0, none⟩))] (by as_aux_lemma => kernel_rfl) ?_
 refine WK.run 1 [1, 2] [.code (cd Try.prog 8 [1, 0]), .code (cd Try.prog 8 [2])] [(1, .slice a xs.length c), (2, .pointer (some ⟨b1, 0, none⟩))] (by as_aux_lemma => kernel_rfl) ?_
 refine WK.draw1 7 [(0, .qui), (1, .qui), (2, .qui), (3, .qui), (4, .chn), (5, .chn), (6, .qui)] [(0, .qui), (1, .qui), (2, .qui), (3, .qui), (4, .chn), (5, .chn), (6, .qui)] Try_mixed (by as_aux_lemma => kernel_rfl) (by as_aux_lemma => kernel_rfl) (by as_aux_lemma => kernel_rfl) ?_
 have H := H.draw
 generalize ({ w2 with drawn := w2.drawn + 1 } : World) = w3 at H ⊢
 refine RW.load (κ := .qui) (d := some 5) (r := [(1, .qui), (2, .qui), (3, .qui), (4, .chn), (5, .chn), (6, .qui)]) (T := 24) (b := b1) (o' := 0) (k := 0) (v := .agg #[.slice a0C C.voters.length k0C, .slice a1C C.learners.length k1C]) (by as_aux_lemma => kernel_rfl) (H.cells 0 rfl) rfl (by as_aux_lemma => kernel_rfl) ?_
 refine RW.runP 1 [1, 5, 6] [(2, .qui), (3, .qui), (4, .chn), (5, .chn), (6, .qui)] [(1, .slice a xs.length c), (5, .agg #[.slice a0C C.voters.length k0C, .slice a1C C.learners.length k1C]), (6, .pointer (some ⟨b1, 0, none⟩))] (by as_aux_lemma => kernel_rfl) (by as_aux_lemma => kernel_rfl) ?_
 refine RW.load (κ := .qui) (d := some 7) (r := [(3, .qui), (4, .chn), (5, .chn), (6, .qui)]) (T := 22) (b := b1) (o' := 0) (k := 0) (v := .slice a0C C.voters.length k0C) (by as_aux_lemma => kernel_rfl) (H.cells 0 rfl) rfl (by as_aux_lemma => kernel_rfl) ?_
 refine RW.runP 1 [5, 7, 8] [(4, .chn), (5, .chn), (6, .qui)] [(5, .agg #[.slice a0C C.voters.length k0C, .slice a1C C.learners.length k1C]), (7, .slice a0C C.voters.length k0C), (8, .slice a xs.length c)] (by as_aux_lemma => kernel_rfl) (by as_aux_lemma => kernel_rfl) ?_
 refine RW.call (κ := .chn) (d := some 9) (r := [(5, .chn), (6, .qui)]) (g := 19) (args := #[.slice a0C C.voters.length k0C, .slice a xs.length c]) (by as_aux_lemma => kernel_rfl) (nofun) (common_spec (H.rp 0 rfl) (H.rp 2 rfl)) ?_
 rintro _ w4 hE5 rfl
 have H := H.ext hE5
 refine RW.call (κ := .chn) (d := some 10) (r := [(6, .qui)]) (g := 20) (args := #[.agg #[.slice a0C C.voters.length k0C, .slice a1C C.learners.length k1C], .int .i64 ((common C.voters xs : Nat) : Int)]) (by as_aux_lemma => kernel_rfl) (nofun) (most_spec (C := C) (conf_mk (H.rp 0 rfl) (H.rp 1 rfl)) ((common C.voters xs : Nat) : Int) (by have := common_le C.voters xs; omega)) ?_
 rintro _ w6 hE7 rfl
 have H := H.ext hE7
 refine RW.fin 1 [4] [(4, .bool (decide (2 * ((common C.voters xs : Nat) : Int) > (C.voters.length : Int))))] (by as_aux_lemma => kernel_rfl) ?_
 refine WK.ret (v := .bool (decide (2 * ((common C.voters xs : Nat) : Int) > (C.voters.length : Int)))) Try.func8 (by as_aux_lemma => kernel_rfl) (by as_aux_lemma => kernel_rfl) ?_
 exact ⟨_, rfl, H.done, rfl⟩
theorem votes_spec {S : Nat → Prop} {w : World} {cs : List Value} {C : Conf} (h : confS.rep S w cs C) (x : Int) :
 Calls Try.prog 11 #[.agg cs.toArray, .int .i64 x] w (Ret fun v w' => Ext w w' ∧ v = .bool (decide (x ∈ C.voters))) := by
 obtain ⟨a0C, k0C, a1C, k1C, rfl, hvC, hlC⟩ := conf_open h
 refine WK.calls1 (fn := Try.f11) (n := 9) (σ := [(0, .agg #[.slice a0C C.voters.length k0C, .slice a1C C.learners.length k1C]), (1, .int .i64 x)]) Try.func11 rfl (by as_aux_lemma => kernel_rfl) (by as_aux_lemma => kernel_rfl) (by as_aux_lemma => kernel_rfl) ?_
 have H := Hp.startF (w := w) (S := S) (G := [Rp (Shape.slice (Shape.int .i64)) [.slice a0C C.voters.length k0C] C.voters, Rp (Shape.slice (Shape.int .i64)) [.slice a1C C.learners.length k1C] C.learners]) (.rp hvC (.rp hlC .nil))
 refine WK.run 1 [0, 1] [.code (cd Try.prog 11 [0]), .code (cd Try.prog 11 [1])] [(0, .agg #[.slice a0C C.voters.length k0C, .slice a1C C.learners.length k1C]), (1, .int .i64 x)] (by as_aux_lemma => kernel_rfl) ?_
 refine WK.reg1 (l := sq 0 2) (by as_aux_lemma => kernel_rfl) (by as_aux_lemma => kernel_rfl) ?_
 refine RW.new (κ := .seq) (d := some 2) (r := (sq 1 2)) (o := .cells #[.slice a0C C.voters.length k0C, .slice a1C C.learners.length k1C] 24 (0, 0)) (v := fun b => .pointer (some ⟨b, 0, none⟩)) (fun b => by as_aux_lemma => kernel_rfl) (nofun) H ?_
 intro b1 w2 H
 refine RW.fin 1 [1, 2] [(1, .int .i64 x), (2, .pointer (some ⟨b1, 0, none⟩))] (by as_aux_lemma => kernel_rfl) ?_
 refine WK.run 1 [1, 2] [.code (cd Try.prog 11 [1, 0]), .code (cd Try.prog 11 [2])] [(1, .int .i64 x), (2, .pointer (some ⟨b1, 0, none⟩))] (by as_aux_lemma => kernel_rfl) ?_
 refine WK.reg1 (l := sq 0 5) (by as_aux_lemma => kernel_rfl) (by as_aux_lemma => kernel_rfl) ?_
 refine RW.runP 1 [1, 5] (sq 1 5) [(1, .int .i64 x), (5, .pointer (some ⟨b1, 0, none⟩))] (by as_aux_lemma => kernel_rfl) (by as_aux_lemma => kernel_rfl) ?_
 refine RW.load (κ := .seq) (d := some 6) (r := (sq 2 5)) (T := 22) (b := b1) (o' := 0) (k := 0) (v := .slice a0C C.voters.length k0C) (by as_aux_lemma => kernel_rfl) (H.cells 0 rfl) rfl (by as_aux_lemma => kernel_rfl) ?_
 refine RW.runP 1 [6, 7] (sq 3 5) [(6, .slice a0C C.voters.length k0C), (7, .int .i64 x)] (by as_aux_lemma => kernel_rfl) (by as_aux_lemma => kernel_rfl) ?_
 refine RW.call (κ := .seq) (d := some 8) (r := (sq 4 5)) (g := 21) (args := #[.slice a0C C.voters.length k0C, .int .i64 x]) (by as_aux_lemma => kernel_rfl) (nofun) (contains_spec x (H.rp 0 rfl)) ?_
 rintro _ w3 hE4 rfl
 have H := H.ext hE4
 refine RW.fin 1 [4] [(4, .bool (decide (x ∈ C.voters)))] (by as_aux_lemma => kernel_rfl) ?_
 refine WK.ret (v := .bool (decide (x ∈ C.voters))) Try.func11 (by as_aux_lemma => kernel_rfl) (by as_aux_lemma => kernel_rfl) ?_
 exact ⟨_, rfl, H.done, rfl⟩
theorem least_spec {S : Nat → Prop} {w : World} {cs : List Value} {C : Conf} (h : confS.rep S w cs C) (m : Int) (hm : 0 ≤ m ∧ m ≤ C.voters.length) (hsm : C.voters.length ≤ 4611686018427387903) :
 Calls Try.prog 29 #[.agg cs.toArray, .int .i64 m] w (Ret fun v w' => Ext w w' ∧ v = .int .i64 (leastOf C m)) := by
 obtain ⟨a0C, k0C, a1C, k1C, rfl, hvC, hlC⟩ := conf_open h
 refine WK.calls1 (fn := Try.f29) (n := 17) (σ := [(0, .agg #[.slice a0C C.voters.length k0C, .slice a1C C.learners.length k1C]), (1, .int .i64 m)]) Try.func29 rfl (by as_aux_lemma => kernel_rfl) (by as_aux_lemma => kernel_rfl) (by as_aux_lemma => kernel_rfl) ?_
 have H := Hp.startF (w := w) (S := S) (G := [Rp (Shape.slice (Shape.int .i64)) [.slice a0C C.voters.length k0C] C.voters, Rp (Shape.slice (Shape.int .i64)) [.slice a1C C.learners.length k1C] C.learners]) (.rp hvC (.rp hlC .nil))
 refine WK.run 1 [0, 1] [.code (cd Try.prog 29 [0]), .code (cd Try.prog 29 [1])] [(0, .agg #[.slice a0C C.voters.length k0C, .slice a1C C.learners.length k1C]), (1, .int .i64 m)] (by as_aux_lemma => kernel_rfl) ?_
 refine WK.reg1 (l := sq 0 2) (by as_aux_lemma => kernel_rfl) (by as_aux_lemma => kernel_rfl) ?_
 refine RW.new (κ := .seq) (d := some 2) (r := (sq 1 2)) (o := .cells #[.slice a0C C.voters.length k0C, .slice a1C C.learners.length k1C] 24 (0, 0)) (v := fun b => .pointer (some ⟨b, 0, none⟩)) (fun b => by as_aux_lemma => kernel_rfl) (nofun) H ?_
 intro b1 w2 H
 refine RW.fin 1 [1, 2] [(1, .int .i64 m), (2, .pointer (some ⟨b1, 0, none⟩))] (by as_aux_lemma => kernel_rfl) ?_
 refine WK.run 1 [1, 2] [.code (cd Try.prog 29 [1, 0]), .code (cd Try.prog 29 [2])] [(1, .int .i64 m), (2, .pointer (some ⟨b1, 0, none⟩))] (by as_aux_lemma => kernel_rfl) ?_
 refine WK.reg1 (l := sq 0 13) (by as_aux_lemma => kernel_rfl) (by as_aux_lemma => kernel_rfl) ?_
 refine RW.runP 1 [1, 2, 5] (sq 1 13) [(1, .int .i64 m), (2, .pointer (some ⟨b1, 0, none⟩)), (5, .pointer (some ⟨b1, 0, none⟩))] (by as_aux_lemma => kernel_rfl) (by as_aux_lemma => kernel_rfl) ?_
 refine RW.load (κ := .seq) (d := some 6) (r := (sq 2 13)) (T := 22) (b := b1) (o' := 0) (k := 0) (v := .slice a0C C.voters.length k0C) (by as_aux_lemma => kernel_rfl) (H.cells 0 rfl) rfl (by as_aux_lemma => kernel_rfl) ?_
 refine RW.runP 1 [1, 2, 7] (sq 3 13) [(1, .int .i64 m), (2, .pointer (some ⟨b1, 0, none⟩)), (7, .int .i64 ((C.voters.length : Nat) : Int))] (by as_aux_lemma => kernel_rfl) (by as_aux_lemma => kernel_rfl) ?_
 refine RW.pv (κ := .seq) (d := some 8) (r := (sq 4 13)) (v := .int .i64 (IntKind.i64.wrap (((C.voters.length : Nat) : Int).tdiv 2))) (v' := .int .i64 (((C.voters.length : Nat) : Int) / 2)) (by as_aux_lemma => kernel_rfl) (quo_i64 (by decide) (by omega)) ?_
 refine RW.wr64 (κ := .seq) (d := some 9) (r := (sq 5 13)) (t := (((C.voters.length : Nat) : Int) / 2) + 1) (by as_aux_lemma => kernel_rfl) (by omega) ?_
 refine RW.runP 1 [1, 9, 10] (sq 6 13) [(1, .int .i64 m), (9, .int .i64 ((((C.voters.length : Nat) : Int) / 2) + 1)), (10, .pointer (some ⟨b1, 0, none⟩))] (by as_aux_lemma => kernel_rfl) (by as_aux_lemma => kernel_rfl) ?_
 refine RW.load (κ := .seq) (d := some 11) (r := (sq 7 13)) (T := 22) (b := b1) (o' := 0) (k := 0) (v := .slice a0C C.voters.length k0C) (by as_aux_lemma => kernel_rfl) (H.cells 0 rfl) rfl (by as_aux_lemma => kernel_rfl) ?_
 refine RW.runP 2 [9, 12, 13] (sq 9 13) [(9, .int .i64 ((((C.voters.length : Nat) : Int) / 2) + 1)), (12, .int .i64 ((C.voters.length : Nat) : Int)), (13, .int .i64 m)] (by as_aux_lemma => kernel_rfl) (by as_aux_lemma => kernel_rfl) ?_
 refine RW.wr64 (κ := .seq) (d := some 14) (r := (sq 10 13)) (t := ((C.voters.length : Nat) : Int) - m) (by as_aux_lemma => kernel_rfl) (by omega) ?_
 refine RW.wr64 (κ := .seq) (d := some 15) (r := (sq 11 13)) (t := ((((C.voters.length : Nat) : Int) / 2) + 1) - (((C.voters.length : Nat) : Int) - m)) (by as_aux_lemma => kernel_rfl) (by omega) ?_
 refine RW.fin 2 [4] [(4, .int .i64 (if ((((C.voters.length : Nat) : Int) / 2) + 1) - (((C.voters.length : Nat) : Int) - m) > 0 then ((((C.voters.length : Nat) : Int) / 2) + 1) - (((C.voters.length : Nat) : Int) - m) else 0))] (by as_aux_lemma => kernel_rfl) ?_
 refine WK.ret (v := .int .i64 (if ((((C.voters.length : Nat) : Int) / 2) + 1) - (((C.voters.length : Nat) : Int) - m) > 0 then ((((C.voters.length : Nat) : Int) / 2) + 1) - (((C.voters.length : Nat) : Int) - m) else 0)) Try.func29 (by as_aux_lemma => kernel_rfl) (by as_aux_lemma => kernel_rfl) ?_
 exact ⟨_, rfl, H.done, rfl⟩
theorem meets_spec {S : Nat → Prop} {w : World} {cs : List Value} {C : Conf} (h : confS.rep S w cs C) {ds : List Value} {D : Conf} (h2 : confS.rep S w ds D) :
 Calls Try.prog 16 #[.agg cs.toArray, .agg ds.toArray] w (Ret fun v w' => Ext w w' ∧ v = .bool (meetsB C D)) := by
 obtain ⟨a0C, k0C, a1C, k1C, rfl, hvC, hlC⟩ := conf_open h
 obtain ⟨a0D, k0D, a1D, k1D, rfl, hvD, hlD⟩ := conf_open h2
 refine WK.calls1 (fn := Try.f16) (n := 28) (σ := [(0, .agg #[.slice a0C C.voters.length k0C, .slice a1C C.learners.length k1C]), (1, .agg #[.slice a0D D.voters.length k0D, .slice a1D D.learners.length k1D])]) Try.func16 rfl (by as_aux_lemma => kernel_rfl) (by as_aux_lemma => kernel_rfl) (by as_aux_lemma => kernel_rfl) ?_
 have H := Hp.startF (w := w) (S := S) (G := [Rp (Shape.slice (Shape.int .i64)) [.slice a0C C.voters.length k0C] C.voters, Rp (Shape.slice (Shape.int .i64)) [.slice a1C C.learners.length k1C] C.learners, Rp (Shape.slice (Shape.int .i64)) [.slice a0D D.voters.length k0D] D.voters, Rp (Shape.slice (Shape.int .i64)) [.slice a1D D.learners.length k1D] D.learners]) (.rp hvC (.rp hlC (.rp hvD (.rp hlD .nil))))
 refine WK.run 1 [0, 1] [.code (cd Try.prog 16 [0]), .code (cd Try.prog 16 [1])] [(0, .agg #[.slice a0C C.voters.length k0C, .slice a1C C.learners.length k1C]), (1, .agg #[.slice a0D D.voters.length k0D, .slice a1D D.learners.length k1D])] (by as_aux_lemma => kernel_rfl) ?_
 refine WK.reg1 (l := sq 0 3) (by as_aux_lemma => kernel_rfl) (by as_aux_lemma => kernel_rfl) ?_
 refine RW.new (κ := .seq) (d := some 2) (r := (sq 1 3)) (o := .cells #[.slice a0C C.voters.length k0C, .slice a1C C.learners.length k1C] 24 (0, 0)) (v := fun b => .pointer (some ⟨b, 0, none⟩)) (fun b => by as_aux_lemma => kernel_rfl) (nofun) H ?_
 intro b1 w2 H
 refine RW.new (κ := .seq) (d := some 3) (r := (sq 2 3)) (o := .cells #[.slice a0D D.voters.length k0D, .slice a1D D.learners.length k1D] 24 (0, 0)) (v := fun b => .pointer (some ⟨b, 0, none⟩)) (fun b => by as_aux_lemma => kernel_rfl) (nofun) H ?_
 intro b3 w4 H
 refine RW.fin 1 [2, 3] [(2, .pointer (some ⟨b1, 0, none⟩)), (3, .pointer (some ⟨b3, 0, none⟩))] (by as_aux_lemma => kernel_rfl) ?_
 refine WK.run 2 [2, 3] [.code (cd Try.prog 16 [1, 0, 0]), .code (cd Try.prog 16 [1, 0, 1]), .code (cd Try.prog 16 [2])] [(2, .pointer (some ⟨b1, 0, none⟩)), (3, .pointer (some ⟨b3, 0, none⟩))] (by as_aux_lemma => kernel_rfl) ?_
 refine WK.reg1 (l := sq 0 8) (by as_aux_lemma => kernel_rfl) (by as_aux_lemma => kernel_rfl) ?_
 refine RW.load (κ := .seq) (d := some 6) (r := (sq 1 8)) (T := 24) (b := b1) (o' := 0) (k := 0) (v := .agg #[.slice a0C C.voters.length k0C, .slice a1C C.learners.length k1C]) (by as_aux_lemma => kernel_rfl) (H.cells 1 rfl) rfl (by as_aux_lemma => kernel_rfl) ?_
 refine RW.call (κ := .seq) (d := some 7) (r := (sq 2 8)) (g := 7) (args := #[.agg #[.slice a0C C.voters.length k0C, .slice a1C C.learners.length k1C]]) (by as_aux_lemma => kernel_rfl) (nofun) (check_spec (C := C) (conf_mk (H.rp 0 rfl) (H.rp 1 rfl))) ?_
 rintro _ w5 hE6 rfl
 have H := H.ext hE6
 refine RW.runP 2 [2, 3, 9] (sq 4 8) [(2, .pointer (some ⟨b1, 0, none⟩)), (3, .pointer (some ⟨b3, 0, none⟩)), (9, .bool ((errOf (okConf C)) != 0))] (by as_aux_lemma => kernel_rfl) (by as_aux_lemma => kernel_rfl) ?_
 refine RW.test (fun b_ => [(2, .pointer (some ⟨b1, 0, none⟩)), (3, .pointer (some ⟨b3, 0, none⟩)), (9, .bool b_)]) ((errOf (okConf C)) != 0) (fun h7 => ?_) (fun h7 => ?_)
 ·
  replace h7 := bne_iff_ne.1 h7
  have hokC := errOf_ne h7
  refine RW.fin 4 [2, 3, 13] [(2, .pointer (some ⟨b1, 0, none⟩)), (3, .pointer (some ⟨b3, 0, none⟩)), (13, .bool true)] (by as_aux_lemma => kernel_rfl) ?_
  refine WK.run 3 [4] [.code (cd Try.prog 16 [1, 0, 1, 0, 1]), .code (cd Try.prog 16 [2])] [(4, .bool false)] (by as_aux_lemma => kernel_rfl) ?_
  refine WK.ret (v := .bool false) Try.func16 (by as_aux_lemma => kernel_rfl) (by as_aux_lemma => kernel_rfl) ?_
  refine ⟨_, rfl, H.done, ?_⟩
  congr 1
  simp [meetsB, *]
 ·
  replace h7 := (bne_eq_false_iff_eq.1 h7)
  have hokC := errOf_eq h7
  have hlC := ok_len hokC
  refine RW.load (κ := .seq) (d := some 10) (r := (sq 5 8)) (T := 24) (b := b3) (o' := 0) (k := 0) (v := .agg #[.slice a0D D.voters.length k0D, .slice a1D D.learners.length k1D]) (by as_aux_lemma => kernel_rfl) (H.cells 0 rfl) rfl (by as_aux_lemma => kernel_rfl) ?_
  refine RW.call (κ := .seq) (d := some 11) (r := (sq 6 8)) (g := 7) (args := #[.agg #[.slice a0D D.voters.length k0D, .slice a1D D.learners.length k1D]]) (by as_aux_lemma => kernel_rfl) (nofun) (check_spec (C := D) (conf_mk (H.rp 2 rfl) (H.rp 3 rfl))) ?_
  rintro _ w8 hE9 rfl
  have H := H.ext hE9
  refine RW.fin 2 [2, 3, 13] [(2, .pointer (some ⟨b1, 0, none⟩)), (3, .pointer (some ⟨b3, 0, none⟩)), (13, .bool ((errOf (okConf D)) != 0))] (by as_aux_lemma => kernel_rfl) ?_
  refine WK.cond1 ((errOf (okConf D)) != 0) (by as_aux_lemma => kernel_rfl) (by as_aux_lemma => kernel_rfl) (fun h10 => ?_) (fun h10 => ?_)
  ·
   replace h10 := bne_iff_ne.1 h10
   have hokD := errOf_ne h10
   refine WK.run 2 [4] [.code (cd Try.prog 16 [1, 0, 1, 0, 1]), .code (cd Try.prog 16 [2])] [(4, .bool false)] (by as_aux_lemma => kernel_rfl) ?_
   refine WK.ret (v := .bool false) Try.func16 (by as_aux_lemma => kernel_rfl) (by as_aux_lemma => kernel_rfl) ?_
   refine ⟨_, rfl, H.done, ?_⟩
   congr 1
   simp [meetsB, *]
  ·
   replace h10 := (bne_eq_false_iff_eq.1 h10)
   have hokD := errOf_eq h10
   have hlD := ok_len hokD
   refine WK.run 2 [2, 3] [.code (cd Try.prog 16 [2, 0]), .code (cd Try.prog 16 [3])] [(2, .pointer (some ⟨b1, 0, none⟩)), (3, .pointer (some ⟨b3, 0, none⟩))] (by as_aux_lemma => kernel_rfl) ?_
   refine WK.reg1 (l := sq 0 6) (by as_aux_lemma => kernel_rfl) (by as_aux_lemma => kernel_rfl) ?_
   refine RW.runP 1 [2, 3, 14] (sq 1 6) [(2, .pointer (some ⟨b1, 0, none⟩)), (3, .pointer (some ⟨b3, 0, none⟩)), (14, .pointer (some ⟨b1, 0, none⟩))] (by as_aux_lemma => kernel_rfl) (by as_aux_lemma => kernel_rfl) ?_
   refine RW.load (κ := .seq) (d := some 15) (r := (sq 2 6)) (T := 22) (b := b1) (o' := 0) (k := 0) (v := .slice a0C C.voters.length k0C) (by as_aux_lemma => kernel_rfl) (H.cells 1 rfl) rfl (by as_aux_lemma => kernel_rfl) ?_
   refine RW.runP 1 [2, 3, 15, 16] (sq 3 6) [(2, .pointer (some ⟨b1, 0, none⟩)), (3, .pointer (some ⟨b3, 0, none⟩)), (15, .slice a0C C.voters.length k0C), (16, .pointer (some ⟨b3, 0, none⟩))] (by as_aux_lemma => kernel_rfl) (by as_aux_lemma => kernel_rfl) ?_
   refine RW.load (κ := .seq) (d := some 17) (r := (sq 4 6)) (T := 22) (b := b3) (o' := 0) (k := 0) (v := .slice a0D D.voters.length k0D) (by as_aux_lemma => kernel_rfl) (H.cells 0 rfl) rfl (by as_aux_lemma => kernel_rfl) ?_
   refine RW.call (κ := .seq) (d := some 18) (r := (sq 5 6)) (g := 19) (args := #[.slice a0C C.voters.length k0C, .slice a0D D.voters.length k0D]) (by as_aux_lemma => kernel_rfl) (nofun) (common_spec (H.rp 0 rfl) (H.rp 2 rfl)) ?_
   rintro _ w11 hE12 rfl
   have H := H.ext hE12
   have hcl := common_le C.voters D.voters
   have hcl2 := common_le2 (b := D.voters) (okConf_iff.1 hokC).2.1
   have hb1 := leastOf_bd (c := C) (k := (common C.voters D.voters : Nat)) (by omega) (by omega)
   have hb2 := leastOf_bd (c := D) (k := (common C.voters D.voters : Nat)) (by omega) (by omega)
   refine RW.fin 1 [2, 3, 5] [(2, .pointer (some ⟨b1, 0, none⟩)), (3, .pointer (some ⟨b3, 0, none⟩)), (5, .int .i64 ((common C.voters D.voters : Nat) : Int))] (by as_aux_lemma => kernel_rfl) ?_
   refine WK.run 1 [2, 3, 5] [.code (cd Try.prog 16 [3, 0]), .code (cd Try.prog 16 [4])] [(2, .pointer (some ⟨b1, 0, none⟩)), (3, .pointer (some ⟨b3, 0, none⟩)), (5, .int .i64 ((common C.voters D.voters : Nat) : Int))] (by as_aux_lemma => kernel_rfl) ?_
   refine WK.draw1 10 [(0, .qui), (1, .qui), (3, .qui), (4, .qui), (7, .qui), (2, .chn), (5, .chn), (6, .qui), (8, .qui), (9, .qui)] [(0, .qui), (1, .qui), (3, .qui), (4, .qui), (7, .qui), (2, .chn), (5, .chn), (6, .qui), (8, .qui), (9, .qui)] Try_mixed (by as_aux_lemma => kernel_rfl) (by as_aux_lemma => kernel_rfl) (by as_aux_lemma => kernel_rfl) ?_
   have H := H.draw
   generalize ({ w11 with drawn := w11.drawn + 1 } : World) = w13 at H ⊢
   refine RW.load (κ := .qui) (d := some 19) (r := [(1, .qui), (3, .qui), (4, .qui), (7, .qui), (2, .chn), (5, .chn), (6, .qui), (8, .qui), (9, .qui)]) (T := 24) (b := b1) (o' := 0) (k := 0) (v := .agg #[.slice a0C C.voters.length k0C, .slice a1C C.learners.length k1C]) (by as_aux_lemma => kernel_rfl) (H.cells 1 rfl) rfl (by as_aux_lemma => kernel_rfl) ?_
   refine RW.runP 1 [3, 5, 19, 20] [(3, .qui), (4, .qui), (7, .qui), (2, .chn), (5, .chn), (6, .qui), (8, .qui), (9, .qui)] [(3, .pointer (some ⟨b3, 0, none⟩)), (5, .int .i64 ((common C.voters D.voters : Nat) : Int)), (19, .agg #[.slice a0C C.voters.length k0C, .slice a1C C.learners.length k1C]), (20, .int .i64 ((common C.voters D.voters : Nat) : Int))] (by as_aux_lemma => kernel_rfl) (by as_aux_lemma => kernel_rfl) ?_
   refine RW.load (κ := .qui) (d := some 22) (r := [(4, .qui), (7, .qui), (2, .chn), (5, .chn), (6, .qui), (8, .qui), (9, .qui)]) (T := 24) (b := b3) (o' := 0) (k := 0) (v := .agg #[.slice a0D D.voters.length k0D, .slice a1D D.learners.length k1D]) (by as_aux_lemma => kernel_rfl) (H.cells 0 rfl) rfl (by as_aux_lemma => kernel_rfl) ?_
   refine RW.runP 2 [19, 20, 22, 23, 26] [(2, .chn), (5, .chn), (6, .qui), (8, .qui), (9, .qui)] [(19, .agg #[.slice a0C C.voters.length k0C, .slice a1C C.learners.length k1C]), (20, .int .i64 ((common C.voters D.voters : Nat) : Int)), (22, .agg #[.slice a0D D.voters.length k0D, .slice a1D D.learners.length k1D]), (23, .int .i64 ((common C.voters D.voters : Nat) : Int)), (26, .int .i64 ((common C.voters D.voters : Nat) : Int))] (by as_aux_lemma => kernel_rfl) (by as_aux_lemma => kernel_rfl) ?_
   refine RW.call (κ := .chn) (d := some 21) (r := [(5, .chn), (6, .qui), (8, .qui), (9, .qui)]) (g := 29) (args := #[.agg #[.slice a0C C.voters.length k0C, .slice a1C C.learners.length k1C], .int .i64 ((common C.voters D.voters : Nat) : Int)]) (by as_aux_lemma => kernel_rfl) (nofun) (least_spec (C := C) (conf_mk (H.rp 0 rfl) (H.rp 1 rfl)) ((common C.voters D.voters : Nat) : Int) (by omega) (by omega)) ?_
   rintro _ w14 hE15 rfl
   have H := H.ext hE15
   refine RW.call (κ := .chn) (d := some 24) (r := [(6, .qui), (8, .qui), (9, .qui)]) (g := 29) (args := #[.agg #[.slice a0D D.voters.length k0D, .slice a1D D.learners.length k1D], .int .i64 ((common C.voters D.voters : Nat) : Int)]) (by as_aux_lemma => kernel_rfl) (nofun) (least_spec (C := D) (conf_mk (H.rp 2 rfl) (H.rp 3 rfl)) ((common C.voters D.voters : Nat) : Int) (by omega) (by omega)) ?_
   rintro _ w16 hE17 rfl
   have H := H.ext hE17
   refine RW.wr64 (κ := .qui) (d := some 25) (r := [(8, .qui), (9, .qui)]) (t := (leastOf C ((common C.voters D.voters : Nat) : Int)) + (leastOf D ((common C.voters D.voters : Nat) : Int))) (by as_aux_lemma => kernel_rfl) (by omega) ?_
   refine RW.fin 2 [4] [(4, .bool (decide (((leastOf C ((common C.voters D.voters : Nat) : Int)) + (leastOf D ((common C.voters D.voters : Nat) : Int)) : Int) > ((common C.voters D.voters : Nat) : Int))))] (by as_aux_lemma => kernel_rfl) ?_
   refine WK.ret (v := .bool (decide (((leastOf C ((common C.voters D.voters : Nat) : Int)) + (leastOf D ((common C.voters D.voters : Nat) : Int)) : Int) > ((common C.voters D.voters : Nat) : Int)))) Try.func16 (by as_aux_lemma => kernel_rfl) (by as_aux_lemma => kernel_rfl) ?_
   refine ⟨_, rfl, H.done, ?_⟩
   congr 1
   simp [meetsB, hokC, hokD]
end Go.Proofs.Ythbegjaoifghlaa
