import Derived.Test.YtppcdmbkgficiaaP6
namespace Go.Proofs.Ytppcdmbkgficiaa
open Go.BX

theorem same01_spec {S : Nat → Prop} {w : World} {xs ys : List (BitVec 8)} {a b : Option Addr} {c d : Nat} (h1 : (Shape.slice (Shape.bv .u8 8)).rep S w [.slice a xs.length c] xs) (h2 : (Shape.slice (Shape.bv .u8 8)).rep S w [.slice b ys.length d] ys) (he : xs = ys) :
    Calls Try.prog 30 #[.slice a xs.length c, .slice b ys.length d] w (Ret fun v w' => Ext w w' ∧ v = .bool true) := by
  refine WK.calls1 (fn := Try.f30) (n := 10) (σ := [(0, .slice a xs.length c), (1, .slice b ys.length d)]) Try.func30 rfl (by as_aux_lemma => kernel_rfl) (by as_aux_lemma => kernel_rfl) (by as_aux_lemma => kernel_rfl) ?_
  have H := Hp.startF (w := w) (S := S) (G := [Rp (Shape.slice (Shape.bv .u8 8)) [.slice a xs.length c] xs, Rp (Shape.slice (Shape.bv .u8 8)) [.slice b ys.length d] ys]) (.rp h1 (.rp h2 .nil))
  refine WK.run 3 [0, 1] [.code (cd Try.prog 30 [1, 0]), .code (cd Try.prog 30 [2])] [(0, .slice a xs.length c), (1, .slice b ys.length d)] (by as_aux_lemma => kernel_rfl) ?_
  refine WK.reg1 (l := sq 0 6) (by as_aux_lemma => kernel_rfl) (by as_aux_lemma => kernel_rfl) ?_
  refine RW.runP 1 [1, 5] (sq 1 6) [(1, .slice b ys.length d), (5, .slice a xs.length c)] (by as_aux_lemma => kernel_rfl) (by as_aux_lemma => kernel_rfl) ?_
  refine RW.toStr (κ := .seq) (d := some 6) (r := (sq 2 6)) (Ts := 23) (Td := 9) 5 (a := a) (len := xs.length) (cap := c) (xs := xs) (by as_aux_lemma => kernel_rfl) (by as_aux_lemma => kernel_rfl) (H.rp 0 rfl) ?_
  refine RW.runP 1 [6, 7] (sq 3 6) [(6, .string (strOf xs)), (7, .slice b ys.length d)] (by as_aux_lemma => kernel_rfl) (by as_aux_lemma => kernel_rfl) ?_
  refine RW.toStr (κ := .seq) (d := some 8) (r := (sq 4 6)) (Ts := 23) (Td := 9) 5 (a := b) (len := ys.length) (cap := d) (xs := ys) (by as_aux_lemma => kernel_rfl) (by as_aux_lemma => kernel_rfl) (H.rp 1 rfl) ?_
  refine RW.fin 2 [4] [(4, .bool ((strOf xs).toList == (strOf ys).toList))] (by as_aux_lemma => kernel_rfl) ?_
  refine WK.ret (v := .bool ((strOf xs).toList == (strOf ys).toList)) Try.func30 (by as_aux_lemma => kernel_rfl) (by as_aux_lemma => kernel_rfl) ?_
  refine ⟨_, rfl, H.done, ?_⟩
  rw [he]
  simp

def hE : List (List (BitVec 8)) := enc [1#8, 2#8, 3#8] 2 4
theorem hE_len : hE.length = 4 := by decide +kernel
theorem hE_1 (h : 1 < hE.length) : hE[1] = [3#8, 0#8] := by
  have h1 : hE[1]? = some [3#8, 0#8] := by decide +kernel
  rw [List.getElem?_eq_getElem h] at h1
  exact Option.some.inj h1
def hx3 : List (BitVec 8) := (hE[3]?).getD []
def hx0 : List (BitVec 8) := (hE[0]?).getD []
theorem hE_3 (h : 3 < hE.length) : hE[3] = hx3 := by
  unfold hx3
  rw [List.getElem?_eq_getElem h]
  rfl
theorem hE_0 (h : 0 < hE.length) : hE[0] = hx0 := by
  unfold hx0
  rw [List.getElem?_eq_getElem h]
  rfl
theorem hx_len : hx3.length = 2 ∧ hx0.length = 2 := by decide +kernel
def hps : List Pc := [⟨3, hx3⟩, ⟨0, hx0⟩]
theorem hps_ok : PsOk hps 4 (lenOf 3 2) where
  nd := by decide +kernel
  rng := by decide +kernel
  len := by decide +kernel
theorem hps1_ok : PsOk [⟨3, hx3⟩] 4 (lenOf 3 2) where
  nd := by decide +kernel
  rng := by decide +kernel
  len := by decide +kernel
theorem two_sorted {p q : Pc} (hpq : q.index < p.index) {ys : List Pc} (h : ys.Perm [p, q]) (hs : ys.Pairwise fun x y => x.index ≤ y.index) : ys = [q, p] := by
  have hl := h.length_eq
  match ys, hl with
  | [a, b], _ =>
    have h1 : p ∈ [a, b] := h.mem_iff.2 (by simp)
    have h2 : q ∈ [a, b] := h.mem_iff.2 (by simp)
    simp only [List.mem_cons, List.not_mem_nil, or_false] at h1 h2
    have h3 : a.index ≤ b.index := (List.pairwise_cons.1 hs).1 b (by simp)
    rcases h1 with rfl | rfl
    · rcases h2 with rfl | rfl
      · omega
      · omega
    · rcases h2 with rfl | rfl
      · rfl
      · omega
theorem hps_reg : ∀ ys : List Pc, ys.Perm hps → ys.Pairwise (fun x y => x.index ≤ y.index) → (redTo (subM ys 2 4) (ident 2) 2).1 = 2 := fun ys h hs => by
  rw [two_sorted (by decide) h hs]
  decide +kernel
theorem hps_obj {ys : List Pc} (h : ys.Perm hps) (hs : ys.Pairwise (fun x y => x.index ≤ y.index)) : objL ys 2 4 3 = [1#8, 2#8, 3#8] := by
  rw [two_sorted (by decide) h hs]
  decide +kernel

theorem heads_spec {S : Nat → Prop} {w : World}  :
    Calls Try.prog 28 #[] w (Ret fun v w' => Ext w w' ∧ v = .bool true) := by
  refine WK.calls1 (fn := Try.f28) (n := 60) (σ := []) Try.func28 rfl (by as_aux_lemma => kernel_rfl) (by as_aux_lemma => kernel_rfl) (by as_aux_lemma => kernel_rfl) ?_
  have H := Hp.startF (w := w) (S := S) (G := []) .nil
  refine WK.run 3 [] [.code (cd Try.prog 28 [1, 0]), .code (cd Try.prog 28 [2])] [] (by as_aux_lemma => kernel_rfl) ?_
  refine WK.reg1 (l := sq 0 7) (by as_aux_lemma => kernel_rfl) (by as_aux_lemma => kernel_rfl) ?_
  refine RW.new (κ := .seq) (d := some 8) (r := (sq 1 7)) (o := .cells #[.int .u8 1, .int .u8 2, .int .u8 3] 5 (0, 0)) (v := fun b => .slice (some ⟨b, 0, none⟩) 3 3) (fun b => by as_aux_lemma => kernel_rfl) (nofun) H ?_
  intro b1 w2 H
  have H := H.freeze 0 rfl (Shape.bv .u8 8) ([1#8, 2#8, 3#8] : List (BitVec 8)) 3 (by simp [maxLen]) (by first | exact Nat.le_refl _ | simp) (EsP.cons (c := [.int .u8 1]) (Shape.bv_lit (x := 1#8) (by decide)) (EsP.cons (c := [.int .u8 2]) (Shape.bv_lit (x := 2#8) (by decide)) (EsP.cons (c := [.int .u8 3]) (Shape.bv_lit (x := 3#8) (by decide)) EsP.nil)))
  have H : Hp w S [] [] [] [Rp (Shape.slice (Shape.bv .u8 8)) [.slice (some ⟨b1, 0, none⟩) 3 3] ([1#8, 2#8, 3#8] : List (BitVec 8))] _ := H
  refine RW.call (κ := .seq) (d := some 9) (r := (sq 2 7)) (g := 29) (args := #[.slice (some ⟨b1, 0, none⟩) 3 3, .int .i64 2, .int .i64 4]) (by as_aux_lemma => kernel_rfl) (nofun) (encode_ok (S := Av S w [] (idsOf [] [])) (xs := ([1#8, 2#8, 3#8] : List (BitVec 8))) 2 4 (H.rp 0 rfl) (by decide) (by decide) (by decide) (by decide)) ?_
  rintro _ w3 hE6 ⟨a4, c5, rfl, hr7⟩
  rw [show enc ([1#8, 2#8, 3#8] : List (BitVec 8)) 2 4 = hE from rfl] at hr7 ⊢
  have hEl := hE_len
  have H := H.addN hE6 (F := Rp (Shape.slice (Shape.slice (Shape.bv .u8 8))) [.slice a4 hE.length c5] hE) hr7
  refine RW.fin 5 [1, 2] [(1, .slice a4 hE.length c5), (2, .int .i64 0)] (by as_aux_lemma => kernel_rfl) ?_
  refine WK.run 2 [1, 2] [.code (cd Try.prog 28 [2, 0, 0]), .code (cd Try.prog 28 [2, 0, 1]), .code (cd Try.prog 28 [3])] [(1, .slice a4 hE.length c5), (2, .int .i64 0)] (by as_aux_lemma => kernel_rfl) ?_
  refine WK.reg1 (l := sq 0 15) (by as_aux_lemma => kernel_rfl) (by as_aux_lemma => kernel_rfl) ?_
  refine RW.runP 8 [1, 19] (sq 8 15) [(1, .slice a4 hE.length c5), (19, .bool (((hE.length : Nat) : Int) != 4))] (by as_aux_lemma => kernel_rfl) (by as_aux_lemma => kernel_rfl) ?_
  refine RW.test (fun b_ => [(1, .slice a4 hE.length c5), (19, .bool b_)]) (((hE.length : Nat) : Int) != 4) (fun h8 => ?_) (fun h8 => ?_)
  · skip
    replace h8 := bne_iff_ne.1 h8
    omega
  · skip
    replace h8 := (bne_eq_false_iff_eq.1 h8)
    refine RW.runP 1 [1, 19, 20] (sq 9 15) [(1, .slice a4 hE.length c5), (19, .bool false), (20, .slice a4 hE.length c5)] (by as_aux_lemma => kernel_rfl) (by as_aux_lemma => kernel_rfl) ?_
    have hx9 : 1 < hE.length := by omega
    refine RW.index (κ := .seq) (d := some 21) (r := (sq 10 15)) (T := 29) (e := 23) (ik := .i64) (ix := 1) (sh := (Shape.slice (Shape.bv .u8 8))) (x := ([3#8, 0#8] : List (BitVec 8))) (by as_aux_lemma => kernel_rfl) (by as_aux_lemma => kernel_rfl) H 0 rfl 1 (by omega) (by rw [List.getElem?_eq_getElem (by omega), hE_1]) ?_
    intro b10 o11 es12 hr13 H
    obtain ⟨a14, k15, rfl⟩ := Shape.slice_form' hr13
    have H := H.add (F := Rp (Shape.slice (Shape.bv .u8 8)) [.slice a14 (([3#8, 0#8] : List (BitVec 8)).length) k15] ([3#8, 0#8] : List (BitVec 8))) hr13
    refine RW.load (κ := .seq) (d := some 22) (r := (sq 11 15)) (T := 23) (b := b10) (o' := o11) (k := 0) (v := .slice a14 (([3#8, 0#8] : List (BitVec 8)).length) k15) (by as_aux_lemma => kernel_rfl) (H.fc 1 rfl) rfl (by as_aux_lemma => kernel_rfl) ?_
    refine RW.new (κ := .seq) (d := some 23) (r := (sq 12 15)) (o := .cells #[.int .u8 3, .int .u8 0] 5 (0, 0)) (v := fun b => .slice (some ⟨b, 0, none⟩) 2 2) (fun b => by as_aux_lemma => kernel_rfl) (nofun) H ?_
    intro b16 w17 H
    have H := H.freeze 0 rfl (Shape.bv .u8 8) ([3#8, 0#8] : List (BitVec 8)) 2 (by simp [maxLen]) (by first | exact Nat.le_refl _ | simp) (EsP.cons (c := [.int .u8 3]) (Shape.bv_lit (x := 3#8) (by decide)) (EsP.cons (c := [.int .u8 0]) (Shape.bv_lit (x := 0#8) (by decide)) EsP.nil))
    have H : Hp w S [] [] [] [Rp (Shape.slice (Shape.bv .u8 8)) [.slice (some ⟨b16, 0, none⟩) 2 2] ([3#8, 0#8] : List (BitVec 8)), Rp (Shape.slice (Shape.bv .u8 8)) [.slice a14 (([3#8, 0#8] : List (BitVec 8)).length) k15] ([3#8, 0#8] : List (BitVec 8)), Fc b10 o11 [.slice a14 (([3#8, 0#8] : List (BitVec 8)).length) k15], Rp (Shape.slice (Shape.slice (Shape.bv .u8 8))) [.slice a4 hE.length c5] hE, Rp (Shape.slice (Shape.bv .u8 8)) [.slice (some ⟨b1, 0, none⟩) 3 3] ([1#8, 2#8, 3#8] : List (BitVec 8))] _ := H
    refine RW.call (κ := .seq) (d := some 24) (r := (sq 13 15)) (g := 30) (args := #[.slice a14 (([3#8, 0#8] : List (BitVec 8)).length) k15, .slice (some ⟨b16, 0, none⟩) 2 2]) (by as_aux_lemma => kernel_rfl) (nofun) (same01_spec (S := Av S w [] (idsOf [] [])) (xs := ([3#8, 0#8] : List (BitVec 8))) (ys := ([3#8, 0#8] : List (BitVec 8))) (H.rp 1 rfl) (H.rp 0 rfl) (rfl)) ?_
    rintro _ w18 hE19 rfl
    have H := H.ext hE19
    refine RW.fin 2 [1, 26] [(1, .slice a4 hE.length c5), (26, .bool false)] (by as_aux_lemma => kernel_rfl) ?_
    refine WK.run 3 [1] [.code (cd Try.prog 28 [3, 0]), .code (cd Try.prog 28 [4])] [(1, .slice a4 hE.length c5)] (by as_aux_lemma => kernel_rfl) ?_
    refine WK.draw1 15 [(0, .qui), (1, .qui), (2, .qui), (3, .qui), (4, .qui), (5, .qui), (6, .qui), (7, .qui), (8, .chn), (9, .chn), (10, .qui), (11, .qui), (12, .qui), (13, .qui), (14, .qui)] [(0, .qui), (1, .qui), (2, .qui), (3, .qui), (4, .qui), (5, .qui), (6, .qui), (7, .qui), (8, .chn), (9, .chn), (10, .qui), (11, .qui), (12, .qui), (13, .qui), (14, .qui)] Try_mixed (by as_aux_lemma => kernel_rfl) (by as_aux_lemma => kernel_rfl) (by as_aux_lemma => kernel_rfl) ?_
    have H := H.draw
    generalize ({ w18 with drawn := w18.drawn + 1 } : World) = w20 at H ⊢
    refine RW.runP 1 [1, 28] [(1, .qui), (2, .qui), (3, .qui), (4, .qui), (5, .qui), (6, .qui), (7, .qui), (8, .chn), (9, .chn), (10, .qui), (11, .qui), (12, .qui), (13, .qui), (14, .qui)] [(1, .slice a4 hE.length c5), (28, .slice a4 hE.length c5)] (by as_aux_lemma => kernel_rfl) (by as_aux_lemma => kernel_rfl) ?_
    have hx21 : 3 < hE.length := by omega
    refine RW.index (κ := .qui) (d := some 29) (r := [(2, .qui), (3, .qui), (4, .qui), (5, .qui), (6, .qui), (7, .qui), (8, .chn), (9, .chn), (10, .qui), (11, .qui), (12, .qui), (13, .qui), (14, .qui)]) (T := 29) (e := 23) (ik := .i64) (ix := 3) (sh := (Shape.slice (Shape.bv .u8 8))) (x := hx3) (by as_aux_lemma => kernel_rfl) (by as_aux_lemma => kernel_rfl) H 3 rfl 3 (by omega) (by rw [List.getElem?_eq_getElem (by omega), hE_3]) ?_
    intro b22 o23 es24 hr25 H
    obtain ⟨a26, k27, rfl⟩ := Shape.slice_form' hr25
    have H := H.add (F := Rp (Shape.slice (Shape.bv .u8 8)) [.slice a26 hx3.length k27] hx3) hr25
    refine RW.load (κ := .qui) (d := some 30) (r := [(3, .qui), (4, .qui), (5, .qui), (6, .qui), (7, .qui), (8, .chn), (9, .chn), (10, .qui), (11, .qui), (12, .qui), (13, .qui), (14, .qui)]) (T := 23) (b := b22) (o' := o23) (k := 0) (v := .slice a26 hx3.length k27) (by as_aux_lemma => kernel_rfl) (H.fc 1 rfl) rfl (by as_aux_lemma => kernel_rfl) ?_
    refine RW.runP 2 [1, 31, 32] [(5, .qui), (6, .qui), (7, .qui), (8, .chn), (9, .chn), (10, .qui), (11, .qui), (12, .qui), (13, .qui), (14, .qui)] [(1, .slice a4 hE.length c5), (31, .agg #[.int .i64 3, .slice a26 hx3.length k27]), (32, .slice a4 hE.length c5)] (by as_aux_lemma => kernel_rfl) (by as_aux_lemma => kernel_rfl) ?_
    have hx28 : 0 < hE.length := by omega
    refine RW.index (κ := .qui) (d := some 33) (r := [(6, .qui), (7, .qui), (8, .chn), (9, .chn), (10, .qui), (11, .qui), (12, .qui), (13, .qui), (14, .qui)]) (T := 29) (e := 23) (ik := .i64) (ix := 0) (sh := (Shape.slice (Shape.bv .u8 8))) (x := hx0) (by as_aux_lemma => kernel_rfl) (by as_aux_lemma => kernel_rfl) H 5 rfl 0 (by omega) (by rw [List.getElem?_eq_getElem (by omega), hE_0]) ?_
    intro b29 o30 es31 hr32 H
    obtain ⟨a33, k34, rfl⟩ := Shape.slice_form' hr32
    have H := H.add (F := Rp (Shape.slice (Shape.bv .u8 8)) [.slice a33 hx0.length k34] hx0) hr32
    refine RW.load (κ := .qui) (d := some 34) (r := [(7, .qui), (8, .chn), (9, .chn), (10, .qui), (11, .qui), (12, .qui), (13, .qui), (14, .qui)]) (T := 23) (b := b29) (o' := o30) (k := 0) (v := .slice a33 hx0.length k34) (by as_aux_lemma => kernel_rfl) (H.fc 1 rfl) rfl (by as_aux_lemma => kernel_rfl) ?_
    refine RW.runP 1 [1, 31, 35] [(8, .chn), (9, .chn), (10, .qui), (11, .qui), (12, .qui), (13, .qui), (14, .qui)] [(1, .slice a4 hE.length c5), (31, .agg #[.int .i64 3, .slice a26 hx3.length k27]), (35, .agg #[.int .i64 0, .slice a33 hx0.length k34])] (by as_aux_lemma => kernel_rfl) (by as_aux_lemma => kernel_rfl) ?_
    refine RW.new (κ := .chn) (d := some 36) (r := [(9, .chn), (10, .qui), (11, .qui), (12, .qui), (13, .qui), (14, .qui)]) (o := .cells #[.int .i64 3, .slice a26 hx3.length k27, .int .i64 0, .slice a33 hx0.length k34] 72 (0, 0)) (v := fun b => .slice (some ⟨b, 0, none⟩) 2 2) (fun b => by as_aux_lemma => kernel_rfl) (nofun) H ?_
    intro b35 w36 H
    have H := H.freeze 0 rfl pcS ([⟨3, hx3⟩, ⟨0, hx0⟩] : List Pc) 2 (by simp [maxLen]) (by first | exact Nat.le_refl _ | simp) (EsP.cons (c := [.int .i64 3, .slice a26 hx3.length k27]) (pc_mk (Shape.int_mk (by decide)) (H.rp 2 rfl)) (EsP.cons (c := [.int .i64 0, .slice a33 hx0.length k34]) (pc_mk (Shape.int_mk (by decide)) (H.rp 0 rfl)) EsP.nil))
    have H : Hp w S [] [] [] [Rp (Shape.slice pcS) [.slice (some ⟨b35, 0, none⟩) 2 2] ([⟨3, hx3⟩, ⟨0, hx0⟩] : List Pc), Rp (Shape.slice (Shape.bv .u8 8)) [.slice a33 hx0.length k34] hx0, Fc b29 o30 [.slice a33 hx0.length k34], Rp (Shape.slice (Shape.bv .u8 8)) [.slice a26 hx3.length k27] hx3, Fc b22 o23 [.slice a26 hx3.length k27], Rp (Shape.slice (Shape.bv .u8 8)) [.slice (some ⟨b16, 0, none⟩) 2 2] ([3#8, 0#8] : List (BitVec 8)), Rp (Shape.slice (Shape.bv .u8 8)) [.slice a14 (([3#8, 0#8] : List (BitVec 8)).length) k15] ([3#8, 0#8] : List (BitVec 8)), Fc b10 o11 [.slice a14 (([3#8, 0#8] : List (BitVec 8)).length) k15], Rp (Shape.slice (Shape.slice (Shape.bv .u8 8))) [.slice a4 hE.length c5] hE, Rp (Shape.slice (Shape.bv .u8 8)) [.slice (some ⟨b1, 0, none⟩) 3 3] ([1#8, 2#8, 3#8] : List (BitVec 8))] _ := H
    refine RW.call (κ := .chn) (d := some 37) (r := [(10, .qui), (11, .qui), (12, .qui), (13, .qui), (14, .qui)]) (g := 31) (args := #[.slice (some ⟨b35, 0, none⟩) 2 2, .int .i64 3, .int .i64 2, .int .i64 4]) (by as_aux_lemma => kernel_rfl) (nofun) (decode_ok (S := Av S w [] (idsOf [] [])) (ps := hps) (H.rp 0 rfl) (size := 3) (k := 2) (n := 4) (by decide) (by decide) (by decide) (by decide) hps_ok (by decide) hps_reg) ?_
    rintro _ w37 hE40 ⟨a38, c39, ys, rfl, hys, hord, hr41⟩
    rw [hps_obj hys hord] at hr41 ⊢
    have H := H.addN hE40 (F := Rp (Shape.slice (Shape.bv .u8 8)) [.slice a38 (([1#8, 2#8, 3#8] : List (BitVec 8)).length) c39] ([1#8, 2#8, 3#8] : List (BitVec 8))) hr41
    refine RW.fin 5 [1, 3, 4] [(1, .slice a4 hE.length c5), (3, .slice a38 (([1#8, 2#8, 3#8] : List (BitVec 8)).length) c39), (4, .int .i64 0)] (by as_aux_lemma => kernel_rfl) ?_
    refine WK.run 1 [1, 3, 4] [.code (cd Try.prog 28 [4, 0]), .code (cd Try.prog 28 [5])] [(1, .slice a4 hE.length c5), (3, .slice a38 (([1#8, 2#8, 3#8] : List (BitVec 8)).length) c39), (4, .int .i64 0)] (by as_aux_lemma => kernel_rfl) ?_
    refine WK.reg1 (l := sq 0 11) (by as_aux_lemma => kernel_rfl) (by as_aux_lemma => kernel_rfl) ?_
    refine RW.runP 1 [3, 4, 41] (sq 1 11) [(3, .slice a38 (([1#8, 2#8, 3#8] : List (BitVec 8)).length) c39), (4, .int .i64 0), (41, .slice a4 hE.length c5)] (by as_aux_lemma => kernel_rfl) (by as_aux_lemma => kernel_rfl) ?_
    have hx42 : 3 < hE.length := by omega
    refine RW.index (κ := .seq) (d := some 42) (r := (sq 2 11)) (T := 29) (e := 23) (ik := .i64) (ix := 3) (sh := (Shape.slice (Shape.bv .u8 8))) (x := hx3) (by as_aux_lemma => kernel_rfl) (by as_aux_lemma => kernel_rfl) H 9 rfl 3 (by omega) (by rw [List.getElem?_eq_getElem (by omega), hE_3]) ?_
    intro b43 o44 es45 hr46 H
    obtain ⟨a47, k48, rfl⟩ := Shape.slice_form' hr46
    have H := H.add (F := Rp (Shape.slice (Shape.bv .u8 8)) [.slice a47 hx3.length k48] hx3) hr46
    refine RW.load (κ := .seq) (d := some 43) (r := (sq 3 11)) (T := 23) (b := b43) (o' := o44) (k := 0) (v := .slice a47 hx3.length k48) (by as_aux_lemma => kernel_rfl) (H.fc 1 rfl) rfl (by as_aux_lemma => kernel_rfl) ?_
    refine RW.runP 1 [3, 4, 44] (sq 4 11) [(3, .slice a38 (([1#8, 2#8, 3#8] : List (BitVec 8)).length) c39), (4, .int .i64 0), (44, .agg #[.int .i64 3, .slice a47 hx3.length k48])] (by as_aux_lemma => kernel_rfl) (by as_aux_lemma => kernel_rfl) ?_
    refine RW.new (κ := .seq) (d := some 45) (r := (sq 5 11)) (o := .cells #[.int .i64 3, .slice a47 hx3.length k48] 72 (0, 0)) (v := fun b => .slice (some ⟨b, 0, none⟩) 1 1) (fun b => by as_aux_lemma => kernel_rfl) (nofun) H ?_
    intro b49 w50 H
    have H := H.freeze 0 rfl pcS ([⟨3, hx3⟩] : List Pc) 1 (by simp [maxLen]) (by first | exact Nat.le_refl _ | simp) (EsP.cons (c := [.int .i64 3, .slice a47 hx3.length k48]) (pc_mk (Shape.int_mk (by decide)) (H.rp 0 rfl)) EsP.nil)
    have H : Hp w S [] [] [] [Rp (Shape.slice pcS) [.slice (some ⟨b49, 0, none⟩) 1 1] ([⟨3, hx3⟩] : List Pc), Rp (Shape.slice (Shape.bv .u8 8)) [.slice a47 hx3.length k48] hx3, Fc b43 o44 [.slice a47 hx3.length k48], Rp (Shape.slice (Shape.bv .u8 8)) [.slice a38 (([1#8, 2#8, 3#8] : List (BitVec 8)).length) c39] ([1#8, 2#8, 3#8] : List (BitVec 8)), Rp (Shape.slice pcS) [.slice (some ⟨b35, 0, none⟩) 2 2] ([⟨3, hx3⟩, ⟨0, hx0⟩] : List Pc), Rp (Shape.slice (Shape.bv .u8 8)) [.slice a33 hx0.length k34] hx0, Fc b29 o30 [.slice a33 hx0.length k34], Rp (Shape.slice (Shape.bv .u8 8)) [.slice a26 hx3.length k27] hx3, Fc b22 o23 [.slice a26 hx3.length k27], Rp (Shape.slice (Shape.bv .u8 8)) [.slice (some ⟨b16, 0, none⟩) 2 2] ([3#8, 0#8] : List (BitVec 8)), Rp (Shape.slice (Shape.bv .u8 8)) [.slice a14 (([3#8, 0#8] : List (BitVec 8)).length) k15] ([3#8, 0#8] : List (BitVec 8)), Fc b10 o11 [.slice a14 (([3#8, 0#8] : List (BitVec 8)).length) k15], Rp (Shape.slice (Shape.slice (Shape.bv .u8 8))) [.slice a4 hE.length c5] hE, Rp (Shape.slice (Shape.bv .u8 8)) [.slice (some ⟨b1, 0, none⟩) 3 3] ([1#8, 2#8, 3#8] : List (BitVec 8))] _ := H
    refine RW.call (κ := .seq) (d := some 46) (r := (sq 6 11)) (g := 31) (args := #[.slice (some ⟨b49, 0, none⟩) 1 1, .int .i64 3, .int .i64 2, .int .i64 4]) (by as_aux_lemma => kernel_rfl) (nofun) (decode_few (S := fun _ => True) (ps := [⟨3, hx3⟩]) (H.viewF 0 rfl) (size := 3) (k := 2) (n := 4) (by decide) (by decide) (by decide) (by decide) hps1_ok (by decide)) ?_
    rintro _ w51 hE52 rfl
    have H := H.ext hE52
    refine RW.fin 5 [3, 4, 6] [(3, .slice a38 (([1#8, 2#8, 3#8] : List (BitVec 8)).length) c39), (4, .int .i64 0), (6, .int .i64 30)] (by as_aux_lemma => kernel_rfl) ?_
    refine WK.run 1 [3, 4, 6] [.code (cd Try.prog 28 [5, 0]), .code (cd Try.prog 28 [6])] [(3, .slice a38 (([1#8, 2#8, 3#8] : List (BitVec 8)).length) c39), (4, .int .i64 0), (6, .int .i64 30)] (by as_aux_lemma => kernel_rfl) ?_
    refine WK.reg1 (l := sq 0 12) (by as_aux_lemma => kernel_rfl) (by as_aux_lemma => kernel_rfl) ?_
    refine RW.runP 4 [6, 51, 52] (sq 4 12) [(6, .int .i64 30), (51, .bool true), (52, .slice a38 (([1#8, 2#8, 3#8] : List (BitVec 8)).length) c39)] (by as_aux_lemma => kernel_rfl) (by as_aux_lemma => kernel_rfl) ?_
    refine RW.new (κ := .seq) (d := some 53) (r := (sq 5 12)) (o := .cells #[.int .u8 1, .int .u8 2, .int .u8 3] 5 (0, 0)) (v := fun b => .slice (some ⟨b, 0, none⟩) 3 3) (fun b => by as_aux_lemma => kernel_rfl) (nofun) H ?_
    intro b53 w54 H
    have H := H.freeze 0 rfl (Shape.bv .u8 8) ([1#8, 2#8, 3#8] : List (BitVec 8)) 3 (by simp [maxLen]) (by first | exact Nat.le_refl _ | simp) (EsP.cons (c := [.int .u8 1]) (Shape.bv_lit (x := 1#8) (by decide)) (EsP.cons (c := [.int .u8 2]) (Shape.bv_lit (x := 2#8) (by decide)) (EsP.cons (c := [.int .u8 3]) (Shape.bv_lit (x := 3#8) (by decide)) EsP.nil)))
    have H : Hp w S [] [] [] [Rp (Shape.slice (Shape.bv .u8 8)) [.slice (some ⟨b53, 0, none⟩) 3 3] ([1#8, 2#8, 3#8] : List (BitVec 8)), Rp (Shape.slice pcS) [.slice (some ⟨b49, 0, none⟩) 1 1] ([⟨3, hx3⟩] : List Pc), Rp (Shape.slice (Shape.bv .u8 8)) [.slice a47 hx3.length k48] hx3, Fc b43 o44 [.slice a47 hx3.length k48], Rp (Shape.slice (Shape.bv .u8 8)) [.slice a38 (([1#8, 2#8, 3#8] : List (BitVec 8)).length) c39] ([1#8, 2#8, 3#8] : List (BitVec 8)), Rp (Shape.slice pcS) [.slice (some ⟨b35, 0, none⟩) 2 2] ([⟨3, hx3⟩, ⟨0, hx0⟩] : List Pc), Rp (Shape.slice (Shape.bv .u8 8)) [.slice a33 hx0.length k34] hx0, Fc b29 o30 [.slice a33 hx0.length k34], Rp (Shape.slice (Shape.bv .u8 8)) [.slice a26 hx3.length k27] hx3, Fc b22 o23 [.slice a26 hx3.length k27], Rp (Shape.slice (Shape.bv .u8 8)) [.slice (some ⟨b16, 0, none⟩) 2 2] ([3#8, 0#8] : List (BitVec 8)), Rp (Shape.slice (Shape.bv .u8 8)) [.slice a14 (([3#8, 0#8] : List (BitVec 8)).length) k15] ([3#8, 0#8] : List (BitVec 8)), Fc b10 o11 [.slice a14 (([3#8, 0#8] : List (BitVec 8)).length) k15], Rp (Shape.slice (Shape.slice (Shape.bv .u8 8))) [.slice a4 hE.length c5] hE, Rp (Shape.slice (Shape.bv .u8 8)) [.slice (some ⟨b1, 0, none⟩) 3 3] ([1#8, 2#8, 3#8] : List (BitVec 8))] _ := H
    refine RW.call (κ := .seq) (d := some 54) (r := (sq 6 12)) (g := 30) (args := #[.slice a38 (([1#8, 2#8, 3#8] : List (BitVec 8)).length) c39, .slice (some ⟨b53, 0, none⟩) 3 3]) (by as_aux_lemma => kernel_rfl) (nofun) (same01_spec (S := Av S w [] (idsOf [] [])) (xs := ([1#8, 2#8, 3#8] : List (BitVec 8))) (ys := ([1#8, 2#8, 3#8] : List (BitVec 8))) (H.rp 4 rfl) (H.rp 0 rfl) (rfl)) ?_
    rintro _ w55 hE56 rfl
    have H := H.ext hE56
    refine RW.fin 6 [0] [(0, .bool true)] (by as_aux_lemma => kernel_rfl) ?_
    refine WK.ret (v := .bool true) Try.func28 (by as_aux_lemma => kernel_rfl) (by as_aux_lemma => kernel_rfl) ?_
    exact ⟨_, rfl, H.done, rfl⟩


end Go.Proofs.Ytppcdmbkgficiaa
