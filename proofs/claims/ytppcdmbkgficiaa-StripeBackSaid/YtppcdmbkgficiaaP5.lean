import Derived.Test.YtppcdmbkgficiaaP4
namespace Go.Proofs.Ytppcdmbkgficiaa
open Go.BX

def subM (ys : List Pc) (k n : Nat) : List (List (BitVec 8)) := pickL (gen k n) ((ys.take k).map Pc.index)
def invM (ys : List Pc) (k n : Nat) : List (List (BitVec 8)) := (redTo (subM ys k n) (ident k) k).2.2
def datL (ys : List Pc) (k n l : Nat) : List (List (BitVec 8)) := (invM ys k n).map fun r => mixAll r ((ys.take k).map Pc.data) (List.replicate l 0#8)
theorem gen_all (k n : Nat) : ∀ x ∈ gen k n, x.length = k := fun x hx => by
  obtain ⟨i, _, rfl⟩ := List.mem_map.1 hx
  exact genRow_len k i
theorem subM_len {ys : List Pc} {k n : Nat} (h : k ≤ ys.length) : (subM ys k n).length = k := by
  unfold subM
  rw [pickL_len, List.length_map, List.length_take]
  omega
theorem pickL_all {m : List (List (BitVec 8))} {rows : List Int} {c : Nat} (h : ∀ x ∈ m, x.length = c) (hr : ∀ x ∈ rows, 0 ≤ x ∧ x < (m.length : Int)) : ∀ x ∈ pickL m rows, x.length = c := fun x hx => by
  obtain ⟨r, hr2, rfl⟩ := List.mem_map.1 hx
  have := hr r hr2
  exact rowAt_len h (by omega)
structure RedOk (s : Nat × List (List (BitVec 8)) × List (List (BitVec 8))) (r d : Nat) : Prop where
  l1 : s.2.1.length = r
  l2 : s.2.2.length = r
  le : s.1 ≤ r
  c2 : ∀ x ∈ s.2.2, x.length = d
theorem redTo_ok {L R : List (List (BitVec 8))} {r d : Nat} (hL : L.length = r) (hR : R.length = r) (hc : ∀ x ∈ R, x.length = d) : ∀ m, RedOk (redTo L R m) r d
  | 0 => ⟨hL, hR, Nat.zero_le _, hc⟩
  | m + 1 => by
    have ih := redTo_ok hL hR hc m
    rw [redTo_succ]
    generalize redTo L R m = s at ih
    obtain ⟨dn, A, B⟩ := s
    cases hf : firstP A m dn with
    | none => rw [redStep_miss hf]; exact ih
    | some i =>
      rw [redStep_hit hf]
      have hi : i < A.length ∧ dn ≤ i := by
        unfold firstP at hf
        have h1 := List.mem_range.1 (List.mem_of_find?_eq_some hf)
        have h2 := List.find?_some hf
        exact ⟨h1, (of_decide_eq_true h2).1⟩
      have h1 : A.length = r := ih.l1
      have h2 : B.length = r := ih.l2
      exact ⟨by show (clearL _ _ _).length = r; rw [clearL_len, swapL_len]; exact h1, by show (clearR _ _ _ _).length = r; rw [clearR_len, swapL_len]; exact h2, by show dn + 1 ≤ r; omega,
        clearR_all (swapL_all ih.c2 (by omega) (by omega)) (by rw [swapL_len]; omega)⟩
theorem invM_len {ys : List Pc} {k n : Nat} (h : k ≤ ys.length) : (invM ys k n).length = k := (redTo_ok (subM_len h) (ident_len k) (ident_all k) k).l2
theorem invM_all {ys : List Pc} {k n : Nat} (h : k ≤ ys.length) : ∀ x ∈ invM ys k n, x.length = k := (redTo_ok (subM_len h) (ident_len k) (ident_all k) k).c2
theorem datL_len {ys : List Pc} {k n l : Nat} (h : k ≤ ys.length) : (datL ys k n l).length = k := by
  unfold datL
  rw [List.length_map, invM_len h]
theorem datL_all {ys : List Pc} {k n l : Nat} (hd : ∀ p ∈ ys, p.data.length = l) : ∀ x ∈ datL ys k n l, x.length = l := fun x hx => by
  obtain ⟨r, _, rfl⟩ := List.mem_map.1 hx
  exact mixAll_len (List.length_replicate ..) fun d hd2 => by
    obtain ⟨p, hp, rfl⟩ := List.mem_map.1 hd2
    exact hd p (List.mem_of_mem_take hp)
theorem datL_take {ys : List Pc} {k n l i : Nat} (hk : k ≤ ys.length) (h : i < (invM ys k n).length) : (datL ys k n l).take i ++ [mixAll (invM ys k n)[i] ((ys.take k).map Pc.data) (List.replicate l 0#8)] = (datL ys k n l).take (i + 1) := by
  rw [List.take_succ_eq_append_getElem (by rw [datL_len hk, ← invM_len (n := n) hk]; exact h)]
  simp [datL]
theorem map_take_snoc {α : Type} (f : Pc → α) {l : List Pc} {i : Nat} (h : i < l.length) : (l.take i).map f ++ [f l[i]] = (l.take (i + 1)).map f := by
  rw [List.take_succ_eq_append_getElem h, List.map_append]
  rfl

theorem data_ok {S : Nat → Prop} {w : World} {ps : List Pc} {a : Option Addr} {c : Nat} (h : (Shape.slice pcS).rep S w [.slice a ps.length c] ps) {size k n : Nat} (hs : size ≤ 65536) (hk : 1 ≤ k) (hkn : k ≤ n) (hn : n ≤ 255) (hok : PsOk ps n (lenOf size k)) (hlen : k ≤ ps.length) (hreg : ∀ ys : List Pc, ys.Perm ps → ys.Pairwise (fun x y => x.index ≤ y.index) → (redTo (subM ys k n) (ident k) k).1 = k) :
    Calls Try.prog 69 #[.slice a ps.length c, .int .i64 (size : Int), .int .i64 (k : Int), .int .i64 (n : Int)] w (Ret fun v w' => Ext w w' ∧ ∃ (a : Option Addr) (c : Nat) (ys : List Pc), v = .tuple #[.slice a (datL ys k n (lenOf size k)).length c, .int .i64 ((lenOf size k : Nat) : Int), .int .i64 0] ∧ ys.Perm ps ∧ ys.Pairwise (fun x y => x.index ≤ y.index) ∧ (Shape.slice (Shape.slice (Shape.bv .u8 8))).rep (Nw S w) w' [.slice a (datL ys k n (lenOf size k)).length c] (datL ys k n (lenOf size k))) := by
  refine WK.calls1 (fn := Try.f69) (n := 89) (σ := [(0, .slice a ps.length c), (1, .int .i64 (size : Int)), (2, .int .i64 (k : Int)), (3, .int .i64 (n : Int))]) Try.func69 rfl (by as_aux_lemma => kernel_rfl) (by as_aux_lemma => kernel_rfl) (by as_aux_lemma => kernel_rfl) ?_
  have H := Hp.startF (w := w) (S := S) (G := [Rp (Shape.slice pcS) [.slice a ps.length c] ps]) (.rp h .nil)
  refine WK.run 3 [0, 1, 2, 3] [.code (cd Try.prog 69 [1, 0]), .code (cd Try.prog 69 [2])] [(0, .slice a ps.length c), (1, .int .i64 (size : Int)), (2, .int .i64 (k : Int)), (3, .int .i64 (n : Int))] (by as_aux_lemma => kernel_rfl) ?_
  refine WK.reg1 (l := sq 0 12) (by as_aux_lemma => kernel_rfl) (by as_aux_lemma => kernel_rfl) ?_
  refine RW.runP 4 [2, 3, 28, 29, 30, 31] (sq 4 12) [(2, .int .i64 (k : Int)), (3, .int .i64 (n : Int)), (28, .slice a ps.length c), (29, .int .i64 (size : Int)), (30, .int .i64 (k : Int)), (31, .int .i64 (n : Int))] (by as_aux_lemma => kernel_rfl) (by as_aux_lemma => kernel_rfl) ?_
  refine RW.call (κ := .seq) (d := some 32) (r := (sq 5 12)) (g := 99) (args := #[.slice a ps.length c, .int .i64 (size : Int), .int .i64 (k : Int), .int .i64 (n : Int)]) (by as_aux_lemma => kernel_rfl) (nofun) (chosen_ok (S := Av S w [] (idsOf [] [])) (ps := ps) (H.rp 0 rfl) (size := size) (k := k) (n := n) hs hk hkn hn hok hlen) ?_
  rintro _ w1 hE4 ⟨a2, c3, ys, rfl, hys, hord, hr5⟩
  obtain ⟨qs, hqs⟩ : ∃ z, z = ys.take k := ⟨_, rfl⟩
  rw [← hqs] at hr5 ⊢
  have H := H.addN hE4 (F := Rp (Shape.slice pcS) [.slice a2 qs.length c3] qs) hr5
  have hyl := hys.length_eq
  have hql : qs.length = k := by rw [hqs, List.length_take]; omega
  have hqd : ∀ p ∈ qs, p.data.length = lenOf size k := fun p hp => hok.len p (hys.mem_iff.1 (List.mem_of_mem_take (hqs ▸ hp)))
  have hqr : ∀ p ∈ qs, 0 ≤ p.index ∧ p.index < (n : Int) := fun p hp => hok.rng p (hys.mem_iff.1 (List.mem_of_mem_take (hqs ▸ hp)))
  refine RW.fin 7 [2, 3, 11, 12, 13] [(2, .int .i64 (k : Int)), (3, .int .i64 (n : Int)), (11, .slice a2 qs.length c3), (12, .int .i64 ((lenOf size k : Nat) : Int)), (13, .int .i64 0)] (by as_aux_lemma => kernel_rfl) ?_
  refine WK.run 13 [2, 3, 12, 14, 15, 39, 40, 41] [.code (cd Try.prog 69 [5, 0, 1, 0]), .inBlock 0, .code (cd Try.prog 69 [6])] [(2, .int .i64 (k : Int)), (3, .int .i64 (n : Int)), (12, .int .i64 ((lenOf size k : Nat) : Int)), (14, .slice none 0 0), (15, .slice none 0 0), (39, .slice a2 qs.length c3), (40, .int .i64 ((qs.length : Nat) : Int)), (41, .int .i64 0)] (by as_aux_lemma => kernel_rfl) ?_
  have H := (H.ownNil (Shape.slice (Shape.bv .u8 8)) 23).ownNil (Shape.int .i64) 3
  have H : Hp w S [] [] [⟨Shape.int .i64, 3, .slice none ((([] : List Pc).map Pc.index).length) 0, ([] : List Pc).map Pc.index⟩, ⟨Shape.slice (Shape.bv .u8 8), 23, .slice none ((([] : List Pc).map Pc.data).length) 0, ([] : List Pc).map Pc.data⟩] [Rp (Shape.slice pcS) [.slice a2 qs.length c3] qs, Rp (Shape.slice pcS) [.slice a ps.length c] ps] w1 := H
  have H := H.pick [0] (G' := [Rp (Shape.slice pcS) [.slice a2 qs.length c3] qs]) rfl
  have H := H.drop (M' := []) (W' := [⟨Shape.int .i64, 3, .slice none (((qs.take 0).map Pc.index).length) 0, (qs.take 0).map Pc.index⟩, ⟨Shape.slice (Shape.bv .u8 8), 23, .slice none (((qs.take 0).map Pc.data).length) 0, (qs.take 0).map Pc.data⟩]) (by repeat (first | exact List.Sublist.refl _ | exact List.nil_sublist _ | apply List.Sublist.cons_cons | apply List.Sublist.cons)) (by repeat (first | exact List.Sublist.refl _ | exact List.nil_sublist _ | apply List.Sublist.cons_cons | apply List.Sublist.cons))
  refine WK.loop (α := Nat × Option Addr × Nat × Option Addr × Nat) (b := cd Try.prog 69 [5, 0, 1, 0, 0]) (by as_aux_lemma => kernel_rfl) (fun st_ => match st_ with | (i, ra, rc, va, vc) => [(2, .int .i64 (k : Int)), (3, .int .i64 (n : Int)), (12, .int .i64 ((lenOf size k : Nat) : Int)), (14, .slice ra (((qs.take i).map Pc.index).length) rc), (15, .slice va (((qs.take i).map Pc.data).length) vc), (39, .slice a2 qs.length c3), (40, .int .i64 ((qs.length : Nat) : Int)), (41, .int .i64 (i : Int))]) (fun st_ w' => match st_ with | (i, ra, rc, va, vc) => Hp w S [] [] [⟨Shape.int .i64, 3, .slice ra (((qs.take i).map Pc.index).length) rc, (qs.take i).map Pc.index⟩, ⟨Shape.slice (Shape.bv .u8 8), 23, .slice va (((qs.take i).map Pc.data).length) vc, (qs.take i).map Pc.data⟩] [Rp (Shape.slice pcS) [.slice a2 qs.length c3] qs] w' ∧ i ≤ qs.length) (fun st_ => match st_ with | (i, ra, rc, va, vc) => qs.length - i) (0, none, 0, none, 0) ⟨H, Nat.zero_le _⟩ (rfl) ?_
  rintro ⟨i, ra, rc, va, vc⟩ w7 ⟨H, hinv0⟩ hback6
  refine WK.run 3 [2, 3, 12, 14, 15, 39, 40, 41, 42] [.code (cd Try.prog 69 [5, 0, 1, 0, 0, 1, 0]), .code (cd Try.prog 69 [5, 0, 1, 0, 0, 2]), .inLoop (cd Try.prog 69 [5, 0, 1, 0, 0]), .inBlock 0, .code (cd Try.prog 69 [6])] [(2, .int .i64 (k : Int)), (3, .int .i64 (n : Int)), (12, .int .i64 ((lenOf size k : Nat) : Int)), (14, .slice ra (((qs.take i).map Pc.index).length) rc), (15, .slice va (((qs.take i).map Pc.data).length) vc), (39, .slice a2 qs.length c3), (40, .int .i64 ((qs.length : Nat) : Int)), (41, .int .i64 (i : Int)), (42, .bool (decide (((i : Int) : Int) < ((qs.length : Nat) : Int))))] (by as_aux_lemma => kernel_rfl) ?_
  refine WK.cond1 (decide (((i : Int) : Int) < ((qs.length : Nat) : Int))) (by as_aux_lemma => kernel_rfl) (by as_aux_lemma => kernel_rfl) (fun h8 => ?_) (fun h8 => ?_)
  · skip
    replace h8 := of_decide_eq_true h8
    refine WK.run 4 [2, 3, 12, 14, 15, 39, 40, 41] [.code (cd Try.prog 69 [5, 0, 1, 0, 0, 2, 0, 0, 0]), .code (cd Try.prog 69 [5, 0, 1, 0, 0, 2, 0, 0, 1]), .inBlock 1, .code (cd Try.prog 69 [5, 0, 1, 0, 0, 3]), .inLoop (cd Try.prog 69 [5, 0, 1, 0, 0]), .inBlock 0, .code (cd Try.prog 69 [6])] [(2, .int .i64 (k : Int)), (3, .int .i64 (n : Int)), (12, .int .i64 ((lenOf size k : Nat) : Int)), (14, .slice ra (((qs.take i).map Pc.index).length) rc), (15, .slice va (((qs.take i).map Pc.data).length) vc), (39, .slice a2 qs.length c3), (40, .int .i64 ((qs.length : Nat) : Int)), (41, .int .i64 (i : Int))] (by as_aux_lemma => kernel_rfl) ?_
    refine WK.reg1 (l := sq 0 4) (by as_aux_lemma => kernel_rfl) (by as_aux_lemma => kernel_rfl) ?_
    have hx9 : i < qs.length := by omega
    refine RW.index (κ := .seq) (d := some 43) (r := (sq 1 4)) (T := 70) (e := 72) (ik := .i64) (ix := (i : Int)) (sh := pcS) (x := qs[i]) (by as_aux_lemma => kernel_rfl) (by as_aux_lemma => kernel_rfl) H 0 rfl i (by omega) (List.getElem?_eq_getElem hx9) ?_
    intro b10 o11 es12 hr13 H
    obtain ⟨a1q14, k1q14, rfl, hf15, hf16⟩ := pc_open hr13
    have H := H.add (F := Rp (Shape.slice (Shape.bv .u8 8)) [.slice a1q14 ((qs[i]).data.length) k1q14] ((qs[i]).data)) hf16
    refine RW.load (κ := .seq) (d := some 44) (r := (sq 2 4)) (T := 72) (b := b10) (o' := o11) (k := 0) (v := .agg #[.int .i64 ((qs[i]).index), .slice a1q14 ((qs[i]).data.length) k1q14]) (by as_aux_lemma => kernel_rfl) (H.fc 1 rfl) rfl (by as_aux_lemma => kernel_rfl) ?_
    refine RW.new (κ := .seq) (d := some 17) (r := (sq 3 4)) (o := .cells #[.int .i64 0, .slice none 0 0] 72 (0, 0)) (v := fun b => .pointer (some ⟨b, 0, none⟩)) (fun b => by as_aux_lemma => kernel_rfl) (nofun) H ?_
    intro b17 w18 H
    refine RW.store (d := none) (r := (sq 4 4)) (T := 72) (b := b17) (k := 0) (v := .agg #[.int .i64 ((qs[i]).index), .slice a1q14 ((qs[i]).data.length) k1q14]) (c' := #[.int .i64 ((qs[i]).index), .slice a1q14 ((qs[i]).data.length) k1q14]) (M' := [(b17, .cells #[.int .i64 ((qs[i]).index), .slice a1q14 ((qs[i]).data.length) k1q14] 72 (0, 0))]) (by as_aux_lemma => kernel_rfl) H 0 rfl (by as_aux_lemma => kernel_rfl) (by as_aux_lemma => kernel_rfl) ?_
    intro w19 H
    refine RW.fin 0 [2, 3, 12, 14, 15, 17, 39, 40, 41] [(2, .int .i64 (k : Int)), (3, .int .i64 (n : Int)), (12, .int .i64 ((lenOf size k : Nat) : Int)), (14, .slice ra (((qs.take i).map Pc.index).length) rc), (15, .slice va (((qs.take i).map Pc.data).length) vc), (17, .pointer (some ⟨b17, 0, none⟩)), (39, .slice a2 qs.length c3), (40, .int .i64 ((qs.length : Nat) : Int)), (41, .int .i64 (i : Int))] (by as_aux_lemma => kernel_rfl) ?_
    refine WK.run 1 [2, 3, 12, 14, 15, 17, 39, 40, 41] [.code (cd Try.prog 69 [5, 0, 1, 0, 0, 2, 0, 0, 1, 0]), .code (cd Try.prog 69 [5, 0, 1, 0, 0, 2, 0, 0, 2]), .inBlock 1, .code (cd Try.prog 69 [5, 0, 1, 0, 0, 3]), .inLoop (cd Try.prog 69 [5, 0, 1, 0, 0]), .inBlock 0, .code (cd Try.prog 69 [6])] [(2, .int .i64 (k : Int)), (3, .int .i64 (n : Int)), (12, .int .i64 ((lenOf size k : Nat) : Int)), (14, .slice ra (((qs.take i).map Pc.index).length) rc), (15, .slice va (((qs.take i).map Pc.data).length) vc), (17, .pointer (some ⟨b17, 0, none⟩)), (39, .slice a2 qs.length c3), (40, .int .i64 ((qs.length : Nat) : Int)), (41, .int .i64 (i : Int))] (by as_aux_lemma => kernel_rfl) ?_
    refine WK.reg1 (l := sq 0 6) (by as_aux_lemma => kernel_rfl) (by as_aux_lemma => kernel_rfl) ?_
    refine RW.runP 2 [2, 3, 12, 14, 15, 17, 39, 40, 41, 45, 46] (sq 2 6) [(2, .int .i64 (k : Int)), (3, .int .i64 (n : Int)), (12, .int .i64 ((lenOf size k : Nat) : Int)), (14, .slice ra (((qs.take i).map Pc.index).length) rc), (15, .slice va (((qs.take i).map Pc.data).length) vc), (17, .pointer (some ⟨b17, 0, none⟩)), (39, .slice a2 qs.length c3), (40, .int .i64 ((qs.length : Nat) : Int)), (41, .int .i64 (i : Int)), (45, .slice ra (((qs.take i).map Pc.index).length) rc), (46, .pointer (some ⟨b17, 0, none⟩))] (by as_aux_lemma => kernel_rfl) (by as_aux_lemma => kernel_rfl) ?_
    refine RW.load (κ := .seq) (d := some 47) (r := (sq 3 6)) (T := 3) (b := b17) (o' := 0) (k := 0) (v := .int .i64 ((qs[i]).index)) (by as_aux_lemma => kernel_rfl) (H.cells 0 rfl) rfl (by as_aux_lemma => kernel_rfl) ?_
    refine RW.new (κ := .seq) (d := some 48) (r := (sq 4 6)) (o := .cells #[.int .i64 ((qs[i]).index)] 3 (0, 0)) (v := fun b => .slice (some ⟨b, 0, none⟩) 1 1) (fun b => by as_aux_lemma => kernel_rfl) (nofun) H ?_
    intro b20 w21 H
    have H := H.freeze 0 rfl (Shape.int .i64) ([(qs[i]).index] : List Int) 1 (by simp [maxLen]) (by first | exact Nat.le_refl _ | simp) (EsP.cons (c := [.int .i64 ((qs[i]).index)]) (Shape.i64_in (by first | omega | (simp <;> omega)) (by first | omega | (simp <;> omega))) EsP.nil)
    have H : Hp w S [] [(b17, .cells #[.int .i64 ((qs[i]).index), .slice a1q14 ((qs[i]).data.length) k1q14] 72 (0, 0))] [⟨Shape.int .i64, 3, .slice ra (((qs.take i).map Pc.index).length) rc, (qs.take i).map Pc.index⟩, ⟨Shape.slice (Shape.bv .u8 8), 23, .slice va (((qs.take i).map Pc.data).length) vc, (qs.take i).map Pc.data⟩] [Rp (Shape.slice (Shape.int .i64)) [.slice (some ⟨b20, 0, none⟩) 1 1] ([(qs[i]).index] : List Int), Rp (Shape.slice (Shape.bv .u8 8)) [.slice a1q14 ((qs[i]).data.length) k1q14] ((qs[i]).data), Fc b10 o11 [.int .i64 ((qs[i]).index), .slice a1q14 ((qs[i]).data.length) k1q14], Rp (Shape.slice pcS) [.slice a2 qs.length c3] qs] _ := H
    refine RW.appendW (d := some 49) (r := (sq 5 6)) (T := 25) (ty := 25) (e := 3) (m := 1) (by_ := 8) (v := .slice ra (((qs.take i).map Pc.index).length) rc) (a2 := (some ⟨b20, 0, none⟩)) (l2 := 1) (c2 := 1) (zs := (qs.take (i + 1)).map Pc.index) (by as_aux_lemma => kernel_rfl) (by as_aux_lemma => kernel_rfl) rfl H 0 rfl 0 rfl (map_take_snoc _ (by omega)) (by rw [List.length_map, List.length_take]; omega) ?_
    intro a22 c23 w25 H hc24
    have H : Hp w S [] [(b17, .cells #[.int .i64 ((qs[i]).index), .slice a1q14 ((qs[i]).data.length) k1q14] 72 (0, 0))] [⟨Shape.int .i64, 3, .slice a22 (((qs.take (i + 1)).map Pc.index).length) c23, (qs.take (i + 1)).map Pc.index⟩, ⟨Shape.slice (Shape.bv .u8 8), 23, .slice va (((qs.take i).map Pc.data).length) vc, (qs.take i).map Pc.data⟩] [Rp (Shape.slice (Shape.int .i64)) [.slice (some ⟨b20, 0, none⟩) 1 1] ([(qs[i]).index] : List Int), Rp (Shape.slice (Shape.bv .u8 8)) [.slice a1q14 ((qs[i]).data.length) k1q14] ((qs[i]).data), Fc b10 o11 [.int .i64 ((qs[i]).index), .slice a1q14 ((qs[i]).data.length) k1q14], Rp (Shape.slice pcS) [.slice a2 qs.length c3] qs] _ := H
    refine RW.fin 1 [2, 3, 12, 14, 15, 17, 39, 40, 41] [(2, .int .i64 (k : Int)), (3, .int .i64 (n : Int)), (12, .int .i64 ((lenOf size k : Nat) : Int)), (14, .slice a22 (((qs.take (i + 1)).map Pc.index).length) c23), (15, .slice va (((qs.take i).map Pc.data).length) vc), (17, .pointer (some ⟨b17, 0, none⟩)), (39, .slice a2 qs.length c3), (40, .int .i64 ((qs.length : Nat) : Int)), (41, .int .i64 (i : Int))] (by as_aux_lemma => kernel_rfl) ?_
    refine WK.reg1 (l := sq 0 6) (by as_aux_lemma => kernel_rfl) (by as_aux_lemma => kernel_rfl) ?_
    refine RW.runP 2 [2, 3, 12, 14, 15, 39, 40, 41, 50, 51] (sq 2 6) [(2, .int .i64 (k : Int)), (3, .int .i64 (n : Int)), (12, .int .i64 ((lenOf size k : Nat) : Int)), (14, .slice a22 (((qs.take (i + 1)).map Pc.index).length) c23), (15, .slice va (((qs.take i).map Pc.data).length) vc), (39, .slice a2 qs.length c3), (40, .int .i64 ((qs.length : Nat) : Int)), (41, .int .i64 (i : Int)), (50, .slice va (((qs.take i).map Pc.data).length) vc), (51, .pointer (some ⟨b17, 1, none⟩))] (by as_aux_lemma => kernel_rfl) (by as_aux_lemma => kernel_rfl) ?_
    refine RW.load (κ := .seq) (d := some 52) (r := (sq 3 6)) (T := 23) (b := b17) (o' := 1) (k := 1) (v := .slice a1q14 ((qs[i]).data.length) k1q14) (by as_aux_lemma => kernel_rfl) (H.cells 0 rfl) rfl (by as_aux_lemma => kernel_rfl) ?_
    refine RW.new (κ := .seq) (d := some 53) (r := (sq 4 6)) (o := .cells #[.slice a1q14 ((qs[i]).data.length) k1q14] 23 (0, 0)) (v := fun b => .slice (some ⟨b, 0, none⟩) 1 1) (fun b => by as_aux_lemma => kernel_rfl) (nofun) H ?_
    intro b26 w27 H
    have H := H.freeze 0 rfl (Shape.slice (Shape.bv .u8 8)) ([(qs[i]).data] : List (List (BitVec 8))) 1 (by simp [maxLen]) (by first | exact Nat.le_refl _ | simp) (EsP.cons (c := [.slice a1q14 ((qs[i]).data.length) k1q14]) (H.rp 1 rfl) EsP.nil)
    have H : Hp w S [] [(b17, .cells #[.int .i64 ((qs[i]).index), .slice a1q14 ((qs[i]).data.length) k1q14] 72 (0, 0))] [⟨Shape.int .i64, 3, .slice a22 (((qs.take (i + 1)).map Pc.index).length) c23, (qs.take (i + 1)).map Pc.index⟩, ⟨Shape.slice (Shape.bv .u8 8), 23, .slice va (((qs.take i).map Pc.data).length) vc, (qs.take i).map Pc.data⟩] [Rp (Shape.slice (Shape.slice (Shape.bv .u8 8))) [.slice (some ⟨b26, 0, none⟩) 1 1] ([(qs[i]).data] : List (List (BitVec 8))), Rp (Shape.slice (Shape.int .i64)) [.slice (some ⟨b20, 0, none⟩) 1 1] ([(qs[i]).index] : List Int), Rp (Shape.slice (Shape.bv .u8 8)) [.slice a1q14 ((qs[i]).data.length) k1q14] ((qs[i]).data), Fc b10 o11 [.int .i64 ((qs[i]).index), .slice a1q14 ((qs[i]).data.length) k1q14], Rp (Shape.slice pcS) [.slice a2 qs.length c3] qs] _ := H
    refine RW.appendW (d := some 54) (r := (sq 5 6)) (T := 29) (ty := 29) (e := 23) (m := 1) (by_ := 24) (v := .slice va (((qs.take i).map Pc.data).length) vc) (a2 := (some ⟨b26, 0, none⟩)) (l2 := 1) (c2 := 1) (zs := (qs.take (i + 1)).map Pc.data) (by as_aux_lemma => kernel_rfl) (by as_aux_lemma => kernel_rfl) rfl H 1 rfl 0 rfl (map_take_snoc _ (by omega)) (by rw [List.length_map, List.length_take]; omega) ?_
    intro a28 c29 w31 H hc30
    have H : Hp w S [] [(b17, .cells #[.int .i64 ((qs[i]).index), .slice a1q14 ((qs[i]).data.length) k1q14] 72 (0, 0))] [⟨Shape.int .i64, 3, .slice a22 (((qs.take (i + 1)).map Pc.index).length) c23, (qs.take (i + 1)).map Pc.index⟩, ⟨Shape.slice (Shape.bv .u8 8), 23, .slice a28 (((qs.take (i + 1)).map Pc.data).length) c29, (qs.take (i + 1)).map Pc.data⟩] [Rp (Shape.slice (Shape.slice (Shape.bv .u8 8))) [.slice (some ⟨b26, 0, none⟩) 1 1] ([(qs[i]).data] : List (List (BitVec 8))), Rp (Shape.slice (Shape.int .i64)) [.slice (some ⟨b20, 0, none⟩) 1 1] ([(qs[i]).index] : List Int), Rp (Shape.slice (Shape.bv .u8 8)) [.slice a1q14 ((qs[i]).data.length) k1q14] ((qs[i]).data), Fc b10 o11 [.int .i64 ((qs[i]).index), .slice a1q14 ((qs[i]).data.length) k1q14], Rp (Shape.slice pcS) [.slice a2 qs.length c3] qs] _ := H
    refine RW.fin 1 [2, 3, 12, 14, 15, 39, 40, 41] [(2, .int .i64 (k : Int)), (3, .int .i64 (n : Int)), (12, .int .i64 ((lenOf size k : Nat) : Int)), (14, .slice a22 (((qs.take (i + 1)).map Pc.index).length) c23), (15, .slice a28 (((qs.take (i + 1)).map Pc.data).length) c29), (39, .slice a2 qs.length c3), (40, .int .i64 ((qs.length : Nat) : Int)), (41, .int .i64 (i : Int))] (by as_aux_lemma => kernel_rfl) ?_
    refine WK.run 1 [2, 3, 12, 14, 15, 39, 40, 41] [.code (cd Try.prog 69 [5, 0, 1, 0, 0, 3]), .inLoop (cd Try.prog 69 [5, 0, 1, 0, 0]), .inBlock 0, .code (cd Try.prog 69 [6])] [(2, .int .i64 (k : Int)), (3, .int .i64 (n : Int)), (12, .int .i64 ((lenOf size k : Nat) : Int)), (14, .slice a22 (((qs.take (i + 1)).map Pc.index).length) c23), (15, .slice a28 (((qs.take (i + 1)).map Pc.data).length) c29), (39, .slice a2 qs.length c3), (40, .int .i64 ((qs.length : Nat) : Int)), (41, .int .i64 (i : Int))] (by as_aux_lemma => kernel_rfl) ?_
    refine WK.reg1 (l := sq 0 2) (by as_aux_lemma => kernel_rfl) (by as_aux_lemma => kernel_rfl) ?_
    refine RW.wr64 (κ := .seq) (d := some 55) (r := (sq 1 2)) (t := (i : Int) + 1) (by as_aux_lemma => kernel_rfl) (by omega) ?_
    refine RW.fin 1 [2, 3, 12, 14, 15, 39, 40, 41] [(2, .int .i64 (k : Int)), (3, .int .i64 (n : Int)), (12, .int .i64 ((lenOf size k : Nat) : Int)), (14, .slice a22 (((qs.take (i + 1)).map Pc.index).length) c23), (15, .slice a28 (((qs.take (i + 1)).map Pc.data).length) c29), (39, .slice a2 qs.length c3), (40, .int .i64 ((qs.length : Nat) : Int)), (41, .int .i64 ((i : Int) + 1))] (by as_aux_lemma => kernel_rfl) ?_
    have H := H.pick [4] (G' := [Rp (Shape.slice pcS) [.slice a2 qs.length c3] qs]) rfl
    have H := H.drop (M' := []) (W' := [⟨Shape.int .i64, 3, .slice a22 (((qs.take (i + 1)).map Pc.index).length) c23, (qs.take (i + 1)).map Pc.index⟩, ⟨Shape.slice (Shape.bv .u8 8), 23, .slice a28 (((qs.take (i + 1)).map Pc.data).length) c29, (qs.take (i + 1)).map Pc.data⟩]) (by repeat (first | exact List.Sublist.refl _ | apply List.Sublist.cons_cons | apply List.Sublist.cons)) (by repeat (first | exact List.Sublist.refl _ | apply List.Sublist.cons_cons | apply List.Sublist.cons))
    exact WK.back (hback6 (i + 1, a22, c23, a28, c29) _ ⟨H, by omega⟩ (by first | omega | (simp only []; omega))) (by as_aux_lemma => kernel_rfl)
  · skip
    replace h8 := of_decide_eq_false h8
    have hie : i = qs.length := by omega
    rw [hie, List.take_length] at H ⊢
    have hgl := gen_len k n
    have hga := gen_all k n
    have hsub : pickL (gen k n) (qs.map Pc.index) = subM ys k n := by rw [hqs]; rfl
    have hrows : ∀ x ∈ qs.map Pc.index, 0 ≤ x ∧ x < ((gen k n).length : Int) := fun x hx => by
          obtain ⟨p, hp, rfl⟩ := List.mem_map.1 hx
          rw [hgl]
          exact hqr p hp
    have hrl : (qs.map Pc.index).length = k := by rw [List.length_map]; exact hql
    have hvl : (qs.map Pc.data).length = k := by rw [List.length_map]; exact hql
    have hrg := hreg ys hys hord
    have hsl := subM_len (n := n) (show k ≤ ys.length by omega)
    have hsa : ∀ x ∈ subM ys k n, x.length = k := hsub ▸ pickL_all hga hrows
    have hil := invM_len (n := n) (show k ≤ ys.length by omega)
    have hia := invM_all (n := n) (show k ≤ ys.length by omega)
    have hda : ∀ d ∈ qs.map Pc.data, d.length = lenOf size k := fun d hd => by
          obtain ⟨p, hp, rfl⟩ := List.mem_map.1 hd
          exact hqd p hp
    have hLs := lenOf_le (size := size) (k := k) (by omega)
    have H : Hp w S [] [] [⟨Shape.int .i64, 3, .slice ra ((qs.map Pc.index).length) rc, qs.map Pc.index⟩, ⟨Shape.slice (Shape.bv .u8 8), 23, .slice va ((qs.map Pc.data).length) vc, qs.map Pc.data⟩] [Rp (Shape.slice pcS) [.slice a2 qs.length c3] qs] _ := H
    have H : Hp w S [] [] [⟨Shape.int .i64, 3, .slice ra ((qs.map Pc.index).length) rc, qs.map Pc.index⟩] [Rp (Shape.slice (Shape.slice (Shape.bv .u8 8))) [.slice va ((qs.map Pc.data).length) vc] (qs.map Pc.data), Rp (Shape.slice pcS) [.slice a2 qs.length c3] qs] _ := H.freezeW 1 rfl
    refine WK.run 2 [2, 3, 12, 14, 15] [.code (cd Try.prog 69 [6, 0]), .code (cd Try.prog 69 [7])] [(2, .int .i64 (k : Int)), (3, .int .i64 (n : Int)), (12, .int .i64 ((lenOf size k : Nat) : Int)), (14, .slice ra ((qs.map Pc.index).length) rc), (15, .slice va ((qs.map Pc.data).length) vc)] (by as_aux_lemma => kernel_rfl) ?_
    refine WK.reg1 (l := sq 0 8) (by as_aux_lemma => kernel_rfl) (by as_aux_lemma => kernel_rfl) ?_
    refine RW.runP 2 [12, 14, 15, 57, 58] (sq 2 8) [(12, .int .i64 ((lenOf size k : Nat) : Int)), (14, .slice ra ((qs.map Pc.index).length) rc), (15, .slice va ((qs.map Pc.data).length) vc), (57, .int .i64 (k : Int)), (58, .int .i64 (n : Int))] (by as_aux_lemma => kernel_rfl) (by as_aux_lemma => kernel_rfl) ?_
    refine RW.call (κ := .seq) (d := some 59) (r := (sq 3 8)) (g := 67) (args := #[.int .i64 (k : Int), .int .i64 (n : Int)]) (by as_aux_lemma => kernel_rfl) (nofun) (generator_spec (S := Av S w [] (idsOf [] [⟨Shape.int .i64, 3, .slice ra ((qs.map Pc.index).length) rc, qs.map Pc.index⟩])) k n (by omega) (by omega) (by omega)) ?_
    rintro _ w32 hE35 ⟨a33, c34, rfl, hr36⟩
    have H := H.addN hE35 (F := Rp (Shape.slice (Shape.slice (Shape.bv .u8 8))) [.slice a33 ((gen k n).length) c34] (gen k n)) hr36
    refine RW.fin 5 [12, 14, 15, 18] [(12, .int .i64 ((lenOf size k : Nat) : Int)), (14, .slice ra ((qs.map Pc.index).length) rc), (15, .slice va ((qs.map Pc.data).length) vc), (18, .slice a33 ((gen k n).length) c34)] (by as_aux_lemma => kernel_rfl) ?_
    refine WK.run 1 [12, 14, 15, 18] [.code (cd Try.prog 69 [7, 0]), .code (cd Try.prog 69 [8])] [(12, .int .i64 ((lenOf size k : Nat) : Int)), (14, .slice ra ((qs.map Pc.index).length) rc), (15, .slice va ((qs.map Pc.data).length) vc), (18, .slice a33 ((gen k n).length) c34)] (by as_aux_lemma => kernel_rfl) ?_
    refine WK.reg1 (l := sq 0 8) (by as_aux_lemma => kernel_rfl) (by as_aux_lemma => kernel_rfl) ?_
    refine RW.runP 2 [12, 15, 63, 64] (sq 2 8) [(12, .int .i64 ((lenOf size k : Nat) : Int)), (15, .slice va ((qs.map Pc.data).length) vc), (63, .slice a33 ((gen k n).length) c34), (64, .slice ra ((qs.map Pc.index).length) rc)] (by as_aux_lemma => kernel_rfl) (by as_aux_lemma => kernel_rfl) ?_
    have H : Hp w S [] [] [] [Rp (Shape.slice (Shape.int .i64)) [.slice ra ((qs.map Pc.index).length) rc] (qs.map Pc.index), Rp (Shape.slice (Shape.slice (Shape.bv .u8 8))) [.slice a33 ((gen k n).length) c34] (gen k n), Rp (Shape.slice (Shape.slice (Shape.bv .u8 8))) [.slice va ((qs.map Pc.data).length) vc] (qs.map Pc.data), Rp (Shape.slice pcS) [.slice a2 qs.length c3] qs] _ := H.freezeW 0 rfl
    have hq1 := H.rp 1 rfl
    have hq2 := H.rp 0 rfl
    have hq3 := pick_spec (S := Av S w [] (idsOf [] [])) (m := gen k n) hq1 (rows := qs.map Pc.index) hq2 (by omega) (c := k) hga (by omega) (by omega) hrows
    refine RW.call (κ := .seq) (d := some 65) (r := (sq 3 8)) (g := 100) (args := #[.slice a33 ((gen k n).length) c34, .slice ra ((qs.map Pc.index).length) rc]) (by as_aux_lemma => kernel_rfl) (nofun) hq3 ?_
    rintro _ w37 - ⟨a38, c39, rfl, H'⟩
    rw [hsub] at H' ⊢
    have H := H.back (M1 := []) (W1 := []) H'
    have H : Hp w S [] [] [⟨Shape.slice (Shape.bv .u8 8), 23, .slice a38 ((subM ys k n).length) c39, subM ys k n⟩] [Rp (Shape.slice (Shape.int .i64)) [.slice ra ((qs.map Pc.index).length) rc] (qs.map Pc.index), Rp (Shape.slice (Shape.slice (Shape.bv .u8 8))) [.slice a33 ((gen k n).length) c34] (gen k n), Rp (Shape.slice (Shape.slice (Shape.bv .u8 8))) [.slice va ((qs.map Pc.data).length) vc] (qs.map Pc.data), Rp (Shape.slice pcS) [.slice a2 qs.length c3] qs] _ := H
    refine RW.fin 5 [12, 15, 20] [(12, .int .i64 ((lenOf size k : Nat) : Int)), (15, .slice va ((qs.map Pc.data).length) vc), (20, .slice a38 ((subM ys k n).length) c39)] (by as_aux_lemma => kernel_rfl) ?_
    refine WK.run 1 [12, 15, 20] [.code (cd Try.prog 69 [8, 0]), .code (cd Try.prog 69 [9])] [(12, .int .i64 ((lenOf size k : Nat) : Int)), (15, .slice va ((qs.map Pc.data).length) vc), (20, .slice a38 ((subM ys k n).length) c39)] (by as_aux_lemma => kernel_rfl) ?_
    refine WK.reg1 (l := sq 0 7) (by as_aux_lemma => kernel_rfl) (by as_aux_lemma => kernel_rfl) ?_
    refine RW.runP 1 [12, 15, 69] (sq 1 7) [(12, .int .i64 ((lenOf size k : Nat) : Int)), (15, .slice va ((qs.map Pc.data).length) vc), (69, .slice a38 ((subM ys k n).length) c39)] (by as_aux_lemma => kernel_rfl) (by as_aux_lemma => kernel_rfl) ?_
    have H : Hp w S [] [] [] [Rp (Shape.slice (Shape.slice (Shape.bv .u8 8))) [.slice a38 ((subM ys k n).length) c39] (subM ys k n), Rp (Shape.slice (Shape.int .i64)) [.slice ra ((qs.map Pc.index).length) rc] (qs.map Pc.index), Rp (Shape.slice (Shape.slice (Shape.bv .u8 8))) [.slice a33 ((gen k n).length) c34] (gen k n), Rp (Shape.slice (Shape.slice (Shape.bv .u8 8))) [.slice va ((qs.map Pc.data).length) vc] (qs.map Pc.data), Rp (Shape.slice pcS) [.slice a2 qs.length c3] qs] _ := H.freezeW 0 rfl
    refine RW.call (κ := .seq) (d := some 70) (r := (sq 2 7)) (g := 101) (args := #[.slice a38 ((subM ys k n).length) c39]) (by as_aux_lemma => kernel_rfl) (nofun) (invert_spec (S := Av S w [] (idsOf [] [])) (m := subM ys k n) (H.rp 0 rfl) (by omega) (by rw [hsl]; exact hsa) (by rw [hsl]; exact hrg)) ?_
    rintro _ w40 - ⟨a41, c42, rfl, H'⟩
    have H := H.back (M1 := []) (W1 := []) H'
    rw [show (redTo (subM ys k n) (ident (subM ys k n).length) (subM ys k n).length).2.2 = invM ys k n by rw [hsl]; rfl] at H
    have hvn : (subM ys k n).length = (invM ys k n).length := by rw [hsl, hil]
    have H := H.reW (ys := invM ys k n) (v' := .slice a41 (invM ys k n).length c42) rfl (by rw [hvn])
    rw [show (Value.slice a41 (subM ys k n).length c42) = .slice a41 (invM ys k n).length c42 by rw [hvn]]
    have H : Hp w S [] [] [⟨Shape.slice (Shape.bv .u8 8), 23, .slice a41 ((invM ys k n).length) c42, invM ys k n⟩] [Rp (Shape.slice (Shape.slice (Shape.bv .u8 8))) [.slice a38 ((subM ys k n).length) c39] (subM ys k n), Rp (Shape.slice (Shape.int .i64)) [.slice ra ((qs.map Pc.index).length) rc] (qs.map Pc.index), Rp (Shape.slice (Shape.slice (Shape.bv .u8 8))) [.slice a33 ((gen k n).length) c34] (gen k n), Rp (Shape.slice (Shape.slice (Shape.bv .u8 8))) [.slice va ((qs.map Pc.data).length) vc] (qs.map Pc.data), Rp (Shape.slice pcS) [.slice a2 qs.length c3] qs] _ := H
    have H : Hp w S [] [] [] [Rp (Shape.slice (Shape.slice (Shape.bv .u8 8))) [.slice a41 ((invM ys k n).length) c42] (invM ys k n), Rp (Shape.slice (Shape.slice (Shape.bv .u8 8))) [.slice a38 ((subM ys k n).length) c39] (subM ys k n), Rp (Shape.slice (Shape.int .i64)) [.slice ra ((qs.map Pc.index).length) rc] (qs.map Pc.index), Rp (Shape.slice (Shape.slice (Shape.bv .u8 8))) [.slice a33 ((gen k n).length) c34] (gen k n), Rp (Shape.slice (Shape.slice (Shape.bv .u8 8))) [.slice va ((qs.map Pc.data).length) vc] (qs.map Pc.data), Rp (Shape.slice pcS) [.slice a2 qs.length c3] qs] _ := H.freezeW 0 rfl
    refine RW.fin 5 [12, 15, 22] [(12, .int .i64 ((lenOf size k : Nat) : Int)), (15, .slice va ((qs.map Pc.data).length) vc), (22, .slice a41 ((invM ys k n).length) c42)] (by as_aux_lemma => kernel_rfl) ?_
    refine WK.run 6 [12, 15, 24, 73, 74, 75] [.code (cd Try.prog 69 [10, 0, 1, 0]), .inBlock 2, .code (cd Try.prog 69 [11])] [(12, .int .i64 ((lenOf size k : Nat) : Int)), (15, .slice va ((qs.map Pc.data).length) vc), (24, .slice none 0 0), (73, .slice a41 ((invM ys k n).length) c42), (74, .int .i64 (((invM ys k n).length : Nat) : Int)), (75, .int .i64 0)] (by as_aux_lemma => kernel_rfl) ?_
    have H := H.ownNil (Shape.slice (Shape.bv .u8 8)) 23
    have H : Hp w S [] [] [⟨Shape.slice (Shape.bv .u8 8), 23, .slice none (((datL ys k n (lenOf size k)).take 0).length) 0, (datL ys k n (lenOf size k)).take 0⟩] [Rp (Shape.slice (Shape.slice (Shape.bv .u8 8))) [.slice a41 ((invM ys k n).length) c42] (invM ys k n), Rp (Shape.slice (Shape.slice (Shape.bv .u8 8))) [.slice a38 ((subM ys k n).length) c39] (subM ys k n), Rp (Shape.slice (Shape.int .i64)) [.slice ra ((qs.map Pc.index).length) rc] (qs.map Pc.index), Rp (Shape.slice (Shape.slice (Shape.bv .u8 8))) [.slice a33 ((gen k n).length) c34] (gen k n), Rp (Shape.slice (Shape.slice (Shape.bv .u8 8))) [.slice va ((qs.map Pc.data).length) vc] (qs.map Pc.data), Rp (Shape.slice pcS) [.slice a2 qs.length c3] qs] w40 := H
    have H := H.pick [0, 4] (G' := [Rp (Shape.slice (Shape.slice (Shape.bv .u8 8))) [.slice a41 ((invM ys k n).length) c42] (invM ys k n), Rp (Shape.slice (Shape.slice (Shape.bv .u8 8))) [.slice va ((qs.map Pc.data).length) vc] (qs.map Pc.data)]) rfl
    refine WK.loop (α := Nat × Option Addr × Nat) (b := cd Try.prog 69 [10, 0, 1, 0, 0]) (by as_aux_lemma => kernel_rfl) (fun st_ => match st_ with | (j, ao, co) => [(12, .int .i64 ((lenOf size k : Nat) : Int)), (15, .slice va ((qs.map Pc.data).length) vc), (24, .slice ao (((datL ys k n (lenOf size k)).take j).length) co), (73, .slice a41 ((invM ys k n).length) c42), (74, .int .i64 (((invM ys k n).length : Nat) : Int)), (75, .int .i64 (j : Int))]) (fun st_ w' => match st_ with | (j, ao, co) => Hp w S [] [] [⟨Shape.slice (Shape.bv .u8 8), 23, .slice ao (((datL ys k n (lenOf size k)).take j).length) co, (datL ys k n (lenOf size k)).take j⟩] [Rp (Shape.slice (Shape.slice (Shape.bv .u8 8))) [.slice a41 ((invM ys k n).length) c42] (invM ys k n), Rp (Shape.slice (Shape.slice (Shape.bv .u8 8))) [.slice va ((qs.map Pc.data).length) vc] (qs.map Pc.data)] w' ∧ j ≤ (invM ys k n).length) (fun st_ => match st_ with | (j, ao, co) => (invM ys k n).length - j) (0, none, 0) ⟨H, Nat.zero_le _⟩ (rfl) ?_
    rintro ⟨j, ao, co⟩ w44 ⟨H, hinv1⟩ hback43
    refine WK.run 3 [12, 15, 24, 73, 74, 75, 76] [.code (cd Try.prog 69 [10, 0, 1, 0, 0, 1, 0]), .code (cd Try.prog 69 [10, 0, 1, 0, 0, 2]), .inLoop (cd Try.prog 69 [10, 0, 1, 0, 0]), .inBlock 2, .code (cd Try.prog 69 [11])] [(12, .int .i64 ((lenOf size k : Nat) : Int)), (15, .slice va ((qs.map Pc.data).length) vc), (24, .slice ao (((datL ys k n (lenOf size k)).take j).length) co), (73, .slice a41 ((invM ys k n).length) c42), (74, .int .i64 (((invM ys k n).length : Nat) : Int)), (75, .int .i64 (j : Int)), (76, .bool (decide (((j : Int) : Int) < (((invM ys k n).length : Nat) : Int))))] (by as_aux_lemma => kernel_rfl) ?_
    refine WK.cond1 (decide (((j : Int) : Int) < (((invM ys k n).length : Nat) : Int))) (by as_aux_lemma => kernel_rfl) (by as_aux_lemma => kernel_rfl) (fun h45 => ?_) (fun h45 => ?_)
    · skip
      replace h45 := of_decide_eq_true h45
      refine WK.run 4 [12, 15, 24, 73, 74, 75] [.code (cd Try.prog 69 [10, 0, 1, 0, 0, 2, 0, 0, 0]), .code (cd Try.prog 69 [10, 0, 1, 0, 0, 2, 0, 0, 1]), .inBlock 3, .code (cd Try.prog 69 [10, 0, 1, 0, 0, 3]), .inLoop (cd Try.prog 69 [10, 0, 1, 0, 0]), .inBlock 2, .code (cd Try.prog 69 [11])] [(12, .int .i64 ((lenOf size k : Nat) : Int)), (15, .slice va ((qs.map Pc.data).length) vc), (24, .slice ao (((datL ys k n (lenOf size k)).take j).length) co), (73, .slice a41 ((invM ys k n).length) c42), (74, .int .i64 (((invM ys k n).length : Nat) : Int)), (75, .int .i64 (j : Int))] (by as_aux_lemma => kernel_rfl) ?_
      refine WK.reg1 (l := sq 0 3) (by as_aux_lemma => kernel_rfl) (by as_aux_lemma => kernel_rfl) ?_
      have hx46 : j < (invM ys k n).length := by omega
      refine RW.index (κ := .seq) (d := some 77) (r := (sq 1 3)) (T := 29) (e := 23) (ik := .i64) (ix := (j : Int)) (sh := (Shape.slice (Shape.bv .u8 8))) (x := (invM ys k n)[j]) (by as_aux_lemma => kernel_rfl) (by as_aux_lemma => kernel_rfl) H 0 rfl j (by omega) (List.getElem?_eq_getElem hx46) ?_
      intro b47 o48 es49 hr50 H
      obtain ⟨a51, k52, rfl⟩ := Shape.slice_form' hr50
      have H := H.add (F := Rp (Shape.slice (Shape.bv .u8 8)) [.slice a51 (((invM ys k n)[j]).length) k52] ((invM ys k n)[j])) hr50
      refine RW.load (κ := .seq) (d := some 78) (r := (sq 2 3)) (T := 23) (b := b47) (o' := o48) (k := 0) (v := .slice a51 (((invM ys k n)[j]).length) k52) (by as_aux_lemma => kernel_rfl) (H.fc 1 rfl) rfl (by as_aux_lemma => kernel_rfl) ?_
      refine RW.fin 1 [12, 15, 24, 26, 73, 74, 75] [(12, .int .i64 ((lenOf size k : Nat) : Int)), (15, .slice va ((qs.map Pc.data).length) vc), (24, .slice ao (((datL ys k n (lenOf size k)).take j).length) co), (26, .slice a51 (((invM ys k n)[j]).length) k52), (73, .slice a41 ((invM ys k n).length) c42), (74, .int .i64 (((invM ys k n).length : Nat) : Int)), (75, .int .i64 (j : Int))] (by as_aux_lemma => kernel_rfl) ?_
      refine WK.reg1 (l := sq 0 8) (by as_aux_lemma => kernel_rfl) (by as_aux_lemma => kernel_rfl) ?_
      refine RW.runP 4 [12, 15, 24, 73, 74, 75, 79, 80, 81, 82] (sq 4 8) [(12, .int .i64 ((lenOf size k : Nat) : Int)), (15, .slice va ((qs.map Pc.data).length) vc), (24, .slice ao (((datL ys k n (lenOf size k)).take j).length) co), (73, .slice a41 ((invM ys k n).length) c42), (74, .int .i64 (((invM ys k n).length : Nat) : Int)), (75, .int .i64 (j : Int)), (79, .slice ao (((datL ys k n (lenOf size k)).take j).length) co), (80, .slice a51 (((invM ys k n)[j]).length) k52), (81, .slice va ((qs.map Pc.data).length) vc), (82, .int .i64 ((lenOf size k : Nat) : Int))] (by as_aux_lemma => kernel_rfl) (by as_aux_lemma => kernel_rfl) ?_
      refine RW.call (κ := .seq) (d := some 83) (r := (sq 5 8)) (g := 68) (args := #[.slice a51 (((invM ys k n)[j]).length) k52, .slice va ((qs.map Pc.data).length) vc, .int .i64 ((lenOf size k : Nat) : Int)]) (by as_aux_lemma => kernel_rfl) (nofun) (mixed_spec (S := fun _ => True) (row := (invM ys k n)[j]) (ds := qs.map Pc.data) (lenOf size k) (H.viewR 0 rfl) (H.viewR 3 rfl) (by rw [hia _ (List.getElem_mem _), hvl]; exact Nat.le_refl _) (hda) (by omega)) ?_
      rintro v54 w53 - H'
      have H := H.back (M1 := []) (W1 := []) H'.reSbv
      obtain ⟨a55, c56, rfl, hc57, hm58⟩ := H.ownForm 0 rfl
      have H : Hp w S [] [] [⟨Shape.bv .u8 8, 5, .slice a55 ((mixAll ((invM ys k n)[j]) (qs.map Pc.data) (List.replicate (lenOf size k) 0#8)).length) c56, mixAll ((invM ys k n)[j]) (qs.map Pc.data) (List.replicate (lenOf size k) 0#8)⟩, ⟨Shape.slice (Shape.bv .u8 8), 23, .slice ao (((datL ys k n (lenOf size k)).take j).length) co, (datL ys k n (lenOf size k)).take j⟩] [Rp (Shape.slice (Shape.bv .u8 8)) [.slice a51 (((invM ys k n)[j]).length) k52] ((invM ys k n)[j]), Fc b47 o48 [.slice a51 (((invM ys k n)[j]).length) k52], Rp (Shape.slice (Shape.slice (Shape.bv .u8 8))) [.slice a41 ((invM ys k n).length) c42] (invM ys k n), Rp (Shape.slice (Shape.slice (Shape.bv .u8 8))) [.slice va ((qs.map Pc.data).length) vc] (qs.map Pc.data)] _ := H
      refine RW.new (κ := .seq) (d := some 84) (r := (sq 6 8)) (o := .cells #[.slice a55 ((mixAll ((invM ys k n)[j]) (qs.map Pc.data) (List.replicate (lenOf size k) 0#8)).length) c56] 23 (0, 0)) (v := fun b => .slice (some ⟨b, 0, none⟩) 1 1) (fun b => by as_aux_lemma => kernel_rfl) (nofun) H ?_
      intro b59 w60 H
      have H : Hp w S [] [(b59, .cells #[.slice a55 ((mixAll ((invM ys k n)[j]) (qs.map Pc.data) (List.replicate (lenOf size k) 0#8)).length) c56] 23 (0, 0))] [⟨Shape.slice (Shape.bv .u8 8), 23, .slice ao (((datL ys k n (lenOf size k)).take j).length) co, (datL ys k n (lenOf size k)).take j⟩] [Rp (Shape.slice (Shape.bv .u8 8)) [.slice a55 ((mixAll ((invM ys k n)[j]) (qs.map Pc.data) (List.replicate (lenOf size k) 0#8)).length) c56] (mixAll ((invM ys k n)[j]) (qs.map Pc.data) (List.replicate (lenOf size k) 0#8)), Rp (Shape.slice (Shape.bv .u8 8)) [.slice a51 (((invM ys k n)[j]).length) k52] ((invM ys k n)[j]), Fc b47 o48 [.slice a51 (((invM ys k n)[j]).length) k52], Rp (Shape.slice (Shape.slice (Shape.bv .u8 8))) [.slice a41 ((invM ys k n).length) c42] (invM ys k n), Rp (Shape.slice (Shape.slice (Shape.bv .u8 8))) [.slice va ((qs.map Pc.data).length) vc] (qs.map Pc.data)] _ := H.freezeW 0 rfl
      have H := H.freeze 0 rfl (Shape.slice (Shape.bv .u8 8)) ([mixAll ((invM ys k n)[j]) (qs.map Pc.data) (List.replicate (lenOf size k) 0#8)] : List (List (BitVec 8))) 1 (by simp [maxLen]) (by first | exact Nat.le_refl _ | simp) (EsP.cons (c := [.slice a55 ((mixAll ((invM ys k n)[j]) (qs.map Pc.data) (List.replicate (lenOf size k) 0#8)).length) c56]) (H.rp 0 rfl) EsP.nil)
      have H : Hp w S [] [] [⟨Shape.slice (Shape.bv .u8 8), 23, .slice ao (((datL ys k n (lenOf size k)).take j).length) co, (datL ys k n (lenOf size k)).take j⟩] [Rp (Shape.slice (Shape.slice (Shape.bv .u8 8))) [.slice (some ⟨b59, 0, none⟩) 1 1] ([mixAll ((invM ys k n)[j]) (qs.map Pc.data) (List.replicate (lenOf size k) 0#8)] : List (List (BitVec 8))), Rp (Shape.slice (Shape.bv .u8 8)) [.slice a55 ((mixAll ((invM ys k n)[j]) (qs.map Pc.data) (List.replicate (lenOf size k) 0#8)).length) c56] (mixAll ((invM ys k n)[j]) (qs.map Pc.data) (List.replicate (lenOf size k) 0#8)), Rp (Shape.slice (Shape.bv .u8 8)) [.slice a51 (((invM ys k n)[j]).length) k52] ((invM ys k n)[j]), Fc b47 o48 [.slice a51 (((invM ys k n)[j]).length) k52], Rp (Shape.slice (Shape.slice (Shape.bv .u8 8))) [.slice a41 ((invM ys k n).length) c42] (invM ys k n), Rp (Shape.slice (Shape.slice (Shape.bv .u8 8))) [.slice va ((qs.map Pc.data).length) vc] (qs.map Pc.data)] _ := H
      refine RW.appendW (d := some 85) (r := (sq 7 8)) (T := 29) (ty := 29) (e := 23) (m := 1) (by_ := 24) (v := .slice ao (((datL ys k n (lenOf size k)).take j).length) co) (a2 := (some ⟨b59, 0, none⟩)) (l2 := 1) (c2 := 1) (zs := (datL ys k n (lenOf size k)).take (j + 1)) (by as_aux_lemma => kernel_rfl) (by as_aux_lemma => kernel_rfl) rfl H 0 rfl 0 rfl (by rw [hqs]; exact datL_take (by omega) (by omega)) (by rw [List.length_take, datL_len (by omega)]; omega) ?_
      intro a61 c62 w64 H hc63
      have H : Hp w S [] [] [⟨Shape.slice (Shape.bv .u8 8), 23, .slice a61 (((datL ys k n (lenOf size k)).take (j + 1)).length) c62, (datL ys k n (lenOf size k)).take (j + 1)⟩] [Rp (Shape.slice (Shape.slice (Shape.bv .u8 8))) [.slice (some ⟨b59, 0, none⟩) 1 1] ([mixAll ((invM ys k n)[j]) (qs.map Pc.data) (List.replicate (lenOf size k) 0#8)] : List (List (BitVec 8))), Rp (Shape.slice (Shape.bv .u8 8)) [.slice a55 ((mixAll ((invM ys k n)[j]) (qs.map Pc.data) (List.replicate (lenOf size k) 0#8)).length) c56] (mixAll ((invM ys k n)[j]) (qs.map Pc.data) (List.replicate (lenOf size k) 0#8)), Rp (Shape.slice (Shape.bv .u8 8)) [.slice a51 (((invM ys k n)[j]).length) k52] ((invM ys k n)[j]), Fc b47 o48 [.slice a51 (((invM ys k n)[j]).length) k52], Rp (Shape.slice (Shape.slice (Shape.bv .u8 8))) [.slice a41 ((invM ys k n).length) c42] (invM ys k n), Rp (Shape.slice (Shape.slice (Shape.bv .u8 8))) [.slice va ((qs.map Pc.data).length) vc] (qs.map Pc.data)] _ := H
      refine RW.fin 1 [12, 15, 24, 73, 74, 75] [(12, .int .i64 ((lenOf size k : Nat) : Int)), (15, .slice va ((qs.map Pc.data).length) vc), (24, .slice a61 (((datL ys k n (lenOf size k)).take (j + 1)).length) c62), (73, .slice a41 ((invM ys k n).length) c42), (74, .int .i64 (((invM ys k n).length : Nat) : Int)), (75, .int .i64 (j : Int))] (by as_aux_lemma => kernel_rfl) ?_
      refine WK.run 1 [12, 15, 24, 73, 74, 75] [.code (cd Try.prog 69 [10, 0, 1, 0, 0, 3]), .inLoop (cd Try.prog 69 [10, 0, 1, 0, 0]), .inBlock 2, .code (cd Try.prog 69 [11])] [(12, .int .i64 ((lenOf size k : Nat) : Int)), (15, .slice va ((qs.map Pc.data).length) vc), (24, .slice a61 (((datL ys k n (lenOf size k)).take (j + 1)).length) c62), (73, .slice a41 ((invM ys k n).length) c42), (74, .int .i64 (((invM ys k n).length : Nat) : Int)), (75, .int .i64 (j : Int))] (by as_aux_lemma => kernel_rfl) ?_
      refine WK.reg1 (l := sq 0 2) (by as_aux_lemma => kernel_rfl) (by as_aux_lemma => kernel_rfl) ?_
      refine RW.wr64 (κ := .seq) (d := some 86) (r := (sq 1 2)) (t := (j : Int) + 1) (by as_aux_lemma => kernel_rfl) (by omega) ?_
      refine RW.fin 1 [12, 15, 24, 73, 74, 75] [(12, .int .i64 ((lenOf size k : Nat) : Int)), (15, .slice va ((qs.map Pc.data).length) vc), (24, .slice a61 (((datL ys k n (lenOf size k)).take (j + 1)).length) c62), (73, .slice a41 ((invM ys k n).length) c42), (74, .int .i64 (((invM ys k n).length : Nat) : Int)), (75, .int .i64 ((j : Int) + 1))] (by as_aux_lemma => kernel_rfl) ?_
      have H := H.pick [4, 5] (G' := [Rp (Shape.slice (Shape.slice (Shape.bv .u8 8))) [.slice a41 ((invM ys k n).length) c42] (invM ys k n), Rp (Shape.slice (Shape.slice (Shape.bv .u8 8))) [.slice va ((qs.map Pc.data).length) vc] (qs.map Pc.data)]) rfl
      exact WK.back (hback43 (j + 1, a61, c62) _ ⟨H, by omega⟩ (by first | omega | (simp only []; omega))) (by as_aux_lemma => kernel_rfl)
    · skip
      replace h45 := of_decide_eq_false h45
      refine WK.run 3 [8, 9, 10] [.code (cd Try.prog 69 [12])] [(8, .slice ao (((datL ys k n (lenOf size k)).take j).length) co), (9, .int .i64 ((lenOf size k : Nat) : Int)), (10, .int .i64 0)] (by as_aux_lemma => kernel_rfl) ?_
      refine WK.ret (v := .tuple #[.slice ao (((datL ys k n (lenOf size k)).take j).length) co, .int .i64 ((lenOf size k : Nat) : Int), .int .i64 0]) Try.func69 (by as_aux_lemma => kernel_rfl) (by as_aux_lemma => kernel_rfl) ?_
      have H : Hp w S [] [] [] [Rp (Shape.slice (Shape.slice (Shape.bv .u8 8))) [.slice ao (((datL ys k n (lenOf size k)).take j).length) co] ((datL ys k n (lenOf size k)).take j), Rp (Shape.slice (Shape.slice (Shape.bv .u8 8))) [.slice a41 ((invM ys k n).length) c42] (invM ys k n), Rp (Shape.slice (Shape.slice (Shape.bv .u8 8))) [.slice va ((qs.map Pc.data).length) vc] (qs.map Pc.data)] _ := H.freezeW 0 rfl
      have hje : j = k := by omega
      rw [List.take_of_length_le (by rw [datL_len (by omega)]; omega)] at H ⊢
      exact ⟨_, rfl, H.done, _, _, ys, rfl, hys, hord, H.out (H.rp 0 rfl)⟩

theorem data_few {S : Nat → Prop} {w : World} {ps : List Pc} {a : Option Addr} {c : Nat} (h : (Shape.slice pcS).rep S w [.slice a ps.length c] ps) {size k n : Nat} (hs : size ≤ 65536) (hk : 1 ≤ k) (hkn : k ≤ n) (hn : n ≤ 255) (hok : PsOk ps n (lenOf size k)) (hlen : ps.length < k) :
    Calls Try.prog 69 #[.slice a ps.length c, .int .i64 (size : Int), .int .i64 (k : Int), .int .i64 (n : Int)] w (Ret fun v w' => Ext w w' ∧ v = .tuple #[.slice none 0 0, .int .i64 0, .int .i64 30]) := by
  refine WK.calls1 (fn := Try.f69) (n := 89) (σ := [(0, .slice a ps.length c), (1, .int .i64 (size : Int)), (2, .int .i64 (k : Int)), (3, .int .i64 (n : Int))]) Try.func69 rfl (by as_aux_lemma => kernel_rfl) (by as_aux_lemma => kernel_rfl) (by as_aux_lemma => kernel_rfl) ?_
  have H := Hp.startF (w := w) (S := S) (G := [Rp (Shape.slice pcS) [.slice a ps.length c] ps]) (.rp h .nil)
  refine WK.run 3 [0, 1, 2, 3] [.code (cd Try.prog 69 [1, 0]), .code (cd Try.prog 69 [2])] [(0, .slice a ps.length c), (1, .int .i64 (size : Int)), (2, .int .i64 (k : Int)), (3, .int .i64 (n : Int))] (by as_aux_lemma => kernel_rfl) ?_
  refine WK.reg1 (l := sq 0 12) (by as_aux_lemma => kernel_rfl) (by as_aux_lemma => kernel_rfl) ?_
  refine RW.runP 4 [2, 3, 28, 29, 30, 31] (sq 4 12) [(2, .int .i64 (k : Int)), (3, .int .i64 (n : Int)), (28, .slice a ps.length c), (29, .int .i64 (size : Int)), (30, .int .i64 (k : Int)), (31, .int .i64 (n : Int))] (by as_aux_lemma => kernel_rfl) (by as_aux_lemma => kernel_rfl) ?_
  refine RW.call (κ := .seq) (d := some 32) (r := (sq 5 12)) (g := 99) (args := #[.slice a ps.length c, .int .i64 (size : Int), .int .i64 (k : Int), .int .i64 (n : Int)]) (by as_aux_lemma => kernel_rfl) (nofun) (chosen_few (S := fun _ => True) (ps := ps) (H.viewF 0 rfl) (size := size) (k := k) (n := n) hs hk hkn hn hok hlen) ?_
  rintro _ w1 hE2 rfl
  have H := H.ext hE2
  refine RW.fin 7 [2, 3, 11, 12, 13] [(2, .int .i64 (k : Int)), (3, .int .i64 (n : Int)), (11, .slice none 0 0), (12, .int .i64 0), (13, .int .i64 30)] (by as_aux_lemma => kernel_rfl) ?_
  refine WK.run 6 [8, 9, 10] [.code (cd Try.prog 69 [2, 0, 1, 0, 1]), .code (cd Try.prog 69 [3])] [(8, .slice none 0 0), (9, .int .i64 0), (10, .int .i64 30)] (by as_aux_lemma => kernel_rfl) ?_
  refine WK.ret (v := .tuple #[.slice none 0 0, .int .i64 0, .int .i64 30]) Try.func69 (by as_aux_lemma => kernel_rfl) (by as_aux_lemma => kernel_rfl) ?_
  exact ⟨_, rfl, H.done, rfl⟩


end Go.Proofs.Ytppcdmbkgficiaa
