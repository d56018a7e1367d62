import Derived.Test.YtppcdmbkgficiaaP7
namespace Go.Proofs.Ytppcdmbkgficiaa
open Go.BX

theorem encD_all {xs : List (BitVec 8)} {k n : Nat} : ∀ d ∈ enc xs k n, d.length = lenOf xs.length k := by
  intro d hd
  unfold enc at hd
  rcases List.mem_append.1 hd with h | h
  · exact dataOf_all _ _ _ d h
  · obtain ⟨j, _, rfl⟩ := List.mem_map.1 h
    exact mixAll_len List.length_replicate (dataOf_all _ _ _)
theorem cat_plain {xs : List (BitVec 8)} {l : Nat} : ∀ i : Nat, ((List.range i).map (chunk xs l)).flatten = xs.take (i * l) ++ List.replicate (i * l - xs.length) 0#8
  | 0 => by simp
  | i + 1 => by
    rw [List.range_succ, List.map_append, List.flatten_append, cat_plain i]
    simp only [List.map_cons, List.map_nil, List.flatten_cons, List.flatten_nil, List.append_nil, chunk]
    have hs : (i + 1) * l = i * l + l := Nat.succ_mul i l
    rcases Nat.lt_or_ge xs.length (i * l) with h | h
    · have e1 : xs.take (i * l) = xs := List.take_of_length_le (by omega)
      have e2 : xs.drop (i * l) = [] := List.drop_of_length_le (by omega)
      have e3 : xs.take ((i + 1) * l) = xs := List.take_of_length_le (by omega)
      rw [e1, e2, e3, List.take_nil, List.nil_append, List.append_assoc, List.replicate_append_replicate]
      congr 2
      omega
    · rw [Nat.sub_eq_zero_of_le h, List.replicate_zero, List.append_nil, ← List.append_assoc, hs, List.take_add]
      congr 2
      omega
theorem catTo_enc {xs : List (BitVec 8)} {k n : Nat} (hk : 0 < k) : catTo (enc xs k n) k = xs ++ List.replicate (k * lenOf xs.length k - xs.length) 0#8 := by
  have h0 := @enc_data xs k n 0
  rw [Nat.add_zero, List.take_take, Nat.min_self] at h0
  unfold catTo
  rw [h0, dataOf, cat_plain]
  rw [List.take_of_length_le (lenOf_mul hk)]
theorem plain_take {xs : List (BitVec 8)} {k n : Nat} (hk : 0 < k) : (catTo (enc xs k n) k).take xs.length = xs := by
  rw [catTo_enc hk, List.take_left]
theorem plain_zero {xs : List (BitVec 8)} {k n j : Nat} (hk : 0 < k) (h : xs.length ≤ j) {hj : j < (catTo (enc xs k n) k).length} : (catTo (enc xs k n) k)[j] = 0#8 := by
  have h1 : (catTo (enc xs k n) k)[j]? = some ((catTo (enc xs k n) k)[j]) := List.getElem?_eq_getElem hj
  generalize (catTo (enc xs k n) k)[j] = y at h1 ⊢
  rw [catTo_enc hk] at h1
  rw [List.getElem?_append_right h, List.getElem?_replicate] at h1
  split at h1
  · exact (Option.some.inj h1).symm
  · cases h1

theorem plain_ok {S : Nat → Prop} {w : World} {xs : List (BitVec 8)} {a : Option Addr} {c : Nat} (h : (Shape.slice (Shape.bv .u8 8)).rep S w [.slice a xs.length c] xs) {k n : Nat} (hs : xs.length ≤ 65536) (hk : 1 ≤ k) (hkn : k ≤ n) (hn : n ≤ 255) :
    Calls Try.prog 7 #[.slice a xs.length c, .int .i64 (k : Int), .int .i64 (n : Int)] w (Ret fun v w' => Ext w w' ∧ v = .bool true) := by
  refine WK.calls1 (fn := Try.f7) (n := 83) (σ := [(0, .slice a xs.length c), (1, .int .i64 (k : Int)), (2, .int .i64 (n : Int))]) Try.func7 rfl (by as_aux_lemma => kernel_rfl) (by as_aux_lemma => kernel_rfl) (by as_aux_lemma => kernel_rfl) ?_
  have H := Hp.startF (w := w) (S := S) (G := [Rp (Shape.slice (Shape.bv .u8 8)) [.slice a xs.length c] xs]) (.rp h .nil)
  refine WK.run 4 [0, 1, 2] [.code (cd Try.prog 7 [1, 0, 0]), .code (cd Try.prog 7 [1, 0, 1]), .code (cd Try.prog 7 [2])] [(0, .slice a xs.length c), (1, .int .i64 (k : Int)), (2, .int .i64 (n : Int))] (by as_aux_lemma => kernel_rfl) ?_
  refine WK.reg1 (l := sq 0 16) (by as_aux_lemma => kernel_rfl) (by as_aux_lemma => kernel_rfl) ?_
  refine RW.runP 3 [0, 1, 2, 14] (sq 3 16) [(0, .slice a xs.length c), (1, .int .i64 (k : Int)), (2, .int .i64 (n : Int)), (14, .bool (decide (((k : Int) : Int) < 1)))] (by as_aux_lemma => kernel_rfl) (by as_aux_lemma => kernel_rfl) ?_
  refine RW.test (fun b_ => [(0, .slice a xs.length c), (1, .int .i64 (k : Int)), (2, .int .i64 (n : Int)), (14, .bool b_)]) (decide (((k : Int) : Int) < 1)) (fun h1 => ?_) (fun h1 => ?_)
  · skip
    replace h1 := of_decide_eq_true h1
    refine RW.fin 13 [0, 1, 2, 27] [(0, .slice a xs.length c), (1, .int .i64 (k : Int)), (2, .int .i64 (n : Int)), (27, .bool true)] (by as_aux_lemma => kernel_rfl) ?_
    refine WK.run 2 [] [.code (cd Try.prog 7 [1, 0, 1, 0, 0]), .code (cd Try.prog 7 [1, 0, 1, 0, 1]), .code (cd Try.prog 7 [2])] [] (by as_aux_lemma => kernel_rfl) ?_
    refine WK.reg1 (l := sq 0 2) (by as_aux_lemma => kernel_rfl) (by as_aux_lemma => kernel_rfl) ?_
    refine RW.call (κ := .seq) (d := some 28) (r := (sq 1 2)) (g := 28) (args := #[]) (by as_aux_lemma => kernel_rfl) (nofun) (heads_spec (S := fun _ => True)) ?_
    rintro _ w2 hE3 rfl
    have H := H.ext hE3
    refine RW.fin 1 [6] [(6, .bool true)] (by as_aux_lemma => kernel_rfl) ?_
    refine WK.ret (v := .bool true) Try.func7 (by as_aux_lemma => kernel_rfl) (by as_aux_lemma => kernel_rfl) ?_
    exact ⟨_, rfl, H.done, rfl⟩
  · skip
    replace h1 := of_decide_eq_false h1
    refine RW.runP 5 [0, 1, 2, 19] (sq 8 16) [(0, .slice a xs.length c), (1, .int .i64 (k : Int)), (2, .int .i64 (n : Int)), (19, .bool (decide (((k : Int) : Int) > (n : Int))))] (by as_aux_lemma => kernel_rfl) (by as_aux_lemma => kernel_rfl) ?_
    refine RW.test (fun b_ => [(0, .slice a xs.length c), (1, .int .i64 (k : Int)), (2, .int .i64 (n : Int)), (19, .bool b_)]) (decide (((k : Int) : Int) > (n : Int))) (fun h4 => ?_) (fun h4 => ?_)
    · skip
      replace h4 := of_decide_eq_true h4
      refine RW.fin 8 [0, 1, 2, 27] [(0, .slice a xs.length c), (1, .int .i64 (k : Int)), (2, .int .i64 (n : Int)), (27, .bool true)] (by as_aux_lemma => kernel_rfl) ?_
      refine WK.run 2 [] [.code (cd Try.prog 7 [1, 0, 1, 0, 0]), .code (cd Try.prog 7 [1, 0, 1, 0, 1]), .code (cd Try.prog 7 [2])] [] (by as_aux_lemma => kernel_rfl) ?_
      refine WK.reg1 (l := sq 0 2) (by as_aux_lemma => kernel_rfl) (by as_aux_lemma => kernel_rfl) ?_
      refine RW.call (κ := .seq) (d := some 28) (r := (sq 1 2)) (g := 28) (args := #[]) (by as_aux_lemma => kernel_rfl) (nofun) (heads_spec (S := fun _ => True)) ?_
      rintro _ w5 hE6 rfl
      have H := H.ext hE6
      refine RW.fin 1 [6] [(6, .bool true)] (by as_aux_lemma => kernel_rfl) ?_
      refine WK.ret (v := .bool true) Try.func7 (by as_aux_lemma => kernel_rfl) (by as_aux_lemma => kernel_rfl) ?_
      exact ⟨_, rfl, H.done, rfl⟩
    · skip
      replace h4 := of_decide_eq_false h4
      refine RW.runP 4 [0, 1, 2, 23] (sq 12 16) [(0, .slice a xs.length c), (1, .int .i64 (k : Int)), (2, .int .i64 (n : Int)), (23, .bool (decide (((n : Int) : Int) > 255)))] (by as_aux_lemma => kernel_rfl) (by as_aux_lemma => kernel_rfl) ?_
      refine RW.test (fun b_ => [(0, .slice a xs.length c), (1, .int .i64 (k : Int)), (2, .int .i64 (n : Int)), (23, .bool b_)]) (decide (((n : Int) : Int) > 255)) (fun h7 => ?_) (fun h7 => ?_)
      · skip
        replace h7 := of_decide_eq_true h7
        refine RW.fin 4 [0, 1, 2, 27] [(0, .slice a xs.length c), (1, .int .i64 (k : Int)), (2, .int .i64 (n : Int)), (27, .bool true)] (by as_aux_lemma => kernel_rfl) ?_
        refine WK.run 2 [] [.code (cd Try.prog 7 [1, 0, 1, 0, 0]), .code (cd Try.prog 7 [1, 0, 1, 0, 1]), .code (cd Try.prog 7 [2])] [] (by as_aux_lemma => kernel_rfl) ?_
        refine WK.reg1 (l := sq 0 2) (by as_aux_lemma => kernel_rfl) (by as_aux_lemma => kernel_rfl) ?_
        refine RW.call (κ := .seq) (d := some 28) (r := (sq 1 2)) (g := 28) (args := #[]) (by as_aux_lemma => kernel_rfl) (nofun) (heads_spec (S := fun _ => True)) ?_
        rintro _ w8 hE9 rfl
        have H := H.ext hE9
        refine RW.fin 1 [6] [(6, .bool true)] (by as_aux_lemma => kernel_rfl) ?_
        refine WK.ret (v := .bool true) Try.func7 (by as_aux_lemma => kernel_rfl) (by as_aux_lemma => kernel_rfl) ?_
        exact ⟨_, rfl, H.done, rfl⟩
      · skip
        replace h7 := of_decide_eq_false h7
        refine RW.fin 4 [0, 1, 2, 27] [(0, .slice a xs.length c), (1, .int .i64 (k : Int)), (2, .int .i64 (n : Int)), (27, .bool (decide ((((xs.length : Nat) : Int) : Int) > 65536)))] (by as_aux_lemma => kernel_rfl) ?_
        refine WK.cond1 (decide ((((xs.length : Nat) : Int) : Int) > 65536)) (by as_aux_lemma => kernel_rfl) (by as_aux_lemma => kernel_rfl) (fun h10 => ?_) (fun h10 => ?_)
        · skip
          replace h10 := of_decide_eq_true h10
          omega
        · skip
          replace h10 := of_decide_eq_false h10
          refine WK.run 2 [0, 1, 2] [.code (cd Try.prog 7 [2, 0]), .code (cd Try.prog 7 [3])] [(0, .slice a xs.length c), (1, .int .i64 (k : Int)), (2, .int .i64 (n : Int))] (by as_aux_lemma => kernel_rfl) ?_
          refine WK.reg1 (l := sq 0 9) (by as_aux_lemma => kernel_rfl) (by as_aux_lemma => kernel_rfl) ?_
          refine RW.runP 3 [0, 1, 2, 30, 31, 32] (sq 3 9) [(0, .slice a xs.length c), (1, .int .i64 (k : Int)), (2, .int .i64 (n : Int)), (30, .slice a xs.length c), (31, .int .i64 (k : Int)), (32, .int .i64 (n : Int))] (by as_aux_lemma => kernel_rfl) (by as_aux_lemma => kernel_rfl) ?_
          refine RW.call (κ := .seq) (d := some 33) (r := (sq 4 9)) (g := 29) (args := #[.slice a xs.length c, .int .i64 (k : Int), .int .i64 (n : Int)]) (by as_aux_lemma => kernel_rfl) (nofun) (encode_ok (xs := xs) k n (H.rp 0 rfl) hs hk hkn hn) ?_
          rintro _ w11 hE14 ⟨a12, c13, rfl, hr15⟩
          have H := H.addN hE14 (F := Rp (Shape.slice (Shape.slice (Shape.bv .u8 8))) [.slice a12 ((enc xs k n).length) c13] (enc xs k n)) hr15
          have hel := enc_len (xs := xs) hkn
          have hea := encD_all (xs := xs) (k := k) (n := n)
          have hLs := lenOf_le (size := xs.length) (k := k) (by omega)
          have hmu := lenOf_mul (size := xs.length) (k := k) (by omega)
          have hkl : k * (lenOf xs.length k) ≤ 255 * 65536 := Nat.mul_le_mul (by omega) (by omega)
          refine RW.fin 5 [0, 1, 2, 7, 8] [(0, .slice a xs.length c), (1, .int .i64 (k : Int)), (2, .int .i64 (n : Int)), (7, .slice a12 ((enc xs k n).length) c13), (8, .int .i64 0)] (by as_aux_lemma => kernel_rfl) ?_
          refine WK.run 3 [0, 1, 7, 43] [.code (cd Try.prog 7 [3, 0, 1]), .code (cd Try.prog 7 [4])] [(0, .slice a xs.length c), (1, .int .i64 (k : Int)), (7, .slice a12 ((enc xs k n).length) c13), (43, .bool ((((enc xs k n).length : Nat) : Int) != (n : Int)))] (by as_aux_lemma => kernel_rfl) ?_
          refine WK.cond1 ((((enc xs k n).length : Nat) : Int) != (n : Int)) (by as_aux_lemma => kernel_rfl) (by as_aux_lemma => kernel_rfl) (fun h16 => ?_) (fun h16 => ?_)
          · skip
            replace h16 := bne_iff_ne.1 h16
            omega
          · skip
            replace h16 := (bne_eq_false_iff_eq.1 h16)
            refine WK.run 7 [0, 1, 7, 9, 10] [.code (cd Try.prog 7 [5, 0, 1, 0]), .inBlock 0, .code (cd Try.prog 7 [6])] [(0, .slice a xs.length c), (1, .int .i64 (k : Int)), (7, .slice a12 ((enc xs k n).length) c13), (9, .slice none 0 0), (10, .int .i64 0)] (by as_aux_lemma => kernel_rfl) ?_
            have H := H.ownNil (Shape.bv .u8 8) 5
            have H := H.drop (M' := []) (W' := [⟨Shape.bv .u8 8, 5, .slice none ((catTo (enc xs k n) 0).length) 0, catTo (enc xs k n) 0⟩]) (by repeat (first | exact List.Sublist.refl _ | exact List.nil_sublist _ | apply List.Sublist.cons_cons | apply List.Sublist.cons)) (by repeat (first | exact List.Sublist.refl _ | exact List.nil_sublist _ | apply List.Sublist.cons_cons | apply List.Sublist.cons))
            refine WK.loop (α := Nat × Option Addr × Nat) (b := cd Try.prog 7 [5, 0, 1, 0, 0]) (by as_aux_lemma => kernel_rfl) (fun st_ => match st_ with | (i, ao, co) => [(0, .slice a xs.length c), (1, .int .i64 (k : Int)), (7, .slice a12 ((enc xs k n).length) c13), (9, .slice ao ((catTo (enc xs k n) i).length) co), (10, .int .i64 (i : Int))]) (fun st_ w' => match st_ with | (i, ao, co) => Hp w S [] [] [⟨Shape.bv .u8 8, 5, .slice ao ((catTo (enc xs k n) i).length) co, catTo (enc xs k n) i⟩] [Rp (Shape.slice (Shape.slice (Shape.bv .u8 8))) [.slice a12 ((enc xs k n).length) c13] (enc xs k n), Rp (Shape.slice (Shape.bv .u8 8)) [.slice a xs.length c] xs] w' ∧ i ≤ k) (fun st_ => match st_ with | (i, ao, co) => k - i) (0, none, 0) ⟨H, Nat.zero_le _⟩ (rfl) ?_
            rintro ⟨i, ao, co⟩ w18 ⟨H, hinv0⟩ hback17
            refine WK.run 3 [0, 1, 7, 9, 10, 46] [.code (cd Try.prog 7 [5, 0, 1, 0, 0, 0, 1]), .code (cd Try.prog 7 [5, 0, 1, 0, 0, 1]), .inLoop (cd Try.prog 7 [5, 0, 1, 0, 0]), .inBlock 0, .code (cd Try.prog 7 [6])] [(0, .slice a xs.length c), (1, .int .i64 (k : Int)), (7, .slice a12 ((enc xs k n).length) c13), (9, .slice ao ((catTo (enc xs k n) i).length) co), (10, .int .i64 (i : Int)), (46, .bool (decide (((i : Int) : Int) < (k : Int))))] (by as_aux_lemma => kernel_rfl) ?_
            refine WK.cond1 (decide (((i : Int) : Int) < (k : Int))) (by as_aux_lemma => kernel_rfl) (by as_aux_lemma => kernel_rfl) (fun h19 => ?_) (fun h19 => ?_)
            · skip
              replace h19 := of_decide_eq_true h19
              have hil := hea ((enc xs k n)[i]) (List.getElem_mem (by omega))
              have hib : i * (lenOf xs.length k) ≤ 255 * 65536 := Nat.mul_le_mul (by omega) (by omega)
              have hcl := catTo_len (m := (enc xs k n)) hea (show i ≤ (enc xs k n).length by omega)
              refine WK.run 3 [0, 1, 7, 9, 10] [.code (cd Try.prog 7 [5, 0, 1, 0, 0, 1, 0, 0]), .inBlock 1, .code (cd Try.prog 7 [5, 0, 1, 0, 0, 2]), .inLoop (cd Try.prog 7 [5, 0, 1, 0, 0]), .inBlock 0, .code (cd Try.prog 7 [6])] [(0, .slice a xs.length c), (1, .int .i64 (k : Int)), (7, .slice a12 ((enc xs k n).length) c13), (9, .slice ao ((catTo (enc xs k n) i).length) co), (10, .int .i64 (i : Int))] (by as_aux_lemma => kernel_rfl) ?_
              refine WK.reg1 (l := sq 0 7) (by as_aux_lemma => kernel_rfl) (by as_aux_lemma => kernel_rfl) ?_
              refine RW.runP 3 [0, 1, 7, 9, 10, 49, 50, 51] (sq 3 7) [(0, .slice a xs.length c), (1, .int .i64 (k : Int)), (7, .slice a12 ((enc xs k n).length) c13), (9, .slice ao ((catTo (enc xs k n) i).length) co), (10, .int .i64 (i : Int)), (49, .slice ao ((catTo (enc xs k n) i).length) co), (50, .slice a12 ((enc xs k n).length) c13), (51, .int .i64 (i : Int))] (by as_aux_lemma => kernel_rfl) (by as_aux_lemma => kernel_rfl) ?_
              have hx20 : i < (enc xs k n).length := by omega
              refine RW.index (κ := .seq) (d := some 52) (r := (sq 4 7)) (T := 29) (e := 23) (ik := .i64) (ix := (i : Int)) (sh := (Shape.slice (Shape.bv .u8 8))) (x := (enc xs k n)[i]) (by as_aux_lemma => kernel_rfl) (by as_aux_lemma => kernel_rfl) H 0 rfl i (by omega) (List.getElem?_eq_getElem hx20) ?_
              intro b21 o22 es23 hr24 H
              obtain ⟨a25, k26, rfl⟩ := Shape.slice_form' hr24
              have H := H.add (F := Rp (Shape.slice (Shape.bv .u8 8)) [.slice a25 (((enc xs k n)[i]).length) k26] ((enc xs k n)[i])) hr24
              refine RW.load (κ := .seq) (d := some 53) (r := (sq 5 7)) (T := 23) (b := b21) (o' := o22) (k := 0) (v := .slice a25 (((enc xs k n)[i]).length) k26) (by as_aux_lemma => kernel_rfl) (H.fc 1 rfl) rfl (by as_aux_lemma => kernel_rfl) ?_
              refine RW.appendW (d := some 54) (r := (sq 6 7)) (T := 23) (ty := 23) (e := 5) (m := 1) (by_ := 1) (v := .slice ao ((catTo (enc xs k n) i).length) co) (a2 := a25) (l2 := (((enc xs k n)[i]).length)) (c2 := k26) (zs := catTo (enc xs k n) (i + 1)) (by as_aux_lemma => kernel_rfl) (by as_aux_lemma => kernel_rfl) rfl H 0 rfl 0 rfl (catTo_succ (by omega)) (by rw [← catTo_succ (by omega), List.length_append]; omega) ?_
              intro a27 c28 w30 H hc29
              have H : Hp w S [] [] [⟨Shape.bv .u8 8, 5, .slice a27 ((catTo (enc xs k n) (i + 1)).length) c28, catTo (enc xs k n) (i + 1)⟩] [Rp (Shape.slice (Shape.bv .u8 8)) [.slice a25 (((enc xs k n)[i]).length) k26] ((enc xs k n)[i]), Fc b21 o22 [.slice a25 (((enc xs k n)[i]).length) k26], Rp (Shape.slice (Shape.slice (Shape.bv .u8 8))) [.slice a12 ((enc xs k n).length) c13] (enc xs k n), Rp (Shape.slice (Shape.bv .u8 8)) [.slice a xs.length c] xs] _ := H
              refine RW.fin 1 [0, 1, 7, 9, 10] [(0, .slice a xs.length c), (1, .int .i64 (k : Int)), (7, .slice a12 ((enc xs k n).length) c13), (9, .slice a27 ((catTo (enc xs k n) (i + 1)).length) c28), (10, .int .i64 (i : Int))] (by as_aux_lemma => kernel_rfl) ?_
              refine WK.run 1 [0, 1, 7, 9, 10] [.code (cd Try.prog 7 [5, 0, 1, 0, 0, 2]), .inLoop (cd Try.prog 7 [5, 0, 1, 0, 0]), .inBlock 0, .code (cd Try.prog 7 [6])] [(0, .slice a xs.length c), (1, .int .i64 (k : Int)), (7, .slice a12 ((enc xs k n).length) c13), (9, .slice a27 ((catTo (enc xs k n) (i + 1)).length) c28), (10, .int .i64 (i : Int))] (by as_aux_lemma => kernel_rfl) ?_
              refine WK.reg1 (l := sq 0 3) (by as_aux_lemma => kernel_rfl) (by as_aux_lemma => kernel_rfl) ?_
              refine RW.runP 1 [0, 1, 7, 9, 10, 47] (sq 1 3) [(0, .slice a xs.length c), (1, .int .i64 (k : Int)), (7, .slice a12 ((enc xs k n).length) c13), (9, .slice a27 ((catTo (enc xs k n) (i + 1)).length) c28), (10, .int .i64 (i : Int)), (47, .int .i64 (i : Int))] (by as_aux_lemma => kernel_rfl) (by as_aux_lemma => kernel_rfl) ?_
              refine RW.wr64 (κ := .seq) (d := some 48) (r := (sq 2 3)) (t := (i : Int) + 1) (by as_aux_lemma => kernel_rfl) (by omega) ?_
              refine RW.fin 1 [0, 1, 7, 9, 10] [(0, .slice a xs.length c), (1, .int .i64 (k : Int)), (7, .slice a12 ((enc xs k n).length) c13), (9, .slice a27 ((catTo (enc xs k n) (i + 1)).length) c28), (10, .int .i64 ((i : Int) + 1))] (by as_aux_lemma => kernel_rfl) ?_
              have H := H.pick [2, 3] (G' := [Rp (Shape.slice (Shape.slice (Shape.bv .u8 8))) [.slice a12 ((enc xs k n).length) c13] (enc xs k n), Rp (Shape.slice (Shape.bv .u8 8)) [.slice a xs.length c] xs]) rfl
              exact WK.back (hback17 (i + 1, a27, c28) _ ⟨H, by omega⟩ (by first | omega | (simp only []; omega))) (by as_aux_lemma => kernel_rfl)
            · skip
              replace h19 := of_decide_eq_false h19
              have hik : k = i := by omega
              subst hik
              have hcl := catTo_len (m := (enc xs k n)) hea (show k ≤ (enc xs k n).length by omega)
              refine WK.run 3 [0, 9] [.code (cd Try.prog 7 [6, 0, 0]), .code (cd Try.prog 7 [6, 0, 1]), .code (cd Try.prog 7 [7])] [(0, .slice a xs.length c), (9, .slice ao ((catTo (enc xs k n) k).length) co)] (by as_aux_lemma => kernel_rfl) ?_
              refine WK.reg1 (l := sq 0 14) (by as_aux_lemma => kernel_rfl) (by as_aux_lemma => kernel_rfl) ?_
              refine RW.runP 6 [0, 9, 60] (sq 6 14) [(0, .slice a xs.length c), (9, .slice ao ((catTo (enc xs k n) k).length) co), (60, .bool (decide (((((catTo (enc xs k n) k).length : Nat) : Int) : Int) < ((xs.length : Nat) : Int))))] (by as_aux_lemma => kernel_rfl) (by as_aux_lemma => kernel_rfl) ?_
              refine RW.test (fun b_ => [(0, .slice a xs.length c), (9, .slice ao ((catTo (enc xs k n) k).length) co), (60, .bool b_)]) (decide (((((catTo (enc xs k n) k).length : Nat) : Int) : Int) < ((xs.length : Nat) : Int))) (fun h31 => ?_) (fun h31 => ?_)
              · skip
                replace h31 := of_decide_eq_true h31
                omega
              · skip
                replace h31 := of_decide_eq_false h31
                refine RW.runP 3 [0, 9, 60, 61, 63] (sq 9 14) [(0, .slice a xs.length c), (9, .slice ao ((catTo (enc xs k n) k).length) co), (60, .bool false), (61, .slice ao ((catTo (enc xs k n) k).length) co), (63, .int .i64 ((xs.length : Nat) : Int))] (by as_aux_lemma => kernel_rfl) (by as_aux_lemma => kernel_rfl) ?_
                have H : Hp w S [] [] [] [Rp (Shape.slice (Shape.bv .u8 8)) [.slice ao ((catTo (enc xs k n) k).length) co] (catTo (enc xs k n) k), Rp (Shape.slice (Shape.slice (Shape.bv .u8 8))) [.slice a12 ((enc xs k n).length) c13] (enc xs k n), Rp (Shape.slice (Shape.bv .u8 8)) [.slice a xs.length c] xs] _ := H.freezeW 0 rfl
                refine RW.slice (κ := .seq) (d := some 64) (r := (sq 10 14)) (T := 23) (e := 5) (sh := (Shape.bv .u8 8)) (a := ao) (len := ((catTo (enc xs k n) k).length)) (cap := co) (zs := xs) (lv := none) (hv := (some (.int .i64 ((xs.length : Nat) : Int)))) (by as_aux_lemma => kernel_rfl) (by as_aux_lemma => kernel_rfl) H 0 rfl 0 xs.length .nil (.mk (by omega)) (by omega) (by omega) (by rw [List.drop_zero]; exact plain_take hk) ?_
                intro a32 H
                refine RW.runP 1 [0, 9, 60, 64, 65] (sq 11 14) [(0, .slice a xs.length c), (9, .slice ao ((catTo (enc xs k n) k).length) co), (60, .bool false), (64, .slice a32 xs.length co), (65, .slice a xs.length c)] (by as_aux_lemma => kernel_rfl) (by as_aux_lemma => kernel_rfl) ?_
                refine RW.call (κ := .seq) (d := some 66) (r := (sq 12 14)) (g := 30) (args := #[.slice a32 xs.length co, .slice a xs.length c]) (by as_aux_lemma => kernel_rfl) (nofun) (same01_spec (S := Av S w [] (idsOf [] [])) (xs := xs) (ys := xs) (H.rp 0 rfl) (H.rp 3 rfl) (rfl)) ?_
                rintro _ w33 hE34 rfl
                have H := H.ext hE34
                refine RW.fin 2 [0, 9, 68] [(0, .slice a xs.length c), (9, .slice ao ((catTo (enc xs k n) k).length) co), (68, .bool false)] (by as_aux_lemma => kernel_rfl) ?_
                refine WK.run 6 [9, 11] [.code (cd Try.prog 7 [7, 0, 1, 0]), .inBlock 2, .code (cd Try.prog 7 [8])] [(9, .slice ao ((catTo (enc xs k n) k).length) co), (11, .int .i64 ((xs.length : Nat) : Int))] (by as_aux_lemma => kernel_rfl) ?_
                refine WK.loop (α := Nat) (b := cd Try.prog 7 [7, 0, 1, 0, 0]) (by as_aux_lemma => kernel_rfl) (fun j => [(9, .slice ao ((catTo (enc xs k n) k).length) co), (11, .int .i64 (j : Int))]) (fun j w' => Hp w S [] [] [] [Rp (Shape.slice (Shape.bv .u8 8)) [.slice a32 xs.length co] xs, Rp (Shape.slice (Shape.bv .u8 8)) [.slice ao ((catTo (enc xs k n) k).length) co] (catTo (enc xs k n) k), Rp (Shape.slice (Shape.slice (Shape.bv .u8 8))) [.slice a12 ((enc xs k n).length) c13] (enc xs k n), Rp (Shape.slice (Shape.bv .u8 8)) [.slice a xs.length c] xs] w' ∧ xs.length ≤ j) (fun j => (catTo (enc xs k n) k).length - j) xs.length ⟨H, Nat.le_refl _⟩ (rfl) ?_
                rintro j w36 ⟨H, hinv1⟩ hback35
                refine WK.run 3 [9, 11, 74] [.code (cd Try.prog 7 [7, 0, 1, 0, 0, 0, 1]), .code (cd Try.prog 7 [7, 0, 1, 0, 0, 1]), .inLoop (cd Try.prog 7 [7, 0, 1, 0, 0]), .inBlock 2, .code (cd Try.prog 7 [8])] [(9, .slice ao ((catTo (enc xs k n) k).length) co), (11, .int .i64 (j : Int)), (74, .bool (decide (((j : Int) : Int) < (((catTo (enc xs k n) k).length : Nat) : Int))))] (by as_aux_lemma => kernel_rfl) ?_
                refine WK.cond1 (decide (((j : Int) : Int) < (((catTo (enc xs k n) k).length : Nat) : Int))) (by as_aux_lemma => kernel_rfl) (by as_aux_lemma => kernel_rfl) (fun h37 => ?_) (fun h37 => ?_)
                · skip
                  replace h37 := of_decide_eq_true h37
                  refine WK.run 4 [9, 11] [.code (cd Try.prog 7 [7, 0, 1, 0, 0, 1, 0, 0, 0]), .code (cd Try.prog 7 [7, 0, 1, 0, 0, 1, 0, 0, 1]), .inBlock 3, .code (cd Try.prog 7 [7, 0, 1, 0, 0, 2]), .inLoop (cd Try.prog 7 [7, 0, 1, 0, 0]), .inBlock 2, .code (cd Try.prog 7 [8])] [(9, .slice ao ((catTo (enc xs k n) k).length) co), (11, .int .i64 (j : Int))] (by as_aux_lemma => kernel_rfl) ?_
                  refine WK.reg1 (l := sq 0 5) (by as_aux_lemma => kernel_rfl) (by as_aux_lemma => kernel_rfl) ?_
                  refine RW.runP 2 [9, 11, 77, 78] (sq 2 5) [(9, .slice ao ((catTo (enc xs k n) k).length) co), (11, .int .i64 (j : Int)), (77, .slice ao ((catTo (enc xs k n) k).length) co), (78, .int .i64 (j : Int))] (by as_aux_lemma => kernel_rfl) (by as_aux_lemma => kernel_rfl) ?_
                  have hx38 : j < (catTo (enc xs k n) k).length := by omega
                  refine RW.index (κ := .seq) (d := some 79) (r := (sq 3 5)) (T := 23) (e := 5) (ik := .i64) (ix := (j : Int)) (sh := (Shape.bv .u8 8)) (x := (0#8 : BitVec 8)) (by as_aux_lemma => kernel_rfl) (by as_aux_lemma => kernel_rfl) H 1 rfl j (by omega) (by rw [List.getElem?_eq_getElem (by omega), plain_zero hk (by omega)]) ?_
                  intro b39 o40 es41 hr42 H
                  obtain rfl := hr42
                  refine RW.load (κ := .seq) (d := some 80) (r := (sq 4 5)) (T := 5) (b := b39) (o' := o40) (k := 0) (v := .int .u8 (((0#8 : BitVec 8).toNat : Nat) : Int)) (by as_aux_lemma => kernel_rfl) (H.fc 0 rfl) rfl (by as_aux_lemma => kernel_rfl) ?_
                  refine RW.fin 1 [9, 11, 81] [(9, .slice ao ((catTo (enc xs k n) k).length) co), (11, .int .i64 (j : Int)), (81, .bool ((((0#8 : BitVec 8).toNat : Nat) : Int) != 0))] (by as_aux_lemma => kernel_rfl) ?_
                  refine WK.cond1 ((((0#8 : BitVec 8).toNat : Nat) : Int) != 0) (by as_aux_lemma => kernel_rfl) (by as_aux_lemma => kernel_rfl) (fun h43 => ?_) (fun h43 => ?_)
                  · skip
                    replace h43 := bne_iff_ne.1 h43
                    exact absurd rfl h43
                  · skip
                    replace h43 := (bne_eq_false_iff_eq.1 h43)
                    refine WK.run 2 [9, 11] [.code (cd Try.prog 7 [7, 0, 1, 0, 0, 2]), .inLoop (cd Try.prog 7 [7, 0, 1, 0, 0]), .inBlock 2, .code (cd Try.prog 7 [8])] [(9, .slice ao ((catTo (enc xs k n) k).length) co), (11, .int .i64 (j : Int))] (by as_aux_lemma => kernel_rfl) ?_
                    refine WK.reg1 (l := sq 0 3) (by as_aux_lemma => kernel_rfl) (by as_aux_lemma => kernel_rfl) ?_
                    refine RW.runP 1 [9, 11, 75] (sq 1 3) [(9, .slice ao ((catTo (enc xs k n) k).length) co), (11, .int .i64 (j : Int)), (75, .int .i64 (j : Int))] (by as_aux_lemma => kernel_rfl) (by as_aux_lemma => kernel_rfl) ?_
                    refine RW.wr64 (κ := .seq) (d := some 76) (r := (sq 2 3)) (t := (j : Int) + 1) (by as_aux_lemma => kernel_rfl) (by omega) ?_
                    refine RW.fin 1 [9, 11] [(9, .slice ao ((catTo (enc xs k n) k).length) co), (11, .int .i64 ((j : Int) + 1))] (by as_aux_lemma => kernel_rfl) ?_
                    have H := H.pick [1, 2, 3, 4] (G' := [Rp (Shape.slice (Shape.bv .u8 8)) [.slice a32 xs.length co] xs, Rp (Shape.slice (Shape.bv .u8 8)) [.slice ao ((catTo (enc xs k n) k).length) co] (catTo (enc xs k n) k), Rp (Shape.slice (Shape.slice (Shape.bv .u8 8))) [.slice a12 ((enc xs k n).length) c13] (enc xs k n), Rp (Shape.slice (Shape.bv .u8 8)) [.slice a xs.length c] xs]) rfl
                    exact WK.back (hback35 (j + 1) _ ⟨H, by omega⟩ (by first | omega | (simp only []; omega))) (by as_aux_lemma => kernel_rfl)
                · skip
                  replace h37 := of_decide_eq_false h37
                  refine WK.run 2 [] [.code (cd Try.prog 7 [8, 0]), .code (cd Try.prog 7 [9])] [] (by as_aux_lemma => kernel_rfl) ?_
                  refine WK.reg1 (l := sq 0 2) (by as_aux_lemma => kernel_rfl) (by as_aux_lemma => kernel_rfl) ?_
                  refine RW.call (κ := .seq) (d := some 82) (r := (sq 1 2)) (g := 28) (args := #[]) (by as_aux_lemma => kernel_rfl) (nofun) (heads_spec (S := fun _ => True)) ?_
                  rintro _ w44 hE45 rfl
                  have H := H.ext hE45
                  refine RW.fin 1 [6] [(6, .bool true)] (by as_aux_lemma => kernel_rfl) ?_
                  refine WK.ret (v := .bool true) Try.func7 (by as_aux_lemma => kernel_rfl) (by as_aux_lemma => kernel_rfl) ?_
                  exact ⟨_, rfl, H.done, rfl⟩

theorem plain_bad {S : Nat → Prop} {w : World} {xs : List (BitVec 8)} {a : Option Addr} {c : Nat} (h : (Shape.slice (Shape.bv .u8 8)).rep S w [.slice a xs.length c] xs) (k n : Int) (hb : ¬ (xs.length ≤ 65536 ∧ 1 ≤ k ∧ k ≤ n ∧ n ≤ 255)) :
    Calls Try.prog 7 #[.slice a xs.length c, .int .i64 k, .int .i64 n] w (Ret fun v w' => Ext w w' ∧ v = .bool true) := by
  refine WK.calls1 (fn := Try.f7) (n := 83) (σ := [(0, .slice a xs.length c), (1, .int .i64 k), (2, .int .i64 n)]) Try.func7 rfl (by as_aux_lemma => kernel_rfl) (by as_aux_lemma => kernel_rfl) (by as_aux_lemma => kernel_rfl) ?_
  have H := Hp.startF (w := w) (S := S) (G := [Rp (Shape.slice (Shape.bv .u8 8)) [.slice a xs.length c] xs]) (.rp h .nil)
  refine WK.run 4 [0, 1, 2] [.code (cd Try.prog 7 [1, 0, 0]), .code (cd Try.prog 7 [1, 0, 1]), .code (cd Try.prog 7 [2])] [(0, .slice a xs.length c), (1, .int .i64 k), (2, .int .i64 n)] (by as_aux_lemma => kernel_rfl) ?_
  refine WK.reg1 (l := sq 0 16) (by as_aux_lemma => kernel_rfl) (by as_aux_lemma => kernel_rfl) ?_
  refine RW.runP 3 [0, 1, 2, 14] (sq 3 16) [(0, .slice a xs.length c), (1, .int .i64 k), (2, .int .i64 n), (14, .bool (decide ((k : Int) < 1)))] (by as_aux_lemma => kernel_rfl) (by as_aux_lemma => kernel_rfl) ?_
  refine RW.test (fun b_ => [(0, .slice a xs.length c), (1, .int .i64 k), (2, .int .i64 n), (14, .bool b_)]) (decide ((k : Int) < 1)) (fun h1 => ?_) (fun h1 => ?_)
  · skip
    replace h1 := of_decide_eq_true h1
    refine RW.fin 13 [0, 1, 2, 27] [(0, .slice a xs.length c), (1, .int .i64 k), (2, .int .i64 n), (27, .bool true)] (by as_aux_lemma => kernel_rfl) ?_
    refine WK.run 2 [] [.code (cd Try.prog 7 [1, 0, 1, 0, 0]), .code (cd Try.prog 7 [1, 0, 1, 0, 1]), .code (cd Try.prog 7 [2])] [] (by as_aux_lemma => kernel_rfl) ?_
    refine WK.reg1 (l := sq 0 2) (by as_aux_lemma => kernel_rfl) (by as_aux_lemma => kernel_rfl) ?_
    refine RW.call (κ := .seq) (d := some 28) (r := (sq 1 2)) (g := 28) (args := #[]) (by as_aux_lemma => kernel_rfl) (nofun) (heads_spec (S := fun _ => True)) ?_
    rintro _ w2 hE3 rfl
    have H := H.ext hE3
    refine RW.fin 1 [6] [(6, .bool true)] (by as_aux_lemma => kernel_rfl) ?_
    refine WK.ret (v := .bool true) Try.func7 (by as_aux_lemma => kernel_rfl) (by as_aux_lemma => kernel_rfl) ?_
    exact ⟨_, rfl, H.done, rfl⟩
  · skip
    replace h1 := of_decide_eq_false h1
    refine RW.runP 5 [0, 1, 2, 19] (sq 8 16) [(0, .slice a xs.length c), (1, .int .i64 k), (2, .int .i64 n), (19, .bool (decide ((k : Int) > n)))] (by as_aux_lemma => kernel_rfl) (by as_aux_lemma => kernel_rfl) ?_
    refine RW.test (fun b_ => [(0, .slice a xs.length c), (1, .int .i64 k), (2, .int .i64 n), (19, .bool b_)]) (decide ((k : Int) > n)) (fun h4 => ?_) (fun h4 => ?_)
    · skip
      replace h4 := of_decide_eq_true h4
      refine RW.fin 8 [0, 1, 2, 27] [(0, .slice a xs.length c), (1, .int .i64 k), (2, .int .i64 n), (27, .bool true)] (by as_aux_lemma => kernel_rfl) ?_
      refine WK.run 2 [] [.code (cd Try.prog 7 [1, 0, 1, 0, 0]), .code (cd Try.prog 7 [1, 0, 1, 0, 1]), .code (cd Try.prog 7 [2])] [] (by as_aux_lemma => kernel_rfl) ?_
      refine WK.reg1 (l := sq 0 2) (by as_aux_lemma => kernel_rfl) (by as_aux_lemma => kernel_rfl) ?_
      refine RW.call (κ := .seq) (d := some 28) (r := (sq 1 2)) (g := 28) (args := #[]) (by as_aux_lemma => kernel_rfl) (nofun) (heads_spec (S := fun _ => True)) ?_
      rintro _ w5 hE6 rfl
      have H := H.ext hE6
      refine RW.fin 1 [6] [(6, .bool true)] (by as_aux_lemma => kernel_rfl) ?_
      refine WK.ret (v := .bool true) Try.func7 (by as_aux_lemma => kernel_rfl) (by as_aux_lemma => kernel_rfl) ?_
      exact ⟨_, rfl, H.done, rfl⟩
    · skip
      replace h4 := of_decide_eq_false h4
      refine RW.runP 4 [0, 1, 2, 23] (sq 12 16) [(0, .slice a xs.length c), (1, .int .i64 k), (2, .int .i64 n), (23, .bool (decide ((n : Int) > 255)))] (by as_aux_lemma => kernel_rfl) (by as_aux_lemma => kernel_rfl) ?_
      refine RW.test (fun b_ => [(0, .slice a xs.length c), (1, .int .i64 k), (2, .int .i64 n), (23, .bool b_)]) (decide ((n : Int) > 255)) (fun h7 => ?_) (fun h7 => ?_)
      · skip
        replace h7 := of_decide_eq_true h7
        refine RW.fin 4 [0, 1, 2, 27] [(0, .slice a xs.length c), (1, .int .i64 k), (2, .int .i64 n), (27, .bool true)] (by as_aux_lemma => kernel_rfl) ?_
        refine WK.run 2 [] [.code (cd Try.prog 7 [1, 0, 1, 0, 0]), .code (cd Try.prog 7 [1, 0, 1, 0, 1]), .code (cd Try.prog 7 [2])] [] (by as_aux_lemma => kernel_rfl) ?_
        refine WK.reg1 (l := sq 0 2) (by as_aux_lemma => kernel_rfl) (by as_aux_lemma => kernel_rfl) ?_
        refine RW.call (κ := .seq) (d := some 28) (r := (sq 1 2)) (g := 28) (args := #[]) (by as_aux_lemma => kernel_rfl) (nofun) (heads_spec (S := fun _ => True)) ?_
        rintro _ w8 hE9 rfl
        have H := H.ext hE9
        refine RW.fin 1 [6] [(6, .bool true)] (by as_aux_lemma => kernel_rfl) ?_
        refine WK.ret (v := .bool true) Try.func7 (by as_aux_lemma => kernel_rfl) (by as_aux_lemma => kernel_rfl) ?_
        exact ⟨_, rfl, H.done, rfl⟩
      · skip
        replace h7 := of_decide_eq_false h7
        refine RW.fin 4 [0, 1, 2, 27] [(0, .slice a xs.length c), (1, .int .i64 k), (2, .int .i64 n), (27, .bool (decide ((((xs.length : Nat) : Int) : Int) > 65536)))] (by as_aux_lemma => kernel_rfl) ?_
        refine WK.cond1 (decide ((((xs.length : Nat) : Int) : Int) > 65536)) (by as_aux_lemma => kernel_rfl) (by as_aux_lemma => kernel_rfl) (fun h10 => ?_) (fun h10 => ?_)
        · skip
          replace h10 := of_decide_eq_true h10
          refine WK.run 1 [] [.code (cd Try.prog 7 [1, 0, 1, 0, 0]), .code (cd Try.prog 7 [1, 0, 1, 0, 1]), .code (cd Try.prog 7 [2])] [] (by as_aux_lemma => kernel_rfl) ?_
          refine WK.reg1 (l := sq 0 2) (by as_aux_lemma => kernel_rfl) (by as_aux_lemma => kernel_rfl) ?_
          refine RW.call (κ := .seq) (d := some 28) (r := (sq 1 2)) (g := 28) (args := #[]) (by as_aux_lemma => kernel_rfl) (nofun) (heads_spec (S := fun _ => True)) ?_
          rintro _ w11 hE12 rfl
          have H := H.ext hE12
          refine RW.fin 1 [6] [(6, .bool true)] (by as_aux_lemma => kernel_rfl) ?_
          refine WK.ret (v := .bool true) Try.func7 (by as_aux_lemma => kernel_rfl) (by as_aux_lemma => kernel_rfl) ?_
          exact ⟨_, rfl, H.done, rfl⟩
        · skip
          replace h10 := of_decide_eq_false h10
          exact absurd (by omega) hb


end Go.Proofs.Ytppcdmbkgficiaa
