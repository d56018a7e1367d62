import Derived.Test.YtppcdmbkgficiaaE1
namespace Go.Proofs.Ytppcdmbkgficiaa
open Go.BX

theorem zeros_spec {S : Nat → Prop} {w : World} (n k : Nat) (hn : n ≤ 255) (hk : k ≤ 65536) :
 Calls Try.prog 103 #[.I n, .I k] w (Ret fun v w' => Ext w w' ∧ ∃ (R : List RowD) (a : Option Addr) (c : Nat), v = .slice a n c ∧ R.length = n ∧ (∀ r ∈ R, r.n = k) ∧ R.map RowD.xs = List.replicate n (List.replicate k 0#8) ∧ Hp w S [] [] (⟨Shape.raw, 23, .slice a n c, R.map RowD.v⟩ :: rowsW 5 R) [] w') := by
 refine qS (fn := Try.f103) (n := 18) (σ := [(0, .I n), (1, .I k)]) Try.func103 ?_
 have H := Hp.startF (w := w) (S := S) (G := []) .nil
 refine qR 8 [.c [2, 0, 1, 0], .b 0, .c [3]] [(0, .I n), (1, .I k), (5, .slice none 0 0), (6, .I 0)] ?_
 have H := H.ownNil Shape.raw 23
 have H : Hp w S [] [] (⟨Shape.raw, 23, .slice none 0 0, ([] : List RowD).map RowD.v⟩ :: (rowsW 5 ([] : List RowD))) [] _ := H
 refine WK.loop (α := Nat × List RowD × Option Addr × Nat) (b := cd Try.prog 103 [2, 0, 1, 0, 0]) (by as_aux_lemma => kernel_rfl) (fun st_ => match st_ with | (i, R, ao, co) => [(0, .I n), (1, .I k), (5, .slice ao (R.map RowD.v).length co), (6, .I i)]) (fun st_ w' => match st_ with | (i, R, ao, co) => Hp w S [] [] (⟨Shape.raw, 23, .slice ao (R.map RowD.v).length co, R.map RowD.v⟩ :: (rowsW 5 R)) [] w' ∧ i ≤ n ∧ R.length = i ∧ (∀ r ∈ R, r.n = k) ∧ R.map RowD.xs = List.replicate i (List.replicate k 0#8)) (fun st_ => match st_ with | (i, R, ao, co) => n - i) (0, ([] : List RowD), none, 0) ⟨H, by omega, rfl, fun r h => (by cases h), rfl⟩ (rfl) ?_
 rintro ⟨i, R, ao, co⟩ w2 ⟨H, hinv0⟩ hback1
 have hRl : (R.map RowD.v).length = i := by rw [List.length_map]; exact hinv0.2.1
 refine qR 3 [.c [2, 0, 1, 0, 0, 0, 1], .c [2, 0, 1, 0, 0, 1], .l [2, 0, 1, 0, 0], .b 0, .c [3]] [(0, .I n), (1, .I k), (5, .slice ao (R.map RowD.v).length co), (6, .I i), (9, .bool (decide (((i : Int) : Int) < (n : Int))))] ?_
 refine qD (((i : Int) : Int) < (n : Int)) (fun h3 => ?_) (fun h3 => ?_)
 ·
  refine qR 3 [.c [2, 0, 1, 0, 0, 1, 0, 0], .b 1, .c [2, 0, 1, 0, 0, 2], .l [2, 0, 1, 0, 0], .b 0, .c [3]] [(0, .I n), (1, .I k), (5, .slice ao (R.map RowD.v).length co), (6, .I i)] ?_
  refine qG (sq 0 6) ?_
  refine qP 2 (sq 2 6) [(0, .I n), (1, .I k), (5, .slice ao (R.map RowD.v).length co), (6, .I i), (12, .slice ao (R.map RowD.v).length co), (13, .I k)] ?_
  refine RW.makeW Sb (κ := .seq) (d := some 14) (r := (sq 3 6)) (T := 23) (e := 5) (by_ := 1) (v0 := .int .u8 0) (0#8 : BitVec 8) (kl := .i64) (kc := .i64) (lv := (k : Int)) (cv := (k : Int)) (by as_aux_lemma => kernel_rfl) (nofun) (by as_aux_lemma => kernel_rfl) rfl H k k (by omega) (by omega) (by omega) (by omega) (by omega) (fun _ _ => rfl) ?_
  intro b4 w5 H
  have H := H.perms (M' := []) (W' := (⟨Shape.raw, 23, .slice ao (R.map RowD.v).length co, R.map RowD.v⟩ :: (rowsW 5 (R ++ [(⟨some ⟨b4, 0, none⟩, k, k, (List.replicate k (0#8 : BitVec 8))⟩ : RowD)])))) (List.Perm.refl _) (((rowsW_snoc (r := (⟨some ⟨b4, 0, none⟩, k, k, (List.replicate k (0#8 : BitVec 8))⟩ : RowD))).append_left ([⟨Shape.raw, 23, .slice ao (R.map RowD.v).length co, R.map RowD.v⟩] : List OwnS)).trans List.perm_middle)
  have H : Hp w S [] [] (⟨Shape.raw, 23, .slice ao (R.map RowD.v).length co, R.map RowD.v⟩ :: (rowsW 5 (R ++ [(⟨some ⟨b4, 0, none⟩, k, k, (List.replicate k (0#8 : BitVec 8))⟩ : RowD)]))) [] _ := H
  refine RW.new (κ := .seq) (d := some 15) (r := (sq 4 6)) (o := .cells #[.slice (some ⟨b4, 0, none⟩) k k] 23 (0, 0)) (v := fun b => .slice (some ⟨b, 0, none⟩) 1 1) (fun b => by as_aux_lemma => kernel_rfl) (nofun) H ?_
  intro b6 w7 H
  have H := H.freeze 0 rfl Shape.raw ([.slice (some ⟨b4, 0, none⟩) k k] : List Value) 1 (by simp [maxLen]) (Nat.le_refl _) (EsP.cons (c := [.slice (some ⟨b4, 0, none⟩) k k]) ⟨rfl, rfl⟩ EsP.nil)
  have H : Hp w S [] [] (⟨Shape.raw, 23, .slice ao (R.map RowD.v).length co, R.map RowD.v⟩ :: (rowsW 5 (R ++ [(⟨some ⟨b4, 0, none⟩, k, k, (List.replicate k (0#8 : BitVec 8))⟩ : RowD)]))) [Rp (Shape.slice Shape.raw) [.slice (some ⟨b6, 0, none⟩) 1 1] ([.slice (some ⟨b4, 0, none⟩) k k] : List Value)] _ := H
  refine RW.appendW (d := some 16) (r := (sq 5 6)) (T := 29) (ty := 29) (e := 23) (m := 1) (by_ := 24) (v := .slice ao (R.map RowD.v).length co) (a2 := (some ⟨b6, 0, none⟩)) (l2 := 1) (c2 := 1) (zs := (R ++ [(⟨some ⟨b4, 0, none⟩, k, k, (List.replicate k (0#8 : BitVec 8))⟩ : RowD)]).map RowD.v) (by as_aux_lemma => kernel_rfl) (by as_aux_lemma => kernel_rfl) rfl H 0 rfl 0 rfl (by rw [List.map_append]; rfl) (by rw [List.map_append, List.length_append, hRl]; simp only [List.map_cons, List.map_nil, List.length_cons, List.length_nil]; omega) ?_
  intro a8 c9 w11 H hc10
  have H : Hp w S [] [] (⟨Shape.raw, 23, .slice a8 (((R ++ [(⟨some ⟨b4, 0, none⟩, k, k, (List.replicate k (0#8 : BitVec 8))⟩ : RowD)]).map RowD.v).length) c9, (R ++ [(⟨some ⟨b4, 0, none⟩, k, k, (List.replicate k (0#8 : BitVec 8))⟩ : RowD)]).map RowD.v⟩ :: (rowsW 5 (R ++ [(⟨some ⟨b4, 0, none⟩, k, k, (List.replicate k (0#8 : BitVec 8))⟩ : RowD)]))) [Rp (Shape.slice Shape.raw) [.slice (some ⟨b6, 0, none⟩) 1 1] ([.slice (some ⟨b4, 0, none⟩) k k] : List Value)] _ := H
  refine qF 1 [(0, .I n), (1, .I k), (5, .slice a8 (((R ++ [(⟨some ⟨b4, 0, none⟩, k, k, (List.replicate k (0#8 : BitVec 8))⟩ : RowD)]).map RowD.v).length) c9), (6, .I i)] ?_
  refine qR 1 [.c [2, 0, 1, 0, 0, 2], .l [2, 0, 1, 0, 0], .b 0, .c [3]] [(0, .I n), (1, .I k), (5, .slice a8 (((R ++ [(⟨some ⟨b4, 0, none⟩, k, k, (List.replicate k (0#8 : BitVec 8))⟩ : RowD)]).map RowD.v).length) c9), (6, .I i)] ?_
  refine qG (sq 0 3) ?_
  refine qP 1 (sq 1 3) [(0, .I n), (1, .I k), (5, .slice a8 (((R ++ [(⟨some ⟨b4, 0, none⟩, k, k, (List.replicate k (0#8 : BitVec 8))⟩ : RowD)]).map RowD.v).length) c9), (6, .I i), (10, .I i)] ?_
  refine qI .seq 11 (sq 2 3) ((i : Int) + 1) ?_
  refine qF 1 [(0, .I n), (1, .I k), (5, .slice a8 (((R ++ [(⟨some ⟨b4, 0, none⟩, k, k, (List.replicate k (0#8 : BitVec 8))⟩ : RowD)]).map RowD.v).length) c9), (6, .I ((i : Int) + 1))] ?_
  have H := H.pick [] rfl
  exact WK.back (hback1 (i + 1, (R ++ [(⟨some ⟨b4, 0, none⟩, k, k, (List.replicate k (0#8 : BitVec 8))⟩ : RowD)]), a8, c9) _ ⟨H, by omega, by rw [List.length_append, hinv0.2.1]; rfl, by intro r hr; rcases List.mem_append.1 hr with hr | hr; exact hinv0.2.2.1 r hr; rw [List.mem_singleton.1 hr], by rw [List.map_append, hinv0.2.2.2, List.replicate_succ']; rfl⟩ (by first | omega | (simp only []; omega))) (by as_aux_lemma => kernel_rfl)
 ·
  refine qR 3 [.c [4]] [(4, .slice ao (R.map RowD.v).length co)] ?_
  refine qT (.slice ao (R.map RowD.v).length co) Try.func103 ?_
  have hin : i = n := by omega
  subst hin
  rw [hRl] at H ⊢
  exact ⟨_, rfl, H.done, R, _, _, rfl, hinv0.2.1, hinv0.2.2.1, hinv0.2.2.2, H.pick [] rfl⟩

def genSt (k n i j : Nat) : List (List (BitVec 8)) := (List.range n).map fun t => genTo k t (if t < i then k else if t = i then j else 0)
theorem genSt_at {k n i j : Nat} (h : i < n) : (genSt k n i j)[i]? = some (genTo k i j) := by
 unfold genSt
 rw [List.getElem?_map, List.getElem?_range h]
 simp
theorem genSt_set {k n i j : Nat} (_h : i < n) : (genSt k n i j).set i (genTo k i (j + 1)) = genSt k n i (j + 1) := by
 unfold genSt
 apply List.ext_getElem?
 intro t
 rw [List.getElem?_set]
 split
 · rename_i e
   subst e
   simp [_h]
 · rename_i e
   rw [List.getElem?_map, List.getElem?_map]
   by_cases ht : t < n
   · rw [List.getElem?_range ht]
     have e2 : ¬ t = i := fun q => e q.symm
     simp only [Option.map_some, if_neg e2]
   · rw [List.getElem?_eq_none (by simpa using ht)]; rfl
theorem genSt_full {k n i : Nat} : genSt k n i k = genSt k n (i + 1) 0 := by
 unfold genSt
 apply List.map_congr_left
 intro t _
 congr 1
 split
 · rw [if_pos (by omega)]
 · split
   · rw [if_pos (by omega)]
   · rw [if_neg (by omega)]; split <;> rfl
theorem genSt_zero {k n : Nat} : List.replicate n (List.replicate k 0#8) = genSt k n 0 0 := by
 unfold genSt
 apply List.ext_getElem?
 intro t
 rw [List.getElem?_replicate, List.getElem?_map]
 split
 · rename_i h
   rw [List.getElem?_range h]
   simp only [Option.map_some]
   rw [if_neg (by omega), show (if t = 0 then 0 else 0 : Nat) = 0 by split <;> rfl, genTo_zero k t]
 · rename_i h
   rw [List.getElem?_eq_none (by simpa using h)]; rfl
theorem genSt_all {k n : Nat} : genSt k n n 0 = gen k n := by
 unfold genSt gen
 apply List.map_congr_left
 intro t ht
 rw [if_pos (List.mem_range.1 ht), genTo_all (Nat.le_refl _)]
theorem genSt_skip {k n i j : Nat} (hj : j < k) (h1 : i < k) (h2 : i ≠ j) : genSt k n i j = genSt k n i (j + 1) := by
 unfold genSt
 apply List.map_congr_left
 intro t _
 by_cases ht : t = i
 · subst ht
   simp only [Nat.lt_irrefl, if_false, if_true]
   exact genTo_skip hj h1 h2
 · rw [if_neg ht, if_neg ht]
theorem xor_ofNat (i j : Nat) : BitVec.ofNat 8 (i ^^^ j) = BitVec.ofNat 8 i ^^^ BitVec.ofNat 8 j := by
 apply BitVec.eq_of_toNat_eq
 rw [BitVec.toNat_xor, BitVec.toNat_ofNat, BitVec.toNat_ofNat, BitVec.toNat_ofNat, Nat.xor_mod_two_pow]
theorem genE_pow {k i j : Nat} (h : k ≤ i) (hj : j < k) (hi : i < 256) : genE k i j = gpow (BitVec.ofNat 8 (i ^^^ j)) 254 := by
 rw [genE_par h, xor_ofNat, gpow_inv (fun e => gen_ne hi (by omega) (by omega : i ≠ j) (by rw [e]; rfl))]

theorem rgen_spec {S : Nat → Prop} {w : World} (k n : Nat) (hk : 1 ≤ k) (hkn : k ≤ n) (hn : n ≤ 255) :
 Calls Try.prog 72 #[.I k, .I n] w (Ret fun v w' => Ext w w' ∧ ∃ (a : Option Addr) (c : Nat), v = .tuple #[.slice a (gen k n).length c, .I 0] ∧ (Shape.slice SB).rep (Nw S w) w' [.slice a (gen k n).length c] (gen k n)) := by
 refine qS (fn := Try.f72) (n := 62) (σ := [(0, .I k), (1, .I n)]) Try.func72 ?_
 have H := Hp.startF (w := w) (S := S) (G := []) .nil
 refine qR 4 [.c [1, 0, 0], .c [1, 0, 1], .c [2]] [(0, .I k), (1, .I n)] ?_
 refine qG (sq 0 11) ?_
 refine qP 3 (sq 3 11) [(0, .I k), (1, .I n), (11, .bool (decide (((k : Int) : Int) < 1)))] ?_
 refine tD (fun b_ => [(0, .I k), (1, .I n), (11, .bool b_)]) (((k : Int) : Int) < 1) (fun h1 => ?_) (fun h1 => ?_)
 ·
  omega
 ·
  refine qP 5 (sq 8 11) [(0, .I k), (1, .I n), (16, .bool (decide (((k : Int) : Int) > (n : Int))))] ?_
  refine tD (fun b_ => [(0, .I k), (1, .I n), (16, .bool b_)]) (((k : Int) : Int) > (n : Int)) (fun h2 => ?_) (fun h2 => ?_)
  ·
   omega
  ·
   refine qF 3 [(0, .I k), (1, .I n), (19, .bool (decide (((n : Int) : Int) > 255)))] ?_
   refine qD (((n : Int) : Int) > 255) (fun h3 => ?_) (fun h3 => ?_)
   ·
    omega
   ·
    refine qR 2 [.c [2, 0], .c [3]] [(0, .I k), (1, .I n)] ?_
    refine qG (sq 0 4) ?_
    refine qP 2 (sq 2 4) [(0, .I k), (1, .I n), (20, .I n), (21, .I k)] ?_
    refine qK .seq (some 22) (sq 3 4) 103 #[.I n, .I k] (zeros_spec (S := Av S w [] (idsOf [] [])) n k (by omega) (by omega)) ?_
    rintro _ w4 - ⟨R5, a6, c7, rfl, hRl8, hRn9, hRx10, H'⟩
    have H := H.back (M1 := []) (W1 := []) H'
    have H := H.perms (M' := []) (W' := (⟨Shape.raw, 23, .slice a6 n c7, R5.map RowD.v⟩ :: (rowsW 5 R5))) (List.Perm.refl _) (List.Perm.of_eq (List.append_nil _).symm)
    have H : Hp w S [] [] (⟨Shape.raw, 23, .slice a6 n c7, R5.map RowD.v⟩ :: (rowsW 5 R5)) [] _ := H
    refine qF 1 [(0, .I k), (1, .I n), (6, .slice a6 n c7)] ?_
    refine qR 4 [.c [3, 0, 1, 0], .b 0, .c [4]] [(0, .I k), (1, .I n), (6, .slice a6 n c7), (7, .I 0)] ?_
    refine WK.loop (α := Nat × List RowD) (b := cd Try.prog 72 [3, 0, 1, 0, 0]) (by as_aux_lemma => kernel_rfl) (fun st_ => match st_ with | (i, R) => [(0, .I k), (1, .I n), (6, .slice a6 n c7), (7, .I i)]) (fun st_ w' => match st_ with | (i, R) => Hp w S [] [] (⟨Shape.raw, 23, .slice a6 n c7, R.map RowD.v⟩ :: (rowsW 5 R)) [] w' ∧ i ≤ n ∧ R.length = n ∧ (∀ r ∈ R, r.n = k) ∧ R.map RowD.xs = genSt k n i 0) (fun st_ => match st_ with | (i, R) => n - i) (0, R5) ⟨H, by omega, hRl8, hRn9, by rw [hRx10]; exact genSt_zero⟩ (rfl) ?_
    rintro ⟨i, R⟩ w12 ⟨H, hinv0⟩ hback11
    refine qR 3 [.c [3, 0, 1, 0, 0, 0, 1], .c [3, 0, 1, 0, 0, 1], .l [3, 0, 1, 0, 0], .b 0, .c [4]] [(0, .I k), (1, .I n), (6, .slice a6 n c7), (7, .I i), (25, .bool (decide (((i : Int) : Int) < (n : Int))))] ?_
    refine qD (((i : Int) : Int) < (n : Int)) (fun h13 => ?_) (fun h13 => ?_)
    ·
     refine qR 6 [.c [3, 0, 1, 0, 0, 1, 0, 0, 1, 0], .b 2, .b 1, .c [3, 0, 1, 0, 0, 2], .l [3, 0, 1, 0, 0], .b 0, .c [4]] [(0, .I k), (1, .I n), (6, .slice a6 n c7), (7, .I i), (8, .I 0)] ?_
     refine WK.loop (α := Nat × List RowD) (b := cd Try.prog 72 [3, 0, 1, 0, 0, 1, 0, 0, 1, 0, 0]) (by as_aux_lemma => kernel_rfl) (fun st_ => match st_ with | (j, Q) => [(0, .I k), (1, .I n), (6, .slice a6 n c7), (7, .I i), (8, .I j)]) (fun st_ w' => match st_ with | (j, Q) => Hp w S [] [] (⟨Shape.raw, 23, .slice a6 n c7, Q.map RowD.v⟩ :: (rowsW 5 Q)) [] w' ∧ j ≤ k ∧ Q.length = n ∧ (∀ r ∈ Q, r.n = k) ∧ Q.map RowD.xs = genSt k n i j) (fun st_ => match st_ with | (j, Q) => k - j) (0, R) ⟨H, by omega, hinv0.2.1, hinv0.2.2.1, hinv0.2.2.2⟩ (rfl) ?_
     rintro ⟨j, Q⟩ w15 ⟨H, hinv1⟩ hback14
     refine qR 3 [.c [3, 0, 1, 0, 0, 1, 0, 0, 1, 0, 0, 0, 1], .c [3, 0, 1, 0, 0, 1, 0, 0, 1, 0, 0, 1], .l [3, 0, 1, 0, 0, 1, 0, 0, 1, 0, 0], .b 2, .b 1, .c [3, 0, 1, 0, 0, 2], .l [3, 0, 1, 0, 0], .b 0, .c [4]] [(0, .I k), (1, .I n), (6, .slice a6 n c7), (7, .I i), (8, .I j), (30, .bool (decide (((j : Int) : Int) < (k : Int))))] ?_
     refine qD (((j : Int) : Int) < (k : Int)) (fun h16 => ?_) (fun h16 => ?_)
     ·
      refine qR 5 [.c [3, 0, 1, 0, 0, 1, 0, 0, 1, 0, 0, 1, 0, 0, 0, 0], .c [3, 0, 1, 0, 0, 1, 0, 0, 1, 0, 0, 1, 0, 0, 0, 1], .c [3, 0, 1, 0, 0, 1, 0, 0, 1, 0, 0, 1, 0, 0, 1], .b 3, .c [3, 0, 1, 0, 0, 1, 0, 0, 1, 0, 0, 2], .l [3, 0, 1, 0, 0, 1, 0, 0, 1, 0, 0], .b 2, .b 1, .c [3, 0, 1, 0, 0, 2], .l [3, 0, 1, 0, 0], .b 0, .c [4]] [(0, .I k), (1, .I n), (6, .slice a6 n c7), (7, .I i), (8, .I j)] ?_
      refine qG (sq 0 8) ?_
      refine qP 4 (sq 4 8) [(0, .I k), (1, .I n), (6, .slice a6 n c7), (7, .I i), (8, .I j), (36, .bool (decide (((i : Int) : Int) < (k : Int))))] ?_
      refine tD (fun b_ => [(0, .I k), (1, .I n), (6, .slice a6 n c7), (7, .I i), (8, .I j), (36, .bool b_)]) (((i : Int) : Int) < (k : Int)) (fun h17 => ?_) (fun h17 => ?_)
      ·
       refine qF 4 [(0, .I k), (1, .I n), (6, .slice a6 n c7), (7, .I i), (8, .I j), (40, .bool ((i : Int) == (j : Int)))] ?_
       refine qE (i : Int) (j : Int) (fun h18 => ?_) (fun h18 => ?_)
       ·
        refine qG (sq 0 7) ?_
        refine qP 2 (sq 2 7) [(0, .I k), (1, .I n), (6, .slice a6 n c7), (7, .I i), (8, .I j), (41, .slice a6 n c7), (42, .I i)] ?_
        obtain ⟨rr19, hrr20⟩ : ∃ q_, Q[i]? = some q_ := ⟨_, List.getElem?_eq_getElem (by omega)⟩
        have H := H.perms (M' := []) (W' := (⟨Shape.raw, 23, .slice a6 n c7, Q.map RowD.v⟩ :: ⟨Sb, 5, .slice rr19.a rr19.n rr19.c, rr19.xs⟩ :: (rowsW 5 (Q.eraseIdx i)))) (List.Perm.refl _) ((rowsW_pick hrr20).append_left ([⟨Shape.raw, 23, .slice a6 n c7, Q.map RowD.v⟩] : List OwnS))
        have hrx : rr19.xs = genTo k i j := Option.some.inj ((rowsX_at hrr20 hinv1.2.2.2).symm.trans (genSt_at (by omega)))
        have hrl : rr19.xs.length = k := by rw [hrx, genTo_len]
        have hrn : rr19.n = k := hinv1.2.2.1 rr19 (List.mem_of_getElem? hrr20)
        have hn22 : n = (Q.map RowD.v).length := by rw [List.length_map]; omega
        have hx21 : i < (Q.map RowD.v).length := by rw [List.length_map]; omega
        refine RW.indexW (κ := .seq) (d := some 43) (r := (sq 3 7)) (T := 29) (e := 23) (m := 1) (ik := .i64) (ix := (i : Int)) (sh := Shape.raw) (xs := Q.map RowD.v) (a := a6) (len := n) (cap := c7) (by as_aux_lemma => kernel_rfl) (by as_aux_lemma => kernel_rfl) rfl H i (by omega) hx21 hn22 ?_
        intro b23 es24 ha25 hcell26 hr27
        rw [rowsV_at hrr20] at hr27
        obtain ⟨rfl, -⟩ := hr27
        refine qL .seq 44 (sq 4 7) 23 b23 (i * 1) 0 (.slice rr19.a rr19.n rr19.c) hcell26 ?_
        refine qP 1 (sq 5 7) [(0, .I k), (1, .I n), (6, .slice a6 n c7), (7, .I i), (8, .I j), (44, .slice rr19.a rr19.n rr19.c), (45, .I j)] ?_
        have H := H.frontW 1 (W' := (⟨Sb, 5, .slice rr19.a rr19.n rr19.c, rr19.xs⟩ :: ⟨Shape.raw, 23, .slice a6 n c7, Q.map RowD.v⟩ :: (rowsW 5 (Q.eraseIdx i)))) rfl
        have hn29 : rr19.n = rr19.xs.length := by omega
        have hx28 : j < rr19.xs.length := by omega
        refine RW.indexW (κ := .seq) (d := some 46) (r := (sq 6 7)) (T := 23) (e := 5) (m := 1) (ik := .i64) (ix := (j : Int)) (sh := Sb) (xs := rr19.xs) (a := rr19.a) (len := rr19.n) (cap := rr19.c) (by as_aux_lemma => kernel_rfl) (by as_aux_lemma => kernel_rfl) rfl H j (by omega) hx28 hn29 ?_
        intro b30 es31 ha32 hcell33 hr34
        obtain rfl := hr34
        refine RW.storeW (d := none) (r := (sq 7 7)) (e := 5) (m := 1) (b := b30) (k := j) (v := .int .u8 1) (by as_aux_lemma => kernel_rfl) rfl (by as_aux_lemma => kernel_rfl) H ha32 hx28 hn29 (1#8) (Shape.bv_lit (x := 1#8) (by decide)) ?_
        intro w35 H
        refine qF 0 [(0, .I k), (1, .I n), (6, .slice a6 n c7), (7, .I i), (8, .I j)] ?_
        refine qR 2 [.c [3, 0, 1, 0, 0, 1, 0, 0, 1, 0, 0, 1, 0, 0, 2], .b 3, .c [3, 0, 1, 0, 0, 1, 0, 0, 1, 0, 0, 2], .l [3, 0, 1, 0, 0, 1, 0, 0, 1, 0, 0], .b 2, .b 1, .c [3, 0, 1, 0, 0, 2], .l [3, 0, 1, 0, 0], .b 0, .c [4]] [(0, .I k), (1, .I n), (6, .slice a6 n c7), (7, .I i), (8, .I j), (49, .bool (decide (((i : Int) : Int) ≥ (k : Int))))] ?_
        refine qD (((i : Int) : Int) ≥ (k : Int)) (fun h36 => ?_) (fun h36 => ?_)
        ·
         omega
        ·
         refine qR 2 [.c [3, 0, 1, 0, 0, 1, 0, 0, 1, 0, 0, 2], .l [3, 0, 1, 0, 0, 1, 0, 0, 1, 0, 0], .b 2, .b 1, .c [3, 0, 1, 0, 0, 2], .l [3, 0, 1, 0, 0], .b 0, .c [4]] [(0, .I k), (1, .I n), (6, .slice a6 n c7), (7, .I i), (8, .I j)] ?_
         refine qG (sq 0 3) ?_
         refine qP 1 (sq 1 3) [(0, .I k), (1, .I n), (6, .slice a6 n c7), (7, .I i), (8, .I j), (31, .I j)] ?_
         refine qI .seq 32 (sq 2 3) ((j : Int) + 1) ?_
         refine qF 1 [(0, .I k), (1, .I n), (6, .slice a6 n c7), (7, .I i), (8, .I ((j : Int) + 1))] ?_
         have H := H.frontW 1 (W' := (⟨Shape.raw, 23, .slice a6 n c7, Q.map RowD.v⟩ :: ⟨Sb, 5, .slice rr19.a rr19.n rr19.c, rr19.xs.set j (1#8)⟩ :: (rowsW 5 (Q.eraseIdx i)))) rfl
         have H := H.perms (M' := []) (W' := (⟨Shape.raw, 23, .slice a6 n c7, Q.map RowD.v⟩ :: (rowsW 5 (Q.set i (⟨rr19.a, rr19.n, rr19.c, rr19.xs.set j (1#8)⟩ : RowD))))) (List.Perm.refl _) ((rowsW_put (⟨rr19.a, rr19.n, rr19.c, rr19.xs.set j (1#8)⟩ : RowD) (List.getElem?_eq_some_iff.1 hrr20).1).append_left ([⟨Shape.raw, 23, .slice a6 n c7, Q.map RowD.v⟩] : List OwnS))
         have H := H.reW (ys := (Q.set i (⟨rr19.a, rr19.n, rr19.c, rr19.xs.set j (1#8)⟩ : RowD)).map RowD.v) (rowsV_set (r' := (⟨rr19.a, rr19.n, rr19.c, rr19.xs.set j (1#8)⟩ : RowD)) hrr20 rfl)
         have H : Hp w S [] [] (⟨Shape.raw, 23, .slice a6 n c7, (Q.set i (⟨rr19.a, rr19.n, rr19.c, rr19.xs.set j (1#8)⟩ : RowD)).map RowD.v⟩ :: (rowsW 5 (Q.set i (⟨rr19.a, rr19.n, rr19.c, rr19.xs.set j (1#8)⟩ : RowD)))) [] _ := H
         exact WK.back (hback14 (j + 1, (Q.set i (⟨rr19.a, rr19.n, rr19.c, rr19.xs.set j (1#8)⟩ : RowD))) _ ⟨H, by omega, by rw [List.length_set]; exact hinv1.2.1, rows_n hinv1.2.2.1 hrr20 rfl, by rw [rowsX_set, hinv1.2.2.2]; simp only []; rw [hrx, genTo_set (by omega) (by first | (unfold genE; rw [if_neg (by omega), if_pos (by omega)]; done) | (unfold genE; rw [if_neg (by omega), if_pos (by omega)]; rfl) | exact genE_pow (by omega) (by omega) (by omega)), genSt_set (by omega)]⟩ (by first | omega | (simp only []; omega))) (by as_aux_lemma => kernel_rfl)
       ·
        refine qR 3 [.c [3, 0, 1, 0, 0, 1, 0, 0, 1, 0, 0, 1, 0, 0, 2], .b 3, .c [3, 0, 1, 0, 0, 1, 0, 0, 1, 0, 0, 2], .l [3, 0, 1, 0, 0, 1, 0, 0, 1, 0, 0], .b 2, .b 1, .c [3, 0, 1, 0, 0, 2], .l [3, 0, 1, 0, 0], .b 0, .c [4]] [(0, .I k), (1, .I n), (6, .slice a6 n c7), (7, .I i), (8, .I j), (49, .bool (decide (((i : Int) : Int) ≥ (k : Int))))] ?_
        refine qD (((i : Int) : Int) ≥ (k : Int)) (fun h37 => ?_) (fun h37 => ?_)
        ·
         refine WK.draw1 11 [(0, .qui), (1, .qui), (2, .qui), (3, .qui), (4, .qui), (5, .qui), (6, .qui), (7, .qui), (8, .qui), (9, .chn), (10, .qui)] [(0, .qui), (1, .qui), (2, .qui), (3, .qui), (4, .qui), (5, .qui), (6, .qui), (7, .qui), (8, .qui), (9, .chn), (10, .qui), (11, .seq)] Try_mixed (by as_aux_lemma => kernel_rfl) (by as_aux_lemma => kernel_rfl) (by as_aux_lemma => kernel_rfl) ?_
         have H := H.draw
         generalize ({ w15 with drawn := w15.drawn + 1 } : World) = w38 at H ⊢
         refine qP 2 [(2, .qui), (3, .qui), (4, .qui), (5, .qui), (6, .qui), (7, .qui), (8, .qui), (9, .chn), (10, .qui), (11, .seq)] [(0, .I k), (1, .I n), (6, .slice a6 n c7), (7, .I i), (8, .I j), (50, .slice a6 n c7), (51, .I i)] ?_
         obtain ⟨rr39, hrr40⟩ : ∃ q_, Q[i]? = some q_ := ⟨_, List.getElem?_eq_getElem (by omega)⟩
         have H := H.perms (M' := []) (W' := (⟨Shape.raw, 23, .slice a6 n c7, Q.map RowD.v⟩ :: ⟨Sb, 5, .slice rr39.a rr39.n rr39.c, rr39.xs⟩ :: (rowsW 5 (Q.eraseIdx i)))) (List.Perm.refl _) ((rowsW_pick hrr40).append_left ([⟨Shape.raw, 23, .slice a6 n c7, Q.map RowD.v⟩] : List OwnS))
         have hrx : rr39.xs = genTo k i j := Option.some.inj ((rowsX_at hrr40 hinv1.2.2.2).symm.trans (genSt_at (by omega)))
         have hrl : rr39.xs.length = k := by rw [hrx, genTo_len]
         have hrn : rr39.n = k := hinv1.2.2.1 rr39 (List.mem_of_getElem? hrr40)
         have hn42 : n = (Q.map RowD.v).length := by rw [List.length_map]; omega
         have hx41 : i < (Q.map RowD.v).length := by rw [List.length_map]; omega
         refine RW.indexW (κ := .qui) (d := some 52) (r := [(3, .qui), (4, .qui), (5, .qui), (6, .qui), (7, .qui), (8, .qui), (9, .chn), (10, .qui), (11, .seq)]) (T := 29) (e := 23) (m := 1) (ik := .i64) (ix := (i : Int)) (sh := Shape.raw) (xs := Q.map RowD.v) (a := a6) (len := n) (cap := c7) (by as_aux_lemma => kernel_rfl) (by as_aux_lemma => kernel_rfl) rfl H i (by omega) hx41 hn42 ?_
         intro b43 es44 ha45 hcell46 hr47
         rw [rowsV_at hrr40] at hr47
         obtain ⟨rfl, -⟩ := hr47
         refine qL .qui 53 [(4, .qui), (5, .qui), (6, .qui), (7, .qui), (8, .qui), (9, .chn), (10, .qui), (11, .seq)] 23 b43 (i * 1) 0 (.slice rr39.a rr39.n rr39.c) hcell46 ?_
         refine qP 3 [(7, .qui), (8, .qui), (9, .chn), (10, .qui), (11, .seq)] [(0, .I k), (1, .I n), (6, .slice a6 n c7), (7, .I i), (8, .I j), (53, .slice rr39.a rr39.n rr39.c), (54, .I j), (55, .I i), (56, .I j)] ?_
         refine RW.pv (κ := .qui) (d := some 57) (r := [(8, .qui), (9, .chn), (10, .qui), (11, .seq)]) (v := .I (IntKind.i64.wrap (((BitVec.ofInt 64 ((i : Nat) : Int) ^^^ BitVec.ofInt 64 ((j : Nat) : Int)).toNat : Nat) : Int))) (v' := .I ((i ^^^ j : Nat) : Int)) (by as_aux_lemma => kernel_rfl) (xor_i64 (by omega) (by omega)) ?_
         refine RW.pv (κ := .qui) (d := some 58) (r := [(9, .chn), (10, .qui), (11, .seq)]) (v := .int .u8 (IntKind.u8.wrap (((i ^^^ j : Nat) : Int)))) (v' := .int .u8 (((BitVec.ofNat 8 (i ^^^ j)).toNat : Nat) : Int)) (by as_aux_lemma => kernel_rfl) ((wrap_bv8 _).trans (by rw [bv_nat])) ?_
         refine qK .chn (some 59) [(10, .qui), (11, .seq)] 104 #[.int .u8 (((BitVec.ofNat 8 (i ^^^ j)).toNat : Nat) : Int)] (r1inv_spec (S := fun _ => True) (BitVec.ofNat 8 (i ^^^ j))) ?_
         rintro _ w48 hE49 rfl
         have H := H.ext hE49
         have H := H.frontW 1 (W' := (⟨Sb, 5, .slice rr39.a rr39.n rr39.c, rr39.xs⟩ :: ⟨Shape.raw, 23, .slice a6 n c7, Q.map RowD.v⟩ :: (rowsW 5 (Q.eraseIdx i)))) rfl
         have hn51 : rr39.n = rr39.xs.length := by omega
         have hx50 : j < rr39.xs.length := by omega
         refine RW.indexW (κ := .qui) (d := some 60) (r := [(11, .seq)]) (T := 23) (e := 5) (m := 1) (ik := .i64) (ix := (j : Int)) (sh := Sb) (xs := rr39.xs) (a := rr39.a) (len := rr39.n) (cap := rr39.c) (by as_aux_lemma => kernel_rfl) (by as_aux_lemma => kernel_rfl) rfl H j (by omega) hx50 hn51 ?_
         intro b52 es53 ha54 hcell55 hr56
         obtain rfl := hr56
         refine RW.storeW (d := none) (r := []) (e := 5) (m := 1) (b := b52) (k := j) (v := .int .u8 (((gpow (BitVec.ofNat 8 (i ^^^ j)) 254).toNat : Nat) : Int)) (by as_aux_lemma => kernel_rfl) rfl (by as_aux_lemma => kernel_rfl) H ha54 hx50 hn51 (gpow (BitVec.ofNat 8 (i ^^^ j)) 254) Shape.bv_mk ?_
         intro w57 H
         refine qF 0 [(0, .I k), (1, .I n), (6, .slice a6 n c7), (7, .I i), (8, .I j)] ?_
         refine qR 1 [.c [3, 0, 1, 0, 0, 1, 0, 0, 1, 0, 0, 2], .l [3, 0, 1, 0, 0, 1, 0, 0, 1, 0, 0], .b 2, .b 1, .c [3, 0, 1, 0, 0, 2], .l [3, 0, 1, 0, 0], .b 0, .c [4]] [(0, .I k), (1, .I n), (6, .slice a6 n c7), (7, .I i), (8, .I j)] ?_
         refine qG (sq 0 3) ?_
         refine qP 1 (sq 1 3) [(0, .I k), (1, .I n), (6, .slice a6 n c7), (7, .I i), (8, .I j), (31, .I j)] ?_
         refine qI .seq 32 (sq 2 3) ((j : Int) + 1) ?_
         refine qF 1 [(0, .I k), (1, .I n), (6, .slice a6 n c7), (7, .I i), (8, .I ((j : Int) + 1))] ?_
         have H := H.frontW 1 (W' := (⟨Shape.raw, 23, .slice a6 n c7, Q.map RowD.v⟩ :: ⟨Sb, 5, .slice rr39.a rr39.n rr39.c, rr39.xs.set j (gpow (BitVec.ofNat 8 (i ^^^ j)) 254)⟩ :: (rowsW 5 (Q.eraseIdx i)))) rfl
         have H := H.perms (M' := []) (W' := (⟨Shape.raw, 23, .slice a6 n c7, Q.map RowD.v⟩ :: (rowsW 5 (Q.set i (⟨rr39.a, rr39.n, rr39.c, rr39.xs.set j (gpow (BitVec.ofNat 8 (i ^^^ j)) 254)⟩ : RowD))))) (List.Perm.refl _) ((rowsW_put (⟨rr39.a, rr39.n, rr39.c, rr39.xs.set j (gpow (BitVec.ofNat 8 (i ^^^ j)) 254)⟩ : RowD) (List.getElem?_eq_some_iff.1 hrr40).1).append_left ([⟨Shape.raw, 23, .slice a6 n c7, Q.map RowD.v⟩] : List OwnS))
         have H := H.reW (ys := (Q.set i (⟨rr39.a, rr39.n, rr39.c, rr39.xs.set j (gpow (BitVec.ofNat 8 (i ^^^ j)) 254)⟩ : RowD)).map RowD.v) (rowsV_set (r' := (⟨rr39.a, rr39.n, rr39.c, rr39.xs.set j (gpow (BitVec.ofNat 8 (i ^^^ j)) 254)⟩ : RowD)) hrr40 rfl)
         have H : Hp w S [] [] (⟨Shape.raw, 23, .slice a6 n c7, (Q.set i (⟨rr39.a, rr39.n, rr39.c, rr39.xs.set j (gpow (BitVec.ofNat 8 (i ^^^ j)) 254)⟩ : RowD)).map RowD.v⟩ :: (rowsW 5 (Q.set i (⟨rr39.a, rr39.n, rr39.c, rr39.xs.set j (gpow (BitVec.ofNat 8 (i ^^^ j)) 254)⟩ : RowD)))) [] _ := H
         exact WK.back (hback14 (j + 1, (Q.set i (⟨rr39.a, rr39.n, rr39.c, rr39.xs.set j (gpow (BitVec.ofNat 8 (i ^^^ j)) 254)⟩ : RowD))) _ ⟨H, by omega, by rw [List.length_set]; exact hinv1.2.1, rows_n hinv1.2.2.1 hrr40 rfl, by rw [rowsX_set, hinv1.2.2.2]; simp only []; rw [hrx, genTo_set (by omega) (by first | (unfold genE; rw [if_neg (by omega), if_pos (by omega)]; done) | (unfold genE; rw [if_neg (by omega), if_pos (by omega)]; rfl) | exact genE_pow (by omega) (by omega) (by omega)), genSt_set (by omega)]⟩ (by first | omega | (simp only []; omega))) (by as_aux_lemma => kernel_rfl)
        ·
         refine qR 2 [.c [3, 0, 1, 0, 0, 1, 0, 0, 1, 0, 0, 2], .l [3, 0, 1, 0, 0, 1, 0, 0, 1, 0, 0], .b 2, .b 1, .c [3, 0, 1, 0, 0, 2], .l [3, 0, 1, 0, 0], .b 0, .c [4]] [(0, .I k), (1, .I n), (6, .slice a6 n c7), (7, .I i), (8, .I j)] ?_
         refine qG (sq 0 3) ?_
         refine qP 1 (sq 1 3) [(0, .I k), (1, .I n), (6, .slice a6 n c7), (7, .I i), (8, .I j), (31, .I j)] ?_
         refine qI .seq 32 (sq 2 3) ((j : Int) + 1) ?_
         refine qF 1 [(0, .I k), (1, .I n), (6, .slice a6 n c7), (7, .I i), (8, .I ((j : Int) + 1))] ?_
         exact WK.back (hback14 (j + 1, Q) _ ⟨H, by omega, hinv1.2.1, hinv1.2.2.1, by rw [hinv1.2.2.2]; exact genSt_skip (by omega) (by omega) (by omega)⟩ (by first | omega | (simp only []; omega))) (by as_aux_lemma => kernel_rfl)
      ·
       refine qF 4 [(0, .I k), (1, .I n), (6, .slice a6 n c7), (7, .I i), (8, .I j), (40, .bool false)] ?_
       refine qR 4 [.c [3, 0, 1, 0, 0, 1, 0, 0, 1, 0, 0, 1, 0, 0, 2], .b 3, .c [3, 0, 1, 0, 0, 1, 0, 0, 1, 0, 0, 2], .l [3, 0, 1, 0, 0, 1, 0, 0, 1, 0, 0], .b 2, .b 1, .c [3, 0, 1, 0, 0, 2], .l [3, 0, 1, 0, 0], .b 0, .c [4]] [(0, .I k), (1, .I n), (6, .slice a6 n c7), (7, .I i), (8, .I j), (49, .bool (decide (((i : Int) : Int) ≥ (k : Int))))] ?_
       refine qD (((i : Int) : Int) ≥ (k : Int)) (fun h58 => ?_) (fun h58 => ?_)
       ·
        refine WK.draw1 11 [(0, .qui), (1, .qui), (2, .qui), (3, .qui), (4, .qui), (5, .qui), (6, .qui), (7, .qui), (8, .qui), (9, .chn), (10, .qui)] [(0, .qui), (1, .qui), (2, .qui), (3, .qui), (4, .qui), (5, .qui), (6, .qui), (7, .qui), (8, .qui), (9, .chn), (10, .qui), (11, .seq)] Try_mixed (by as_aux_lemma => kernel_rfl) (by as_aux_lemma => kernel_rfl) (by as_aux_lemma => kernel_rfl) ?_
        have H := H.draw
        generalize ({ w15 with drawn := w15.drawn + 1 } : World) = w59 at H ⊢
        refine qP 2 [(2, .qui), (3, .qui), (4, .qui), (5, .qui), (6, .qui), (7, .qui), (8, .qui), (9, .chn), (10, .qui), (11, .seq)] [(0, .I k), (1, .I n), (6, .slice a6 n c7), (7, .I i), (8, .I j), (50, .slice a6 n c7), (51, .I i)] ?_
        obtain ⟨rr60, hrr61⟩ : ∃ q_, Q[i]? = some q_ := ⟨_, List.getElem?_eq_getElem (by omega)⟩
        have H := H.perms (M' := []) (W' := (⟨Shape.raw, 23, .slice a6 n c7, Q.map RowD.v⟩ :: ⟨Sb, 5, .slice rr60.a rr60.n rr60.c, rr60.xs⟩ :: (rowsW 5 (Q.eraseIdx i)))) (List.Perm.refl _) ((rowsW_pick hrr61).append_left ([⟨Shape.raw, 23, .slice a6 n c7, Q.map RowD.v⟩] : List OwnS))
        have hrx : rr60.xs = genTo k i j := Option.some.inj ((rowsX_at hrr61 hinv1.2.2.2).symm.trans (genSt_at (by omega)))
        have hrl : rr60.xs.length = k := by rw [hrx, genTo_len]
        have hrn : rr60.n = k := hinv1.2.2.1 rr60 (List.mem_of_getElem? hrr61)
        have hn63 : n = (Q.map RowD.v).length := by rw [List.length_map]; omega
        have hx62 : i < (Q.map RowD.v).length := by rw [List.length_map]; omega
        refine RW.indexW (κ := .qui) (d := some 52) (r := [(3, .qui), (4, .qui), (5, .qui), (6, .qui), (7, .qui), (8, .qui), (9, .chn), (10, .qui), (11, .seq)]) (T := 29) (e := 23) (m := 1) (ik := .i64) (ix := (i : Int)) (sh := Shape.raw) (xs := Q.map RowD.v) (a := a6) (len := n) (cap := c7) (by as_aux_lemma => kernel_rfl) (by as_aux_lemma => kernel_rfl) rfl H i (by omega) hx62 hn63 ?_
        intro b64 es65 ha66 hcell67 hr68
        rw [rowsV_at hrr61] at hr68
        obtain ⟨rfl, -⟩ := hr68
        refine qL .qui 53 [(4, .qui), (5, .qui), (6, .qui), (7, .qui), (8, .qui), (9, .chn), (10, .qui), (11, .seq)] 23 b64 (i * 1) 0 (.slice rr60.a rr60.n rr60.c) hcell67 ?_
        refine qP 3 [(7, .qui), (8, .qui), (9, .chn), (10, .qui), (11, .seq)] [(0, .I k), (1, .I n), (6, .slice a6 n c7), (7, .I i), (8, .I j), (53, .slice rr60.a rr60.n rr60.c), (54, .I j), (55, .I i), (56, .I j)] ?_
        refine RW.pv (κ := .qui) (d := some 57) (r := [(8, .qui), (9, .chn), (10, .qui), (11, .seq)]) (v := .I (IntKind.i64.wrap (((BitVec.ofInt 64 ((i : Nat) : Int) ^^^ BitVec.ofInt 64 ((j : Nat) : Int)).toNat : Nat) : Int))) (v' := .I ((i ^^^ j : Nat) : Int)) (by as_aux_lemma => kernel_rfl) (xor_i64 (by omega) (by omega)) ?_
        refine RW.pv (κ := .qui) (d := some 58) (r := [(9, .chn), (10, .qui), (11, .seq)]) (v := .int .u8 (IntKind.u8.wrap (((i ^^^ j : Nat) : Int)))) (v' := .int .u8 (((BitVec.ofNat 8 (i ^^^ j)).toNat : Nat) : Int)) (by as_aux_lemma => kernel_rfl) ((wrap_bv8 _).trans (by rw [bv_nat])) ?_
        refine qK .chn (some 59) [(10, .qui), (11, .seq)] 104 #[.int .u8 (((BitVec.ofNat 8 (i ^^^ j)).toNat : Nat) : Int)] (r1inv_spec (S := fun _ => True) (BitVec.ofNat 8 (i ^^^ j))) ?_
        rintro _ w69 hE70 rfl
        have H := H.ext hE70
        have H := H.frontW 1 (W' := (⟨Sb, 5, .slice rr60.a rr60.n rr60.c, rr60.xs⟩ :: ⟨Shape.raw, 23, .slice a6 n c7, Q.map RowD.v⟩ :: (rowsW 5 (Q.eraseIdx i)))) rfl
        have hn72 : rr60.n = rr60.xs.length := by omega
        have hx71 : j < rr60.xs.length := by omega
        refine RW.indexW (κ := .qui) (d := some 60) (r := [(11, .seq)]) (T := 23) (e := 5) (m := 1) (ik := .i64) (ix := (j : Int)) (sh := Sb) (xs := rr60.xs) (a := rr60.a) (len := rr60.n) (cap := rr60.c) (by as_aux_lemma => kernel_rfl) (by as_aux_lemma => kernel_rfl) rfl H j (by omega) hx71 hn72 ?_
        intro b73 es74 ha75 hcell76 hr77
        obtain rfl := hr77
        refine RW.storeW (d := none) (r := []) (e := 5) (m := 1) (b := b73) (k := j) (v := .int .u8 (((gpow (BitVec.ofNat 8 (i ^^^ j)) 254).toNat : Nat) : Int)) (by as_aux_lemma => kernel_rfl) rfl (by as_aux_lemma => kernel_rfl) H ha75 hx71 hn72 (gpow (BitVec.ofNat 8 (i ^^^ j)) 254) Shape.bv_mk ?_
        intro w78 H
        refine qF 0 [(0, .I k), (1, .I n), (6, .slice a6 n c7), (7, .I i), (8, .I j)] ?_
        refine qR 1 [.c [3, 0, 1, 0, 0, 1, 0, 0, 1, 0, 0, 2], .l [3, 0, 1, 0, 0, 1, 0, 0, 1, 0, 0], .b 2, .b 1, .c [3, 0, 1, 0, 0, 2], .l [3, 0, 1, 0, 0], .b 0, .c [4]] [(0, .I k), (1, .I n), (6, .slice a6 n c7), (7, .I i), (8, .I j)] ?_
        refine qG (sq 0 3) ?_
        refine qP 1 (sq 1 3) [(0, .I k), (1, .I n), (6, .slice a6 n c7), (7, .I i), (8, .I j), (31, .I j)] ?_
        refine qI .seq 32 (sq 2 3) ((j : Int) + 1) ?_
        refine qF 1 [(0, .I k), (1, .I n), (6, .slice a6 n c7), (7, .I i), (8, .I ((j : Int) + 1))] ?_
        have H := H.frontW 1 (W' := (⟨Shape.raw, 23, .slice a6 n c7, Q.map RowD.v⟩ :: ⟨Sb, 5, .slice rr60.a rr60.n rr60.c, rr60.xs.set j (gpow (BitVec.ofNat 8 (i ^^^ j)) 254)⟩ :: (rowsW 5 (Q.eraseIdx i)))) rfl
        have H := H.perms (M' := []) (W' := (⟨Shape.raw, 23, .slice a6 n c7, Q.map RowD.v⟩ :: (rowsW 5 (Q.set i (⟨rr60.a, rr60.n, rr60.c, rr60.xs.set j (gpow (BitVec.ofNat 8 (i ^^^ j)) 254)⟩ : RowD))))) (List.Perm.refl _) ((rowsW_put (⟨rr60.a, rr60.n, rr60.c, rr60.xs.set j (gpow (BitVec.ofNat 8 (i ^^^ j)) 254)⟩ : RowD) (List.getElem?_eq_some_iff.1 hrr61).1).append_left ([⟨Shape.raw, 23, .slice a6 n c7, Q.map RowD.v⟩] : List OwnS))
        have H := H.reW (ys := (Q.set i (⟨rr60.a, rr60.n, rr60.c, rr60.xs.set j (gpow (BitVec.ofNat 8 (i ^^^ j)) 254)⟩ : RowD)).map RowD.v) (rowsV_set (r' := (⟨rr60.a, rr60.n, rr60.c, rr60.xs.set j (gpow (BitVec.ofNat 8 (i ^^^ j)) 254)⟩ : RowD)) hrr61 rfl)
        have H : Hp w S [] [] (⟨Shape.raw, 23, .slice a6 n c7, (Q.set i (⟨rr60.a, rr60.n, rr60.c, rr60.xs.set j (gpow (BitVec.ofNat 8 (i ^^^ j)) 254)⟩ : RowD)).map RowD.v⟩ :: (rowsW 5 (Q.set i (⟨rr60.a, rr60.n, rr60.c, rr60.xs.set j (gpow (BitVec.ofNat 8 (i ^^^ j)) 254)⟩ : RowD)))) [] _ := H
        exact WK.back (hback14 (j + 1, (Q.set i (⟨rr60.a, rr60.n, rr60.c, rr60.xs.set j (gpow (BitVec.ofNat 8 (i ^^^ j)) 254)⟩ : RowD))) _ ⟨H, by omega, by rw [List.length_set]; exact hinv1.2.1, rows_n hinv1.2.2.1 hrr61 rfl, by rw [rowsX_set, hinv1.2.2.2]; simp only []; rw [hrx, genTo_set (by omega) (by first | (unfold genE; rw [if_neg (by omega), if_pos (by omega)]; done) | (unfold genE; rw [if_neg (by omega), if_pos (by omega)]; rfl) | exact genE_pow (by omega) (by omega) (by omega)), genSt_set (by omega)]⟩ (by first | omega | (simp only []; omega))) (by as_aux_lemma => kernel_rfl)
       ·
        refine qR 2 [.c [3, 0, 1, 0, 0, 1, 0, 0, 1, 0, 0, 2], .l [3, 0, 1, 0, 0, 1, 0, 0, 1, 0, 0], .b 2, .b 1, .c [3, 0, 1, 0, 0, 2], .l [3, 0, 1, 0, 0], .b 0, .c [4]] [(0, .I k), (1, .I n), (6, .slice a6 n c7), (7, .I i), (8, .I j)] ?_
        refine qG (sq 0 3) ?_
        refine qP 1 (sq 1 3) [(0, .I k), (1, .I n), (6, .slice a6 n c7), (7, .I i), (8, .I j), (31, .I j)] ?_
        refine qI .seq 32 (sq 2 3) ((j : Int) + 1) ?_
        refine qF 1 [(0, .I k), (1, .I n), (6, .slice a6 n c7), (7, .I i), (8, .I ((j : Int) + 1))] ?_
        exact WK.back (hback14 (j + 1, Q) _ ⟨H, by omega, hinv1.2.1, hinv1.2.2.1, by rw [hinv1.2.2.2]; exact genSt_skip (by omega) (by omega) (by omega)⟩ (by first | omega | (simp only []; omega))) (by as_aux_lemma => kernel_rfl)
     ·
      refine qR 2 [.c [3, 0, 1, 0, 0, 2], .l [3, 0, 1, 0, 0], .b 0, .c [4]] [(0, .I k), (1, .I n), (6, .slice a6 n c7), (7, .I i)] ?_
      refine qG (sq 0 3) ?_
      refine qP 1 (sq 1 3) [(0, .I k), (1, .I n), (6, .slice a6 n c7), (7, .I i), (26, .I i)] ?_
      refine qI .seq 27 (sq 2 3) ((i : Int) + 1) ?_
      refine qF 1 [(0, .I k), (1, .I n), (6, .slice a6 n c7), (7, .I ((i : Int) + 1))] ?_
      exact WK.back (hback11 (i + 1, Q) _ ⟨H, by omega, hinv1.2.1, hinv1.2.2.1, by rw [hinv1.2.2.2, ← genSt_full]; congr 1; omega⟩ (by first | omega | (simp only []; omega))) (by as_aux_lemma => kernel_rfl)
    ·
     refine qR 3 [.c [5]] [(4, .slice a6 n c7), (5, .I 0)] ?_
     refine qT (.tuple #[.slice a6 n c7, .I 0]) Try.func72 ?_
     have hin : i = n := by omega
     rw [hin, genSt_all] at hinv0
     have H := H.freezeRows0
     have H := H.reW (v' := .slice a6 (gen k n).length c7) (ys := gen k n) hinv0.2.2.2 (by rw [gen_len])
     have H := H.freezeW 0 rfl
     exact ⟨_, rfl, H.done, _, _, by rw [gen_len], H.out (H.rp 0 rfl)⟩


end Go.Proofs.Ytppcdmbkgficiaa
