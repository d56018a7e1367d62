import Derived.Test.YtppcdmbkgficiaaSBxA
import Derived.Test.YtppcdmbkgficiaaSE1
namespace Go.Proofs.Ytppcdmbkgficiaa
open Go.BX
theorem zeros_spec {S : Nat → Prop} {w : World} (n k : Nat) (hn : n ≤ 255) (hk : k ≤ 65536) :
 Calls Try.prog 103 #[.I n, .I k] w (Ret fun v w' => Ext w w' ∧ ∃ (R : List RowD) (a : Option Addr) (c : Nat), v = .slice a n c ∧ R.length = n ∧ (∀ r ∈ R, r.n = k) ∧ R.map RowD.xs = List.replicate n (List.replicate k 0#8) ∧ Hp w S [] [] (⟨Shape.raw, 23, .slice a n c, R.map RowD.v⟩ :: rowsW 5 R) [] w') := by
 refine uS1 Try.func103 ?_
 have H := Hp.startF (w := w) (S := S) (G := []) .nil
 refine uR 8 [.c [2, 0, 1, 0], .b 0, .c [3]] ?_
 have H := H.ownNil Shape.raw 23
 have H : Hp w S [] [] (⟨Shape.raw, 23, .slice none 0 0, ([] : List RowD).map RowD.v⟩ :: (rowsW 5 ([] : List RowD))) [] _ := H
 refine uL (α := Nat × List RowD × Option Addr × Nat) (g := 103) (p := [2, 0, 1, 0, 0]) (fun (i, R, ao, co) => [(0, .I n), (1, .I k), (5, .slice ao (R.map RowD.v).length co), (6, .I i)]) (fun (i, R, ao, co) w' => Hp w S [] [] (⟨Shape.raw, 23, .slice ao (R.map RowD.v).length co, R.map RowD.v⟩ :: (rowsW 5 R)) [] w' ∧ i ≤ n ∧ R.length = i ∧ (∀ r ∈ R, r.n = k) ∧ R.map RowD.xs = List.replicate i (List.replicate k 0#8)) (fun (i, R, ao, co) => n - i) (0, ([] : List RowD), none, 0) ⟨H, by omega, rfl, fun r h => (by cases h), rfl⟩ ?_
 rintro ⟨i, R, ao, co⟩ _ ⟨H, f⟩ m
 have hRl : (R.map RowD.v).length = i := by rw [List.length_map]; exact f.2.1
 refine uR 3 [.c [2, 0, 1, 0, 0, 0, 1], .c [2, 0, 1, 0, 0, 1], .l [2, 0, 1, 0, 0], .b 0, .c [3]] ?_
 refine qD (((i : Int) : Int) < (n : Int)) (fun t => ?_) (fun t => ?_)
 ·
  refine uR 3 [.c [2, 0, 1, 0, 0, 1, 0, 0], .b 1, .c [2, 0, 1, 0, 0, 2], .l [2, 0, 1, 0, 0], .b 0, .c [3]] ?_
  refine qG (sq 0 6) ?_
  refine uP 2 ?_
  refine RW.makeW Sb (κ := .seq) (d := some 14) (r := (sq 3 6)) (T := 23) (e := 5) (by_ := 1) (v0 := .int .u8 0) (0#8 : BitVec 8) (kl := .i64) (kc := .i64) (lv := (k : Int)) (cv := (k : Int)) (by as_aux_lemma => kernel_rfl) (nofun) (by as_aux_lemma => kernel_rfl) rfl H k k (by omega) (by omega) (by omega) (by omega) (by omega) (fun _ _ => rfl) ?_
  intro j _ H
  have H := H.perms (M' := []) (W' := (⟨Shape.raw, 23, .slice ao (R.map RowD.v).length co, R.map RowD.v⟩ :: (rowsW 5 (R ++ [(⟨some ⟨j, 0, none⟩, k, k, (List.replicate k (0#8 : BitVec 8))⟩ : RowD)])))) (List.Perm.refl _) (((rowsW_snoc (r := (⟨some ⟨j, 0, none⟩, k, k, (List.replicate k (0#8 : BitVec 8))⟩ : RowD))).append_left ([⟨Shape.raw, 23, .slice ao (R.map RowD.v).length co, R.map RowD.v⟩] : List OwnS)).trans List.perm_middle)
  have H : Hp w S [] [] _ [] _ := H
  refine RW.new (κ := .seq) (d := some 15) (r := (sq 4 6)) (o := .cells #[.slice (some ⟨j, 0, none⟩) k k] 23 (0, 0)) (v := fun b => .slice (some ⟨b, 0, none⟩) 1 1) (fun b => by as_aux_lemma => kernel_rfl) (nofun) H ?_
  intro u _ H
  have H := H.freeze 0 rfl Shape.raw ([.slice (some ⟨j, 0, none⟩) k k] : List Value) 1 (by simp [maxLen]) (Nat.le_refl _) (EsP.cons (c := [.slice (some ⟨j, 0, none⟩) k k]) ⟨rfl, rfl⟩ EsP.nil)
  have H : Hp w S [] [] _ [Rp (Shape.slice Shape.raw) [.slice (some ⟨u, 0, none⟩) 1 1] ([.slice (some ⟨j, 0, none⟩) k k] : List Value)] _ := H
  refine uA 29 29 24 ((R ++ [(⟨some ⟨j, 0, none⟩, k, k, (List.replicate k (0#8 : BitVec 8))⟩ : RowD)]).map RowD.v) H 0 rfl 0 rfl (by rw [List.map_append]; rfl) (by rw [List.map_append, List.length_append, hRl]; simp only [List.map_cons, List.map_nil, List.length_cons, List.length_nil]; omega) ?_
  intro q s _ H _
  have H : Hp w S [] [] (⟨Shape.raw, 23, .slice q (((R ++ [(⟨some ⟨j, 0, none⟩, k, k, (List.replicate k (0#8 : BitVec 8))⟩ : RowD)]).map RowD.v).length) s, (R ++ [(⟨some ⟨j, 0, none⟩, k, k, (List.replicate k (0#8 : BitVec 8))⟩ : RowD)]).map RowD.v⟩ :: (rowsW 5 (R ++ [(⟨some ⟨j, 0, none⟩, k, k, (List.replicate k (0#8 : BitVec 8))⟩ : RowD)]))) [_] _ := H
  refine uF 1 ?_
  refine uR 1 [.c [2, 0, 1, 0, 0, 2], .l [2, 0, 1, 0, 0], .b 0, .c [3]] ?_
  refine qG (sq 0 3) ?_
  refine uP 1 ?_
  refine uI ((i : Int) + 1) ?_
  refine uF 1 ?_
  have H := H.pick [] rfl
  exact uB (m (i + 1, (R ++ [(⟨some ⟨j, 0, none⟩, k, k, (List.replicate k (0#8 : BitVec 8))⟩ : RowD)]), q, s) _ ⟨H, by omega, by rw [List.length_append, f.2.1]; rfl, by intro r hr; rcases List.mem_append.1 hr with hr | hr; exact f.2.2.1 r hr; rw [List.mem_singleton.1 hr], by rw [List.map_append, f.2.2.2, List.replicate_succ']; rfl⟩ (by first | omega | (simp only []; omega)))
 ·
  refine uR 3 [.c [4]] ?_
  refine qT (.slice ao (R.map RowD.v).length co) Try.func103 ?_
  have hin : i = n := by omega
  subst hin
  rw [hRl] at H ⊢
  exact ⟨_, rfl, H.done, R, _, _, rfl, f.2.1, f.2.2.1, f.2.2.2, H.pick [] rfl⟩
def genSt (k n i j : Nat) : List (List (BitVec 8)) := (List.range n).map fun t => genTo k t (if t < i then k else if t = i then j else 0)
theorem genSt_at {k n i j : Nat} (h : i < n) : (genSt k n i j)[i]? = some (genTo k i j) := by
 unfold genSt
 rw [List.getElem?_map, List.getElem?_range h]
 simp
theorem genSt_set {k n i j : Nat} (_h : i < n) : (genSt k n i j).set i (genTo k i (j + 1)) = genSt k n i (j + 1) := by
 unfold genSt
 apply List.ext_getElem?
 intro t
 rw [List.getElem?_set]
 split
 · rename_i e
   subst e
   simp [_h]
 · rename_i e
   rw [List.getElem?_map, List.getElem?_map]
   by_cases ht : t < n
   · rw [List.getElem?_range ht]
     have a : ¬ t = i := fun q => e q.symm
     simp only [Option.map_some, if_neg a]
   · rw [List.getElem?_eq_none (by simpa using ht)]; rfl
theorem genSt_full {k n i : Nat} : genSt k n i k = genSt k n (i + 1) 0 := by
 unfold genSt
 apply List.map_congr_left
 intro t _
 congr 1
 split
 · rw [if_pos (by omega)]
 · split
   · rw [if_pos (by omega)]
   · rw [if_neg (by omega)]; split <;> rfl
theorem genSt_zero {k n : Nat} : List.replicate n (List.replicate k 0#8) = genSt k n 0 0 := by
 unfold genSt
 apply List.ext_getElem?
 intro t
 rw [List.getElem?_replicate, List.getElem?_map]
 split
 · rename_i h
   rw [List.getElem?_range h]
   simp only [Option.map_some]
   rw [if_neg (by omega), show (if t = 0 then 0 else 0 : Nat) = 0 by split <;> rfl, genTo_zero k t]
 · rename_i h
   rw [List.getElem?_eq_none (by simpa using h)]; rfl
theorem genSt_all {k n : Nat} : genSt k n n 0 = gen k n := by
 unfold genSt gen
 apply List.map_congr_left
 intro t ht
 rw [if_pos (List.mem_range.1 ht), genTo_all (Nat.le_refl _)]
theorem genSt_skip {k n i j : Nat} (hj : j < k) (h1 : i < k) (h2 : i ≠ j) : genSt k n i j = genSt k n i (j + 1) := by
 unfold genSt
 apply List.map_congr_left
 intro t _
 by_cases ht : t = i
 · subst ht
   simp only [Nat.lt_irrefl, if_false, if_true]
   exact genTo_skip hj h1 h2
 · rw [if_neg ht, if_neg ht]
theorem xor_ofNat (i j : Nat) : BitVec.ofNat 8 (i ^^^ j) = BitVec.ofNat 8 i ^^^ BitVec.ofNat 8 j := by
 apply BitVec.eq_of_toNat_eq
 rw [BitVec.toNat_xor, BitVec.toNat_ofNat, BitVec.toNat_ofNat, BitVec.toNat_ofNat, Nat.xor_mod_two_pow]
theorem genE_pow {k i j : Nat} (h : k ≤ i) (hj : j < k) (hi : i < 256) : genE k i j = gpow (BitVec.ofNat 8 (i ^^^ j)) 254 := by
 rw [genE_par h, xor_ofNat, gpow_inv (fun e => gen_ne hi (by omega) (by omega : i ≠ j) (by rw [e]; rfl))]
theorem rgen_spec {S : Nat → Prop} {w : World} (k n : Nat) (hk : 1 ≤ k) (hkn : k ≤ n) (hn : n ≤ 255) :
 Calls Try.prog 72 #[.I k, .I n] w (Ret fun v w' => Ext w w' ∧ ∃ (a : Option Addr) (c : Nat), v = .tuple #[.slice a (gen k n).length c, .I 0] ∧ (Shape.slice SB).rep (Nw S w) w' [.slice a (gen k n).length c] (gen k n)) := by
 refine uS1 Try.func72 ?_
 have H := Hp.startF (w := w) (S := S) (G := []) .nil
 refine uR 4 [.c [1, 0, 0], .c [1, 0, 1], .c [2]] ?_
 refine qG (sq 0 11) ?_
 refine uP 3 ?_
 refine uD 11 (((k : Int) : Int) < 1) (fun h1 => ?_) (fun h1 => ?_)
 ·
  omega
 ·
  refine uP 5 ?_
  refine uD 16 (((k : Int) : Int) > (n : Int)) (fun h2 => ?_) (fun h2 => ?_)
  ·
   omega
  ·
   refine uF 3 ?_
   refine qD (((n : Int) : Int) > 255) (fun h3 => ?_) (fun h3 => ?_)
   ·
    omega
   ·
    refine uR 2 [.c [2, 0], .c [3]] ?_
    refine qG (sq 0 4) ?_
    refine uP 2 ?_
    refine uK (zeros_spec (S := Av S w [] (idsOf [] [])) n k (by omega) (by omega)) ?_
    rintro _ _ - ⟨Y, s, t, rfl, Z, a0, X, H'⟩
    have H := H.back (M1 := []) (W1 := []) H'
    have H := H.perms (M' := []) (W' := (⟨Shape.raw, 23, .slice s n t, Y.map RowD.v⟩ :: (rowsW 5 Y))) (List.Perm.refl _) (List.Perm.of_eq (List.append_nil _).symm)
    have H : Hp w S [] [] _ [] _ := H
    refine uF 1 ?_
    refine uR 4 [.c [3, 0, 1, 0], .b 0, .c [4]] ?_
    refine uL (α := Nat × List RowD) (g := 72) (p := [3, 0, 1, 0, 0]) (fun (i, R) => [(0, .I k), (1, .I n), (6, .slice s n t), (7, .I i)]) (fun (i, R) w' => Hp w S [] [] (⟨Shape.raw, 23, .slice s n t, R.map RowD.v⟩ :: (rowsW 5 R)) [] w' ∧ i ≤ n ∧ R.length = n ∧ (∀ r ∈ R, r.n = k) ∧ R.map RowD.xs = genSt k n i 0) (fun (i, R) => n - i) (0, Y) ⟨H, by omega, Z, a0, by rw [X]; exact genSt_zero⟩ ?_
    rintro ⟨i, R⟩ _ ⟨H, B⟩ D
    refine uR 3 [.c [3, 0, 1, 0, 0, 0, 1], .c [3, 0, 1, 0, 0, 1], .l [3, 0, 1, 0, 0], .b 0, .c [4]] ?_
    refine qD (((i : Int) : Int) < (n : Int)) (fun p0 => ?_) (fun p0 => ?_)
    ·
     refine uR 6 [.c [3, 0, 1, 0, 0, 1, 0, 0, 1, 0], .b 2, .b 1, .c [3, 0, 1, 0, 0, 2], .l [3, 0, 1, 0, 0], .b 0, .c [4]] ?_
     refine uL (α := Nat × List RowD) (g := 72) (p := [3, 0, 1, 0, 0, 1, 0, 0, 1, 0, 0]) (fun (j, Q) => [(0, .I k), (1, .I n), (6, .slice s n t), (7, .I i), (8, .I j)]) (fun (j, Q) w' => Hp w S [] [] (⟨Shape.raw, 23, .slice s n t, Q.map RowD.v⟩ :: (rowsW 5 Q)) [] w' ∧ j ≤ k ∧ Q.length = n ∧ (∀ r ∈ Q, r.n = k) ∧ Q.map RowD.xs = genSt k n i j) (fun (j, Q) => k - j) (0, R) ⟨H, by omega, B.2.1, B.2.2.1, B.2.2.2⟩ ?_
     rintro ⟨j, Q⟩ C ⟨H, q⟩ u
     refine uR 3 [.c [3, 0, 1, 0, 0, 1, 0, 0, 1, 0, 0, 0, 1], .c [3, 0, 1, 0, 0, 1, 0, 0, 1, 0, 0, 1], .l [3, 0, 1, 0, 0, 1, 0, 0, 1, 0, 0], .b 2, .b 1, .c [3, 0, 1, 0, 0, 2], .l [3, 0, 1, 0, 0], .b 0, .c [4]] ?_
     refine qD (((j : Int) : Int) < (k : Int)) (fun q0 => ?_) (fun q0 => ?_)
     ·
      refine uR 5 [.c [3, 0, 1, 0, 0, 1, 0, 0, 1, 0, 0, 1, 0, 0, 0, 0], .c [3, 0, 1, 0, 0, 1, 0, 0, 1, 0, 0, 1, 0, 0, 0, 1], .c [3, 0, 1, 0, 0, 1, 0, 0, 1, 0, 0, 1, 0, 0, 1], .b 3, .c [3, 0, 1, 0, 0, 1, 0, 0, 1, 0, 0, 2], .l [3, 0, 1, 0, 0, 1, 0, 0, 1, 0, 0], .b 2, .b 1, .c [3, 0, 1, 0, 0, 2], .l [3, 0, 1, 0, 0], .b 0, .c [4]] ?_
      refine qG (sq 0 8) ?_
      refine uP 4 ?_
      refine uD 36 (((i : Int) : Int) < (k : Int)) (fun r0 => ?_) (fun r0 => ?_)
      ·
       refine uF 4 ?_
       refine qE (i : Int) (j : Int) (fun s0 => ?_) (fun s0 => ?_)
       ·
        refine qG (sq 0 7) ?_
        refine uP 2 ?_
        obtain ⟨h, y⟩ : ∃ q_, Q[i]? = some q_ := ⟨_, List.getElem?_eq_getElem (by omega)⟩
        have H := H.perms (M' := []) (W' := (⟨Shape.raw, 23, .slice s n t, Q.map RowD.v⟩ :: ⟨Sb, 5, .slice h.a h.n h.c, h.xs⟩ :: (rowsW 5 (Q.eraseIdx i)))) (List.Perm.refl _) ((rowsW_pick y).append_left ([⟨Shape.raw, 23, .slice s n t, Q.map RowD.v⟩] : List OwnS))
        have hrx : h.xs = genTo k i j := Option.some.inj ((rowsX_at y q.2.2.2).symm.trans (genSt_at (by omega)))
        have hrl : h.xs.length = k := by rw [hrx, genTo_len]
        have hrn : h.n = k := q.2.2.1 h (List.mem_of_getElem? y)
        have b0 : n = (Q.map RowD.v).length := by rw [List.length_map]; omega
        have c0 : i < (Q.map RowD.v).length := by rw [List.length_map]; omega
        refine RW.indexW (κ := .seq) (d := some 43) (r := (sq 3 7)) (T := 29) (e := 23) (m := 1) (ik := .i64) (ix := (i : Int)) (sh := Shape.raw) (xs := Q.map RowD.v) (a := s) (len := n) (cap := t) (by as_aux_lemma => kernel_rfl) (by as_aux_lemma => kernel_rfl) rfl H i (by omega) c0 b0 ?_
        intro _ _ _ E K
        rw [rowsV_at y] at K
        obtain ⟨rfl, -⟩ := K
        refine uV 23 0 E ?_
        refine uP 1 ?_
        have H := H.frontW 1 (W' := (⟨Sb, 5, .slice h.a h.n h.c, h.xs⟩ :: ⟨Shape.raw, 23, .slice s n t, Q.map RowD.v⟩ :: (rowsW 5 (Q.eraseIdx i)))) rfl
        have L : h.n = h.xs.length := by omega
        have M : j < h.xs.length := by omega
        refine RW.indexW (κ := .seq) (d := some 46) (r := (sq 6 7)) (T := 23) (e := 5) (m := 1) (ik := .i64) (ix := (j : Int)) (sh := Sb) (xs := h.xs) (a := h.a) (len := h.n) (cap := h.c) (by as_aux_lemma => kernel_rfl) (by as_aux_lemma => kernel_rfl) rfl H j (by omega) M L ?_
        intro t0 _ d0 _ e0
        obtain rfl := e0
        refine RW.storeW (d := none) (r := (sq 7 7)) (e := 5) (m := 1) (b := t0) (k := j) (v := .int .u8 1) (by as_aux_lemma => kernel_rfl) rfl (by as_aux_lemma => kernel_rfl) H d0 M L (1#8) (Shape.bv_lit (x := 1#8) (by decide)) ?_
        intro _ H
        refine uF 0 ?_
        refine uR 2 [.c [3, 0, 1, 0, 0, 1, 0, 0, 1, 0, 0, 1, 0, 0, 2], .b 3, .c [3, 0, 1, 0, 0, 1, 0, 0, 1, 0, 0, 2], .l [3, 0, 1, 0, 0, 1, 0, 0, 1, 0, 0], .b 2, .b 1, .c [3, 0, 1, 0, 0, 2], .l [3, 0, 1, 0, 0], .b 0, .c [4]] ?_
        refine qD (((i : Int) : Int) ≥ (k : Int)) (fun u0 => ?_) (fun u0 => ?_)
        ·
         omega
        ·
         refine uR 2 [.c [3, 0, 1, 0, 0, 1, 0, 0, 1, 0, 0, 2], .l [3, 0, 1, 0, 0, 1, 0, 0, 1, 0, 0], .b 2, .b 1, .c [3, 0, 1, 0, 0, 2], .l [3, 0, 1, 0, 0], .b 0, .c [4]] ?_
         refine qG (sq 0 3) ?_
         refine uP 1 ?_
         refine uI ((j : Int) + 1) ?_
         refine qF 1 [(0, .I k), (1, .I n), (6, .slice s n t), (7, .I i), (8, .I ((j : Int) + 1))] ?_
         have H := H.frontW 1 (W' := (⟨Shape.raw, 23, .slice s n t, Q.map RowD.v⟩ :: ⟨Sb, 5, .slice h.a h.n h.c, h.xs.set j (1#8)⟩ :: (rowsW 5 (Q.eraseIdx i)))) rfl
         have H := H.perms (M' := []) (W' := (⟨Shape.raw, 23, .slice s n t, Q.map RowD.v⟩ :: (rowsW 5 (Q.set i (⟨h.a, h.n, h.c, h.xs.set j (1#8)⟩ : RowD))))) (List.Perm.refl _) ((rowsW_put (⟨h.a, h.n, h.c, h.xs.set j (1#8)⟩ : RowD) (List.getElem?_eq_some_iff.1 y).1).append_left ([⟨Shape.raw, 23, .slice s n t, Q.map RowD.v⟩] : List OwnS))
         have H := H.reW (ys := (Q.set i (⟨h.a, h.n, h.c, h.xs.set j (1#8)⟩ : RowD)).map RowD.v) (rowsV_set (r' := (⟨h.a, h.n, h.c, h.xs.set j (1#8)⟩ : RowD)) y rfl)
         have H : Hp w S [] [] (⟨Shape.raw, 23, .slice s n t, (Q.set i (⟨h.a, h.n, h.c, h.xs.set j (1#8)⟩ : RowD)).map RowD.v⟩ :: (rowsW 5 (Q.set i (⟨h.a, h.n, h.c, h.xs.set j (1#8)⟩ : RowD)))) [] _ := H
         exact uB (u (j + 1, (Q.set i (⟨h.a, h.n, h.c, h.xs.set j (1#8)⟩ : RowD))) _ ⟨H, by omega, by rw [List.length_set]; exact q.2.1, rows_n q.2.2.1 y rfl, by rw [rowsX_set, q.2.2.2]; simp only []; rw [hrx, genTo_set (by omega) (by first | (unfold genE; rw [if_neg (by omega), if_pos (by omega)]; done) | (unfold genE; rw [if_neg (by omega), if_pos (by omega)]; rfl) | exact genE_pow (by omega) (by omega) (by omega)), genSt_set (by omega)]⟩ (by first | omega | (simp only []; omega)))
       ·
        refine uR 3 [.c [3, 0, 1, 0, 0, 1, 0, 0, 1, 0, 0, 1, 0, 0, 2], .b 3, .c [3, 0, 1, 0, 0, 1, 0, 0, 1, 0, 0, 2], .l [3, 0, 1, 0, 0, 1, 0, 0, 1, 0, 0], .b 2, .b 1, .c [3, 0, 1, 0, 0, 2], .l [3, 0, 1, 0, 0], .b 0, .c [4]] ?_
        refine qD (((i : Int) : Int) ≥ (k : Int)) (fun v0 => ?_) (fun v0 => ?_)
        ·
         refine WK.draw1 11 [(0, .qui), (1, .qui), (2, .qui), (3, .qui), (4, .qui), (5, .qui), (6, .qui), (7, .qui), (8, .qui), (9, .chn), (10, .qui)] [(0, .qui), (1, .qui), (2, .qui), (3, .qui), (4, .qui), (5, .qui), (6, .qui), (7, .qui), (8, .qui), (9, .chn), (10, .qui), (11, .seq)] Try_mixed (by as_aux_lemma => kernel_rfl) (by as_aux_lemma => kernel_rfl) (by as_aux_lemma => kernel_rfl) ?_
         have H := H.draw
         generalize ({ C with drawn := C.drawn + 1 } : World) = z0 at H ⊢
         refine uP 2 ?_
         obtain ⟨f, z⟩ : ∃ q_, Q[i]? = some q_ := ⟨_, List.getElem?_eq_getElem (by omega)⟩
         have H := H.perms (M' := []) (W' := (⟨Shape.raw, 23, .slice s n t, Q.map RowD.v⟩ :: ⟨Sb, 5, .slice f.a f.n f.c, f.xs⟩ :: (rowsW 5 (Q.eraseIdx i)))) (List.Perm.refl _) ((rowsW_pick z).append_left ([⟨Shape.raw, 23, .slice s n t, Q.map RowD.v⟩] : List OwnS))
         have hrx : f.xs = genTo k i j := Option.some.inj ((rowsX_at z q.2.2.2).symm.trans (genSt_at (by omega)))
         have hrl : f.xs.length = k := by rw [hrx, genTo_len]
         have hrn : f.n = k := q.2.2.1 f (List.mem_of_getElem? z)
         have f0 : n = (Q.map RowD.v).length := by rw [List.length_map]; omega
         have g0 : i < (Q.map RowD.v).length := by rw [List.length_map]; omega
         refine RW.indexW (κ := .qui) (d := some 52) (r := [(3, .qui), (4, .qui), (5, .qui), (6, .qui), (7, .qui), (8, .qui), (9, .chn), (10, .qui), (11, .seq)]) (T := 29) (e := 23) (m := 1) (ik := .i64) (ix := (i : Int)) (sh := Shape.raw) (xs := Q.map RowD.v) (a := s) (len := n) (cap := t) (by as_aux_lemma => kernel_rfl) (by as_aux_lemma => kernel_rfl) rfl H i (by omega) g0 f0 ?_
         intro _ _ _ F N
         rw [rowsV_at z] at N
         obtain ⟨rfl, -⟩ := N
         refine uV 23 0 F ?_
         refine qP 3 [(7, .qui), (8, .qui), (9, .chn), (10, .qui), (11, .seq)] [(0, .I k), (1, .I n), (6, .slice s n t), (7, .I i), (8, .I j), (53, .slice f.a f.n f.c), (54, .I j), (55, .I i), (56, .I j)] ?_
         refine RW.pv (κ := .qui) (d := some 57) (r := [(8, .qui), (9, .chn), (10, .qui), (11, .seq)]) (v := .I (IntKind.i64.wrap (((BitVec.ofInt 64 ((i : Nat) : Int) ^^^ BitVec.ofInt 64 ((j : Nat) : Int)).toNat : Nat) : Int))) (v' := .I ((i ^^^ j : Nat) : Int)) (by as_aux_lemma => kernel_rfl) (xor_i64 (by omega) (by omega)) ?_
         refine RW.pv (κ := .qui) (d := some 58) (r := [(9, .chn), (10, .qui), (11, .seq)]) (v := .int .u8 (IntKind.u8.wrap (((i ^^^ j : Nat) : Int)))) (v' := .int .u8 (((BitVec.ofNat 8 (i ^^^ j)).toNat : Nat) : Int)) (by as_aux_lemma => kernel_rfl) ((wrap_bv8 _).trans (by rw [bv_nat])) ?_
         refine uK (r1inv_spec (S := fun _ => True) (BitVec.ofNat 8 (i ^^^ j))) ?_
         rintro _ _ h0 rfl
         have H := H.ext h0
         have H := H.frontW 1 (W' := (⟨Sb, 5, .slice f.a f.n f.c, f.xs⟩ :: ⟨Shape.raw, 23, .slice s n t, Q.map RowD.v⟩ :: (rowsW 5 (Q.eraseIdx i)))) rfl
         have O : f.n = f.xs.length := by omega
         have P : j < f.xs.length := by omega
         refine RW.indexW (κ := .qui) (d := some 60) (r := [(11, .seq)]) (T := 23) (e := 5) (m := 1) (ik := .i64) (ix := (j : Int)) (sh := Sb) (xs := f.xs) (a := f.a) (len := f.n) (cap := f.c) (by as_aux_lemma => kernel_rfl) (by as_aux_lemma => kernel_rfl) rfl H j (by omega) P O ?_
         intro w0 _ i0 _ j0
         obtain rfl := j0
         refine RW.storeW (d := none) (r := []) (e := 5) (m := 1) (b := w0) (k := j) (v := .int .u8 (((gpow (BitVec.ofNat 8 (i ^^^ j)) 254).toNat : Nat) : Int)) (by as_aux_lemma => kernel_rfl) rfl (by as_aux_lemma => kernel_rfl) H i0 P O (gpow (BitVec.ofNat 8 (i ^^^ j)) 254) Shape.bv_mk ?_
         intro _ H
         refine uF 0 ?_
         refine uR 1 [.c [3, 0, 1, 0, 0, 1, 0, 0, 1, 0, 0, 2], .l [3, 0, 1, 0, 0, 1, 0, 0, 1, 0, 0], .b 2, .b 1, .c [3, 0, 1, 0, 0, 2], .l [3, 0, 1, 0, 0], .b 0, .c [4]] ?_
         refine qG (sq 0 3) ?_
         refine uP 1 ?_
         refine uI ((j : Int) + 1) ?_
         refine uF 1 ?_
         have H := H.frontW 1 (W' := (⟨Shape.raw, 23, .slice s n t, Q.map RowD.v⟩ :: ⟨Sb, 5, .slice f.a f.n f.c, f.xs.set j (gpow (BitVec.ofNat 8 (i ^^^ j)) 254)⟩ :: (rowsW 5 (Q.eraseIdx i)))) rfl
         have H := H.perms (M' := []) (W' := (⟨Shape.raw, 23, .slice s n t, Q.map RowD.v⟩ :: (rowsW 5 (Q.set i (⟨f.a, f.n, f.c, f.xs.set j (gpow (BitVec.ofNat 8 (i ^^^ j)) 254)⟩ : RowD))))) (List.Perm.refl _) ((rowsW_put (⟨f.a, f.n, f.c, f.xs.set j (gpow (BitVec.ofNat 8 (i ^^^ j)) 254)⟩ : RowD) (List.getElem?_eq_some_iff.1 z).1).append_left ([⟨Shape.raw, 23, .slice s n t, Q.map RowD.v⟩] : List OwnS))
         have H := H.reW (ys := (Q.set i (⟨f.a, f.n, f.c, f.xs.set j (gpow (BitVec.ofNat 8 (i ^^^ j)) 254)⟩ : RowD)).map RowD.v) (rowsV_set (r' := (⟨f.a, f.n, f.c, f.xs.set j (gpow (BitVec.ofNat 8 (i ^^^ j)) 254)⟩ : RowD)) z rfl)
         have H : Hp w S [] [] (⟨Shape.raw, 23, .slice s n t, (Q.set i (⟨f.a, f.n, f.c, f.xs.set j (gpow (BitVec.ofNat 8 (i ^^^ j)) 254)⟩ : RowD)).map RowD.v⟩ :: (rowsW 5 (Q.set i (⟨f.a, f.n, f.c, f.xs.set j (gpow (BitVec.ofNat 8 (i ^^^ j)) 254)⟩ : RowD)))) [] _ := H
         exact uB (u (j + 1, (Q.set i (⟨f.a, f.n, f.c, f.xs.set j (gpow (BitVec.ofNat 8 (i ^^^ j)) 254)⟩ : RowD))) _ ⟨H, by omega, by rw [List.length_set]; exact q.2.1, rows_n q.2.2.1 z rfl, by rw [rowsX_set, q.2.2.2]; simp only []; rw [hrx, genTo_set (by omega) (by first | (unfold genE; rw [if_neg (by omega), if_pos (by omega)]; done) | (unfold genE; rw [if_neg (by omega), if_pos (by omega)]; rfl) | exact genE_pow (by omega) (by omega) (by omega)), genSt_set (by omega)]⟩ (by first | omega | (simp only []; omega)))
        ·
         refine uR 2 [.c [3, 0, 1, 0, 0, 1, 0, 0, 1, 0, 0, 2], .l [3, 0, 1, 0, 0, 1, 0, 0, 1, 0, 0], .b 2, .b 1, .c [3, 0, 1, 0, 0, 2], .l [3, 0, 1, 0, 0], .b 0, .c [4]] ?_
         refine qG (sq 0 3) ?_
         refine uP 1 ?_
         refine uI ((j : Int) + 1) ?_
         refine uF 1 ?_
         exact uB (u (j + 1, Q) _ ⟨H, by omega, q.2.1, q.2.2.1, by rw [q.2.2.2]; exact genSt_skip (by omega) (by omega) (by omega)⟩ (by first | omega | (simp only []; omega)))
      ·
       refine uF 4 ?_
       refine uR 4 [.c [3, 0, 1, 0, 0, 1, 0, 0, 1, 0, 0, 1, 0, 0, 2], .b 3, .c [3, 0, 1, 0, 0, 1, 0, 0, 1, 0, 0, 2], .l [3, 0, 1, 0, 0, 1, 0, 0, 1, 0, 0], .b 2, .b 1, .c [3, 0, 1, 0, 0, 2], .l [3, 0, 1, 0, 0], .b 0, .c [4]] ?_
       refine qD (((i : Int) : Int) ≥ (k : Int)) (fun x0 => ?_) (fun x0 => ?_)
       ·
        refine WK.draw1 11 [(0, .qui), (1, .qui), (2, .qui), (3, .qui), (4, .qui), (5, .qui), (6, .qui), (7, .qui), (8, .qui), (9, .chn), (10, .qui)] [(0, .qui), (1, .qui), (2, .qui), (3, .qui), (4, .qui), (5, .qui), (6, .qui), (7, .qui), (8, .qui), (9, .chn), (10, .qui), (11, .seq)] Try_mixed (by as_aux_lemma => kernel_rfl) (by as_aux_lemma => kernel_rfl) (by as_aux_lemma => kernel_rfl) ?_
        have H := H.draw
        generalize ({ C with drawn := C.drawn + 1 } : World) = A0 at H ⊢
        refine uP 2 ?_
        obtain ⟨o, A⟩ : ∃ q_, Q[i]? = some q_ := ⟨_, List.getElem?_eq_getElem (by omega)⟩
        have H := H.perms (M' := []) (W' := (⟨Shape.raw, 23, .slice s n t, Q.map RowD.v⟩ :: ⟨Sb, 5, .slice o.a o.n o.c, o.xs⟩ :: (rowsW 5 (Q.eraseIdx i)))) (List.Perm.refl _) ((rowsW_pick A).append_left ([⟨Shape.raw, 23, .slice s n t, Q.map RowD.v⟩] : List OwnS))
        have hrx : o.xs = genTo k i j := Option.some.inj ((rowsX_at A q.2.2.2).symm.trans (genSt_at (by omega)))
        have hrl : o.xs.length = k := by rw [hrx, genTo_len]
        have hrn : o.n = k := q.2.2.1 o (List.mem_of_getElem? A)
        have k0 : n = (Q.map RowD.v).length := by rw [List.length_map]; omega
        have l0 : i < (Q.map RowD.v).length := by rw [List.length_map]; omega
        refine RW.indexW (κ := .qui) (d := some 52) (r := [(3, .qui), (4, .qui), (5, .qui), (6, .qui), (7, .qui), (8, .qui), (9, .chn), (10, .qui), (11, .seq)]) (T := 29) (e := 23) (m := 1) (ik := .i64) (ix := (i : Int)) (sh := Shape.raw) (xs := Q.map RowD.v) (a := s) (len := n) (cap := t) (by as_aux_lemma => kernel_rfl) (by as_aux_lemma => kernel_rfl) rfl H i (by omega) l0 k0 ?_
        intro _ _ _ J U
        rw [rowsV_at A] at U
        obtain ⟨rfl, -⟩ := U
        refine uV 23 0 J ?_
        refine uP 3 ?_
        refine RW.pv (κ := .qui) (d := some 57) (r := [(8, .qui), (9, .chn), (10, .qui), (11, .seq)]) (v := .I (IntKind.i64.wrap (((BitVec.ofInt 64 ((i : Nat) : Int) ^^^ BitVec.ofInt 64 ((j : Nat) : Int)).toNat : Nat) : Int))) (v' := .I ((i ^^^ j : Nat) : Int)) (by as_aux_lemma => kernel_rfl) (xor_i64 (by omega) (by omega)) ?_
        refine RW.pv (κ := .qui) (d := some 58) (r := [(9, .chn), (10, .qui), (11, .seq)]) (v := .int .u8 (IntKind.u8.wrap (((i ^^^ j : Nat) : Int)))) (v' := .int .u8 (((BitVec.ofNat 8 (i ^^^ j)).toNat : Nat) : Int)) (by as_aux_lemma => kernel_rfl) ((wrap_bv8 _).trans (by rw [bv_nat])) ?_
        refine uK (r1inv_spec (S := fun _ => True) (BitVec.ofNat 8 (i ^^^ j))) ?_
        rintro _ _ m0 rfl
        have H := H.ext m0
        have H := H.frontW 1 (W' := (⟨Sb, 5, .slice o.a o.n o.c, o.xs⟩ :: ⟨Shape.raw, 23, .slice s n t, Q.map RowD.v⟩ :: (rowsW 5 (Q.eraseIdx i)))) rfl
        have V : o.n = o.xs.length := by omega
        have W : j < o.xs.length := by omega
        refine RW.indexW (κ := .qui) (d := some 60) (r := [(11, .seq)]) (T := 23) (e := 5) (m := 1) (ik := .i64) (ix := (j : Int)) (sh := Sb) (xs := o.xs) (a := o.a) (len := o.n) (cap := o.c) (by as_aux_lemma => kernel_rfl) (by as_aux_lemma => kernel_rfl) rfl H j (by omega) W V ?_
        intro y0 _ n0 _ o0
        obtain rfl := o0
        refine RW.storeW (d := none) (r := []) (e := 5) (m := 1) (b := y0) (k := j) (v := .int .u8 (((gpow (BitVec.ofNat 8 (i ^^^ j)) 254).toNat : Nat) : Int)) (by as_aux_lemma => kernel_rfl) rfl (by as_aux_lemma => kernel_rfl) H n0 W V (gpow (BitVec.ofNat 8 (i ^^^ j)) 254) Shape.bv_mk ?_
        intro _ H
        refine uF 0 ?_
        refine uR 1 [.c [3, 0, 1, 0, 0, 1, 0, 0, 1, 0, 0, 2], .l [3, 0, 1, 0, 0, 1, 0, 0, 1, 0, 0], .b 2, .b 1, .c [3, 0, 1, 0, 0, 2], .l [3, 0, 1, 0, 0], .b 0, .c [4]] ?_
        refine qG (sq 0 3) ?_
        refine qP 1 (sq 1 3) [(0, .I k), (1, .I n), (6, .slice s n t), (7, .I i), (8, .I j), (31, .I j)] ?_
        refine uI ((j : Int) + 1) ?_
        refine uF 1 ?_
        have H := H.frontW 1 (W' := (⟨Shape.raw, 23, .slice s n t, Q.map RowD.v⟩ :: ⟨Sb, 5, .slice o.a o.n o.c, o.xs.set j (gpow (BitVec.ofNat 8 (i ^^^ j)) 254)⟩ :: (rowsW 5 (Q.eraseIdx i)))) rfl
        have H := H.perms (M' := []) (W' := (⟨Shape.raw, 23, .slice s n t, Q.map RowD.v⟩ :: (rowsW 5 (Q.set i (⟨o.a, o.n, o.c, o.xs.set j (gpow (BitVec.ofNat 8 (i ^^^ j)) 254)⟩ : RowD))))) (List.Perm.refl _) ((rowsW_put (⟨o.a, o.n, o.c, o.xs.set j (gpow (BitVec.ofNat 8 (i ^^^ j)) 254)⟩ : RowD) (List.getElem?_eq_some_iff.1 A).1).append_left ([⟨Shape.raw, 23, .slice s n t, Q.map RowD.v⟩] : List OwnS))
        have H := H.reW (ys := (Q.set i (⟨o.a, o.n, o.c, o.xs.set j (gpow (BitVec.ofNat 8 (i ^^^ j)) 254)⟩ : RowD)).map RowD.v) (rowsV_set (r' := (⟨o.a, o.n, o.c, o.xs.set j (gpow (BitVec.ofNat 8 (i ^^^ j)) 254)⟩ : RowD)) A rfl)
        have H : Hp w S [] [] (⟨Shape.raw, 23, .slice s n t, (Q.set i (⟨o.a, o.n, o.c, o.xs.set j (gpow (BitVec.ofNat 8 (i ^^^ j)) 254)⟩ : RowD)).map RowD.v⟩ :: (rowsW 5 (Q.set i (⟨o.a, o.n, o.c, o.xs.set j (gpow (BitVec.ofNat 8 (i ^^^ j)) 254)⟩ : RowD)))) [] _ := H
        exact uB (u (j + 1, (Q.set i (⟨o.a, o.n, o.c, o.xs.set j (gpow (BitVec.ofNat 8 (i ^^^ j)) 254)⟩ : RowD))) _ ⟨H, by omega, by rw [List.length_set]; exact q.2.1, rows_n q.2.2.1 A rfl, by rw [rowsX_set, q.2.2.2]; simp only []; rw [hrx, genTo_set (by omega) (by first | (unfold genE; rw [if_neg (by omega), if_pos (by omega)]; done) | (unfold genE; rw [if_neg (by omega), if_pos (by omega)]; rfl) | exact genE_pow (by omega) (by omega) (by omega)), genSt_set (by omega)]⟩ (by first | omega | (simp only []; omega)))
       ·
        refine uR 2 [.c [3, 0, 1, 0, 0, 1, 0, 0, 1, 0, 0, 2], .l [3, 0, 1, 0, 0, 1, 0, 0, 1, 0, 0], .b 2, .b 1, .c [3, 0, 1, 0, 0, 2], .l [3, 0, 1, 0, 0], .b 0, .c [4]] ?_
        refine qG (sq 0 3) ?_
        refine uP 1 ?_
        refine uI ((j : Int) + 1) ?_
        refine uF 1 ?_
        exact uB (u (j + 1, Q) _ ⟨H, by omega, q.2.1, q.2.2.1, by rw [q.2.2.2]; exact genSt_skip (by omega) (by omega) (by omega)⟩ (by first | omega | (simp only []; omega)))
     ·
      refine uR 2 [.c [3, 0, 1, 0, 0, 2], .l [3, 0, 1, 0, 0], .b 0, .c [4]] ?_
      refine qG (sq 0 3) ?_
      refine uP 1 ?_
      refine uI ((i : Int) + 1) ?_
      refine uF 1 ?_
      exact uB (D (i + 1, Q) _ ⟨H, by omega, q.2.1, q.2.2.1, by rw [q.2.2.2, ← genSt_full]; congr 1; omega⟩ (by first | omega | (simp only []; omega)))
    ·
     refine uR 3 [.c [5]] ?_
     refine qT (.tuple #[.slice s n t, .I 0]) Try.func72 ?_
     have hin : i = n := by omega
     rw [hin, genSt_all] at B
     have H := H.freezeRows0
     have H := H.reW (v' := .slice s (gen k n).length t) (ys := gen k n) B.2.2.2 (by rw [gen_len])
     have H := H.freezeW 0 rfl
     exact ⟨_, rfl, H.done, _, _, by rw [gen_len], H.out (H.rp 0 rfl)⟩
end Go.Proofs.Ytppcdmbkgficiaa
