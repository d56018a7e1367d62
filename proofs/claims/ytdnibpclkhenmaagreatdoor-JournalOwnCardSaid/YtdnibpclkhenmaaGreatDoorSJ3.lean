import Derived.Test.YtdnibpclkhenmaaGreatDoorSBxA
import Derived.Test.YtdnibpclkhenmaaGreatDoorSJ2
import Derived.Test.YtdnibpclkhenmaaGreatDoorSBxB
namespace Go.Proofs.YtdnibpclkhenmaaGreatDoor
open Go.BX
theorem getD_some {l : List (BitVec 8)} {i : Nat} (h : i < l.length) : l[i]? = some (l.getD i 0#8) := by
 rw [List.getD_eq_getElem?_getD, List.getElem?_eq_getElem h]; rfl
theorem wword_spec {S : Nat → Prop} {w : World} {xs : List (BitVec 8)} {a : Option Addr} {c : Nat} (h : SB.rep S w [.slice a xs.length c] xs) (h4 : 4 ≤ xs.length) :
 Calls Tryz.prog 202 #[.slice a xs.length c] w (Ret fun v w' => Ext w w' ∧ v = .int .u32 (((wordAt xs).toNat : Nat) : Int)) := by
 refine uS1 Tryz.func202 ?_
 have H := Hp.startF (.rp h .nil)
 refine uR 3 [.c [1, 0], .c [2]] ?_
 refine WK.draw1 23 (qs [0, 1, 2, 3, 4, 5, 6, 7, 8, 9, 10, 11, 12, 13, 14, 15, 16, 17, 18, 19, 20, 21, 22]) (qs [0, 1, 2, 3, 4, 5, 6, 7, 8, 9, 10, 11, 12, 13, 14, 15, 16, 17, 18, 19, 20, 21, 22]) Tryz_mixed (by as_aux_lemma => kernel_rfl) (by as_aux_lemma => kernel_rfl) (by as_aux_lemma => kernel_rfl) ?_
 have H := H.draw
 generalize ({ w with drawn := w.drawn + 1 } : World) = m at H ⊢
 refine uP 1 ?_
 have k : 0 < xs.length := by omega
 refine uX 23 0 H 0 rfl 0 (by omega) (getD_some (by omega)) ?_
 intro _ _ _ g H
 obtain rfl := g
 refine uV 5 0 (H.fc 0 rfl) ?_
 refine RW.pv (κ := .qui) (d := some 6) (r := (qs [4, 5, 6, 7, 8, 9, 10, 11, 12, 13, 14, 15, 16, 17, 18, 19, 20, 21, 22])) (v := .int .u32 (IntKind.u32.wrap ((((xs.getD 0 0#8).toNat : Nat) : Int)))) (v' := .int .u32 ((((xs.getD 0 0#8).setWidth 32).toNat : Nat) : Int)) (by as_aux_lemma => kernel_rfl) (bv_cv8_32 _) ?_
 refine uP 1 ?_
 have l : 1 < xs.length := by omega
 refine uX 23 1 H 1 rfl 1 (by omega) (getD_some (by omega)) ?_
 intro _ _ _ b H
 obtain rfl := b
 refine uV 5 0 (H.fc 0 rfl) ?_
 refine RW.pv (κ := .qui) (d := some 10) (r := (qs [8, 9, 10, 11, 12, 13, 14, 15, 16, 17, 18, 19, 20, 21, 22])) (v := .int .u32 (IntKind.u32.wrap ((((xs.getD 1 0#8).toNat : Nat) : Int)))) (v' := .int .u32 ((((xs.getD 1 0#8).setWidth 32).toNat : Nat) : Int)) (by as_aux_lemma => kernel_rfl) (bv_cv8_32 _) ?_
 refine RW.pv (κ := .qui) (d := some 11) (r := (qs [9, 10, 11, 12, 13, 14, 15, 16, 17, 18, 19, 20, 21, 22])) (v := .int .u32 (IntKind.u32.wrap (((((xs.getD 1 0#8).setWidth 32).toNat : Nat) : Int) * 2 ^ 8))) (v' := .int .u32 ((((((xs.getD 1 0#8).setWidth 32) <<< 8).toNat : Nat) : Int))) (by as_aux_lemma => kernel_rfl) (bv_shl32 8 (bvi _)) ?_
 refine RW.pv (κ := .qui) (d := some 12) (r := (qs [10, 11, 12, 13, 14, 15, 16, 17, 18, 19, 20, 21, 22])) (v := .int .u32 (IntKind.u32.wrap ((BitVec.ofInt 32 ((((xs.getD 0 0#8).setWidth 32).toNat : Nat) : Int) ||| BitVec.ofInt 32 (((((xs.getD 1 0#8).setWidth 32) <<< 8).toNat : Nat) : Int)).toNat : Nat))) (v' := .int .u32 ((((((xs.getD 0 0#8).setWidth 32) ||| (((xs.getD 1 0#8).setWidth 32) <<< 8)).toNat : Nat) : Int))) (by as_aux_lemma => kernel_rfl) (bv_or32 (bvi _) (bvi _)) ?_
 refine uP 1 ?_
 have i : 2 < xs.length := by omega
 refine uX 23 2 H 2 rfl 2 (by omega) (getD_some (by omega)) ?_
 intro _ _ _ e H
 obtain rfl := e
 refine uV 5 0 (H.fc 0 rfl) ?_
 refine RW.pv (κ := .qui) (d := some 16) (r := (qs [14, 15, 16, 17, 18, 19, 20, 21, 22])) (v := .int .u32 (IntKind.u32.wrap ((((xs.getD 2 0#8).toNat : Nat) : Int)))) (v' := .int .u32 ((((xs.getD 2 0#8).setWidth 32).toNat : Nat) : Int)) (by as_aux_lemma => kernel_rfl) (bv_cv8_32 _) ?_
 refine RW.pv (κ := .qui) (d := some 17) (r := (qs [15, 16, 17, 18, 19, 20, 21, 22])) (v := .int .u32 (IntKind.u32.wrap (((((xs.getD 2 0#8).setWidth 32).toNat : Nat) : Int) * 2 ^ 16))) (v' := .int .u32 ((((((xs.getD 2 0#8).setWidth 32) <<< 16).toNat : Nat) : Int))) (by as_aux_lemma => kernel_rfl) (bv_shl32 16 (bvi _)) ?_
 refine RW.pv (κ := .qui) (d := some 18) (r := (qs [16, 17, 18, 19, 20, 21, 22])) (v := .int .u32 (IntKind.u32.wrap ((BitVec.ofInt 32 (((((xs.getD 0 0#8).setWidth 32) ||| (((xs.getD 1 0#8).setWidth 32) <<< 8)).toNat : Nat) : Int) ||| BitVec.ofInt 32 (((((xs.getD 2 0#8).setWidth 32) <<< 16).toNat : Nat) : Int)).toNat : Nat))) (v' := .int .u32 (((((((xs.getD 0 0#8).setWidth 32) ||| (((xs.getD 1 0#8).setWidth 32) <<< 8)) ||| (((xs.getD 2 0#8).setWidth 32) <<< 16)).toNat : Nat) : Int))) (by as_aux_lemma => kernel_rfl) (bv_or32 (bvi _) (bvi _)) ?_
 refine uP 1 ?_
 have j : 3 < xs.length := by omega
 refine uX 23 3 H 3 rfl 3 (by omega) (getD_some (by omega)) ?_
 intro _ _ _ f H
 obtain rfl := f
 refine uV 5 0 (H.fc 0 rfl) ?_
 refine RW.pv (κ := .qui) (d := some 22) (r := (qs [20, 21, 22])) (v := .int .u32 (IntKind.u32.wrap ((((xs.getD 3 0#8).toNat : Nat) : Int)))) (v' := .int .u32 ((((xs.getD 3 0#8).setWidth 32).toNat : Nat) : Int)) (by as_aux_lemma => kernel_rfl) (bv_cv8_32 _) ?_
 refine RW.pv (κ := .qui) (d := some 23) (r := (qs [21, 22])) (v := .int .u32 (IntKind.u32.wrap (((((xs.getD 3 0#8).setWidth 32).toNat : Nat) : Int) * 2 ^ 24))) (v' := .int .u32 ((((((xs.getD 3 0#8).setWidth 32) <<< 24).toNat : Nat) : Int))) (by as_aux_lemma => kernel_rfl) (bv_shl32 24 (bvi _)) ?_
 refine RW.pv (κ := .qui) (d := some 24) (r := [(22, .qui)]) (v := .int .u32 (IntKind.u32.wrap ((BitVec.ofInt 32 ((((((xs.getD 0 0#8).setWidth 32) ||| (((xs.getD 1 0#8).setWidth 32) <<< 8)) ||| (((xs.getD 2 0#8).setWidth 32) <<< 16)).toNat : Nat) : Int) ||| BitVec.ofInt 32 (((((xs.getD 3 0#8).setWidth 32) <<< 24).toNat : Nat) : Int)).toNat : Nat))) (v' := .int .u32 ((((((((xs.getD 0 0#8).setWidth 32) ||| (((xs.getD 1 0#8).setWidth 32) <<< 8)) ||| (((xs.getD 2 0#8).setWidth 32) <<< 16)) ||| (((xs.getD 3 0#8).setWidth 32) <<< 24)).toNat : Nat) : Int))) (by as_aux_lemma => kernel_rfl) (bv_or32 (bvi _) (bvi _)) ?_
 refine uF 1 ?_
 refine qT (.int .u32 (((((((xs.getD 0 0#8).setWidth 32) ||| (((xs.getD 1 0#8).setWidth 32) <<< 8)) ||| (((xs.getD 2 0#8).setWidth 32) <<< 16)) ||| (((xs.getD 3 0#8).setWidth 32) <<< 24)).toNat : Nat) : Int)) Tryz.func202 ?_
 exact ⟨_, rfl, H.done, rfl⟩
theorem crcN {S : Nat → Prop} {w : World} {xs : List (BitVec 8)} {a : Option Addr} {c n : Nat} (h : SB.rep S w [.slice a n c] xs) : Calls Tryz.prog 88 #[.slice a n c] w (Ret fun v w' => Ext w w' ∧ v = .int .u32 (((crcF xs).toNat : Nat) : Int)) := by
 obtain ⟨rfl, -⟩ := Shape.elems_of h
 exact crc_spec h
theorem wwordN {S : Nat → Prop} {w : World} {xs : List (BitVec 8)} {a : Option Addr} {c n : Nat} (h : SB.rep S w [.slice a n c] xs) (h4 : 4 ≤ xs.length) : Calls Tryz.prog 202 #[.slice a n c] w (Ret fun v w' => Ext w w' ∧ v = .int .u32 (((wordAt xs).toNat : Nat) : Int)) := by
 obtain ⟨rfl, -⟩ := Shape.elems_of h
 exact wword_spec h h4
theorem opened_spec {S : Nat → Prop} {w : World} {xs : List (BitVec 8)} {a : Option Addr} {c : Nat} (h : SB.rep S w [.slice a xs.length c] xs) (n : Nat) :
 Calls Tryz.prog 201 #[.slice a xs.length c, .I n] w (Ret fun v w' => Ext w w' ∧ ((∃ e : Int, e ≠ 0 ∧ v = .tuple #[.slice none 0 0, .slice none 0 0, .iface 322 (.I e)] ∧ openF xs n = none) ∨ ∃ (a1 : Option Addr) (c1 : Nat) (a2 : Option Addr) (c2 : Nat) (x r : List (BitVec 8)), openF xs n = some (x, r) ∧ v = .tuple #[.slice a1 n c1, .slice a2 r.length c2, .nilIface] ∧ x.length = n ∧ SB.rep (Nw S w) w' [.slice a1 n c1] x ∧ SB.rep (Nw S w) w' [.slice a2 r.length c2] r)) := by
 have hlen := Shape.slice_len h
 refine uS1 Tryz.func201 ?_
 have H := Hp.startF (.rp h .nil)
 refine uR 4 [.c [1, 0, 0], .c [1, 0, 1], .c [2]] ?_
 refine qG (sq 0 5) ?_
 refine uP 2 ?_
 refine uI (((xs.length : Nat) : Int) - 4) ?_
 refine uF 2 ?_
 refine qD ((((xs.length : Nat) : Int) - 4 : Int) < (n : Int)) (fun m => ?_) (fun m => ?_)
 ·
  refine uR 2 [.c [1, 0, 1, 0, 1], .c [2]] ?_
  refine qT (.tuple #[.slice none 0 0, .slice none 0 0, .iface 322 (.I 40)]) Tryz.func201 ?_
  exact ⟨_, rfl, H.done, .inl ⟨_, by decide, rfl, by unfold openF; rw [if_pos (by omega)]⟩⟩
 ·
  refine uR 2 [.c [2, 0], .c [3]] ?_
  refine WK.draw1 9 (qs [0, 1, 2, 3, 4, 5, 6, 7, 8]) (qs [0, 1, 2, 3, 4, 5, 6, 7, 8]) Tryz_mixed (by as_aux_lemma => kernel_rfl) (by as_aux_lemma => kernel_rfl) (by as_aux_lemma => kernel_rfl) ?_
  have H := H.draw
  generalize ({ w with drawn := w.drawn + 1 } : World) = o at H ⊢
  refine uP 3 ?_
  refine RW.clipAt (κ := .qui) (d := some 18) (r := (qs [4, 5, 6, 7, 8])) (T := 23) (e := 5) (sh := Sb) (a := a) (len := xs.length) (cap := c) (k := n) (k1 := .i64) (t1 := (n : Int)) (k2 := .i64) (t2 := (n : Int)) (by as_aux_lemma => kernel_rfl) (by as_aux_lemma => kernel_rfl) H 0 rfl (by omega) (by omega) (by omega) ?_
  intro H
  refine uP 2 ?_
  refine RW.slice (κ := .qui) (d := some 21) (r := (qs [7, 8])) (T := 23) (e := 5) (sh := Sb) (a := a) (len := xs.length) (cap := c) (zs := (xs.drop n)) (lv := (some (.I n))) (hv := none) (by as_aux_lemma => kernel_rfl) (by as_aux_lemma => kernel_rfl) H 1 rfl n xs.length (.mk (by omega)) .nil (by omega) (by omega) (by rw [List.take_of_length_le (Nat.le_refl _)]) ?_
  intro b H
  refine uF 2 ?_
  refine uR 2 [.c [3, 0, 0], .c [3, 0, 1], .c [4]] ?_
  refine qG (sq 0 5) ?_
  refine uP 1 ?_
  refine uK (wwordN (xs := (xs.drop n)) (H.rp 0 rfl) (by rw [List.length_drop]; omega)) ?_
  rintro _ _ f rfl
  have H := H.ext f
  refine qP 1 (sq 3 5) [(7, .slice a n n), (8, .slice b (xs.drop n).length (c - n)), (23, .int .u32 (((wordAt (xs.drop n)).toNat : Nat) : Int)), (24, .slice a n n)] ?_
  refine uK (crcN (xs := (xs.take n)) (H.rp 1 rfl)) ?_
  rintro _ g i rfl
  have H := H.ext i
  refine uF 1 ?_
  refine qN (((wordAt (xs.drop n)).toNat : Nat) : Int) (((crcF (xs.take n)).toNat : Nat) : Int) (fun j => ?_) (fun j => ?_)
  ·
   have hne := j
   refine uR 2 [.c [3, 0, 1, 0, 1], .c [4]] ?_
   refine qT (.tuple #[.slice none 0 0, .slice none 0 0, .iface 322 (.I 61)]) Tryz.func201 ?_
   exact ⟨_, rfl, H.done, .inl ⟨_, by decide, rfl, by unfold openF; rw [if_neg (by omega), if_neg (fun q => hne (by rw [q]))]⟩⟩
  ·
   refine uR 2 [.c [4, 0], .c [5]] ?_
   refine WK.draw1 6 (qs [0, 1, 2, 3, 4, 5]) (qs [0, 1, 2, 3, 4, 5]) Tryz_mixed (by as_aux_lemma => kernel_rfl) (by as_aux_lemma => kernel_rfl) (by as_aux_lemma => kernel_rfl) ?_
   have H := H.draw
   generalize ({ g with drawn := g.drawn + 1 } : World) = p at H ⊢
   refine uP 2 ?_
   refine RW.slice (κ := .qui) (d := some 30) (r := (qs [3, 4, 5])) (T := 23) (e := 5) (sh := Sb) (a := b) (len := (xs.drop n).length) (cap := (c - n)) (zs := ((xs.drop n).drop 4)) (lv := (some (.I 4))) (hv := none) (by as_aux_lemma => kernel_rfl) (by as_aux_lemma => kernel_rfl) H 0 rfl 4 (xs.drop n).length (.mk (by omega)) .nil (by rw [List.length_drop]; omega) (by rw [List.length_drop]; omega) (by rw [List.take_of_length_le (Nat.le_refl _)]) ?_
   intro l H
   refine uF 3 ?_
   refine qT (.tuple #[.slice a n n, .slice l (((xs.drop n).drop 4).length) ((c - n) - 4), .nilIface]) Tryz.func201 ?_
   exact ⟨_, rfl, H.done, .inr ⟨_, _, _, _, xs.take n, ((xs.drop n).drop 4), by unfold openF; rw [if_neg (by omega), if_pos (BitVec.eq_of_toNat_eq (by omega)), List.drop_drop], rfl, by rw [List.length_take]; omega, H.out (H.rp 2 rfl), H.out (H.rp 0 rfl)⟩⟩
theorem wnext_spec {S : Nat → Prop} {w : World} {xs : List (BitVec 8)} {a : Option Addr} {c : Nat} (h : SB.rep S w [.slice a xs.length c] xs) :
 Calls Tryz.prog 160 #[.slice a xs.length c] w (Ret fun v w' => Ext w w' ∧ ((∃ e : Int, e ≠ 0 ∧ v = .tuple #[.slice none 0 0, .iface 322 (.I e)] ∧ nextF xs = none) ∨ ∃ (a' : Option Addr) (c' : Nat) (b : List (BitVec 8)), nextF xs = some b ∧ v = .tuple #[.slice a' b.length c', .nilIface] ∧ SB.rep (Nw S w) w' [.slice a' b.length c'] b)) := by
 have hlen := Shape.slice_len h
 refine uS1 Tryz.func160 ?_
 have H := Hp.startF (.rp h .nil)
 refine uR 3 [.c [1, 0], .c [2]] ?_
 refine qG (sq 0 9) ?_
 refine uP 1 ?_
 refine uK (opened_spec (xs := xs) (H.rp 0 rfl) 4) ?_
 rintro _ _ l (⟨L, B, rfl, g⟩ | ⟨M, N, C, D, f, j, g, rfl, _, s, t⟩)
 ·
  have H := H.ext l
  refine uF 7 ?_
  refine uR 6 [.c [2, 0, 1, 0, 1], .c [3]] ?_
  refine qT (.tuple #[.slice none 0 0, .iface 322 (.I L)]) Tryz.func160 ?_
  exact ⟨_, rfl, H.done, .inl ⟨_, B, rfl, by unfold nextF; rw [g]⟩⟩
 ·
  have H := H.addN2 l (F := Rp SB [.slice M 4 N] f) (F2 := Rp SB [.slice C j.length D] j) s t
  refine uF 7 ?_
  refine uR 6 [.c [3, 0], .c [4]] ?_
  refine qG (sq 0 3) ?_
  refine uP 1 ?_
  refine uK (wwordN (xs := f) (H.rp 0 rfl) (by omega)) ?_
  rintro _ _ u rfl
  have H := H.ext u
  refine uF 1 ?_
  refine uR 3 [.c [4, 0, 1], .c [5]] ?_
  refine qD (((((wordAt f).toNat : Nat) : Int) : Int) > 4194304) (fun E => ?_) (fun E => ?_)
  ·
   refine uR 2 [.c [4, 0, 1, 0, 1], .c [5]] ?_
   refine qT (.tuple #[.slice none 0 0, .iface 322 (.I 60)]) Tryz.func160 ?_
   exact ⟨_, rfl, H.done, .inl ⟨_, by decide, rfl, by unfold nextF; rw [g]; simp only; rw [if_pos (by omega)]⟩⟩
  ·
   refine qR 2 [.c [5, 0], .c [6]] [(5, .slice C j.length D), (7, .int .u32 (((wordAt f).toNat : Nat) : Int))] ?_
   refine qG (sq 0 11) ?_
   refine uP 2 ?_
   refine RW.pv (κ := .seq) (d := some 27) (r := (sq 3 11)) (v := .I (IntKind.i64.wrap ((((wordAt f).toNat : Nat) : Int)))) (v' := .I (((wordAt f).toNat : Nat) : Int)) (by as_aux_lemma => kernel_rfl) (bv_i6432 _ (by have := (wordAt f).isLt; omega)) ?_
   refine uK (opened_spec (xs := j) (H.rp 1 rfl) ((wordAt f).toNat)) ?_
   rintro _ _ k (⟨G, x, rfl, i⟩ | ⟨m, n, J, K, o, p, i, rfl, y, z, A⟩)
   ·
    have H := H.ext k
    refine uF 7 ?_
    refine uR 2 [.c [7]] ?_
    refine qT (.tuple #[.slice none 0 0, .iface 322 (.I G)]) Tryz.func160 ?_
    exact ⟨_, rfl, H.done, .inl ⟨_, x, rfl, by unfold nextF; rw [g]; simp only; rw [if_neg (by omega), i]; rfl⟩⟩
   ·
    have H := H.addN2 k (F := Rp SB [.slice m ((wordAt f).toNat) n] o) (F2 := Rp SB [.slice J p.length K] p) z A
    refine uF 7 ?_
    refine uR 2 [.c [7]] ?_
    refine qT (.tuple #[.slice m ((wordAt f).toNat) n, .nilIface]) Tryz.func160 ?_
    have q := y
    rw [← q] at H
    exact ⟨_, rfl, H.done, .inr ⟨_, _, o, by unfold nextF; rw [g]; simp only; rw [if_neg (by omega), i]; rfl, by rw [q], H.out (H.rp 0 rfl)⟩⟩
end Go.Proofs.YtdnibpclkhenmaaGreatDoor
