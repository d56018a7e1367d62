import Derived.Test.YtdnibpclkhenmaaGreatDoorSJ2
import Derived.Test.YtdnibpclkhenmaaGreatDoorSBxB
namespace Go.Proofs.YtdnibpclkhenmaaGreatDoor
open Go.BX
theorem getD_some {l : List (BitVec 8)} {i : Nat} (h : i < l.length) : l[i]? = some (l.getD i 0#8) := by
 rw [List.getD_eq_getElem?_getD, List.getElem?_eq_getElem h]; rfl
theorem wword_spec {S : Nat → Prop} {w : World} {xs : List (BitVec 8)} {a : Option Addr} {c : Nat} (h : SB.rep S w [.slice a xs.length c] xs) (h4 : 4 ≤ xs.length) :
 Calls Tryz.prog 202 #[.slice a xs.length c] w (Ret fun v w' => Ext w w' ∧ v = .int .u32 (((wordAt xs).toNat : Nat) : Int)) := by
 refine qS (fn := Tryz.f202) (n := 25) (σ := [(0, .slice a xs.length c)]) Tryz.func202 ?_
 have H := Hp.startF (w := w) (S := S) (G := [Rp SB [.slice a xs.length c] xs]) (.rp h .nil)
 refine qR 3 [.c [1, 0], .c [2]] [(0, .slice a xs.length c)] ?_
 refine WK.draw1 23 (qs [0, 1, 2, 3, 4, 5, 6, 7, 8, 9, 10, 11, 12, 13, 14, 15, 16, 17, 18, 19, 20, 21, 22]) (qs [0, 1, 2, 3, 4, 5, 6, 7, 8, 9, 10, 11, 12, 13, 14, 15, 16, 17, 18, 19, 20, 21, 22]) Tryz_mixed (by as_aux_lemma => kernel_rfl) (by as_aux_lemma => kernel_rfl) (by as_aux_lemma => kernel_rfl) ?_
 have H := H.draw
 generalize ({ w with drawn := w.drawn + 1 } : World) = w1 at H ⊢
 refine qP 1 (qs [1, 2, 3, 4, 5, 6, 7, 8, 9, 10, 11, 12, 13, 14, 15, 16, 17, 18, 19, 20, 21, 22]) [(0, .slice a xs.length c), (3, .slice a xs.length c)] ?_
 have hx2 : 0 < xs.length := by omega
 refine qX .qui 4 (qs [2, 3, 4, 5, 6, 7, 8, 9, 10, 11, 12, 13, 14, 15, 16, 17, 18, 19, 20, 21, 22]) 23 5 0 Sb (xs.getD 0 0#8) H 0 rfl 0 (by omega) (getD_some (by omega)) ?_
 intro b3 o4 es5 hr6 H
 obtain rfl := hr6
 refine qL .qui 5 (qs [3, 4, 5, 6, 7, 8, 9, 10, 11, 12, 13, 14, 15, 16, 17, 18, 19, 20, 21, 22]) 5 b3 o4 0 (.int .u8 (((xs.getD 0 0#8).toNat : Nat) : Int)) (H.fc 0 rfl) ?_
 refine RW.pv (κ := .qui) (d := some 6) (r := (qs [4, 5, 6, 7, 8, 9, 10, 11, 12, 13, 14, 15, 16, 17, 18, 19, 20, 21, 22])) (v := .int .u32 (IntKind.u32.wrap ((((xs.getD 0 0#8).toNat : Nat) : Int)))) (v' := .int .u32 ((((xs.getD 0 0#8).setWidth 32).toNat : Nat) : Int)) (by as_aux_lemma => kernel_rfl) (bv_cv8_32 _) ?_
 refine qP 1 (qs [5, 6, 7, 8, 9, 10, 11, 12, 13, 14, 15, 16, 17, 18, 19, 20, 21, 22]) [(0, .slice a xs.length c), (6, .int .u32 ((((xs.getD 0 0#8).setWidth 32).toNat : Nat) : Int)), (7, .slice a xs.length c)] ?_
 have hx7 : 1 < xs.length := by omega
 refine qX .qui 8 (qs [6, 7, 8, 9, 10, 11, 12, 13, 14, 15, 16, 17, 18, 19, 20, 21, 22]) 23 5 1 Sb (xs.getD 1 0#8) H 1 rfl 1 (by omega) (getD_some (by omega)) ?_
 intro b8 o9 es10 hr11 H
 obtain rfl := hr11
 refine qL .qui 9 (qs [7, 8, 9, 10, 11, 12, 13, 14, 15, 16, 17, 18, 19, 20, 21, 22]) 5 b8 o9 0 (.int .u8 (((xs.getD 1 0#8).toNat : Nat) : Int)) (H.fc 0 rfl) ?_
 refine RW.pv (κ := .qui) (d := some 10) (r := (qs [8, 9, 10, 11, 12, 13, 14, 15, 16, 17, 18, 19, 20, 21, 22])) (v := .int .u32 (IntKind.u32.wrap ((((xs.getD 1 0#8).toNat : Nat) : Int)))) (v' := .int .u32 ((((xs.getD 1 0#8).setWidth 32).toNat : Nat) : Int)) (by as_aux_lemma => kernel_rfl) (bv_cv8_32 _) ?_
 refine RW.pv (κ := .qui) (d := some 11) (r := (qs [9, 10, 11, 12, 13, 14, 15, 16, 17, 18, 19, 20, 21, 22])) (v := .int .u32 (IntKind.u32.wrap (((((xs.getD 1 0#8).setWidth 32).toNat : Nat) : Int) * 2 ^ 8))) (v' := .int .u32 ((((((xs.getD 1 0#8).setWidth 32) <<< 8).toNat : Nat) : Int))) (by as_aux_lemma => kernel_rfl) (bv_shl32 8 (bvi _)) ?_
 refine RW.pv (κ := .qui) (d := some 12) (r := (qs [10, 11, 12, 13, 14, 15, 16, 17, 18, 19, 20, 21, 22])) (v := .int .u32 (IntKind.u32.wrap ((BitVec.ofInt 32 ((((xs.getD 0 0#8).setWidth 32).toNat : Nat) : Int) ||| BitVec.ofInt 32 (((((xs.getD 1 0#8).setWidth 32) <<< 8).toNat : Nat) : Int)).toNat : Nat))) (v' := .int .u32 ((((((xs.getD 0 0#8).setWidth 32) ||| (((xs.getD 1 0#8).setWidth 32) <<< 8)).toNat : Nat) : Int))) (by as_aux_lemma => kernel_rfl) (bv_or32 (bvi _) (bvi _)) ?_
 refine qP 1 (qs [11, 12, 13, 14, 15, 16, 17, 18, 19, 20, 21, 22]) [(0, .slice a xs.length c), (12, .int .u32 (((((xs.getD 0 0#8).setWidth 32) ||| (((xs.getD 1 0#8).setWidth 32) <<< 8)).toNat : Nat) : Int)), (13, .slice a xs.length c)] ?_
 have hx12 : 2 < xs.length := by omega
 refine qX .qui 14 (qs [12, 13, 14, 15, 16, 17, 18, 19, 20, 21, 22]) 23 5 2 Sb (xs.getD 2 0#8) H 2 rfl 2 (by omega) (getD_some (by omega)) ?_
 intro b13 o14 es15 hr16 H
 obtain rfl := hr16
 refine qL .qui 15 (qs [13, 14, 15, 16, 17, 18, 19, 20, 21, 22]) 5 b13 o14 0 (.int .u8 (((xs.getD 2 0#8).toNat : Nat) : Int)) (H.fc 0 rfl) ?_
 refine RW.pv (κ := .qui) (d := some 16) (r := (qs [14, 15, 16, 17, 18, 19, 20, 21, 22])) (v := .int .u32 (IntKind.u32.wrap ((((xs.getD 2 0#8).toNat : Nat) : Int)))) (v' := .int .u32 ((((xs.getD 2 0#8).setWidth 32).toNat : Nat) : Int)) (by as_aux_lemma => kernel_rfl) (bv_cv8_32 _) ?_
 refine RW.pv (κ := .qui) (d := some 17) (r := (qs [15, 16, 17, 18, 19, 20, 21, 22])) (v := .int .u32 (IntKind.u32.wrap (((((xs.getD 2 0#8).setWidth 32).toNat : Nat) : Int) * 2 ^ 16))) (v' := .int .u32 ((((((xs.getD 2 0#8).setWidth 32) <<< 16).toNat : Nat) : Int))) (by as_aux_lemma => kernel_rfl) (bv_shl32 16 (bvi _)) ?_
 refine RW.pv (κ := .qui) (d := some 18) (r := (qs [16, 17, 18, 19, 20, 21, 22])) (v := .int .u32 (IntKind.u32.wrap ((BitVec.ofInt 32 (((((xs.getD 0 0#8).setWidth 32) ||| (((xs.getD 1 0#8).setWidth 32) <<< 8)).toNat : Nat) : Int) ||| BitVec.ofInt 32 (((((xs.getD 2 0#8).setWidth 32) <<< 16).toNat : Nat) : Int)).toNat : Nat))) (v' := .int .u32 (((((((xs.getD 0 0#8).setWidth 32) ||| (((xs.getD 1 0#8).setWidth 32) <<< 8)) ||| (((xs.getD 2 0#8).setWidth 32) <<< 16)).toNat : Nat) : Int))) (by as_aux_lemma => kernel_rfl) (bv_or32 (bvi _) (bvi _)) ?_
 refine qP 1 (qs [17, 18, 19, 20, 21, 22]) [(18, .int .u32 ((((((xs.getD 0 0#8).setWidth 32) ||| (((xs.getD 1 0#8).setWidth 32) <<< 8)) ||| (((xs.getD 2 0#8).setWidth 32) <<< 16)).toNat : Nat) : Int)), (19, .slice a xs.length c)] ?_
 have hx17 : 3 < xs.length := by omega
 refine qX .qui 20 (qs [18, 19, 20, 21, 22]) 23 5 3 Sb (xs.getD 3 0#8) H 3 rfl 3 (by omega) (getD_some (by omega)) ?_
 intro b18 o19 es20 hr21 H
 obtain rfl := hr21
 refine qL .qui 21 (qs [19, 20, 21, 22]) 5 b18 o19 0 (.int .u8 (((xs.getD 3 0#8).toNat : Nat) : Int)) (H.fc 0 rfl) ?_
 refine RW.pv (κ := .qui) (d := some 22) (r := (qs [20, 21, 22])) (v := .int .u32 (IntKind.u32.wrap ((((xs.getD 3 0#8).toNat : Nat) : Int)))) (v' := .int .u32 ((((xs.getD 3 0#8).setWidth 32).toNat : Nat) : Int)) (by as_aux_lemma => kernel_rfl) (bv_cv8_32 _) ?_
 refine RW.pv (κ := .qui) (d := some 23) (r := (qs [21, 22])) (v := .int .u32 (IntKind.u32.wrap (((((xs.getD 3 0#8).setWidth 32).toNat : Nat) : Int) * 2 ^ 24))) (v' := .int .u32 ((((((xs.getD 3 0#8).setWidth 32) <<< 24).toNat : Nat) : Int))) (by as_aux_lemma => kernel_rfl) (bv_shl32 24 (bvi _)) ?_
 refine RW.pv (κ := .qui) (d := some 24) (r := [(22, .qui)]) (v := .int .u32 (IntKind.u32.wrap ((BitVec.ofInt 32 ((((((xs.getD 0 0#8).setWidth 32) ||| (((xs.getD 1 0#8).setWidth 32) <<< 8)) ||| (((xs.getD 2 0#8).setWidth 32) <<< 16)).toNat : Nat) : Int) ||| BitVec.ofInt 32 (((((xs.getD 3 0#8).setWidth 32) <<< 24).toNat : Nat) : Int)).toNat : Nat))) (v' := .int .u32 ((((((((xs.getD 0 0#8).setWidth 32) ||| (((xs.getD 1 0#8).setWidth 32) <<< 8)) ||| (((xs.getD 2 0#8).setWidth 32) <<< 16)) ||| (((xs.getD 3 0#8).setWidth 32) <<< 24)).toNat : Nat) : Int))) (by as_aux_lemma => kernel_rfl) (bv_or32 (bvi _) (bvi _)) ?_
 refine qF 1 [(2, .int .u32 (((((((xs.getD 0 0#8).setWidth 32) ||| (((xs.getD 1 0#8).setWidth 32) <<< 8)) ||| (((xs.getD 2 0#8).setWidth 32) <<< 16)) ||| (((xs.getD 3 0#8).setWidth 32) <<< 24)).toNat : Nat) : Int))] ?_
 refine qT (.int .u32 (((((((xs.getD 0 0#8).setWidth 32) ||| (((xs.getD 1 0#8).setWidth 32) <<< 8)) ||| (((xs.getD 2 0#8).setWidth 32) <<< 16)) ||| (((xs.getD 3 0#8).setWidth 32) <<< 24)).toNat : Nat) : Int)) Tryz.func202 ?_
 exact ⟨_, rfl, H.done, rfl⟩
theorem crcN {S : Nat → Prop} {w : World} {xs : List (BitVec 8)} {a : Option Addr} {c n : Nat} (h : SB.rep S w [.slice a n c] xs) : Calls Tryz.prog 88 #[.slice a n c] w (Ret fun v w' => Ext w w' ∧ v = .int .u32 (((crcF xs).toNat : Nat) : Int)) := by
 obtain ⟨rfl, -⟩ := Shape.elems_of h
 exact crc_spec h
theorem wwordN {S : Nat → Prop} {w : World} {xs : List (BitVec 8)} {a : Option Addr} {c n : Nat} (h : SB.rep S w [.slice a n c] xs) (h4 : 4 ≤ xs.length) : Calls Tryz.prog 202 #[.slice a n c] w (Ret fun v w' => Ext w w' ∧ v = .int .u32 (((wordAt xs).toNat : Nat) : Int)) := by
 obtain ⟨rfl, -⟩ := Shape.elems_of h
 exact wword_spec h h4
theorem opened_spec {S : Nat → Prop} {w : World} {xs : List (BitVec 8)} {a : Option Addr} {c : Nat} (h : SB.rep S w [.slice a xs.length c] xs) (n : Nat) :
 Calls Tryz.prog 201 #[.slice a xs.length c, .I n] w (Ret fun v w' => Ext w w' ∧ ((∃ e : Int, e ≠ 0 ∧ v = .tuple #[.slice none 0 0, .slice none 0 0, .iface 322 (.I e)] ∧ openF xs n = none) ∨ ∃ (a1 : Option Addr) (c1 : Nat) (a2 : Option Addr) (c2 : Nat) (x r : List (BitVec 8)), openF xs n = some (x, r) ∧ v = .tuple #[.slice a1 n c1, .slice a2 r.length c2, .nilIface] ∧ x.length = n ∧ SB.rep (Nw S w) w' [.slice a1 n c1] x ∧ SB.rep (Nw S w) w' [.slice a2 r.length c2] r)) := by
 have hlen := Shape.slice_len h
 refine qS (fn := Tryz.f201) (n := 31) (σ := [(0, .slice a xs.length c), (1, .I n)]) Tryz.func201 ?_
 have H := Hp.startF (w := w) (S := S) (G := [Rp SB [.slice a xs.length c] xs]) (.rp h .nil)
 refine qR 4 [.c [1, 0, 0], .c [1, 0, 1], .c [2]] [(0, .slice a xs.length c), (1, .I n)] ?_
 refine qG (sq 0 5) ?_
 refine qP 2 (sq 2 5) [(0, .slice a xs.length c), (1, .I n), (10, .I ((xs.length : Nat) : Int))] ?_
 refine qI .seq 11 (sq 3 5) (((xs.length : Nat) : Int) - 4) ?_
 refine qF 2 [(0, .slice a xs.length c), (1, .I n), (13, .bool (decide ((((xs.length : Nat) : Int) - 4 : Int) < (n : Int))))] ?_
 refine qD ((((xs.length : Nat) : Int) - 4 : Int) < (n : Int)) (fun h1 => ?_) (fun h1 => ?_)
 ·
  refine qR 2 [.c [1, 0, 1, 0, 1], .c [2]] [(4, .slice none 0 0), (5, .slice none 0 0), (6, .iface 322 (.I 40))] ?_
  refine qT (.tuple #[.slice none 0 0, .slice none 0 0, .iface 322 (.I 40)]) Tryz.func201 ?_
  exact ⟨_, rfl, H.done, .inl ⟨_, by decide, rfl, by unfold openF; rw [if_pos (by omega)]⟩⟩
 ·
  refine qR 2 [.c [2, 0], .c [3]] [(0, .slice a xs.length c), (1, .I n)] ?_
  refine WK.draw1 9 (qs [0, 1, 2, 3, 4, 5, 6, 7, 8]) (qs [0, 1, 2, 3, 4, 5, 6, 7, 8]) Tryz_mixed (by as_aux_lemma => kernel_rfl) (by as_aux_lemma => kernel_rfl) (by as_aux_lemma => kernel_rfl) ?_
  have H := H.draw
  generalize ({ w with drawn := w.drawn + 1 } : World) = w2 at H ⊢
  refine qP 3 (qs [3, 4, 5, 6, 7, 8]) [(0, .slice a xs.length c), (1, .I n), (15, .slice a xs.length c), (16, .I n), (17, .I n)] ?_
  refine RW.clipAt (κ := .qui) (d := some 18) (r := (qs [4, 5, 6, 7, 8])) (T := 23) (e := 5) (sh := Sb) (a := a) (len := xs.length) (cap := c) (k := n) (k1 := .i64) (t1 := (n : Int)) (k2 := .i64) (t2 := (n : Int)) (by as_aux_lemma => kernel_rfl) (by as_aux_lemma => kernel_rfl) H 0 rfl (by omega) (by omega) (by omega) ?_
  intro H
  refine qP 2 (qs [6, 7, 8]) [(18, .slice a n n), (19, .slice a xs.length c), (20, .I n)] ?_
  refine RW.slice (κ := .qui) (d := some 21) (r := (qs [7, 8])) (T := 23) (e := 5) (sh := Sb) (a := a) (len := xs.length) (cap := c) (zs := (xs.drop n)) (lv := (some (.I n))) (hv := none) (by as_aux_lemma => kernel_rfl) (by as_aux_lemma => kernel_rfl) H 1 rfl n xs.length (.mk (by omega)) .nil (by omega) (by omega) (by rw [List.take_of_length_le (Nat.le_refl _)]) ?_
  intro a3 H
  refine qF 2 [(7, .slice a n n), (8, .slice a3 (xs.drop n).length (c - n))] ?_
  refine qR 2 [.c [3, 0, 0], .c [3, 0, 1], .c [4]] [(7, .slice a n n), (8, .slice a3 (xs.drop n).length (c - n))] ?_
  refine qG (sq 0 5) ?_
  refine qP 1 (sq 1 5) [(7, .slice a n n), (8, .slice a3 (xs.drop n).length (c - n)), (22, .slice a3 (xs.drop n).length (c - n))] ?_
  refine qK .seq (some 23) (sq 2 5) 202 #[.slice a3 (xs.drop n).length (c - n)] (wwordN (xs := (xs.drop n)) (H.rp 0 rfl) (by rw [List.length_drop]; omega)) ?_
  rintro _ w4 hE5 rfl
  have H := H.ext hE5
  refine qP 1 (sq 3 5) [(7, .slice a n n), (8, .slice a3 (xs.drop n).length (c - n)), (23, .int .u32 (((wordAt (xs.drop n)).toNat : Nat) : Int)), (24, .slice a n n)] ?_
  refine qK .seq (some 25) (sq 4 5) 88 #[.slice a n n] (crcN (xs := (xs.take n)) (H.rp 1 rfl)) ?_
  rintro _ w6 hE7 rfl
  have H := H.ext hE7
  refine qF 1 [(7, .slice a n n), (8, .slice a3 (xs.drop n).length (c - n)), (26, .bool ((((wordAt (xs.drop n)).toNat : Nat) : Int) != (((crcF (xs.take n)).toNat : Nat) : Int)))] ?_
  refine qN (((wordAt (xs.drop n)).toNat : Nat) : Int) (((crcF (xs.take n)).toNat : Nat) : Int) (fun h8 => ?_) (fun h8 => ?_)
  ·
   have hne := h8
   refine qR 2 [.c [3, 0, 1, 0, 1], .c [4]] [(4, .slice none 0 0), (5, .slice none 0 0), (6, .iface 322 (.I 61))] ?_
   refine qT (.tuple #[.slice none 0 0, .slice none 0 0, .iface 322 (.I 61)]) Tryz.func201 ?_
   exact ⟨_, rfl, H.done, .inl ⟨_, by decide, rfl, by unfold openF; rw [if_neg (by omega), if_neg (fun q => hne (by rw [q]))]⟩⟩
  ·
   refine qR 2 [.c [4, 0], .c [5]] [(7, .slice a n n), (8, .slice a3 (xs.drop n).length (c - n))] ?_
   refine WK.draw1 6 (qs [0, 1, 2, 3, 4, 5]) (qs [0, 1, 2, 3, 4, 5]) Tryz_mixed (by as_aux_lemma => kernel_rfl) (by as_aux_lemma => kernel_rfl) (by as_aux_lemma => kernel_rfl) ?_
   have H := H.draw
   generalize ({ w6 with drawn := w6.drawn + 1 } : World) = w9 at H ⊢
   refine qP 2 (qs [2, 3, 4, 5]) [(28, .slice a n n), (29, .slice a3 (xs.drop n).length (c - n))] ?_
   refine RW.slice (κ := .qui) (d := some 30) (r := (qs [3, 4, 5])) (T := 23) (e := 5) (sh := Sb) (a := a3) (len := (xs.drop n).length) (cap := (c - n)) (zs := ((xs.drop n).drop 4)) (lv := (some (.I 4))) (hv := none) (by as_aux_lemma => kernel_rfl) (by as_aux_lemma => kernel_rfl) H 0 rfl 4 (xs.drop n).length (.mk (by omega)) .nil (by rw [List.length_drop]; omega) (by rw [List.length_drop]; omega) (by rw [List.take_of_length_le (Nat.le_refl _)]) ?_
   intro a10 H
   refine qF 3 [(4, .slice a n n), (5, .slice a10 (((xs.drop n).drop 4).length) ((c - n) - 4)), (6, .nilIface)] ?_
   refine qT (.tuple #[.slice a n n, .slice a10 (((xs.drop n).drop 4).length) ((c - n) - 4), .nilIface]) Tryz.func201 ?_
   exact ⟨_, rfl, H.done, .inr ⟨_, _, _, _, xs.take n, ((xs.drop n).drop 4), by unfold openF; rw [if_neg (by omega), if_pos (BitVec.eq_of_toNat_eq (by omega)), List.drop_drop], rfl, by rw [List.length_take]; omega, H.out (H.rp 2 rfl), H.out (H.rp 0 rfl)⟩⟩
theorem wnext_spec {S : Nat → Prop} {w : World} {xs : List (BitVec 8)} {a : Option Addr} {c : Nat} (h : SB.rep S w [.slice a xs.length c] xs) :
 Calls Tryz.prog 160 #[.slice a xs.length c] w (Ret fun v w' => Ext w w' ∧ ((∃ e : Int, e ≠ 0 ∧ v = .tuple #[.slice none 0 0, .iface 322 (.I e)] ∧ nextF xs = none) ∨ ∃ (a' : Option Addr) (c' : Nat) (b : List (BitVec 8)), nextF xs = some b ∧ v = .tuple #[.slice a' b.length c', .nilIface] ∧ SB.rep (Nw S w) w' [.slice a' b.length c'] b)) := by
 have hlen := Shape.slice_len h
 refine qS (fn := Tryz.f160) (n := 34) (σ := [(0, .slice a xs.length c)]) Tryz.func160 ?_
 have H := Hp.startF (w := w) (S := S) (G := [Rp SB [.slice a xs.length c] xs]) (.rp h .nil)
 refine qR 3 [.c [1, 0], .c [2]] [(0, .slice a xs.length c)] ?_
 refine qG (sq 0 9) ?_
 refine qP 1 (sq 1 9) [(11, .slice a xs.length c)] ?_
 refine qK .seq (some 12) (sq 2 9) 201 #[.slice a xs.length c, .I 4] (opened_spec (xs := xs) (H.rp 0 rfl) 4) ?_
 rintro _ w1 hE5 (⟨e2, he3, rfl, ho4⟩ | ⟨a6, c7, a8, c9, x10, r11, ho4, rfl, hl12, hr13, hr14⟩)
 ·
  have H := H.ext hE5
  refine qF 7 [(4, .slice none 0 0), (5, .slice none 0 0), (6, .iface 322 (.I e2))] ?_
  refine qR 6 [.c [2, 0, 1, 0, 1], .c [3]] [(2, .slice none 0 0), (3, .iface 322 (.I e2))] ?_
  refine qT (.tuple #[.slice none 0 0, .iface 322 (.I e2)]) Tryz.func160 ?_
  exact ⟨_, rfl, H.done, .inl ⟨_, he3, rfl, by unfold nextF; rw [ho4]⟩⟩
 ·
  have H := H.addN2 hE5 (F := Rp SB [.slice a6 4 c7] x10) (F2 := Rp SB [.slice a8 r11.length c9] r11) hr13 hr14
  refine qF 7 [(4, .slice a6 4 c7), (5, .slice a8 r11.length c9), (6, .nilIface)] ?_
  refine qR 6 [.c [3, 0], .c [4]] [(4, .slice a6 4 c7), (5, .slice a8 r11.length c9)] ?_
  refine qG (sq 0 3) ?_
  refine qP 1 (sq 1 3) [(5, .slice a8 r11.length c9), (19, .slice a6 4 c7)] ?_
  refine qK .seq (some 20) (sq 2 3) 202 #[.slice a6 4 c7] (wwordN (xs := x10) (H.rp 0 rfl) (by omega)) ?_
  rintro _ w15 hE16 rfl
  have H := H.ext hE16
  refine qF 1 [(5, .slice a8 r11.length c9), (7, .int .u32 (((wordAt x10).toNat : Nat) : Int))] ?_
  refine qR 3 [.c [4, 0, 1], .c [5]] [(5, .slice a8 r11.length c9), (7, .int .u32 (((wordAt x10).toNat : Nat) : Int)), (22, .bool (decide (((((wordAt x10).toNat : Nat) : Int) : Int) > 4194304)))] ?_
  refine qD (((((wordAt x10).toNat : Nat) : Int) : Int) > 4194304) (fun h17 => ?_) (fun h17 => ?_)
  ·
   refine qR 2 [.c [4, 0, 1, 0, 1], .c [5]] [(2, .slice none 0 0), (3, .iface 322 (.I 60))] ?_
   refine qT (.tuple #[.slice none 0 0, .iface 322 (.I 60)]) Tryz.func160 ?_
   exact ⟨_, rfl, H.done, .inl ⟨_, by decide, rfl, by unfold nextF; rw [ho4]; simp only; rw [if_pos (by omega)]⟩⟩
  ·
   refine qR 2 [.c [5, 0], .c [6]] [(5, .slice a8 r11.length c9), (7, .int .u32 (((wordAt x10).toNat : Nat) : Int))] ?_
   refine qG (sq 0 11) ?_
   refine qP 2 (sq 2 11) [(25, .slice a8 r11.length c9), (26, .int .u32 (((wordAt x10).toNat : Nat) : Int))] ?_
   refine RW.pv (κ := .seq) (d := some 27) (r := (sq 3 11)) (v := .I (IntKind.i64.wrap ((((wordAt x10).toNat : Nat) : Int)))) (v' := .I (((wordAt x10).toNat : Nat) : Int)) (by as_aux_lemma => kernel_rfl) (bv_i6432 _ (by have := (wordAt x10).isLt; omega)) ?_
   refine qK .seq (some 28) (sq 4 11) 201 #[.slice a8 r11.length c9, .I (((wordAt x10).toNat : Nat) : Int)] (opened_spec (xs := r11) (H.rp 1 rfl) ((wordAt x10).toNat)) ?_
   rintro _ w18 hE22 (⟨e19, he20, rfl, ho21⟩ | ⟨a23, c24, a25, c26, x27, r28, ho21, rfl, hl29, hr30, hr31⟩)
   ·
    have H := H.ext hE22
    refine qF 7 [(6, .iface 322 (.I e19)), (8, .slice none 0 0)] ?_
    refine qR 2 [.c [7]] [(2, .slice none 0 0), (3, .iface 322 (.I e19))] ?_
    refine qT (.tuple #[.slice none 0 0, .iface 322 (.I e19)]) Tryz.func160 ?_
    exact ⟨_, rfl, H.done, .inl ⟨_, he20, rfl, by unfold nextF; rw [ho4]; simp only; rw [if_neg (by omega), ho21]; rfl⟩⟩
   ·
    have H := H.addN2 hE22 (F := Rp SB [.slice a23 ((wordAt x10).toNat) c24] x27) (F2 := Rp SB [.slice a25 r28.length c26] r28) hr30 hr31
    refine qF 7 [(6, .nilIface), (8, .slice a23 ((wordAt x10).toNat) c24)] ?_
    refine qR 2 [.c [7]] [(2, .slice a23 ((wordAt x10).toNat) c24), (3, .nilIface)] ?_
    refine qT (.tuple #[.slice a23 ((wordAt x10).toNat) c24, .nilIface]) Tryz.func160 ?_
    have hx9 := hl29
    rw [← hx9] at H
    exact ⟨_, rfl, H.done, .inr ⟨_, _, x27, by unfold nextF; rw [ho4]; simp only; rw [if_neg (by omega), ho21]; rfl, by rw [hx9], H.out (H.rp 0 rfl)⟩⟩
end Go.Proofs.YtdnibpclkhenmaaGreatDoor
