import Derived.Test.YtdnibpclkhenmaaGreatDoorSJM
namespace Go.Proofs.YtdnibpclkhenmaaGreatDoor
open Go.BX
theorem grows_many {S : Nat → Prop} {w : World} {l : List (List (BitVec 8))} {ax : Option Addr} {cx : Nat} (x1 : Int) (hl : 200 < l.length) (hr : (Rp (Shape.slice SB) [.slice ax l.length cx] l).p S w) (hq : (Fz jQ).p S w) :
 Calls Tryz.prog 3 #[.slice ax l.length cx, .I x1] w (Ret fun v w' => Ext w w' ∧ v = .bool true) := by
 have hal := Shape.slice_len hr
 refine qS (fn := Tryz.f3) (n := 153) (σ := [(0, .slice ax l.length cx), (1, .I x1)]) Tryz.func3 ?_
 have H := Hp.startF (w := w) (S := S) (G := [Rp (Shape.slice SB) [.slice ax l.length cx] l, Fz jQ]) (.rp hr (.cons hq .nil))
 refine qR 8 [.c [2, 0, 1, 0], .b 0, .c [3]] [(0, .slice ax l.length cx), (1, .I x1), (5, .I 0), (6, .I 0)] ?_
 refine WK.loop (α := Nat × Int) (b := cd Tryz.prog 3 [2, 0, 1, 0, 0]) (by as_aux_lemma => kernel_rfl) (fun st_ => match st_ with | (i, nn) => [(0, .slice ax l.length cx), (1, .I x1), (5, .I nn), (6, .I i)]) (fun st_ w' => match st_ with | (i, nn) => Hp w S [] [] [] [Rp (Shape.slice SB) [.slice ax l.length cx] l, Fz jQ] w' ∧ i ≤ l.length) (fun st_ => match st_ with | (i, nn) => l.length - i) (0, (0 : Int)) ⟨H, Nat.zero_le _⟩ (rfl) ?_
 rintro ⟨i, nn⟩ w2 ⟨H, hi⟩ hback1
 refine qR 3 [.c [2, 0, 1, 0, 0, 0, 1], .c [2, 0, 1, 0, 0, 1], .l [2, 0, 1, 0, 0], .b 0, .c [3]] [(0, .slice ax l.length cx), (1, .I x1), (5, .I nn), (6, .I i), (21, .bool (decide (((i : Int) : Int) < ((l.length : Nat) : Int))))] ?_
 refine qD (((i : Int) : Int) < ((l.length : Nat) : Int)) (fun h3 => ?_) (fun h3 => ?_)
 ·
  refine qR 3 [.c [2, 0, 1, 0, 0, 1, 0, 0], .b 1, .c [2, 0, 1, 0, 0, 2], .l [2, 0, 1, 0, 0], .b 0, .c [3]] [(0, .slice ax l.length cx), (1, .I x1), (5, .I nn), (6, .I i)] ?_
  refine qG (sq 0 8) ?_
  refine qP 3 (sq 3 8) [(0, .slice ax l.length cx), (1, .I x1), (5, .I nn), (6, .I i), (24, .I nn), (25, .slice ax l.length cx), (26, .I i)] ?_
  have hx4 : i < l.length := by omega
  refine qX .seq 27 (sq 4 8) 22 23 (i : Int) SB (l[i]) H 0 rfl i (by omega) (List.getElem?_eq_getElem hx4) ?_
  intro b5 o6 es7 hr8 H
  obtain ⟨a9, k10, rfl⟩ := Shape.slice_form' hr8
  have H := H.add (F := Rp SB [.slice a9 (l[i]).length k10] (l[i])) hr8
  refine qL .seq 28 (sq 5 8) 23 b5 o6 0 (.slice a9 (l[i]).length k10) (H.fc 1 rfl) ?_
  refine qP 1 (sq 6 8) [(0, .slice ax l.length cx), (1, .I x1), (5, .I nn), (6, .I i), (24, .I nn), (29, .I (((l[i]).length : Nat) : Int))] ?_
  refine RW.pv (κ := .seq) (d := some 30) (r := (sq 7 8)) (v' := .I (IntKind.i64.wrap (nn + ((l[i].length : Nat) : Int)))) (v := .I (IntKind.i64.wrap (nn + (((l[i]).length : Nat) : Int)))) (by as_aux_lemma => kernel_rfl) (rfl) ?_
  refine qF 1 [(0, .slice ax l.length cx), (1, .I x1), (5, .I (IntKind.i64.wrap (nn + ((l[i].length : Nat) : Int)))), (6, .I i)] ?_
  refine qR 1 [.c [2, 0, 1, 0, 0, 2], .l [2, 0, 1, 0, 0], .b 0, .c [3]] [(0, .slice ax l.length cx), (1, .I x1), (5, .I (IntKind.i64.wrap (nn + ((l[i].length : Nat) : Int)))), (6, .I i)] ?_
  refine qG (sq 0 3) ?_
  refine qP 1 (sq 1 3) [(0, .slice ax l.length cx), (1, .I x1), (5, .I (IntKind.i64.wrap (nn + ((l[i].length : Nat) : Int)))), (6, .I i), (22, .I i)] ?_
  refine qI .seq 23 (sq 2 3) ((i : Int) + 1) ?_
  refine qF 1 [(0, .slice ax l.length cx), (1, .I x1), (5, .I (IntKind.i64.wrap (nn + ((l[i].length : Nat) : Int)))), (6, .I ((i : Int) + 1))] ?_
  have H := H.pick [2, 3] rfl
  exact WK.back (hback1 (i + 1, (IntKind.i64.wrap (nn + ((l[i].length : Nat) : Int)))) _ ⟨H, by omega⟩ (by first | omega | (simp only []; omega))) (by as_aux_lemma => kernel_rfl)
 ·
  refine qR 2 [.c [3, 0], .c [4]] [(0, .slice ax l.length cx), (1, .I x1), (5, .I nn)] ?_
  refine qG (sq 0 2) ?_
  refine qK .seq (some 31) (sq 1 2) 12 #[] (new_spec (S := Av S w [] (idsOf [] []))) ?_
  rintro _ w11 - ⟨db12, x13, y14, rfl, H'⟩
  have H := H.back (M1 := []) (W1 := []) H'
  have H := H.perms (M' := ((diskM db12 (newD x13 y14) none 0))) (W' := [⟨stepS, 143, .slice none ((newD x13 y14).steps.length) 0, (newD x13 y14).steps⟩]) ((List.perm_append_comm (l₁ := diskM db12 (newD x13 y14) none 0) (l₂ := ([] : Heap))).symm) (List.Perm.refl _)
  have H : Hp w S [] ((diskM db12 (newD x13 y14) none 0)) [⟨stepS, 143, .slice none ((newD x13 y14).steps.length) 0, (newD x13 y14).steps⟩] [Rp (Shape.slice SB) [.slice ax l.length cx] l, Fz jQ] _ := H
  have hokdb12 : DOk (newD x13 y14) := newD_ok x13 y14
  refine qF 1 [(0, .slice ax l.length cx), (1, .I x1), (5, .I nn), (7, .P db12 0)] ?_
  refine qR 2 [.c [4, 0, 0], .c [4, 0, 1], .c [5]] [(0, .slice ax l.length cx), (1, .I x1), (5, .I nn), (7, .P db12 0)] ?_
  refine qG (sq 0 11) ?_
  refine qP 7 (sq 7 11) [(0, .slice ax l.length cx), (1, .I x1), (7, .P db12 0), (38, .bool (decide ((nn : Int) > 100000)))] ?_
  refine tD (fun b_ => [(0, .slice ax l.length cx), (1, .I x1), (7, .P db12 0), (38, .bool b_)]) ((nn : Int) > 100000) (fun h15 => ?_) (fun h15 => ?_)
  ·
   refine qF 4 [(0, .slice ax l.length cx), (1, .I x1), (7, .P db12 0), (42, .bool true)] ?_
   refine qR 2 [.c [4, 0, 1, 0, 0], .c [4, 0, 1, 0, 1], .c [5]] [(7, .P db12 0)] ?_
   refine qG (sq 0 6) ?_
   refine qP 3 (sq 3 6) [(45, .bool true)] ?_
   refine qK .seq (some 46) (sq 4 6) 13 #[] (heads_spec (S := fun _ => True) (H.viewF 1 rfl)) ?_
   rintro _ w16 hE17 rfl
   have H := H.ext hE17
   refine qF 2 [(4, .bool true)] ?_
   refine qT (.bool true) Tryz.func3 ?_
   exact ⟨_, rfl, H.done, rfl⟩
  ·
   refine qF 4 [(0, .slice ax l.length cx), (1, .I x1), (7, .P db12 0), (42, .bool (decide ((((l.length : Nat) : Int) : Int) > 200)))] ?_
   refine qD ((((l.length : Nat) : Int) : Int) > 200) (fun h18 => ?_) (fun h18 => ?_)
   ·
    refine qR 1 [.c [4, 0, 1, 0, 0], .c [4, 0, 1, 0, 1], .c [5]] [(7, .P db12 0)] ?_
    refine qG (sq 0 6) ?_
    refine qP 3 (sq 3 6) [(45, .bool true)] ?_
    refine qK .seq (some 46) (sq 4 6) 13 #[] (heads_spec (S := fun _ => True) (H.viewF 1 rfl)) ?_
    rintro _ w19 hE20 rfl
    have H := H.ext hE20
    refine qF 2 [(4, .bool true)] ?_
    refine qT (.bool true) Tryz.func3 ?_
    exact ⟨_, rfl, H.done, rfl⟩
   ·
    omega
set_option maxHeartbeats 4000000 in
theorem grows_few {S : Nat → Prop} {w : World} {l : List (List (BitVec 8))} {ax : Option Addr} {cx : Nat} (x1 : Int) (hl : l.length ≤ 200) (hb : ∀ r ∈ l, r.length ≤ 140737488355328) (hr : (Rp (Shape.slice SB) [.slice ax l.length cx] l).p S w) (hq : (Fz jQ).p S w) :
 Calls Tryz.prog 3 #[.slice ax l.length cx, .I x1] w (Ret fun v w' => Ext w w' ∧ v = .bool true) := by
 have hal := Shape.slice_len hr
 refine qS (fn := Tryz.f3) (n := 153) (σ := [(0, .slice ax l.length cx), (1, .I x1)]) Tryz.func3 ?_
 have H := Hp.startF (w := w) (S := S) (G := [Rp (Shape.slice SB) [.slice ax l.length cx] l, Fz jQ]) (.rp hr (.cons hq .nil))
 refine qR 8 [.c [2, 0, 1, 0], .b 0, .c [3]] [(0, .slice ax l.length cx), (1, .I x1), (5, .I 0), (6, .I 0)] ?_
 refine WK.loop (α := Nat × Nat) (b := cd Tryz.prog 3 [2, 0, 1, 0, 0]) (by as_aux_lemma => kernel_rfl) (fun st_ => match st_ with | (i, n) => [(0, .slice ax l.length cx), (1, .I x1), (5, .I n), (6, .I i)]) (fun st_ w' => match st_ with | (i, n) => Hp w S [] [] [] [Rp (Shape.slice SB) [.slice ax l.length cx] l, Fz jQ] w' ∧ i ≤ l.length ∧ n = sumL (l.take i) ∧ n ≤ 140737488355328 * i) (fun st_ => match st_ with | (i, n) => l.length - i) (0, 0) ⟨H, Nat.zero_le _, rfl, Nat.le_refl _⟩ (rfl) ?_
 rintro ⟨i, n⟩ w2 ⟨H, ⟨hi, hn, hnm⟩⟩ hback1
 refine qR 3 [.c [2, 0, 1, 0, 0, 0, 1], .c [2, 0, 1, 0, 0, 1], .l [2, 0, 1, 0, 0], .b 0, .c [3]] [(0, .slice ax l.length cx), (1, .I x1), (5, .I n), (6, .I i), (21, .bool (decide (((i : Int) : Int) < ((l.length : Nat) : Int))))] ?_
 refine qD (((i : Int) : Int) < ((l.length : Nat) : Int)) (fun h3 => ?_) (fun h3 => ?_)
 ·
  have hli := hb l[i] (List.getElem_mem (by omega))
  have hsn := sumL_snoc (l := l) (i := i) (by omega)
  refine qR 3 [.c [2, 0, 1, 0, 0, 1, 0, 0], .b 1, .c [2, 0, 1, 0, 0, 2], .l [2, 0, 1, 0, 0], .b 0, .c [3]] [(0, .slice ax l.length cx), (1, .I x1), (5, .I n), (6, .I i)] ?_
  refine qG (sq 0 8) ?_
  refine qP 3 (sq 3 8) [(0, .slice ax l.length cx), (1, .I x1), (5, .I n), (6, .I i), (24, .I n), (25, .slice ax l.length cx), (26, .I i)] ?_
  have hx4 : i < l.length := by omega
  refine qX .seq 27 (sq 4 8) 22 23 (i : Int) SB (l[i]) H 0 rfl i (by omega) (List.getElem?_eq_getElem hx4) ?_
  intro b5 o6 es7 hr8 H
  obtain ⟨a9, k10, rfl⟩ := Shape.slice_form' hr8
  have H := H.add (F := Rp SB [.slice a9 (l[i]).length k10] (l[i])) hr8
  refine qL .seq 28 (sq 5 8) 23 b5 o6 0 (.slice a9 (l[i]).length k10) (H.fc 1 rfl) ?_
  refine qP 1 (sq 6 8) [(0, .slice ax l.length cx), (1, .I x1), (5, .I n), (6, .I i), (24, .I n), (29, .I (((l[i]).length : Nat) : Int))] ?_
  refine qI .seq 30 (sq 7 8) ((n : Int) + (((l[i]).length : Nat) : Int)) ?_
  refine qF 1 [(0, .slice ax l.length cx), (1, .I x1), (5, .I ((n : Int) + (((l[i]).length : Nat) : Int))), (6, .I i)] ?_
  refine qR 1 [.c [2, 0, 1, 0, 0, 2], .l [2, 0, 1, 0, 0], .b 0, .c [3]] [(0, .slice ax l.length cx), (1, .I x1), (5, .I ((n : Int) + (((l[i]).length : Nat) : Int))), (6, .I i)] ?_
  refine qG (sq 0 3) ?_
  refine qP 1 (sq 1 3) [(0, .slice ax l.length cx), (1, .I x1), (5, .I ((n : Int) + (((l[i]).length : Nat) : Int))), (6, .I i), (22, .I i)] ?_
  refine qI .seq 23 (sq 2 3) ((i : Int) + 1) ?_
  refine qF 1 [(0, .slice ax l.length cx), (1, .I x1), (5, .I ((n : Int) + (((l[i]).length : Nat) : Int))), (6, .I ((i : Int) + 1))] ?_
  have H := H.pick [2, 3] rfl
  exact WK.back (hback1 (i + 1, n + (l[i]).length) _ ⟨H, by omega, by rw [hsn, hn], by omega⟩ (by first | omega | (simp only []; omega))) (by as_aux_lemma => kernel_rfl)
 ·
  have hn9 : n = sumL l := by rw [hn, List.take_of_length_le (by omega)]
  refine qR 2 [.c [3, 0], .c [4]] [(0, .slice ax l.length cx), (1, .I x1), (5, .I n)] ?_
  refine qG (sq 0 2) ?_
  refine qK .seq (some 31) (sq 1 2) 12 #[] (new_spec (S := Av S w [] (idsOf [] []))) ?_
  rintro _ w11 - ⟨db12, x13, y14, rfl, H'⟩
  have H := H.back (M1 := []) (W1 := []) H'
  have H := H.perms (M' := ((diskM db12 (newD x13 y14) none 0))) (W' := [⟨stepS, 143, .slice none ((newD x13 y14).steps.length) 0, (newD x13 y14).steps⟩]) ((List.perm_append_comm (l₁ := diskM db12 (newD x13 y14) none 0) (l₂ := ([] : Heap))).symm) (List.Perm.refl _)
  have H : Hp w S [] ((diskM db12 (newD x13 y14) none 0)) [⟨stepS, 143, .slice none ((newD x13 y14).steps.length) 0, (newD x13 y14).steps⟩] [Rp (Shape.slice SB) [.slice ax l.length cx] l, Fz jQ] _ := H
  have hokdb12 : DOk (newD x13 y14) := newD_ok x13 y14
  refine qF 1 [(0, .slice ax l.length cx), (1, .I x1), (5, .I n), (7, .P db12 0)] ?_
  refine qR 2 [.c [4, 0, 0], .c [4, 0, 1], .c [5]] [(0, .slice ax l.length cx), (1, .I x1), (5, .I n), (7, .P db12 0)] ?_
  refine qG (sq 0 11) ?_
  refine qP 7 (sq 7 11) [(0, .slice ax l.length cx), (1, .I x1), (7, .P db12 0), (38, .bool (decide (((n : Int) : Int) > 100000)))] ?_
  refine tD (fun b_ => [(0, .slice ax l.length cx), (1, .I x1), (7, .P db12 0), (38, .bool b_)]) (((n : Int) : Int) > 100000) (fun h15 => ?_) (fun h15 => ?_)
  ·
   refine qF 4 [(0, .slice ax l.length cx), (1, .I x1), (7, .P db12 0), (42, .bool true)] ?_
   refine qR 2 [.c [4, 0, 1, 0, 0], .c [4, 0, 1, 0, 1], .c [5]] [(7, .P db12 0)] ?_
   refine qG (sq 0 6) ?_
   refine qP 3 (sq 3 6) [(45, .bool true)] ?_
   refine qK .seq (some 46) (sq 4 6) 13 #[] (heads_spec (S := fun _ => True) (H.viewF 1 rfl)) ?_
   rintro _ w16 hE17 rfl
   have H := H.ext hE17
   refine qF 2 [(4, .bool true)] ?_
   refine qT (.bool true) Tryz.func3 ?_
   exact ⟨_, rfl, H.done, rfl⟩
  ·
   refine qF 4 [(0, .slice ax l.length cx), (1, .I x1), (7, .P db12 0), (42, .bool (decide ((((l.length : Nat) : Int) : Int) > 200)))] ?_
   refine qD ((((l.length : Nat) : Int) : Int) > 200) (fun h18 => ?_) (fun h18 => ?_)
   ·
    omega
   ·
    refine qR 2 [.c [5, 0], .c [6]] [(0, .slice ax l.length cx), (1, .I x1), (7, .P db12 0)] ?_
    refine qG (sq 0 7) ?_
    refine qP 1 (sq 1 7) [(0, .slice ax l.length cx), (1, .I x1), (7, .P db12 0), (49, .P db12 0)] ?_
    have hcw0 := newD_CW x13 y14 ⟨#[106]⟩
    have hna0 : (newD x13 y14).armed = false := rfl
    have H := H.perms (M' := diskM db12 (newD x13 y14) none 0 ++ []) (W' := [⟨stepS, 143, .slice none ((newD x13 y14).steps.length) 0, (newD x13 y14).steps⟩]) (List.perm_append_comm (l₁ := diskM db12 (newD x13 y14) none 0) (l₂ := ([] : Heap))) (List.Perm.refl _)
    refine RW.callS (d := some 50) (r := (sq 2 7)) (g := 14) (args := #[.P db12 0, .string (⟨#[106]⟩ : ByteArray)]) (by as_aux_lemma => kernel_rfl) (jopen_law (n := 100000000) (m := 0) plainJ hcw0.di (hcw0.al.mono (by omega)) hcw0.op hcw0.cap (by omega) (fun B R h => CW.hb0 h) ((H.lend (M1 := diskM db12 (newD x13 y14) none 0) (W1 := [⟨stepS, 143, .slice none ((newD x13 y14).steps.length) 0, (newD x13 y14).steps⟩])).pick [1] rfl)) ?_
    rintro _ w19 (⟨jb20, B21, R22, g23, ab24, cb25, ar26, cr27, D28, sa29, sk30, rfl, hq31, hW32, hS33, H'⟩ | ⟨D28, sa29, sk30, rfl, hQ34, hr35, H'⟩)
    rotate_left
    · exact absurd (hr35) (by rw [hna0]; nofun)
    obtain ⟨hB9, hR9⟩ := found_new hq31
    subst hB9
    subst hR9
    have H := H.back (M1 := diskM db12 (newD x13 y14) none 0) (W1 := [⟨stepS, 143, .slice none ((newD x13 y14).steps.length) 0, (newD x13 y14).steps⟩]) H'
    have H := H.perms (M' := ((jb20, .cells #[.P db12 0, .string (⟨#[106]⟩ : ByteArray), .slice ab24 (([] : List (BitVec 8)).length) cb25, .slice ar26 (([] : List (List (BitVec 8))).length) cr27, .I g23, .string (⟨#[]⟩ : ByteArray), .slice none (([] : List (BitVec 8)).length) 0, .bool true] 41 (0, 0)) :: (diskM db12 D28 sa29 sk30))) (W' := [⟨SB, 23, .slice ar26 (([] : List (List (BitVec 8))).length) cr27, ([] : List (List (BitVec 8)))⟩, ⟨stepS, 143, .slice sa29 D28.steps.length sk30, D28.steps⟩]) ((List.perm_append_comm (l₁ := ([] : Heap)) (l₂ := diskM db12 D28 sa29 sk30)).cons _) (List.Perm.refl _)
    have H : Hp w S [] ((jb20, .cells #[.P db12 0, .string (⟨#[106]⟩ : ByteArray), .slice ab24 (([] : List (BitVec 8)).length) cb25, .slice ar26 (([] : List (List (BitVec 8))).length) cr27, .I g23, .string (⟨#[]⟩ : ByteArray), .slice none (([] : List (BitVec 8)).length) 0, .bool true] 41 (0, 0)) :: (diskM db12 D28 sa29 sk30)) [⟨SB, 23, .slice ar26 (([] : List (List (BitVec 8))).length) cr27, ([] : List (List (BitVec 8)))⟩, ⟨stepS, 143, .slice sa29 D28.steps.length sk30, D28.steps⟩] [Rp SB [.slice ab24 (([] : List (BitVec 8)).length) cb25] ([] : List (BitVec 8)), Rp SB [.slice none (([] : List (BitVec 8)).length) 0] ([] : List (BitVec 8)), Rp (Shape.slice SB) [.slice ax l.length cx] l, Fz jQ] _ := H
    have hna36 := hS33.arm.trans hna0
    refine qF 5 [(0, .slice ax l.length cx), (1, .I x1), (7, .P db12 0), (8, .P jb20 0), (9, .I 0)] ?_
    refine qR 13 [.c [9, 0, 1, 0], .b 2, .c [10]] [(0, .slice ax l.length cx), (1, .I x1), (7, .P db12 0), (8, .P jb20 0), (10, .slice none 0 0), (11, .slice none 0 0), (12, .I 0)] ?_
    have H := H.ownNil SB 23
    have H : Hp w S [] ((jb20, .cells #[.P db12 0, .string (⟨#[106]⟩ : ByteArray), .slice ab24 (([] : List (BitVec 8)).length) cb25, .slice ar26 (([] : List (List (BitVec 8))).length) cr27, .I g23, .string (⟨#[]⟩ : ByteArray), .slice none (([] : List (BitVec 8)).length) 0, .bool true] 41 (0, 0)) :: (diskM db12 D28 sa29 sk30)) [⟨SB, 23, .slice none (([] : List (List (BitVec 8))).length) 0, ([] : List (List (BitVec 8)))⟩, ⟨SB, 23, .slice ar26 (([] : List (List (BitVec 8))).length) cr27, ([] : List (List (BitVec 8)))⟩, ⟨stepS, 143, .slice sa29 D28.steps.length sk30, D28.steps⟩] [Rp SB [.slice ab24 (([] : List (BitVec 8)).length) cb25] ([] : List (BitVec 8)), Rp SB [.slice none (([] : List (BitVec 8)).length) 0] ([] : List (BitVec 8)), Rp (Shape.slice SB) [.slice ax l.length cx] l, Fz jQ] _ := H
    have H := H.add (F := Rp SB [.slice none 0 0] ([] : List (BitVec 8))) Shape.slice_nil
    have H := H.pick [3, 4, 1, 2, 2] rfl
    have H := H.frontW 2 (W' := [⟨stepS, 143, .slice sa29 D28.steps.length sk30, D28.steps⟩, ⟨SB, 23, .slice none (([] : List (List (BitVec 8))).length) 0, ([] : List (List (BitVec 8)))⟩, ⟨SB, 23, .slice ar26 (([] : List (List (BitVec 8))).length) cr27, ([] : List (List (BitVec 8)))⟩]) rfl
    have H := H.frontW 1 (W' := [⟨SB, 23, .slice none (([] : List (List (BitVec 8))).length) 0, ([] : List (List (BitVec 8)))⟩, ⟨stepS, 143, .slice sa29 D28.steps.length sk30, D28.steps⟩, ⟨SB, 23, .slice ar26 (([] : List (List (BitVec 8))).length) cr27, ([] : List (List (BitVec 8)))⟩]) rfl
    have H := H.frontW 2 (W' := [⟨SB, 23, .slice ar26 (([] : List (List (BitVec 8))).length) cr27, ([] : List (List (BitVec 8)))⟩, ⟨SB, 23, .slice none (([] : List (List (BitVec 8))).length) 0, ([] : List (List (BitVec 8)))⟩, ⟨stepS, 143, .slice sa29 D28.steps.length sk30, D28.steps⟩]) rfl
    refine WK.loop (α := Nat × DiskD × Option Addr × Nat × List (BitVec 8) × List (List (BitVec 8)) × List (List (BitVec 8)) × Nat × ByteArray × List (BitVec 8) × Bool × Option Addr × Nat × Option Addr × Nat × Option Addr × Nat × Option Addr × Nat × Option Addr × Nat) (b := cd Tryz.prog 3 [9, 0, 1, 0, 0]) (by as_aux_lemma => kernel_rfl) (fun st_ => match st_ with | (i, D, sa, sk, B, R0, R, g, seg, σ, sy, ab, cb, ar, cr, aσ, cσ, aw, cw, aB, cB) => [(0, .slice ax l.length cx), (1, .I x1), (7, .P db12 0), (8, .P jb20 0), (10, .slice aw R.length cw), (11, .slice aB B.length cB), (12, .I i)]) (fun st_ w' => match st_ with | (i, D, sa, sk, B, R0, R, g, seg, σ, sy, ab, cb, ar, cr, aσ, cσ, aw, cw, aB, cB) => Hp w S [] ((jb20, .cells #[.P db12 0, .string (⟨#[106]⟩ : ByteArray), .slice ab B.length cb, .slice ar R.length cr, .I g, .string seg, .slice aσ σ.length cσ, .bool sy] 41 (0, 0)) :: (diskM db12 D sa sk)) [⟨SB, 23, .slice ar R.length cr, R⟩, ⟨SB, 23, .slice aw R.length cw, R⟩, ⟨stepS, 143, .slice sa D.steps.length sk, D.steps⟩] [Rp (Shape.slice SB) [.slice ax l.length cx] l, Fz jQ, Rp SB [.slice ab B.length cb] B, Rp SB [.slice aσ σ.length cσ] σ, Rp SB [.slice aB B.length cB] B] w' ∧ i ≤ l.length ∧ JW D (⟨#[106]⟩ : ByteArray) B R0 R g seg σ sy (300000 * (210 - i)) (i + 1) (sumL (l.take i) + 12 * i) ∧ D.armed = false) (fun st_ => match st_ with | (i, D, sa, sk, B, R0, R, g, seg, σ, sy, ab, cb, ar, cr, aσ, cσ, aw, cw, aB, cB) => l.length - i) (0, D28, sa29, sk30, ([] : List (BitVec 8)), ([] : List (List (BitVec 8))), ([] : List (List (BitVec 8))), g23, (⟨#[]⟩ : ByteArray), ([] : List (BitVec 8)), true, ab24, cb25, ar26, cr27, none, 0, none, 0, none, 0) ⟨H, Nat.zero_le _, hW32.mono (by omega) (by omega) (by omega), hna36⟩ (rfl) ?_
    rintro ⟨i, D, sa, sk, B, R0, R, g, seg, σ, sy, ab, cb, ar, cr, aσ, cσ, aw, cw, aB, cB⟩ w38 ⟨H, ⟨hi, hW, hna⟩⟩ hback37
    refine qR 3 [.c [9, 0, 1, 0, 0, 0, 1], .c [9, 0, 1, 0, 0, 1], .l [9, 0, 1, 0, 0], .b 2, .c [10]] [(0, .slice ax l.length cx), (1, .I x1), (7, .P db12 0), (8, .P jb20 0), (10, .slice aw R.length cw), (11, .slice aB B.length cB), (12, .I i), (62, .bool (decide (((i : Int) : Int) < ((l.length : Nat) : Int))))] ?_
    refine qD (((i : Int) : Int) < ((l.length : Nat) : Int)) (fun h39 => ?_) (fun h39 => ?_)
    ·
     have hRl := hW.rl
     have hsn := sumL_snoc (l := l) (i := i) (by omega)
     have hsg := sumL_get (l := l) (i := i) (by omega)
     refine qR 6 [.c [9, 0, 1, 0, 0, 1, 0, 0, 0, 1], .c [9, 0, 1, 0, 0, 1, 0, 0, 1], .b 3, .c [9, 0, 1, 0, 0, 2], .l [9, 0, 1, 0, 0], .b 2, .c [10]] [(0, .slice ax l.length cx), (1, .I x1), (7, .P db12 0), (8, .P jb20 0), (10, .slice aw R.length cw), (11, .slice aB B.length cB), (12, .I i), (67, .bool ((i : Int) == x1))] ?_
     refine qE (i : Int) x1 (fun h40 => ?_) (fun h40 => ?_)
     ·
      refine qR 1 [.c [9, 0, 1, 0, 0, 1, 0, 0, 0, 1, 0, 0], .c [9, 0, 1, 0, 0, 1, 0, 0, 0, 1, 0, 1], .c [9, 0, 1, 0, 0, 1, 0, 0, 1], .b 3, .c [9, 0, 1, 0, 0, 2], .l [9, 0, 1, 0, 0], .b 2, .c [10]] [(0, .slice ax l.length cx), (1, .I x1), (7, .P db12 0), (8, .P jb20 0), (12, .I i)] ?_
      refine qG (sq 0 6) ?_
      refine qP 2 (sq 2 6) [(0, .slice ax l.length cx), (1, .I x1), (7, .P db12 0), (8, .P jb20 0), (12, .I i), (68, .slice ax l.length cx), (69, .I i)] ?_
      have hx41 : i < l.length := by omega
      refine qX .seq 70 (sq 3 6) 22 23 (i : Int) SB (l[i]) H 0 rfl i (by omega) (List.getElem?_eq_getElem hx41) ?_
      intro b42 o43 es44 hr45 H
      obtain ⟨a46, k47, rfl⟩ := Shape.slice_form' hr45
      have H := H.add (F := Rp SB [.slice a46 (l[i]).length k47] (l[i])) hr45
      refine qL .seq 71 (sq 4 6) 23 b42 o43 0 (.slice a46 (l[i]).length k47) (H.fc 1 rfl) ?_
      refine qF 2 [(0, .slice ax l.length cx), (1, .I x1), (7, .P db12 0), (8, .P jb20 0), (10, .slice none 0 0), (11, .slice a46 (l[i]).length k47), (12, .I i)] ?_
      refine qR 2 [.c [9, 0, 1, 0, 0, 1, 0, 0, 0, 1, 0, 1, 0, 0], .c [9, 0, 1, 0, 0, 1, 0, 0, 0, 1, 0, 1, 0, 1], .c [9, 0, 1, 0, 0, 1, 0, 0, 0, 1, 0, 2], .c [9, 0, 1, 0, 0, 1, 0, 0, 1], .b 3, .c [9, 0, 1, 0, 0, 2], .l [9, 0, 1, 0, 0], .b 2, .c [10]] [(0, .slice ax l.length cx), (1, .I x1), (7, .P db12 0), (8, .P jb20 0), (10, .slice none 0 0), (11, .slice a46 (l[i]).length k47), (12, .I i)] ?_
      refine qG (sq 0 7) ?_
      refine qP 3 (sq 3 7) [(0, .slice ax l.length cx), (1, .I x1), (7, .P db12 0), (8, .P jb20 0), (10, .slice none 0 0), (11, .slice a46 (l[i]).length k47), (12, .I i), (72, .P jb20 0), (73, .slice ax l.length cx), (74, .I i)] ?_
      have hx48 : i < l.length := by omega
      refine qX .seq 75 (sq 4 7) 22 23 (i : Int) SB (l[i]) H 2 rfl i (by omega) (List.getElem?_eq_getElem hx48) ?_
      intro b49 o50 es51 hr52 H
      obtain ⟨a53, k54, rfl⟩ := Shape.slice_form' hr52
      have H := H.add (F := Rp SB [.slice a53 (l[i]).length k54] (l[i])) hr52
      refine qL .seq 76 (sq 5 7) 23 b49 o50 0 (.slice a53 (l[i]).length k54) (H.fc 1 rfl) ?_
      have H := H.frontW 2 (W' := [⟨stepS, 143, .slice sa D.steps.length sk, D.steps⟩, ⟨SB, 23, .slice ar R.length cr, R⟩, ⟨SB, 23, .slice aw R.length cw, R⟩]) rfl
      have H := H.frontW 1 (W' := [⟨SB, 23, .slice ar R.length cr, R⟩, ⟨stepS, 143, .slice sa D.steps.length sk, D.steps⟩, ⟨SB, 23, .slice aw R.length cw, R⟩]) rfl
      have H := H.perms (M' := ((jb20, .cells #[.P db12 0, .string (⟨#[106]⟩ : ByteArray), .slice ab B.length cb, .slice ar R.length cr, .I g, .string seg, .slice aσ σ.length cσ, .bool sy] 41 (0, 0)) :: diskM db12 D sa sk) ++ []) (W' := [⟨SB, 23, .slice ar R.length cr, R⟩, ⟨stepS, 143, .slice sa D.steps.length sk, D.steps⟩, ⟨SB, 23, .slice aw R.length cw, R⟩]) ((List.perm_append_comm (l₁ := diskM db12 D sa sk) (l₂ := ([] : Heap))).cons _) (List.Perm.refl _)
      refine RW.callS (d := some 77) (r := (sq 6 7)) (g := 15) (args := #[.P jb20 0, .slice a53 (l[i]).length k54]) (by as_aux_lemma => kernel_rfl) (jcheck_spec (b := l[i]) (n := ((300000 * (210 - i)) - 300000)) hW.pl hW.di (hW.al.mono (by omega)) hW.jl (Nat.lt_of_le_of_lt hW.gm (by omega)) (by omega) (Nat.lt_of_le_of_lt hW.now (by omega)) ((H.lend (M1 := ((jb20, .cells #[.P db12 0, .string (⟨#[106]⟩ : ByteArray), .slice ab B.length cb, .slice ar R.length cr, .I g, .string seg, .slice aσ σ.length cσ, .bool sy] 41 (0, 0)) :: diskM db12 D sa sk)) (W1 := [⟨SB, 23, .slice ar R.length cr, R⟩, ⟨stepS, 143, .slice sa D.steps.length sk, D.steps⟩])).pick [6, 7, 5, 0] rfl)) ?_
      rintro _ w55 (⟨rfl, ab60, cb61, D62, sa63, sk64, hJ65, hd66, ha67, hs68, hc69, H'⟩ | ⟨y56, y57, y58, y59, D62, sa63, sk64, rfl, hQ70, H'⟩)
      rotate_left
      · exact absurd (hQ70.arm) (by rw [hna]; nofun)
      have hW71 := hW.chk (by omega) hJ65 hd66 ha67 hc69
      have H := H.back (M1 := ((jb20, .cells #[.P db12 0, .string (⟨#[106]⟩ : ByteArray), .slice ab B.length cb, .slice ar R.length cr, .I g, .string seg, .slice aσ σ.length cσ, .bool sy] 41 (0, 0)) :: diskM db12 D sa sk)) (W1 := [⟨SB, 23, .slice ar R.length cr, R⟩, ⟨stepS, 143, .slice sa D.steps.length sk, D.steps⟩]) H'
      have H := H.perms (M' := ((jb20, .cells #[.P db12 0, .string (⟨#[106]⟩ : ByteArray), .slice ab60 (l[i]).length cb61, .slice none (([] : List (List (BitVec 8))).length) 0, .I (((g + 1) : Nat) : Int), .string (⟨#[]⟩ : ByteArray), .slice none (([] : List (BitVec 8)).length) 0, .bool true] 41 (0, 0)) :: (diskM db12 D62 sa63 sk64))) (W' := [⟨SB, 23, .slice none (([] : List (List (BitVec 8))).length) 0, ([] : List (List (BitVec 8)))⟩, ⟨stepS, 143, .slice sa63 D62.steps.length sk64, D62.steps⟩, ⟨SB, 23, .slice aw R.length cw, R⟩]) ((List.perm_append_comm (l₁ := ([] : Heap)) (l₂ := diskM db12 D62 sa63 sk64)).cons _) (List.Perm.refl _)
      have H : Hp w S [] ((jb20, .cells #[.P db12 0, .string (⟨#[106]⟩ : ByteArray), .slice ab60 (l[i]).length cb61, .slice none (([] : List (List (BitVec 8))).length) 0, .I (((g + 1) : Nat) : Int), .string (⟨#[]⟩ : ByteArray), .slice none (([] : List (BitVec 8)).length) 0, .bool true] 41 (0, 0)) :: (diskM db12 D62 sa63 sk64)) [⟨SB, 23, .slice none (([] : List (List (BitVec 8))).length) 0, ([] : List (List (BitVec 8)))⟩, ⟨stepS, 143, .slice sa63 D62.steps.length sk64, D62.steps⟩, ⟨SB, 23, .slice aw R.length cw, R⟩] [Rp SB [.slice ab60 (l[i]).length cb61] (l[i]), Rp SB [.slice none (([] : List (BitVec 8)).length) 0] ([] : List (BitVec 8)), Rp SB [.slice a53 (l[i]).length k54] (l[i]), Fc b49 o50 [.slice a53 (l[i]).length k54], Rp SB [.slice a46 (l[i]).length k47] (l[i]), Fc b42 o43 [.slice a46 (l[i]).length k47], Rp (Shape.slice SB) [.slice ax l.length cx] l, Fz jQ, Rp SB [.slice ab B.length cb] B, Rp SB [.slice aσ σ.length cσ] σ, Rp SB [.slice aB B.length cB] B] _ := H
      have hna72 := hs68.arm.trans hna
      refine qF 1 [(0, .slice ax l.length cx), (1, .I x1), (7, .P db12 0), (8, .P jb20 0), (10, .slice none 0 0), (11, .slice a46 (l[i]).length k47), (12, .I i), (78, .bool false)] ?_
      refine qR 3 [.c [9, 0, 1, 0, 0, 2], .l [9, 0, 1, 0, 0], .b 2, .c [10]] [(0, .slice ax l.length cx), (1, .I x1), (7, .P db12 0), (8, .P jb20 0), (10, .slice none 0 0), (11, .slice a46 (l[i]).length k47), (12, .I i)] ?_
      refine qG (sq 0 3) ?_
      refine qP 1 (sq 1 3) [(0, .slice ax l.length cx), (1, .I x1), (7, .P db12 0), (8, .P jb20 0), (10, .slice none 0 0), (11, .slice a46 (l[i]).length k47), (12, .I i), (63, .I i)] ?_
      refine qI .seq 64 (sq 2 3) ((i : Int) + 1) ?_
      refine qF 1 [(0, .slice ax l.length cx), (1, .I x1), (7, .P db12 0), (8, .P jb20 0), (10, .slice none 0 0), (11, .slice a46 (l[i]).length k47), (12, .I ((i : Int) + 1))] ?_
      have H := H.ownNil SB 23
      have H : Hp w S [] ((jb20, .cells #[.P db12 0, .string (⟨#[106]⟩ : ByteArray), .slice ab60 (l[i]).length cb61, .slice none (([] : List (List (BitVec 8))).length) 0, .I (((g + 1) : Nat) : Int), .string (⟨#[]⟩ : ByteArray), .slice none (([] : List (BitVec 8)).length) 0, .bool true] 41 (0, 0)) :: (diskM db12 D62 sa63 sk64)) [⟨SB, 23, .slice none (([] : List (List (BitVec 8))).length) 0, ([] : List (List (BitVec 8)))⟩, ⟨SB, 23, .slice none (([] : List (List (BitVec 8))).length) 0, ([] : List (List (BitVec 8)))⟩, ⟨stepS, 143, .slice sa63 D62.steps.length sk64, D62.steps⟩, ⟨SB, 23, .slice aw R.length cw, R⟩] [Rp SB [.slice ab60 (l[i]).length cb61] (l[i]), Rp SB [.slice none (([] : List (BitVec 8)).length) 0] ([] : List (BitVec 8)), Rp SB [.slice a53 (l[i]).length k54] (l[i]), Fc b49 o50 [.slice a53 (l[i]).length k54], Rp SB [.slice a46 (l[i]).length k47] (l[i]), Fc b42 o43 [.slice a46 (l[i]).length k47], Rp (Shape.slice SB) [.slice ax l.length cx] l, Fz jQ, Rp SB [.slice ab B.length cb] B, Rp SB [.slice aσ σ.length cσ] σ, Rp SB [.slice aB B.length cB] B] _ := H
      have H := H.pick [6, 7, 0, 1, 4] rfl
      have H := H.drop (M' := ((jb20, .cells #[.P db12 0, .string (⟨#[106]⟩ : ByteArray), .slice ab60 (l[i]).length cb61, .slice none ([] : List (List (BitVec 8))).length 0, .I ((g + 1) : Int), .string (⟨#[]⟩ : ByteArray), .slice none ([] : List (BitVec 8)).length 0, .bool true] 41 (0, 0)) :: (diskM db12 D62 sa63 sk64))) (W' := [⟨SB, 23, .slice none ([] : List (List (BitVec 8))).length 0, ([] : List (List (BitVec 8)))⟩, ⟨SB, 23, .slice none ([] : List (List (BitVec 8))).length 0, ([] : List (List (BitVec 8)))⟩, ⟨stepS, 143, .slice sa63 D62.steps.length sk64, D62.steps⟩]) (by repeat (first | exact List.Sublist.refl _ | apply List.Sublist.cons_cons | apply List.Sublist.cons)) (by repeat (first | exact List.Sublist.refl _ | apply List.Sublist.cons_cons | apply List.Sublist.cons))
      exact WK.back (hback37 (i + 1, D62, sa63, sk64, l[i], ([] : List (List (BitVec 8))), ([] : List (List (BitVec 8))), (g + 1), (⟨#[]⟩ : ByteArray), ([] : List (BitVec 8)), true, ab60, cb61, none, 0, none, 0, none, 0, a46, k47) _ ⟨H, by omega, hW71.mono (by omega) (by omega) (by rw [hsn]; omega), hna72⟩ (by first | omega | (simp only []; omega))) (by as_aux_lemma => kernel_rfl)
     ·
      refine qR 2 [.c [9, 0, 1, 0, 0, 1, 0, 0, 1, 0], .c [9, 0, 1, 0, 0, 1, 0, 0, 2], .b 3, .c [9, 0, 1, 0, 0, 2], .l [9, 0, 1, 0, 0], .b 2, .c [10]] [(0, .slice ax l.length cx), (1, .I x1), (7, .P db12 0), (8, .P jb20 0), (10, .slice aw R.length cw), (11, .slice aB B.length cB), (12, .I i)] ?_
      refine qG (sq 0 8) ?_
      refine qP 3 (sq 3 8) [(0, .slice ax l.length cx), (1, .I x1), (7, .P db12 0), (8, .P jb20 0), (10, .slice aw R.length cw), (11, .slice aB B.length cB), (12, .I i), (79, .slice aw R.length cw), (80, .slice ax l.length cx), (81, .I i)] ?_
      have hx73 : i < l.length := by omega
      refine qX .seq 82 (sq 4 8) 22 23 (i : Int) SB (l[i]) H 0 rfl i (by omega) (List.getElem?_eq_getElem hx73) ?_
      intro b74 o75 es76 hr77 H
      obtain ⟨a78, k79, rfl⟩ := Shape.slice_form' hr77
      have H := H.add (F := Rp SB [.slice a78 (l[i]).length k79] (l[i])) hr77
      refine qL .seq 83 (sq 5 8) 23 b74 o75 0 (.slice a78 (l[i]).length k79) (H.fc 1 rfl) ?_
      refine RW.new (κ := .seq) (d := some 84) (r := (sq 6 8)) (o := .cells #[.slice a78 (l[i]).length k79] 23 (0, 0)) (v := fun b => .slice (some ⟨b, 0, none⟩) 1 1) (fun b => by as_aux_lemma => kernel_rfl) (nofun) H ?_
      intro b80 w81 H
      have H := H.freeze 0 rfl SB ([l[i]] : List (List (BitVec 8))) 1 (by simp [maxLen]) (by first | exact Nat.le_refl _ | simp) (EsP.cons (c := [.slice a78 (l[i]).length k79]) (H.rp 0 rfl) EsP.nil)
      have H : Hp w S [] ((jb20, .cells #[.P db12 0, .string (⟨#[106]⟩ : ByteArray), .slice ab B.length cb, .slice ar R.length cr, .I g, .string seg, .slice aσ σ.length cσ, .bool sy] 41 (0, 0)) :: (diskM db12 D sa sk)) [⟨SB, 23, .slice ar R.length cr, R⟩, ⟨SB, 23, .slice aw R.length cw, R⟩, ⟨stepS, 143, .slice sa D.steps.length sk, D.steps⟩] [Rp (Shape.slice SB) [.slice (some ⟨b80, 0, none⟩) 1 1] ([l[i]] : List (List (BitVec 8))), Rp SB [.slice a78 (l[i]).length k79] (l[i]), Fc b74 o75 [.slice a78 (l[i]).length k79], Rp (Shape.slice SB) [.slice ax l.length cx] l, Fz jQ, Rp SB [.slice ab B.length cb] B, Rp SB [.slice aσ σ.length cσ] σ, Rp SB [.slice aB B.length cB] B] _ := H
      refine RW.appendW (d := some 85) (r := (sq 7 8)) (T := 22) (ty := 22) (e := 23) (m := 1) (by_ := 24) (v := .slice aw R.length cw) (a2 := (some ⟨b80, 0, none⟩)) (l2 := 1) (c2 := 1) (zs := (R ++ [l[i]])) (by as_aux_lemma => kernel_rfl) (by as_aux_lemma => kernel_rfl) rfl H 1 rfl 0 rfl (rfl) (by have := hW.rl; rw [List.length_append]; simp only [List.length_cons, List.length_nil]; omega) ?_
      intro a82 c83 w85 H hc84
      have H : Hp w S [] ((jb20, .cells #[.P db12 0, .string (⟨#[106]⟩ : ByteArray), .slice ab B.length cb, .slice ar R.length cr, .I g, .string seg, .slice aσ σ.length cσ, .bool sy] 41 (0, 0)) :: (diskM db12 D sa sk)) [⟨SB, 23, .slice ar R.length cr, R⟩, ⟨SB, 23, .slice a82 (R ++ [l[i]]).length c83, (R ++ [l[i]])⟩, ⟨stepS, 143, .slice sa D.steps.length sk, D.steps⟩] [Rp (Shape.slice SB) [.slice (some ⟨b80, 0, none⟩) 1 1] ([l[i]] : List (List (BitVec 8))), Rp SB [.slice a78 (l[i]).length k79] (l[i]), Fc b74 o75 [.slice a78 (l[i]).length k79], Rp (Shape.slice SB) [.slice ax l.length cx] l, Fz jQ, Rp SB [.slice ab B.length cb] B, Rp SB [.slice aσ σ.length cσ] σ, Rp SB [.slice aB B.length cB] B] _ := H
      refine qF 1 [(0, .slice ax l.length cx), (1, .I x1), (7, .P db12 0), (8, .P jb20 0), (10, .slice a82 (R ++ [l[i]]).length c83), (11, .slice aB B.length cB), (12, .I i)] ?_
      refine qR 1 [.c [9, 0, 1, 0, 0, 1, 0, 0, 2, 0], .c [9, 0, 1, 0, 0, 1, 0, 0, 3], .b 3, .c [9, 0, 1, 0, 0, 2], .l [9, 0, 1, 0, 0], .b 2, .c [10]] [(0, .slice ax l.length cx), (1, .I x1), (7, .P db12 0), (8, .P jb20 0), (10, .slice a82 (R ++ [l[i]]).length c83), (11, .slice aB B.length cB), (12, .I i)] ?_
      refine qG (sq 0 7) ?_
      refine qP 3 (sq 3 7) [(0, .slice ax l.length cx), (1, .I x1), (7, .P db12 0), (8, .P jb20 0), (10, .slice a82 (R ++ [l[i]]).length c83), (11, .slice aB B.length cB), (12, .I i), (86, .P jb20 0), (87, .slice ax l.length cx), (88, .I i)] ?_
      have hx86 : i < l.length := by omega
      refine qX .seq 89 (sq 4 7) 22 23 (i : Int) SB (l[i]) H 3 rfl i (by omega) (List.getElem?_eq_getElem hx86) ?_
      intro b87 o88 es89 hr90 H
      obtain ⟨a91, k92, rfl⟩ := Shape.slice_form' hr90
      have H := H.add (F := Rp SB [.slice a91 (l[i]).length k92] (l[i])) hr90
      refine qL .seq 90 (sq 5 7) 23 b87 o88 0 (.slice a91 (l[i]).length k92) (H.fc 1 rfl) ?_
      have H := H.frontW 2 (W' := [⟨stepS, 143, .slice sa D.steps.length sk, D.steps⟩, ⟨SB, 23, .slice ar R.length cr, R⟩, ⟨SB, 23, .slice a82 (R ++ [l[i]]).length c83, (R ++ [l[i]])⟩]) rfl
      have H := H.frontW 1 (W' := [⟨SB, 23, .slice ar R.length cr, R⟩, ⟨stepS, 143, .slice sa D.steps.length sk, D.steps⟩, ⟨SB, 23, .slice a82 (R ++ [l[i]]).length c83, (R ++ [l[i]])⟩]) rfl
      have H := H.perms (M' := ((jb20, .cells #[.P db12 0, .string (⟨#[106]⟩ : ByteArray), .slice ab B.length cb, .slice ar R.length cr, .I g, .string seg, .slice aσ σ.length cσ, .bool sy] 41 (0, 0)) :: diskM db12 D sa sk) ++ []) (W' := [⟨SB, 23, .slice ar R.length cr, R⟩, ⟨stepS, 143, .slice sa D.steps.length sk, D.steps⟩, ⟨SB, 23, .slice a82 (R ++ [l[i]]).length c83, (R ++ [l[i]])⟩]) ((List.perm_append_comm (l₁ := diskM db12 D sa sk) (l₂ := ([] : Heap))).cons _) (List.Perm.refl _)
      refine RW.callS (d := some 91) (r := (sq 6 7)) (g := 16) (args := #[.P jb20 0, .slice a91 (l[i]).length k92]) (by as_aux_lemma => kernel_rfl) (jappend_spec (r := l[i]) (n := ((300000 * (210 - i)) - 300000)) hW.pl hW.di (hW.al.mono (by omega)) hW.jl (Nat.lt_of_le_of_lt hW.gm (by omega)) (by omega) (by have := hW.sl; omega) (Nat.le_trans hW.rl (by omega)) (Nat.lt_of_le_of_lt hW.now (by omega)) ((H.lend (M1 := ((jb20, .cells #[.P db12 0, .string (⟨#[106]⟩ : ByteArray), .slice ab B.length cb, .slice ar R.length cr, .I g, .string seg, .slice aσ σ.length cσ, .bool sy] 41 (0, 0)) :: diskM db12 D sa sk)) (W1 := [⟨SB, 23, .slice ar R.length cr, R⟩, ⟨stepS, 143, .slice sa D.steps.length sk, D.steps⟩])).pick [7, 8, 6, 0] rfl)) ?_
      rintro _ w93 (⟨rfl, g98, seg99, ar100, cr101, aσ102, cs103, D104, sa105, sk106, hJ107, hg108, hd109, ha110, hs111, hc112, hdr113, H'⟩ | ⟨y94, y95, y96, y97, D104, sa105, sk106, rfl, hQ114, H'⟩)
      rotate_left
      · exact absurd (hQ114.arm) (by rw [hna]; nofun)
      have hW115 := hW.app (by omega) hJ107 hg108 hd109 ha110 hc112
      have H := H.back (M1 := ((jb20, .cells #[.P db12 0, .string (⟨#[106]⟩ : ByteArray), .slice ab B.length cb, .slice ar R.length cr, .I g, .string seg, .slice aσ σ.length cσ, .bool sy] 41 (0, 0)) :: diskM db12 D sa sk)) (W1 := [⟨SB, 23, .slice ar R.length cr, R⟩, ⟨stepS, 143, .slice sa D.steps.length sk, D.steps⟩]) H'
      have H := H.perms (M' := ((jb20, .cells #[.P db12 0, .string (⟨#[106]⟩ : ByteArray), .slice ab B.length cb, .slice ar100 (R ++ [l[i]]).length cr101, .I g98, .string seg99, .slice aσ102 ((σ ++ frameF (l[i])).length) cs103, .bool false] 41 (0, 0)) :: (diskM db12 D104 sa105 sk106))) (W' := [⟨SB, 23, .slice ar100 (R ++ [l[i]]).length cr101, (R ++ [l[i]])⟩, ⟨stepS, 143, .slice sa105 D104.steps.length sk106, D104.steps⟩, ⟨SB, 23, .slice a82 (R ++ [l[i]]).length c83, (R ++ [l[i]])⟩]) ((List.perm_append_comm (l₁ := ([] : Heap)) (l₂ := diskM db12 D104 sa105 sk106)).cons _) (List.Perm.refl _)
      have H : Hp w S [] ((jb20, .cells #[.P db12 0, .string (⟨#[106]⟩ : ByteArray), .slice ab B.length cb, .slice ar100 (R ++ [l[i]]).length cr101, .I g98, .string seg99, .slice aσ102 ((σ ++ frameF (l[i])).length) cs103, .bool false] 41 (0, 0)) :: (diskM db12 D104 sa105 sk106)) [⟨SB, 23, .slice ar100 (R ++ [l[i]]).length cr101, (R ++ [l[i]])⟩, ⟨stepS, 143, .slice sa105 D104.steps.length sk106, D104.steps⟩, ⟨SB, 23, .slice a82 (R ++ [l[i]]).length c83, (R ++ [l[i]])⟩] [Rp SB [.slice ab B.length cb] B, Rp SB [.slice aσ102 ((σ ++ frameF (l[i])).length) cs103] (σ ++ frameF (l[i])), Rp SB [.slice a91 (l[i]).length k92] (l[i]), Fc b87 o88 [.slice a91 (l[i]).length k92], Rp (Shape.slice SB) [.slice (some ⟨b80, 0, none⟩) 1 1] ([l[i]] : List (List (BitVec 8))), Rp SB [.slice a78 (l[i]).length k79] (l[i]), Fc b74 o75 [.slice a78 (l[i]).length k79], Rp (Shape.slice SB) [.slice ax l.length cx] l, Fz jQ, Rp SB [.slice ab B.length cb] B, Rp SB [.slice aσ σ.length cσ] σ, Rp SB [.slice aB B.length cB] B] _ := H
      have hna116 := hs111.arm.trans hna
      refine qF 1 [(0, .slice ax l.length cx), (1, .I x1), (7, .P db12 0), (8, .P jb20 0), (10, .slice a82 (R ++ [l[i]]).length c83), (11, .slice aB B.length cB), (12, .I i), (92, .bool false)] ?_
      refine qR 3 [.c [9, 0, 1, 0, 0, 2], .l [9, 0, 1, 0, 0], .b 2, .c [10]] [(0, .slice ax l.length cx), (1, .I x1), (7, .P db12 0), (8, .P jb20 0), (10, .slice a82 (R ++ [l[i]]).length c83), (11, .slice aB B.length cB), (12, .I i)] ?_
      refine qG (sq 0 3) ?_
      refine qP 1 (sq 1 3) [(0, .slice ax l.length cx), (1, .I x1), (7, .P db12 0), (8, .P jb20 0), (10, .slice a82 (R ++ [l[i]]).length c83), (11, .slice aB B.length cB), (12, .I i), (63, .I i)] ?_
      refine qI .seq 64 (sq 2 3) ((i : Int) + 1) ?_
      refine qF 1 [(0, .slice ax l.length cx), (1, .I x1), (7, .P db12 0), (8, .P jb20 0), (10, .slice a82 (R ++ [l[i]]).length c83), (11, .slice aB B.length cB), (12, .I ((i : Int) + 1))] ?_
      have H := H.pick [7, 8, 0, 1, 11] rfl
      have H := H.frontW 1 (W' := [⟨stepS, 143, .slice sa105 D104.steps.length sk106, D104.steps⟩, ⟨SB, 23, .slice ar100 (R ++ [l[i]]).length cr101, (R ++ [l[i]])⟩, ⟨SB, 23, .slice a82 (R ++ [l[i]]).length c83, (R ++ [l[i]])⟩]) rfl
      have H := H.frontW 2 (W' := [⟨SB, 23, .slice a82 (R ++ [l[i]]).length c83, (R ++ [l[i]])⟩, ⟨stepS, 143, .slice sa105 D104.steps.length sk106, D104.steps⟩, ⟨SB, 23, .slice ar100 (R ++ [l[i]]).length cr101, (R ++ [l[i]])⟩]) rfl
      have H := H.frontW 2 (W' := [⟨SB, 23, .slice ar100 (R ++ [l[i]]).length cr101, (R ++ [l[i]])⟩, ⟨SB, 23, .slice a82 (R ++ [l[i]]).length c83, (R ++ [l[i]])⟩, ⟨stepS, 143, .slice sa105 D104.steps.length sk106, D104.steps⟩]) rfl
      exact WK.back (hback37 (i + 1, D104, sa105, sk106, B, R0, (R ++ [l[i]]), g98, seg99, (σ ++ frameF (l[i])), false, ab, cb, ar100, cr101, aσ102, cs103, a82, c83, aB, cB) _ ⟨H, by omega, hW115.mono (by omega) (by omega) (by rw [hsn]; omega), hna116⟩ (by first | omega | (simp only []; omega))) (by as_aux_lemma => kernel_rfl)
    ·
     have htk := sumL_take l i
     refine qR 5 [.c [10, 0, 1, 0], .b 4, .c [11]] [(7, .P db12 0), (10, .slice aw R.length cw), (11, .slice aB B.length cB), (13, .I 0)] ?_
     have H := H.pick [0, 1, 4] rfl
     have H := H.frontW 2 (W' := [⟨stepS, 143, .slice sa D.steps.length sk, D.steps⟩, ⟨SB, 23, .slice ar R.length cr, R⟩, ⟨SB, 23, .slice aw R.length cw, R⟩]) rfl
     have H := H.frontW 2 (W' := [⟨SB, 23, .slice aw R.length cw, R⟩, ⟨stepS, 143, .slice sa D.steps.length sk, D.steps⟩, ⟨SB, 23, .slice ar R.length cr, R⟩]) rfl
     have H := H.drop (M' := ((diskM db12 D sa sk))) (W' := [⟨SB, 23, .slice aw R.length cw, R⟩, ⟨stepS, 143, .slice sa D.steps.length sk, D.steps⟩]) (by repeat (first | exact List.Sublist.refl _ | exact List.nil_sublist _ | apply List.Sublist.cons_cons | apply List.Sublist.cons)) (by repeat (first | exact List.Sublist.refl _ | exact List.nil_sublist _ | apply List.Sublist.cons_cons | apply List.Sublist.cons))
     refine WK.loop (α := Nat × DiskD × Option Addr × Nat × List (List (BitVec 8)) × List (List (BitVec 8)) × Nat × ByteArray × List (BitVec 8) × Bool × Option Addr × Nat) (b := cd Tryz.prog 3 [10, 0, 1, 0, 0]) (by as_aux_lemma => kernel_rfl) (fun st_ => match st_ with | (k, D, sa, sk, R0, R, g, seg, σ, sy, aw, cw) => [(7, .P db12 0), (10, .slice aw R.length cw), (11, .slice aB B.length cB), (13, .I k)]) (fun st_ w' => match st_ with | (k, D, sa, sk, R0, R, g, seg, σ, sy, aw, cw) => Hp w S [] ((diskM db12 D sa sk)) [⟨SB, 23, .slice aw R.length cw, R⟩, ⟨stepS, 143, .slice sa D.steps.length sk, D.steps⟩] [Rp (Shape.slice SB) [.slice ax l.length cx] l, Fz jQ, Rp SB [.slice aB B.length cB] B] w' ∧ k ≤ 3 ∧ JW D (⟨#[106]⟩ : ByteArray) B R0 R g seg σ sy (600000 * (4 - k)) (l.length + 2 + 2 * k) 200000 ∧ D.armed = false) (fun st_ => match st_ with | (k, D, sa, sk, R0, R, g, seg, σ, sy, aw, cw) => 3 - k) (0, D, sa, sk, R0, R, g, seg, σ, sy, aw, cw) ⟨H, by omega, hW.mono (by omega) (by omega) (by omega), hna⟩ (rfl) ?_
     rintro ⟨k, D, sa, sk, R0, R, g, seg, σ, sy, aw, cw⟩ w118 ⟨H, ⟨hk, hW, hna⟩⟩ hback117
     refine qR 3 [.c [10, 0, 1, 0, 0, 0, 1], .c [10, 0, 1, 0, 0, 1], .l [10, 0, 1, 0, 0], .b 4, .c [11]] [(7, .P db12 0), (10, .slice aw R.length cw), (11, .slice aB B.length cB), (13, .I k), (94, .bool (decide (((k : Int) : Int) < 3)))] ?_
     refine qD (((k : Int) : Int) < 3) (fun h119 => ?_) (fun h119 => ?_)
     ·
      refine qR 4 [.c [10, 0, 1, 0, 0, 1, 0, 0, 0], .c [10, 0, 1, 0, 0, 1, 0, 0, 1], .b 5, .c [10, 0, 1, 0, 0, 2], .l [10, 0, 1, 0, 0], .b 4, .c [11]] [(7, .P db12 0), (10, .slice aw R.length cw), (11, .slice aB B.length cB), (13, .I k)] ?_
      refine qG (sq 0 7) ?_
      refine qP 1 (sq 1 7) [(7, .P db12 0), (10, .slice aw R.length cw), (11, .slice aB B.length cB), (13, .I k), (98, .P db12 0)] ?_
      have H := H.frontW 1 (W' := [⟨stepS, 143, .slice sa D.steps.length sk, D.steps⟩, ⟨SB, 23, .slice aw R.length cw, R⟩]) rfl
      have H := H.perms (M' := diskM db12 D sa sk ++ []) (W' := [⟨stepS, 143, .slice sa D.steps.length sk, D.steps⟩, ⟨SB, 23, .slice aw R.length cw, R⟩]) (List.perm_append_comm (l₁ := diskM db12 D sa sk) (l₂ := ([] : Heap))) (List.Perm.refl _)
      refine RW.callS (d := some 99) (r := (sq 2 7)) (g := 14) (args := #[.P db12 0, .string (⟨#[106]⟩ : ByteArray)]) (by as_aux_lemma => kernel_rfl) (jopen_law (n := (600000 * (4 - k) - 1000)) (m := (l.length + 2 + 2 * k)) plainJ hW.di (hW.al.mono (by omega)) hW.op hW.cap (by omega) (fun B' R' h => ⟨by rw [h.1]; exact hW.bl, by rw [h.2]; exact Nat.le_trans hW.rl (Nat.le_succ _), by rw [h.2]; exact hW.rb⟩) ((H.lend (M1 := diskM db12 D sa sk) (W1 := [⟨stepS, 143, .slice sa D.steps.length sk, D.steps⟩])).pick [1] rfl)) ?_
      rintro _ w120 (⟨jb121, B122, R123, g124, ab125, cb126, ar127, cr128, D129, sa130, sk131, rfl, hq132, hW133, hS134, H'⟩ | ⟨D129, sa130, sk131, rfl, hQ135, hr136, H'⟩)
      rotate_left
      · exact absurd (hr136) (by rw [hna]; nofun)
      have hB9 := hq132.1.symm
      subst hB9
      have hR9 := hq132.2.symm
      subst hR9
      have H := H.back (M1 := diskM db12 D sa sk) (W1 := [⟨stepS, 143, .slice sa D.steps.length sk, D.steps⟩]) H'
      have H := H.perms (M' := ((jb121, .cells #[.P db12 0, .string (⟨#[106]⟩ : ByteArray), .slice ab125 B.length cb126, .slice ar127 R.length cr128, .I g124, .string (⟨#[]⟩ : ByteArray), .slice none (([] : List (BitVec 8)).length) 0, .bool true] 41 (0, 0)) :: (diskM db12 D129 sa130 sk131))) (W' := [⟨SB, 23, .slice ar127 R.length cr128, R⟩, ⟨stepS, 143, .slice sa130 D129.steps.length sk131, D129.steps⟩, ⟨SB, 23, .slice aw R.length cw, R⟩]) ((List.perm_append_comm (l₁ := ([] : Heap)) (l₂ := diskM db12 D129 sa130 sk131)).cons _) (List.Perm.refl _)
      have H : Hp w S [] ((jb121, .cells #[.P db12 0, .string (⟨#[106]⟩ : ByteArray), .slice ab125 B.length cb126, .slice ar127 R.length cr128, .I g124, .string (⟨#[]⟩ : ByteArray), .slice none (([] : List (BitVec 8)).length) 0, .bool true] 41 (0, 0)) :: (diskM db12 D129 sa130 sk131)) [⟨SB, 23, .slice ar127 R.length cr128, R⟩, ⟨stepS, 143, .slice sa130 D129.steps.length sk131, D129.steps⟩, ⟨SB, 23, .slice aw R.length cw, R⟩] [Rp SB [.slice ab125 B.length cb126] B, Rp SB [.slice none (([] : List (BitVec 8)).length) 0] ([] : List (BitVec 8)), Rp (Shape.slice SB) [.slice ax l.length cx] l, Fz jQ, Rp SB [.slice aB B.length cB] B] _ := H
      have hna137 := hS134.arm.trans hna
      refine qF 5 [(7, .P db12 0), (10, .slice aw R.length cw), (11, .slice aB B.length cB), (13, .I k), (14, .P jb121 0), (15, .I 0)] ?_
      refine qR 2 [.c [10, 0, 1, 0, 0, 1, 0, 0, 1, 0, 0], .c [10, 0, 1, 0, 0, 1, 0, 0, 1, 0, 1], .c [10, 0, 1, 0, 0, 1, 0, 0, 2], .b 5, .c [10, 0, 1, 0, 0, 2], .l [10, 0, 1, 0, 0], .b 4, .c [11]] [(7, .P db12 0), (10, .slice aw R.length cw), (11, .slice aB B.length cB), (13, .I k), (14, .P jb121 0), (15, .I 0)] ?_
      refine qG (sq 0 13) ?_
      refine qP 8 (sq 8 13) [(7, .P db12 0), (10, .slice aw R.length cw), (11, .slice aB B.length cB), (13, .I k), (14, .P jb121 0), (108, .bool false), (109, .P jb121 0)] ?_
      refine RW.callS (d := some 110) (r := (sq 9 13)) (g := 18) (args := #[.P jb121 0]) (by as_aux_lemma => kernel_rfl) (jbase_spec hW133.bl ((H.lend (M1 := [(jb121, .cells #[.P db12 0, .string (⟨#[106]⟩ : ByteArray), .slice ab125 B.length cb126, .slice ar127 R.length cr128, .I g124, .string (⟨#[]⟩ : ByteArray), .slice none (([] : List (BitVec 8)).length) 0, .bool true] 41 (0, 0))]) (W1 := [])).pick [0] rfl)) ?_
      rintro _ w138 ⟨a139, c140, rfl, H'⟩
      have H := H.back (M1 := [(jb121, .cells #[.P db12 0, .string (⟨#[106]⟩ : ByteArray), .slice ab125 B.length cb126, .slice ar127 R.length cr128, .I g124, .string (⟨#[]⟩ : ByteArray), .slice none (([] : List (BitVec 8)).length) 0, .bool true] 41 (0, 0))]) (W1 := []) H'
      have H : Hp w S [] ((jb121, .cells #[.P db12 0, .string (⟨#[106]⟩ : ByteArray), .slice ab125 B.length cb126, .slice ar127 R.length cr128, .I g124, .string (⟨#[]⟩ : ByteArray), .slice none (([] : List (BitVec 8)).length) 0, .bool true] 41 (0, 0)) :: (diskM db12 D129 sa130 sk131)) [⟨Sb, 5, .slice a139 B.length c140, B⟩, ⟨SB, 23, .slice ar127 R.length cr128, R⟩, ⟨stepS, 143, .slice sa130 D129.steps.length sk131, D129.steps⟩, ⟨SB, 23, .slice aw R.length cw, R⟩] [Rp SB [.slice ab125 B.length cb126] B, Rp SB [.slice none (([] : List (BitVec 8)).length) 0] ([] : List (BitVec 8)), Rp (Shape.slice SB) [.slice ax l.length cx] l, Fz jQ, Rp SB [.slice aB B.length cB] B] _ := H
      refine qP 1 (sq 10 13) [(7, .P db12 0), (10, .slice aw R.length cw), (11, .slice aB B.length cB), (13, .I k), (14, .P jb121 0), (108, .bool false), (110, .slice a139 B.length c140), (111, .slice aB B.length cB)] ?_
      have H : Hp w S [] ((jb121, .cells #[.P db12 0, .string (⟨#[106]⟩ : ByteArray), .slice ab125 B.length cb126, .slice ar127 R.length cr128, .I g124, .string (⟨#[]⟩ : ByteArray), .slice none (([] : List (BitVec 8)).length) 0, .bool true] 41 (0, 0)) :: (diskM db12 D129 sa130 sk131)) [⟨SB, 23, .slice ar127 R.length cr128, R⟩, ⟨stepS, 143, .slice sa130 D129.steps.length sk131, D129.steps⟩, ⟨SB, 23, .slice aw R.length cw, R⟩] [Rp SB [.slice a139 B.length c140] B, Rp SB [.slice ab125 B.length cb126] B, Rp SB [.slice none (([] : List (BitVec 8)).length) 0] ([] : List (BitVec 8)), Rp (Shape.slice SB) [.slice ax l.length cx] l, Fz jQ, Rp SB [.slice aB B.length cB] B] _ := H.freezeW 0 rfl
      refine qK .seq (some 112) (sq 11 13) 17 #[.slice a139 B.length c140, .slice aB B.length cB] (same01N (S := Av S w [] (idsOf ((jb121, .cells #[.P db12 0, .string (⟨#[106]⟩ : ByteArray), .slice ab125 B.length cb126, .slice ar127 R.length cr128, .I g124, .string (⟨#[]⟩ : ByteArray), .slice none (([] : List (BitVec 8)).length) 0, .bool true] 41 (0, 0)) :: (diskM db12 D129 sa130 sk131)) [⟨SB, 23, .slice ar127 R.length cr128, R⟩, ⟨stepS, 143, .slice sa130 D129.steps.length sk131, D129.steps⟩, ⟨SB, 23, .slice aw R.length cw, R⟩])) (xs := B) (ys := B) (H.rp 0 rfl) (H.rp 5 rfl)) ?_
      rintro _ w141 hE142 rfl
      have H := H.ext hE142
      rw [sameB_eq (rfl)]
      refine qF 2 [(7, .P db12 0), (10, .slice aw R.length cw), (11, .slice aB B.length cB), (13, .I k), (14, .P jb121 0), (114, .bool false)] ?_
      refine qR 3 [.c [10, 0, 1, 0, 0, 1, 0, 0, 2, 0], .c [10, 0, 1, 0, 0, 1, 0, 0, 3], .b 5, .c [10, 0, 1, 0, 0, 2], .l [10, 0, 1, 0, 0], .b 4, .c [11]] [(7, .P db12 0), (10, .slice aw R.length cw), (11, .slice aB B.length cB), (13, .I k), (14, .P jb121 0)] ?_
      refine qG (sq 0 3) ?_
      refine qP 1 (sq 1 3) [(7, .P db12 0), (10, .slice aw R.length cw), (11, .slice aB B.length cB), (13, .I k), (14, .P jb121 0), (115, .P jb121 0)] ?_
      refine RW.callS (d := some 116) (r := (sq 2 3)) (g := 19) (args := #[.P jb121 0]) (by as_aux_lemma => kernel_rfl) (jrecs_spec (Nat.le_trans hW133.rl (by omega)) hW133.rb ((H.lend (M1 := [(jb121, .cells #[.P db12 0, .string (⟨#[106]⟩ : ByteArray), .slice ab125 B.length cb126, .slice ar127 R.length cr128, .I g124, .string (⟨#[]⟩ : ByteArray), .slice none (([] : List (BitVec 8)).length) 0, .bool true] 41 (0, 0))]) (W1 := [⟨SB, 23, .slice ar127 R.length cr128, R⟩])).pick [] rfl)) ?_
      rintro _ w143 ⟨a144, c145, rfl, H'⟩
      have H := H.back (M1 := [(jb121, .cells #[.P db12 0, .string (⟨#[106]⟩ : ByteArray), .slice ab125 B.length cb126, .slice ar127 R.length cr128, .I g124, .string (⟨#[]⟩ : ByteArray), .slice none (([] : List (BitVec 8)).length) 0, .bool true] 41 (0, 0))]) (W1 := [⟨SB, 23, .slice ar127 R.length cr128, R⟩]) H'
      have H : Hp w S [] ((jb121, .cells #[.P db12 0, .string (⟨#[106]⟩ : ByteArray), .slice ab125 B.length cb126, .slice ar127 R.length cr128, .I g124, .string (⟨#[]⟩ : ByteArray), .slice none (([] : List (BitVec 8)).length) 0, .bool true] 41 (0, 0)) :: (diskM db12 D129 sa130 sk131)) [⟨SB, 23, .slice a144 R.length c145, R⟩, ⟨SB, 23, .slice ar127 R.length cr128, R⟩, ⟨stepS, 143, .slice sa130 D129.steps.length sk131, D129.steps⟩, ⟨SB, 23, .slice aw R.length cw, R⟩] [Rp SB [.slice a139 B.length c140] B, Rp SB [.slice ab125 B.length cb126] B, Rp SB [.slice none (([] : List (BitVec 8)).length) 0] ([] : List (BitVec 8)), Rp (Shape.slice SB) [.slice ax l.length cx] l, Fz jQ, Rp SB [.slice aB B.length cB] B] _ := H
      refine qF 1 [(7, .P db12 0), (10, .slice aw R.length cw), (11, .slice aB B.length cB), (13, .I k), (14, .P jb121 0), (16, .slice a144 R.length c145)] ?_
      refine qR 3 [.c [10, 0, 1, 0, 0, 1, 0, 0, 3, 0, 1], .c [10, 0, 1, 0, 0, 1, 0, 0, 4], .b 5, .c [10, 0, 1, 0, 0, 2], .l [10, 0, 1, 0, 0], .b 4, .c [11]] [(7, .P db12 0), (10, .slice aw R.length cw), (11, .slice aB B.length cB), (13, .I k), (14, .P jb121 0), (16, .slice a144 R.length c145), (121, .bool (((R.length : Nat) : Int) != ((R.length : Nat) : Int)))] ?_
      refine qN ((R.length : Nat) : Int) ((R.length : Nat) : Int) (fun h146 => ?_) (fun h146 => ?_)
      ·
       exact absurd rfl h146
      ·
       refine qR 5 [.c [10, 0, 1, 0, 0, 1, 0, 0, 4, 0, 1, 0], .b 6, .c [10, 0, 1, 0, 0, 1, 0, 0, 5], .b 5, .c [10, 0, 1, 0, 0, 2], .l [10, 0, 1, 0, 0], .b 4, .c [11]] [(7, .P db12 0), (10, .slice aw R.length cw), (11, .slice aB B.length cB), (13, .I k), (14, .P jb121 0), (16, .slice a144 R.length c145), (17, .I 0)] ?_
       refine WK.loop (α := Nat) (b := cd Tryz.prog 3 [10, 0, 1, 0, 0, 1, 0, 0, 4, 0, 1, 0, 0]) (by as_aux_lemma => kernel_rfl) (fun j => [(7, .P db12 0), (10, .slice aw R.length cw), (11, .slice aB B.length cB), (13, .I k), (14, .P jb121 0), (16, .slice a144 R.length c145), (17, .I j)]) (fun j w' => Hp w S [] ((jb121, .cells #[.P db12 0, .string (⟨#[106]⟩ : ByteArray), .slice ab125 B.length cb126, .slice ar127 R.length cr128, .I g124, .string (⟨#[]⟩ : ByteArray), .slice none (([] : List (BitVec 8)).length) 0, .bool true] 41 (0, 0)) :: (diskM db12 D129 sa130 sk131)) [⟨SB, 23, .slice a144 R.length c145, R⟩, ⟨SB, 23, .slice ar127 R.length cr128, R⟩, ⟨stepS, 143, .slice sa130 D129.steps.length sk131, D129.steps⟩, ⟨SB, 23, .slice aw R.length cw, R⟩] [Rp SB [.slice a139 B.length c140] B, Rp SB [.slice ab125 B.length cb126] B, Rp SB [.slice none (([] : List (BitVec 8)).length) 0] ([] : List (BitVec 8)), Rp (Shape.slice SB) [.slice ax l.length cx] l, Fz jQ, Rp SB [.slice aB B.length cB] B] w' ∧ j ≤ R.length) (fun j => R.length - j) 0 ⟨H, Nat.zero_le _⟩ (rfl) ?_
       rintro j w148 ⟨H, hj⟩ hback147
       refine qR 3 [.c [10, 0, 1, 0, 0, 1, 0, 0, 4, 0, 1, 0, 0, 0, 1], .c [10, 0, 1, 0, 0, 1, 0, 0, 4, 0, 1, 0, 0, 1], .l [10, 0, 1, 0, 0, 1, 0, 0, 4, 0, 1, 0, 0], .b 6, .c [10, 0, 1, 0, 0, 1, 0, 0, 5], .b 5, .c [10, 0, 1, 0, 0, 2], .l [10, 0, 1, 0, 0], .b 4, .c [11]] [(7, .P db12 0), (10, .slice aw R.length cw), (11, .slice aB B.length cB), (13, .I k), (14, .P jb121 0), (16, .slice a144 R.length c145), (17, .I j), (125, .bool (decide (((j : Int) : Int) < ((R.length : Nat) : Int))))] ?_
       refine qD (((j : Int) : Int) < ((R.length : Nat) : Int)) (fun h149 => ?_) (fun h149 => ?_)
       ·
        have hRl := hW.rl
        refine qR 4 [.c [10, 0, 1, 0, 0, 1, 0, 0, 4, 0, 1, 0, 0, 1, 0, 0, 0], .c [10, 0, 1, 0, 0, 1, 0, 0, 4, 0, 1, 0, 0, 1, 0, 0, 1], .b 7, .c [10, 0, 1, 0, 0, 1, 0, 0, 4, 0, 1, 0, 0, 2], .l [10, 0, 1, 0, 0, 1, 0, 0, 4, 0, 1, 0, 0], .b 6, .c [10, 0, 1, 0, 0, 1, 0, 0, 5], .b 5, .c [10, 0, 1, 0, 0, 2], .l [10, 0, 1, 0, 0], .b 4, .c [11]] [(7, .P db12 0), (10, .slice aw R.length cw), (11, .slice aB B.length cB), (13, .I k), (14, .P jb121 0), (16, .slice a144 R.length c145), (17, .I j)] ?_
        refine WK.draw1 10 [(0, .qui), (1, .qui), (2, .qui), (3, .qui), (4, .qui), (5, .qui), (6, .qui), (7, .qui), (8, .chn), (9, .qui)] [(0, .qui), (1, .qui), (2, .qui), (3, .qui), (4, .qui), (5, .qui), (6, .qui), (7, .qui), (8, .chn), (9, .qui)] Tryz_mixed (by as_aux_lemma => kernel_rfl) (by as_aux_lemma => kernel_rfl) (by as_aux_lemma => kernel_rfl) ?_
        have H := H.draw
        generalize ({ w148 with drawn := w148.drawn + 1 } : World) = w150 at H ⊢
        refine qP 2 [(2, .qui), (3, .qui), (4, .qui), (5, .qui), (6, .qui), (7, .qui), (8, .chn), (9, .qui)] [(7, .P db12 0), (10, .slice aw R.length cw), (11, .slice aB B.length cB), (13, .I k), (14, .P jb121 0), (16, .slice a144 R.length c145), (17, .I j), (128, .slice a144 R.length c145), (129, .I j)] ?_
        have hn152 : R.length = R.length := rfl
        have hx151 : j < R.length := by omega
        refine RW.indexW (κ := .qui) (d := some 130) (r := [(3, .qui), (4, .qui), (5, .qui), (6, .qui), (7, .qui), (8, .chn), (9, .qui)]) (T := 22) (e := 23) (m := 1) (ik := .i64) (ix := (j : Int)) (sh := SB) (xs := R) (a := a144) (len := R.length) (cap := c145) (by as_aux_lemma => kernel_rfl) (by as_aux_lemma => kernel_rfl) rfl H j (by omega) hx151 hn152 ?_
        intro b153 es154 ha155 hcell156 hr157
        obtain ⟨a158, k159, rfl⟩ := Shape.slice_form' hr157
        have H := H.add (F := Rp SB [.slice a158 (R[j]).length k159] (R[j])) hr157
        refine qL .qui 131 [(4, .qui), (5, .qui), (6, .qui), (7, .qui), (8, .chn), (9, .qui)] 23 b153 (j * 1) 0 (.slice a158 (R[j]).length k159) hcell156 ?_
        refine qP 2 [(6, .qui), (7, .qui), (8, .chn), (9, .qui)] [(7, .P db12 0), (10, .slice aw R.length cw), (11, .slice aB B.length cB), (13, .I k), (14, .P jb121 0), (16, .slice a144 R.length c145), (17, .I j), (131, .slice a158 (R[j]).length k159), (132, .slice aw R.length cw), (133, .I j)] ?_
        have H := H.frontW 3 (W' := [⟨SB, 23, .slice aw R.length cw, R⟩, ⟨SB, 23, .slice a144 R.length c145, R⟩, ⟨SB, 23, .slice ar127 R.length cr128, R⟩, ⟨stepS, 143, .slice sa130 D129.steps.length sk131, D129.steps⟩]) rfl
        have hn161 : R.length = R.length := rfl
        have hx160 : j < R.length := by omega
        refine RW.indexW (κ := .qui) (d := some 134) (r := [(7, .qui), (8, .chn), (9, .qui)]) (T := 22) (e := 23) (m := 1) (ik := .i64) (ix := (j : Int)) (sh := SB) (xs := R) (a := aw) (len := R.length) (cap := cw) (by as_aux_lemma => kernel_rfl) (by as_aux_lemma => kernel_rfl) rfl H j (by omega) hx160 hn161 ?_
        intro b162 es163 ha164 hcell165 hr166
        obtain ⟨a167, k168, rfl⟩ := Shape.slice_form' hr166
        have H := H.add (F := Rp SB [.slice a167 (R[j]).length k168] (R[j])) hr166
        refine qL .qui 135 [(8, .chn), (9, .qui)] 23 b162 (j * 1) 0 (.slice a167 (R[j]).length k168) hcell165 ?_
        refine qK .chn (some 136) [(9, .qui)] 17 #[.slice a158 (R[j]).length k159, .slice a167 (R[j]).length k168] (same01N (S := Av S w [] (idsOf ((jb121, .cells #[.P db12 0, .string (⟨#[106]⟩ : ByteArray), .slice ab125 B.length cb126, .slice ar127 R.length cr128, .I g124, .string (⟨#[]⟩ : ByteArray), .slice none (([] : List (BitVec 8)).length) 0, .bool true] 41 (0, 0)) :: (diskM db12 D129 sa130 sk131)) [⟨SB, 23, .slice aw R.length cw, R⟩, ⟨SB, 23, .slice a144 R.length c145, R⟩, ⟨SB, 23, .slice ar127 R.length cr128, R⟩, ⟨stepS, 143, .slice sa130 D129.steps.length sk131, D129.steps⟩])) (xs := R[j]) (ys := R[j]) (H.rp 1 rfl) (H.rp 0 rfl)) ?_
        rintro _ w169 hE170 rfl
        have H := H.ext hE170
        rw [sameB_eq (rfl)]
        refine qF 1 [(7, .P db12 0), (10, .slice aw R.length cw), (11, .slice aB B.length cB), (13, .I k), (14, .P jb121 0), (16, .slice a144 R.length c145), (17, .I j), (137, .bool false)] ?_
        refine qR 3 [.c [10, 0, 1, 0, 0, 1, 0, 0, 4, 0, 1, 0, 0, 2], .l [10, 0, 1, 0, 0, 1, 0, 0, 4, 0, 1, 0, 0], .b 6, .c [10, 0, 1, 0, 0, 1, 0, 0, 5], .b 5, .c [10, 0, 1, 0, 0, 2], .l [10, 0, 1, 0, 0], .b 4, .c [11]] [(7, .P db12 0), (10, .slice aw R.length cw), (11, .slice aB B.length cB), (13, .I k), (14, .P jb121 0), (16, .slice a144 R.length c145), (17, .I j)] ?_
        refine qG (sq 0 3) ?_
        refine qP 1 (sq 1 3) [(7, .P db12 0), (10, .slice aw R.length cw), (11, .slice aB B.length cB), (13, .I k), (14, .P jb121 0), (16, .slice a144 R.length c145), (17, .I j), (126, .I j)] ?_
        refine qI .seq 127 (sq 2 3) ((j : Int) + 1) ?_
        refine qF 1 [(7, .P db12 0), (10, .slice aw R.length cw), (11, .slice aB B.length cB), (13, .I k), (14, .P jb121 0), (16, .slice a144 R.length c145), (17, .I ((j : Int) + 1))] ?_
        have H := H.pick [2, 3, 4, 5, 6, 7] rfl
        have H := H.frontW 3 (W' := [⟨stepS, 143, .slice sa130 D129.steps.length sk131, D129.steps⟩, ⟨SB, 23, .slice aw R.length cw, R⟩, ⟨SB, 23, .slice a144 R.length c145, R⟩, ⟨SB, 23, .slice ar127 R.length cr128, R⟩]) rfl
        have H := H.frontW 3 (W' := [⟨SB, 23, .slice ar127 R.length cr128, R⟩, ⟨stepS, 143, .slice sa130 D129.steps.length sk131, D129.steps⟩, ⟨SB, 23, .slice aw R.length cw, R⟩, ⟨SB, 23, .slice a144 R.length c145, R⟩]) rfl
        have H := H.frontW 3 (W' := [⟨SB, 23, .slice a144 R.length c145, R⟩, ⟨SB, 23, .slice ar127 R.length cr128, R⟩, ⟨stepS, 143, .slice sa130 D129.steps.length sk131, D129.steps⟩, ⟨SB, 23, .slice aw R.length cw, R⟩]) rfl
        exact WK.back (hback147 (j + 1) _ ⟨H, by omega⟩ (by first | omega | (simp only []; omega))) (by as_aux_lemma => kernel_rfl)
       ·
        refine qR 2 [.c [10, 0, 1, 0, 0, 1, 0, 0, 5, 0], .c [10, 0, 1, 0, 0, 1, 0, 0, 6], .b 5, .c [10, 0, 1, 0, 0, 2], .l [10, 0, 1, 0, 0], .b 4, .c [11]] [(7, .P db12 0), (10, .slice aw R.length cw), (11, .slice aB B.length cB), (13, .I k), (14, .P jb121 0)] ?_
        refine qG (sq 0 9) ?_
        refine qP 3 (sq 3 9) [(7, .P db12 0), (10, .slice aw R.length cw), (11, .slice aB B.length cB), (13, .I k), (14, .P jb121 0), (140, .bool ((k : Int) == 1))] ?_
        refine tE (fun b_ => [(7, .P db12 0), (10, .slice aw R.length cw), (11, .slice aB B.length cB), (13, .I k), (14, .P jb121 0), (140, .bool b_)]) (k : Int) 1 (fun h171 => ?_) (fun h171 => ?_)
        ·
         refine qP 1 (sq 4 9) [(7, .P db12 0), (10, .slice aw R.length cw), (11, .slice aB B.length cB), (13, .I k), (140, .bool true), (141, .P jb121 0)] ?_
         refine RW.new (κ := .seq) (d := some 142) (r := (sq 5 9)) (o := .cells #[.int .u8 109, .int .u8 111, .int .u8 114, .int .u8 101] 5 (0, 0)) (v := fun b => .slice (some ⟨b, 0, none⟩) 4 4) (fun b => by as_aux_lemma => kernel_rfl) (nofun) H ?_
         intro b172 w173 H
         refine RW.convS (d := some 143) (r := (sq 6 9)) (T := 23) (e := 5) (b := b172) (len := 4) (cap := 4) (by as_aux_lemma => kernel_rfl) (by as_aux_lemma => kernel_rfl) H ?_
         intro w174 H
         have H := H.freeze 0 rfl Sb ([109#8, 111#8, 114#8, 101#8] : List (BitVec 8)) 4 (by simp [maxLen]) (by first | exact Nat.le_refl _ | simp) (EsP.cons (c := [.int .u8 109]) (Shape.bv_lit (x := 109#8) (by decide)) (EsP.cons (c := [.int .u8 111]) (Shape.bv_lit (x := 111#8) (by decide)) (EsP.cons (c := [.int .u8 114]) (Shape.bv_lit (x := 114#8) (by decide)) (EsP.cons (c := [.int .u8 101]) (Shape.bv_lit (x := 101#8) (by decide)) EsP.nil))))
         have H : Hp w S [] ((jb121, .cells #[.P db12 0, .string (⟨#[106]⟩ : ByteArray), .slice ab125 B.length cb126, .slice ar127 R.length cr128, .I g124, .string (⟨#[]⟩ : ByteArray), .slice none (([] : List (BitVec 8)).length) 0, .bool true] 41 (0, 0)) :: (diskM db12 D129 sa130 sk131)) [⟨SB, 23, .slice a144 R.length c145, R⟩, ⟨SB, 23, .slice ar127 R.length cr128, R⟩, ⟨stepS, 143, .slice sa130 D129.steps.length sk131, D129.steps⟩, ⟨SB, 23, .slice aw R.length cw, R⟩] [Rp SB [.slice (some ⟨b172, 0, none⟩) 4 4] ([109#8, 111#8, 114#8, 101#8] : List (BitVec 8)), Rp SB [.slice a139 B.length c140] B, Rp SB [.slice ab125 B.length cb126] B, Rp SB [.slice none (([] : List (BitVec 8)).length) 0] ([] : List (BitVec 8)), Rp (Shape.slice SB) [.slice ax l.length cx] l, Fz jQ, Rp SB [.slice aB B.length cB] B] _ := H
         have hlit : ([109#8, 111#8, 114#8, 101#8] : List (BitVec 8)).length = 4 := rfl
         have H := H.frontW 2 (W' := [⟨stepS, 143, .slice sa130 D129.steps.length sk131, D129.steps⟩, ⟨SB, 23, .slice a144 R.length c145, R⟩, ⟨SB, 23, .slice ar127 R.length cr128, R⟩, ⟨SB, 23, .slice aw R.length cw, R⟩]) rfl
         have H := H.frontW 2 (W' := [⟨SB, 23, .slice ar127 R.length cr128, R⟩, ⟨stepS, 143, .slice sa130 D129.steps.length sk131, D129.steps⟩, ⟨SB, 23, .slice a144 R.length c145, R⟩, ⟨SB, 23, .slice aw R.length cw, R⟩]) rfl
         have H := H.perms (M' := ((jb121, .cells #[.P db12 0, .string (⟨#[106]⟩ : ByteArray), .slice ab125 B.length cb126, .slice ar127 R.length cr128, .I g124, .string (⟨#[]⟩ : ByteArray), .slice none (([] : List (BitVec 8)).length) 0, .bool true] 41 (0, 0)) :: diskM db12 D129 sa130 sk131) ++ []) (W' := [⟨SB, 23, .slice ar127 R.length cr128, R⟩, ⟨stepS, 143, .slice sa130 D129.steps.length sk131, D129.steps⟩, ⟨SB, 23, .slice a144 R.length c145, R⟩, ⟨SB, 23, .slice aw R.length cw, R⟩]) ((List.perm_append_comm (l₁ := diskM db12 D129 sa130 sk131) (l₂ := ([] : Heap))).cons _) (List.Perm.refl _)
         refine RW.callS (d := some 144) (r := (sq 7 9)) (g := 16) (args := #[.P jb121 0, .slice (some ⟨b172, 0, none⟩) 4 4]) (by as_aux_lemma => kernel_rfl) (jappend_spec (r := ([109#8, 111#8, 114#8, 101#8] : List (BitVec 8))) (n := ((600000 * (4 - k) - 1000) - 300000)) hW133.pl hW133.di (hW133.al.mono (by omega)) hW133.jl (Nat.lt_of_le_of_lt hW133.gm (by omega)) (by omega) (by have := hW133.sl; omega) (Nat.le_trans hW133.rl (by omega)) (Nat.lt_of_le_of_lt hW133.now (by omega)) ((H.lend (M1 := ((jb121, .cells #[.P db12 0, .string (⟨#[106]⟩ : ByteArray), .slice ab125 B.length cb126, .slice ar127 R.length cr128, .I g124, .string (⟨#[]⟩ : ByteArray), .slice none (([] : List (BitVec 8)).length) 0, .bool true] 41 (0, 0)) :: diskM db12 D129 sa130 sk131)) (W1 := [⟨SB, 23, .slice ar127 R.length cr128, R⟩, ⟨stepS, 143, .slice sa130 D129.steps.length sk131, D129.steps⟩])).pick [2, 3, 5, 0] rfl)) ?_
         rintro _ w175 (⟨rfl, g180, seg181, ar182, cr183, aσ184, cs185, D186, sa187, sk188, hJ189, hg190, hd191, ha192, hs193, hc194, hdr195, H'⟩ | ⟨y176, y177, y178, y179, D186, sa187, sk188, rfl, hQ196, H'⟩)
         rotate_left
         · exact absurd (hQ196.arm) (by rw [hna137]; nofun)
         have hW197 := hW133.app (by omega) hJ189 hg190 hd191 ha192 hc194
         have H := H.back (M1 := ((jb121, .cells #[.P db12 0, .string (⟨#[106]⟩ : ByteArray), .slice ab125 B.length cb126, .slice ar127 R.length cr128, .I g124, .string (⟨#[]⟩ : ByteArray), .slice none (([] : List (BitVec 8)).length) 0, .bool true] 41 (0, 0)) :: diskM db12 D129 sa130 sk131)) (W1 := [⟨SB, 23, .slice ar127 R.length cr128, R⟩, ⟨stepS, 143, .slice sa130 D129.steps.length sk131, D129.steps⟩]) H'
         have H := H.perms (M' := ((jb121, .cells #[.P db12 0, .string (⟨#[106]⟩ : ByteArray), .slice ab125 B.length cb126, .slice ar182 ((R ++ [([109#8, 111#8, 114#8, 101#8] : List (BitVec 8))]).length) cr183, .I g180, .string seg181, .slice aσ184 ((([] : List (BitVec 8)) ++ frameF ([109#8, 111#8, 114#8, 101#8] : List (BitVec 8))).length) cs185, .bool false] 41 (0, 0)) :: (diskM db12 D186 sa187 sk188))) (W' := [⟨SB, 23, .slice ar182 ((R ++ [([109#8, 111#8, 114#8, 101#8] : List (BitVec 8))]).length) cr183, (R ++ [([109#8, 111#8, 114#8, 101#8] : List (BitVec 8))])⟩, ⟨stepS, 143, .slice sa187 D186.steps.length sk188, D186.steps⟩, ⟨SB, 23, .slice a144 R.length c145, R⟩, ⟨SB, 23, .slice aw R.length cw, R⟩]) ((List.perm_append_comm (l₁ := ([] : Heap)) (l₂ := diskM db12 D186 sa187 sk188)).cons _) (List.Perm.refl _)
         have H : Hp w S [] ((jb121, .cells #[.P db12 0, .string (⟨#[106]⟩ : ByteArray), .slice ab125 B.length cb126, .slice ar182 ((R ++ [([109#8, 111#8, 114#8, 101#8] : List (BitVec 8))]).length) cr183, .I g180, .string seg181, .slice aσ184 ((([] : List (BitVec 8)) ++ frameF ([109#8, 111#8, 114#8, 101#8] : List (BitVec 8))).length) cs185, .bool false] 41 (0, 0)) :: (diskM db12 D186 sa187 sk188)) [⟨SB, 23, .slice ar182 ((R ++ [([109#8, 111#8, 114#8, 101#8] : List (BitVec 8))]).length) cr183, (R ++ [([109#8, 111#8, 114#8, 101#8] : List (BitVec 8))])⟩, ⟨stepS, 143, .slice sa187 D186.steps.length sk188, D186.steps⟩, ⟨SB, 23, .slice a144 R.length c145, R⟩, ⟨SB, 23, .slice aw R.length cw, R⟩] [Rp SB [.slice ab125 B.length cb126] B, Rp SB [.slice aσ184 ((([] : List (BitVec 8)) ++ frameF ([109#8, 111#8, 114#8, 101#8] : List (BitVec 8))).length) cs185] (([] : List (BitVec 8)) ++ frameF ([109#8, 111#8, 114#8, 101#8] : List (BitVec 8))), Rp SB [.slice (some ⟨b172, 0, none⟩) 4 4] ([109#8, 111#8, 114#8, 101#8] : List (BitVec 8)), Rp SB [.slice a139 B.length c140] B, Rp SB [.slice ab125 B.length cb126] B, Rp SB [.slice none (([] : List (BitVec 8)).length) 0] ([] : List (BitVec 8)), Rp (Shape.slice SB) [.slice ax l.length cx] l, Fz jQ, Rp SB [.slice aB B.length cB] B] _ := H
         have hna198 := hs193.arm.trans hna137
         refine qF 2 [(7, .P db12 0), (10, .slice aw R.length cw), (11, .slice aB B.length cB), (13, .I k), (146, .bool true)] ?_
         refine qR 1 [.c [10, 0, 1, 0, 0, 1, 0, 0, 6, 0], .b 5, .c [10, 0, 1, 0, 0, 2], .l [10, 0, 1, 0, 0], .b 4, .c [11]] [(7, .P db12 0), (10, .slice aw R.length cw), (11, .slice aB B.length cB), (13, .I k)] ?_
         refine qG (sq 0 6) ?_
         refine qP 1 (sq 1 6) [(7, .P db12 0), (10, .slice aw R.length cw), (11, .slice aB B.length cB), (13, .I k), (147, .slice aw R.length cw)] ?_
         refine RW.new (κ := .seq) (d := some 148) (r := (sq 2 6)) (o := .cells #[.int .u8 109, .int .u8 111, .int .u8 114, .int .u8 101] 5 (0, 0)) (v := fun b => .slice (some ⟨b, 0, none⟩) 4 4) (fun b => by as_aux_lemma => kernel_rfl) (nofun) H ?_
         intro b199 w200 H
         refine RW.convS (d := some 149) (r := (sq 3 6)) (T := 23) (e := 5) (b := b199) (len := 4) (cap := 4) (by as_aux_lemma => kernel_rfl) (by as_aux_lemma => kernel_rfl) H ?_
         intro w201 H
         have H := H.freeze 0 rfl Sb ([109#8, 111#8, 114#8, 101#8] : List (BitVec 8)) 4 (by simp [maxLen]) (by first | exact Nat.le_refl _ | simp) (EsP.cons (c := [.int .u8 109]) (Shape.bv_lit (x := 109#8) (by decide)) (EsP.cons (c := [.int .u8 111]) (Shape.bv_lit (x := 111#8) (by decide)) (EsP.cons (c := [.int .u8 114]) (Shape.bv_lit (x := 114#8) (by decide)) (EsP.cons (c := [.int .u8 101]) (Shape.bv_lit (x := 101#8) (by decide)) EsP.nil))))
         have H : Hp w S [] ((jb121, .cells #[.P db12 0, .string (⟨#[106]⟩ : ByteArray), .slice ab125 B.length cb126, .slice ar182 ((R ++ [([109#8, 111#8, 114#8, 101#8] : List (BitVec 8))]).length) cr183, .I g180, .string seg181, .slice aσ184 ((([] : List (BitVec 8)) ++ frameF ([109#8, 111#8, 114#8, 101#8] : List (BitVec 8))).length) cs185, .bool false] 41 (0, 0)) :: (diskM db12 D186 sa187 sk188)) [⟨SB, 23, .slice ar182 ((R ++ [([109#8, 111#8, 114#8, 101#8] : List (BitVec 8))]).length) cr183, (R ++ [([109#8, 111#8, 114#8, 101#8] : List (BitVec 8))])⟩, ⟨stepS, 143, .slice sa187 D186.steps.length sk188, D186.steps⟩, ⟨SB, 23, .slice a144 R.length c145, R⟩, ⟨SB, 23, .slice aw R.length cw, R⟩] [Rp SB [.slice (some ⟨b199, 0, none⟩) 4 4] ([109#8, 111#8, 114#8, 101#8] : List (BitVec 8)), Rp SB [.slice ab125 B.length cb126] B, Rp SB [.slice aσ184 ((([] : List (BitVec 8)) ++ frameF ([109#8, 111#8, 114#8, 101#8] : List (BitVec 8))).length) cs185] (([] : List (BitVec 8)) ++ frameF ([109#8, 111#8, 114#8, 101#8] : List (BitVec 8))), Rp SB [.slice (some ⟨b172, 0, none⟩) 4 4] ([109#8, 111#8, 114#8, 101#8] : List (BitVec 8)), Rp SB [.slice a139 B.length c140] B, Rp SB [.slice ab125 B.length cb126] B, Rp SB [.slice none (([] : List (BitVec 8)).length) 0] ([] : List (BitVec 8)), Rp (Shape.slice SB) [.slice ax l.length cx] l, Fz jQ, Rp SB [.slice aB B.length cB] B] _ := H
         refine RW.new (κ := .seq) (d := some 150) (r := (sq 4 6)) (o := .cells #[.slice (some ⟨b199, 0, none⟩) 4 4] 23 (0, 0)) (v := fun b => .slice (some ⟨b, 0, none⟩) 1 1) (fun b => by as_aux_lemma => kernel_rfl) (nofun) H ?_
         intro b202 w203 H
         have H := H.freeze 0 rfl SB ([([109#8, 111#8, 114#8, 101#8] : List (BitVec 8))] : List (List (BitVec 8))) 1 (by simp [maxLen]) (by first | exact Nat.le_refl _ | simp) (EsP.cons (c := [.slice (some ⟨b199, 0, none⟩) 4 4]) (H.rp 0 rfl) EsP.nil)
         have H : Hp w S [] ((jb121, .cells #[.P db12 0, .string (⟨#[106]⟩ : ByteArray), .slice ab125 B.length cb126, .slice ar182 ((R ++ [([109#8, 111#8, 114#8, 101#8] : List (BitVec 8))]).length) cr183, .I g180, .string seg181, .slice aσ184 ((([] : List (BitVec 8)) ++ frameF ([109#8, 111#8, 114#8, 101#8] : List (BitVec 8))).length) cs185, .bool false] 41 (0, 0)) :: (diskM db12 D186 sa187 sk188)) [⟨SB, 23, .slice ar182 ((R ++ [([109#8, 111#8, 114#8, 101#8] : List (BitVec 8))]).length) cr183, (R ++ [([109#8, 111#8, 114#8, 101#8] : List (BitVec 8))])⟩, ⟨stepS, 143, .slice sa187 D186.steps.length sk188, D186.steps⟩, ⟨SB, 23, .slice a144 R.length c145, R⟩, ⟨SB, 23, .slice aw R.length cw, R⟩] [Rp (Shape.slice SB) [.slice (some ⟨b202, 0, none⟩) 1 1] ([([109#8, 111#8, 114#8, 101#8] : List (BitVec 8))] : List (List (BitVec 8))), Rp SB [.slice (some ⟨b199, 0, none⟩) 4 4] ([109#8, 111#8, 114#8, 101#8] : List (BitVec 8)), Rp SB [.slice ab125 B.length cb126] B, Rp SB [.slice aσ184 ((([] : List (BitVec 8)) ++ frameF ([109#8, 111#8, 114#8, 101#8] : List (BitVec 8))).length) cs185] (([] : List (BitVec 8)) ++ frameF ([109#8, 111#8, 114#8, 101#8] : List (BitVec 8))), Rp SB [.slice (some ⟨b172, 0, none⟩) 4 4] ([109#8, 111#8, 114#8, 101#8] : List (BitVec 8)), Rp SB [.slice a139 B.length c140] B, Rp SB [.slice ab125 B.length cb126] B, Rp SB [.slice none (([] : List (BitVec 8)).length) 0] ([] : List (BitVec 8)), Rp (Shape.slice SB) [.slice ax l.length cx] l, Fz jQ, Rp SB [.slice aB B.length cB] B] _ := H
         refine RW.appendW (d := some 151) (r := (sq 5 6)) (T := 22) (ty := 22) (e := 23) (m := 1) (by_ := 24) (v := .slice aw R.length cw) (a2 := (some ⟨b202, 0, none⟩)) (l2 := 1) (c2 := 1) (zs := (R ++ [([109#8, 111#8, 114#8, 101#8] : List (BitVec 8))])) (by as_aux_lemma => kernel_rfl) (by as_aux_lemma => kernel_rfl) rfl H 3 rfl 0 rfl (rfl) (by have := hW.rl; rw [List.length_append]; simp only [List.length_cons, List.length_nil]; omega) ?_
         intro a204 c205 w207 H hc206
         have H : Hp w S [] ((jb121, .cells #[.P db12 0, .string (⟨#[106]⟩ : ByteArray), .slice ab125 B.length cb126, .slice ar182 ((R ++ [([109#8, 111#8, 114#8, 101#8] : List (BitVec 8))]).length) cr183, .I g180, .string seg181, .slice aσ184 ((([] : List (BitVec 8)) ++ frameF ([109#8, 111#8, 114#8, 101#8] : List (BitVec 8))).length) cs185, .bool false] 41 (0, 0)) :: (diskM db12 D186 sa187 sk188)) [⟨SB, 23, .slice ar182 ((R ++ [([109#8, 111#8, 114#8, 101#8] : List (BitVec 8))]).length) cr183, (R ++ [([109#8, 111#8, 114#8, 101#8] : List (BitVec 8))])⟩, ⟨stepS, 143, .slice sa187 D186.steps.length sk188, D186.steps⟩, ⟨SB, 23, .slice a144 R.length c145, R⟩, ⟨SB, 23, .slice a204 ((R ++ [([109#8, 111#8, 114#8, 101#8] : List (BitVec 8))]).length) c205, (R ++ [([109#8, 111#8, 114#8, 101#8] : List (BitVec 8))])⟩] [Rp (Shape.slice SB) [.slice (some ⟨b202, 0, none⟩) 1 1] ([([109#8, 111#8, 114#8, 101#8] : List (BitVec 8))] : List (List (BitVec 8))), Rp SB [.slice (some ⟨b199, 0, none⟩) 4 4] ([109#8, 111#8, 114#8, 101#8] : List (BitVec 8)), Rp SB [.slice ab125 B.length cb126] B, Rp SB [.slice aσ184 ((([] : List (BitVec 8)) ++ frameF ([109#8, 111#8, 114#8, 101#8] : List (BitVec 8))).length) cs185] (([] : List (BitVec 8)) ++ frameF ([109#8, 111#8, 114#8, 101#8] : List (BitVec 8))), Rp SB [.slice (some ⟨b172, 0, none⟩) 4 4] ([109#8, 111#8, 114#8, 101#8] : List (BitVec 8)), Rp SB [.slice a139 B.length c140] B, Rp SB [.slice ab125 B.length cb126] B, Rp SB [.slice none (([] : List (BitVec 8)).length) 0] ([] : List (BitVec 8)), Rp (Shape.slice SB) [.slice ax l.length cx] l, Fz jQ, Rp SB [.slice aB B.length cB] B] _ := H
         refine qF 1 [(7, .P db12 0), (10, .slice a204 ((R ++ [([109#8, 111#8, 114#8, 101#8] : List (BitVec 8))]).length) c205), (11, .slice aB B.length cB), (13, .I k)] ?_
         refine qR 1 [.c [10, 0, 1, 0, 0, 2], .l [10, 0, 1, 0, 0], .b 4, .c [11]] [(7, .P db12 0), (10, .slice a204 ((R ++ [([109#8, 111#8, 114#8, 101#8] : List (BitVec 8))]).length) c205), (11, .slice aB B.length cB), (13, .I k)] ?_
         refine qG (sq 0 3) ?_
         refine qP 1 (sq 1 3) [(7, .P db12 0), (10, .slice a204 ((R ++ [([109#8, 111#8, 114#8, 101#8] : List (BitVec 8))]).length) c205), (11, .slice aB B.length cB), (13, .I k), (95, .I k)] ?_
         refine qI .seq 96 (sq 2 3) ((k : Int) + 1) ?_
         refine qF 1 [(7, .P db12 0), (10, .slice a204 ((R ++ [([109#8, 111#8, 114#8, 101#8] : List (BitVec 8))]).length) c205), (11, .slice aB B.length cB), (13, .I ((k : Int) + 1))] ?_
         have H := H.pick [8, 9, 10] rfl
         have H := H.frontW 1 (W' := [⟨stepS, 143, .slice sa187 D186.steps.length sk188, D186.steps⟩, ⟨SB, 23, .slice ar182 ((R ++ [([109#8, 111#8, 114#8, 101#8] : List (BitVec 8))]).length) cr183, (R ++ [([109#8, 111#8, 114#8, 101#8] : List (BitVec 8))])⟩, ⟨SB, 23, .slice a144 R.length c145, R⟩, ⟨SB, 23, .slice a204 ((R ++ [([109#8, 111#8, 114#8, 101#8] : List (BitVec 8))]).length) c205, (R ++ [([109#8, 111#8, 114#8, 101#8] : List (BitVec 8))])⟩]) rfl
         have H := H.frontW 3 (W' := [⟨SB, 23, .slice a204 ((R ++ [([109#8, 111#8, 114#8, 101#8] : List (BitVec 8))]).length) c205, (R ++ [([109#8, 111#8, 114#8, 101#8] : List (BitVec 8))])⟩, ⟨stepS, 143, .slice sa187 D186.steps.length sk188, D186.steps⟩, ⟨SB, 23, .slice ar182 ((R ++ [([109#8, 111#8, 114#8, 101#8] : List (BitVec 8))]).length) cr183, (R ++ [([109#8, 111#8, 114#8, 101#8] : List (BitVec 8))])⟩, ⟨SB, 23, .slice a144 R.length c145, R⟩]) rfl
         have H := H.drop (M' := ((diskM db12 D186 sa187 sk188))) (W' := [⟨SB, 23, .slice a204 (R ++ [([109#8, 111#8, 114#8, 101#8] : List (BitVec 8))]).length c205, (R ++ [([109#8, 111#8, 114#8, 101#8] : List (BitVec 8))])⟩, ⟨stepS, 143, .slice sa187 D186.steps.length sk188, D186.steps⟩]) (by repeat (first | exact List.Sublist.refl _ | apply List.Sublist.cons_cons | apply List.Sublist.cons)) (by repeat (first | exact List.Sublist.refl _ | apply List.Sublist.cons_cons | apply List.Sublist.cons))
         exact WK.back (hback117 (k + 1, D186, sa187, sk188, R, (R ++ [([109#8, 111#8, 114#8, 101#8] : List (BitVec 8))]), g180, seg181, (([] : List (BitVec 8)) ++ frameF ([109#8, 111#8, 114#8, 101#8] : List (BitVec 8))), false, a204, c205) _ ⟨H, by omega, hW197.mono (by omega) (by omega) (by omega), hna198⟩ (by first | omega | (simp only []; omega))) (by as_aux_lemma => kernel_rfl)
        ·
         refine qF 6 [(7, .P db12 0), (10, .slice aw R.length cw), (11, .slice aB B.length cB), (13, .I k), (146, .bool false)] ?_
         refine qR 3 [.c [10, 0, 1, 0, 0, 2], .l [10, 0, 1, 0, 0], .b 4, .c [11]] [(7, .P db12 0), (10, .slice aw R.length cw), (11, .slice aB B.length cB), (13, .I k)] ?_
         refine qG (sq 0 3) ?_
         refine qP 1 (sq 1 3) [(7, .P db12 0), (10, .slice aw R.length cw), (11, .slice aB B.length cB), (13, .I k), (95, .I k)] ?_
         refine qI .seq 96 (sq 2 3) ((k : Int) + 1) ?_
         refine qF 1 [(7, .P db12 0), (10, .slice aw R.length cw), (11, .slice aB B.length cB), (13, .I ((k : Int) + 1))] ?_
         have H := H.pick [3, 4, 5] rfl
         have H := H.frontW 2 (W' := [⟨stepS, 143, .slice sa130 D129.steps.length sk131, D129.steps⟩, ⟨SB, 23, .slice a144 R.length c145, R⟩, ⟨SB, 23, .slice ar127 R.length cr128, R⟩, ⟨SB, 23, .slice aw R.length cw, R⟩]) rfl
         have H := H.frontW 3 (W' := [⟨SB, 23, .slice aw R.length cw, R⟩, ⟨stepS, 143, .slice sa130 D129.steps.length sk131, D129.steps⟩, ⟨SB, 23, .slice a144 R.length c145, R⟩, ⟨SB, 23, .slice ar127 R.length cr128, R⟩]) rfl
         have H := H.drop (M' := ((diskM db12 D129 sa130 sk131))) (W' := [⟨SB, 23, .slice aw R.length cw, R⟩, ⟨stepS, 143, .slice sa130 D129.steps.length sk131, D129.steps⟩]) (by repeat (first | exact List.Sublist.refl _ | apply List.Sublist.cons_cons | apply List.Sublist.cons)) (by repeat (first | exact List.Sublist.refl _ | apply List.Sublist.cons_cons | apply List.Sublist.cons))
         exact WK.back (hback117 (k + 1, D129, sa130, sk131, R, R, g124, (⟨#[]⟩ : ByteArray), ([] : List (BitVec 8)), true, aw, cw) _ ⟨H, by omega, hW133.mono (by omega) (by omega) (by omega), hna137⟩ (by first | omega | (simp only []; omega))) (by as_aux_lemma => kernel_rfl)
     ·
      refine qR 2 [.c [11, 0], .c [12]] [] ?_
      refine qG (sq 0 2) ?_
      refine qK .seq (some 152) (sq 1 2) 13 #[] (heads_spec (S := fun _ => True) (H.viewF 1 rfl)) ?_
      rintro _ w208 hE209 rfl
      have H := H.ext hE209
      refine qF 1 [(4, .bool true)] ?_
      refine qT (.bool true) Tryz.func3 ?_
      exact ⟨_, rfl, H.done, rfl⟩
theorem grows_spec {S : Nat → Prop} {w : World} {l : List (List (BitVec 8))} {ax : Option Addr} {cx : Nat} (x1 : Int) (hb : ∀ r ∈ l, r.length ≤ 140737488355328) (hr : (Rp (Shape.slice SB) [.slice ax l.length cx] l).p S w) (hq : (Fz jQ).p S w) :
 Calls Tryz.prog 3 #[.slice ax l.length cx, .I x1] w (Ret fun v w' => Ext w w' ∧ v = .bool true) := by
 by_cases h : l.length ≤ 200
 · exact grows_few x1 h hb hr hq
 · exact grows_many x1 (Nat.lt_of_not_le h) hr hq
end Go.Proofs.YtdnibpclkhenmaaGreatDoor
