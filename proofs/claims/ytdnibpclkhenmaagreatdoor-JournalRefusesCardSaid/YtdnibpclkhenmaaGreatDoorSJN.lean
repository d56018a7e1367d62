import Derived.Test.YtdnibpclkhenmaaGreatDoorSJM
namespace Go.Proofs.YtdnibpclkhenmaaGreatDoor
open Go.BX
set_option maxHeartbeats 1000000 in
theorem refuses_yes {S : Nat → Prop} {w : World} {x : ByteArray} {r : List (BitVec 8)} {ax : Option Addr} {cx : Nat} (hx : x.size ≤ 140737488355328) (hpn : PlainN x) (hr : (Rp SB [.slice ax r.length cx] r).p S w) (hq : (Fz jQ).p S w) :
 Calls Tryz.prog 4 #[.string x, .slice ax r.length cx] w (Ret fun v w' => Ext w w' ∧ v = .bool true) := by
 have hsz9 : x.data.size = x.size := rfl
 refine qS (fn := Tryz.f4) (n := 151) (σ := [(0, .string x), (1, .slice ax r.length cx)]) Tryz.func4 ?_
 have H := Hp.startF (w := w) (S := S) (G := [Rp SB [.slice ax r.length cx] r, Fz jQ]) (.rp hr (.cons hq .nil))
 refine qR 3 [.c [1, 0], .c [2]] [(0, .string x), (1, .slice ax r.length cx)] ?_
 refine qG (sq 0 2) ?_
 refine qK .seq (some 17) (sq 1 2) 12 #[] (new_spec (S := Av S w [] (idsOf [] []))) ?_
 rintro _ w1 - ⟨db2, x3, y4, rfl, H'⟩
 have H := H.back (M1 := []) (W1 := []) H'
 have H := H.perms (M' := ((diskM db2 (newD x3 y4) none 0))) (W' := [⟨stepS, 143, .slice none ((newD x3 y4).steps.length) 0, (newD x3 y4).steps⟩]) ((List.perm_append_comm (l₁ := diskM db2 (newD x3 y4) none 0) (l₂ := ([] : Heap))).symm) (List.Perm.refl _)
 have H : Hp w S [] ((diskM db2 (newD x3 y4) none 0)) [⟨stepS, 143, .slice none ((newD x3 y4).steps.length) 0, (newD x3 y4).steps⟩] [Rp SB [.slice ax r.length cx] r, Fz jQ] _ := H
 have hokdb2 : DOk (newD x3 y4) := newD_ok x3 y4
 refine qF 1 [(0, .string x), (1, .slice ax r.length cx), (5, .P db2 0)] ?_
 refine qR 6 [.c [3, 0], .c [4]] [(0, .string x), (1, .slice ax r.length cx), (5, .P db2 0)] ?_
 refine qG (sq 0 9) ?_
 refine qP 4 (sq 4 9) [(0, .string x), (1, .slice ax r.length cx), (5, .P db2 0), (23, .bool (decide ((((x.size : Nat) : Int) : Int) ≥ 1)))] ?_
 refine tD (fun b_ => [(0, .string x), (1, .slice ax r.length cx), (5, .P db2 0), (23, .bool b_)]) ((((x.size : Nat) : Int) : Int) ≥ 1) (fun h5 => ?_) (fun h5 => ?_)
 ·
  refine qF 5 [(0, .string x), (1, .slice ax r.length cx), (5, .P db2 0), (6, .bool (decide ((((x.size : Nat) : Int) : Int) ≤ 16)))] ?_
  refine qR 4 [.c [4, 0, 1, 0], .b 0, .c [5]] [(0, .string x), (1, .slice ax r.length cx), (5, .P db2 0), (6, .bool (decide ((((x.size : Nat) : Int) : Int) ≤ 16))), (7, .I 0)] ?_
  refine WK.loop (α := Nat × Bool) (b := cd Tryz.prog 4 [4, 0, 1, 0, 0]) (by as_aux_lemma => kernel_rfl) (fun st_ => match st_ with | (i, bb) => [(0, .string x), (1, .slice ax r.length cx), (5, .P db2 0), (6, .bool bb), (7, .I i)]) (fun st_ w' => match st_ with | (i, bb) => Hp w S [] ((diskM db2 (newD x3 y4) none 0)) [⟨stepS, 143, .slice none ((newD x3 y4).steps.length) 0, (newD x3 y4).steps⟩] [Rp SB [.slice ax r.length cx] r, Fz jQ] w' ∧ i ≤ x.size ∧ (bb = true ↔ MayP x i)) (fun st_ => match st_ with | (i, bb) => x.size - i) (0, decide ((((x.size : Nat) : Int) : Int) ≤ 16)) ⟨H, Nat.zero_le _, ⟨fun h => ⟨⟨by omega, by have := of_decide_eq_true h; omega⟩, fun j hj => absurd hj (Nat.not_lt_zero j)⟩, fun h => decide_eq_true (by have := h.1.2; omega)⟩⟩ (rfl) ?_
  rintro ⟨i, bb⟩ w7 ⟨H, ⟨hi, hbb⟩⟩ hback6
  refine qR 3 [.c [4, 0, 1, 0, 0, 0, 1], .c [4, 0, 1, 0, 0, 1], .l [4, 0, 1, 0, 0], .b 0, .c [5]] [(0, .string x), (1, .slice ax r.length cx), (5, .P db2 0), (6, .bool bb), (7, .I i), (31, .bool (decide (((i : Int) : Int) < ((x.size : Nat) : Int))))] ?_
  refine qD (((i : Int) : Int) < ((x.size : Nat) : Int)) (fun h8 => ?_) (fun h8 => ?_)
  ·
   refine qR 3 [.c [4, 0, 1, 0, 0, 1, 0, 0], .b 1, .c [4, 0, 1, 0, 0, 2], .l [4, 0, 1, 0, 0], .b 0, .c [5]] [(0, .string x), (1, .slice ax r.length cx), (5, .P db2 0), (6, .bool bb), (7, .I i)] ?_
   refine qG (sq 0 14) ?_
   refine qP 2 (sq 2 14) [(0, .string x), (1, .slice ax r.length cx), (5, .P db2 0), (6, .bool bb), (7, .I i), (35, .bool bb)] ?_
   refine RW.test (fun b_ => [(0, .string x), (1, .slice ax r.length cx), (5, .P db2 0), (6, .bool bb), (7, .I i), (35, .bool b_)]) bb (fun h9 => ?_) (fun h9 => ?_)
   ·
    refine qP 2 (sq 4 14) [(0, .string x), (1, .slice ax r.length cx), (5, .P db2 0), (6, .bool bb), (7, .I i), (35, .bool true), (36, .string x), (37, .I i)] ?_
    have hx10 : i < (x).data.size := by have := hsz9; omega
    refine RW.strAt (κ := .seq) (d := some 38) (r := (sq 5 14)) (T := 9) (s := x) (k := .i64) (t := (i : Int)) i (by as_aux_lemma => kernel_rfl) (by as_aux_lemma => kernel_rfl) (by omega) hx10 ?_
    refine qP 3 (sq 8 14) [(0, .string x), (1, .slice ax r.length cx), (5, .P db2 0), (6, .bool bb), (7, .I i), (41, .bool (decide ((((((x).data[i]'hx10).toNat : Nat) : Int) : Int) ≥ 97)))] ?_
    refine tD (fun b_ => [(0, .string x), (1, .slice ax r.length cx), (5, .P db2 0), (6, .bool bb), (7, .I i), (41, .bool b_)]) ((((((x).data[i]'hx10).toNat : Nat) : Int) : Int) ≥ 97) (fun h11 => ?_) (fun h11 => ?_)
    ·
     refine qP 2 (sq 10 14) [(0, .string x), (1, .slice ax r.length cx), (5, .P db2 0), (6, .bool bb), (7, .I i), (41, .bool true), (42, .string x), (43, .I i)] ?_
     have hx12 : i < (x).data.size := by have := hsz9; omega
     refine RW.strAt (κ := .seq) (d := some 44) (r := (sq 11 14)) (T := 9) (s := x) (k := .i64) (t := (i : Int)) i (by as_aux_lemma => kernel_rfl) (by as_aux_lemma => kernel_rfl) (by omega) hx12 ?_
     refine qF 3 [(0, .string x), (1, .slice ax r.length cx), (5, .P db2 0), (6, .bool (decide ((((((x).data[i]'hx12).toNat : Nat) : Int) : Int) ≤ 122))), (7, .I i)] ?_
     refine qR 1 [.c [4, 0, 1, 0, 0, 2], .l [4, 0, 1, 0, 0], .b 0, .c [5]] [(0, .string x), (1, .slice ax r.length cx), (5, .P db2 0), (6, .bool (decide ((((((x).data[i]'hx12).toNat : Nat) : Int) : Int) ≤ 122))), (7, .I i)] ?_
     refine qG (sq 0 3) ?_
     refine qP 1 (sq 1 3) [(0, .string x), (1, .slice ax r.length cx), (5, .P db2 0), (6, .bool (decide ((((((x).data[i]'hx12).toNat : Nat) : Int) : Int) ≤ 122))), (7, .I i), (32, .I i)] ?_
     refine qI .seq 33 (sq 2 3) ((i : Int) + 1) ?_
     refine qF 1 [(0, .string x), (1, .slice ax r.length cx), (5, .P db2 0), (6, .bool (decide ((((((x).data[i]'hx12).toNat : Nat) : Int) : Int) ≤ 122))), (7, .I ((i : Int) + 1))] ?_
     exact WK.back (hback6 (i + 1, decide ((((((x).data[i]'hx12).toNat : Nat) : Int) : Int) ≤ 122)) _ ⟨H, by omega, may_yes hbb (by assumption) (by omega) ⟨fun h => ⟨by omega, by have := of_decide_eq_true h; omega⟩, fun h => decide_eq_true (by omega)⟩⟩ (by first | omega | (simp only []; omega))) (by as_aux_lemma => kernel_rfl)
    ·
     refine qF 6 [(0, .string x), (1, .slice ax r.length cx), (5, .P db2 0), (6, .bool false), (7, .I i)] ?_
     refine qR 1 [.c [4, 0, 1, 0, 0, 2], .l [4, 0, 1, 0, 0], .b 0, .c [5]] [(0, .string x), (1, .slice ax r.length cx), (5, .P db2 0), (6, .bool false), (7, .I i)] ?_
     refine qG (sq 0 3) ?_
     refine qP 1 (sq 1 3) [(0, .string x), (1, .slice ax r.length cx), (5, .P db2 0), (6, .bool false), (7, .I i), (32, .I i)] ?_
     refine qI .seq 33 (sq 2 3) ((i : Int) + 1) ?_
     refine qF 1 [(0, .string x), (1, .slice ax r.length cx), (5, .P db2 0), (6, .bool false), (7, .I ((i : Int) + 1))] ?_
     exact WK.back (hback6 (i + 1, false) _ ⟨H, by omega, may_bad (by omega) (by omega)⟩ (by first | omega | (simp only []; omega))) (by as_aux_lemma => kernel_rfl)
   ·
    refine qF 12 [(0, .string x), (1, .slice ax r.length cx), (5, .P db2 0), (6, .bool false), (7, .I i)] ?_
    refine qR 1 [.c [4, 0, 1, 0, 0, 2], .l [4, 0, 1, 0, 0], .b 0, .c [5]] [(0, .string x), (1, .slice ax r.length cx), (5, .P db2 0), (6, .bool false), (7, .I i)] ?_
    refine qG (sq 0 3) ?_
    refine qP 1 (sq 1 3) [(0, .string x), (1, .slice ax r.length cx), (5, .P db2 0), (6, .bool false), (7, .I i), (32, .I i)] ?_
    refine qI .seq 33 (sq 2 3) ((i : Int) + 1) ?_
    refine qF 1 [(0, .string x), (1, .slice ax r.length cx), (5, .P db2 0), (6, .bool false), (7, .I ((i : Int) + 1))] ?_
    exact WK.back (hback6 (i + 1, false) _ ⟨H, by omega, may_no hbb (by assumption)⟩ (by first | omega | (simp only []; omega))) (by as_aux_lemma => kernel_rfl)
  ·
   obtain rfl : bb = true := hbb.2 ((may_all (by omega)).2 hpn)
   refine qR 2 [.c [5, 0], .c [6]] [(0, .string x), (1, .slice ax r.length cx), (5, .P db2 0), (6, .bool true)] ?_
   refine qG (sq 0 8) ?_
   refine qP 2 (sq 2 8) [(0, .string x), (1, .slice ax r.length cx), (6, .bool true), (48, .P db2 0), (49, .string x)] ?_
   have hcw0 := newD_CW x3 y4 x
   have hna0 : (newD x3 y4).armed = false := rfl
   have H := H.perms (M' := diskM db2 (newD x3 y4) none 0 ++ []) (W' := [⟨stepS, 143, .slice none ((newD x3 y4).steps.length) 0, (newD x3 y4).steps⟩]) (List.perm_append_comm (l₁ := diskM db2 (newD x3 y4) none 0) (l₂ := ([] : Heap))) (List.Perm.refl _)
   refine RW.callS (d := some 50) (r := (sq 3 8)) (g := 14) (args := #[.P db2 0, .string x]) (by as_aux_lemma => kernel_rfl) (jopen_law (n := 100000000) (m := 0) hpn hcw0.di (hcw0.al.mono (by omega)) hcw0.op hcw0.cap (by omega) (fun B R h => CW.hb0 h) ((H.lend (M1 := diskM db2 (newD x3 y4) none 0) (W1 := [⟨stepS, 143, .slice none ((newD x3 y4).steps.length) 0, (newD x3 y4).steps⟩])).pick [1] rfl)) ?_
   rintro _ w13 (⟨jb14, B15, R16, g17, ab18, cb19, ar20, cr21, D22, sa23, sk24, rfl, hq25, hW26, hS27, H'⟩ | ⟨D22, sa23, sk24, rfl, hQ28, hr29, H'⟩)
   rotate_left
   · exact absurd (hr29) (by rw [hna0]; nofun)
   have H := H.back (M1 := diskM db2 (newD x3 y4) none 0) (W1 := [⟨stepS, 143, .slice none ((newD x3 y4).steps.length) 0, (newD x3 y4).steps⟩]) H'
   have H := H.perms (M' := ((jb14, .cells #[.P db2 0, .string x, .slice ab18 B15.length cb19, .slice ar20 R16.length cr21, .I g17, .string (⟨#[]⟩ : ByteArray), .slice none (([] : List (BitVec 8)).length) 0, .bool true] 41 (0, 0)) :: (diskM db2 D22 sa23 sk24))) (W' := [⟨SB, 23, .slice ar20 R16.length cr21, R16⟩, ⟨stepS, 143, .slice sa23 D22.steps.length sk24, D22.steps⟩]) ((List.perm_append_comm (l₁ := ([] : Heap)) (l₂ := diskM db2 D22 sa23 sk24)).cons _) (List.Perm.refl _)
   have H : Hp w S [] ((jb14, .cells #[.P db2 0, .string x, .slice ab18 B15.length cb19, .slice ar20 R16.length cr21, .I g17, .string (⟨#[]⟩ : ByteArray), .slice none (([] : List (BitVec 8)).length) 0, .bool true] 41 (0, 0)) :: (diskM db2 D22 sa23 sk24)) [⟨SB, 23, .slice ar20 R16.length cr21, R16⟩, ⟨stepS, 143, .slice sa23 D22.steps.length sk24, D22.steps⟩] [Rp SB [.slice ab18 B15.length cb19] B15, Rp SB [.slice none (([] : List (BitVec 8)).length) 0] ([] : List (BitVec 8)), Rp SB [.slice ax r.length cx] r, Fz jQ] _ := H
   have hna30 := hS27.arm.trans hna0
   refine qF 5 [(0, .string x), (1, .slice ax r.length cx), (6, .bool true), (8, .P jb14 0), (9, .I 0)] ?_
   refine qR 1 [.c [6, 0], .c [7]] [(0, .string x), (1, .slice ax r.length cx), (6, .bool true), (8, .P jb14 0), (9, .I 0)] ?_
   refine qG (sq 0 7) ?_
   refine qP 1 (sq 1 7) [(0, .string x), (1, .slice ax r.length cx), (6, .bool true), (8, .P jb14 0), (9, .I 0), (54, .string x)] ?_
   refine qK .seq (some 55) (sq 2 7) 14 #[.pointer none, .string x] (jopen_nil (S := fun _ => True) x) ?_
   rintro _ w31 hE32 rfl
   have H := H.ext hE32
   refine qF 5 [(0, .string x), (1, .slice ax r.length cx), (6, .bool true), (8, .P jb14 0), (9, .I 0), (11, .I 1)] ?_
   refine qR 1 [.c [7, 0], .c [8]] [(0, .string x), (1, .slice ax r.length cx), (6, .bool true), (8, .P jb14 0), (9, .I 0), (11, .I 1)] ?_
   refine qG (sq 0 9) ?_
   refine qP 1 (sq 1 9) [(0, .string x), (1, .slice ax r.length cx), (6, .bool true), (8, .P jb14 0), (9, .I 0), (11, .I 1), (59, .agg #[.bool false, .map none, .map none, .slice none 0 0, .bool false, .I 0, .bool false])] ?_
   refine qB .seq 60 (sq 2 9) #[.bool false, .map none, .map none, .slice none 0 0, .bool false, .I 0, .bool false] 39 H ?_
   intro b33 w34 H
   refine qP 1 (sq 3 9) [(1, .slice ax r.length cx), (6, .bool true), (8, .P jb14 0), (9, .I 0), (11, .I 1), (60, .P b33 0), (61, .string x)] ?_
   refine qK .seq (some 62) (sq 4 9) 14 #[.P b33 0, .string x] (jopen_zero (S := fun _ => True) x (H.viewM 0 rfl (by simp))) ?_
   rintro _ w35 hE36 rfl
   have H := H.ext hE36
   refine qF 5 [(1, .slice ax r.length cx), (6, .bool true), (8, .P jb14 0), (9, .I 0), (11, .I 1), (13, .I 1)] ?_
   refine qR 8 [.c [10, 0], .c [11]] [(1, .slice ax r.length cx), (14, .pointer none)] ?_
   refine qG (sq 0 3) ?_
   refine qP 1 (sq 1 3) [(1, .slice ax r.length cx), (14, .pointer none), (89, .agg #[.pointer none, .string (⟨#[]⟩ : ByteArray), .slice none 0 0, .slice none 0 0, .I 0, .string (⟨#[]⟩ : ByteArray), .slice none 0 0, .bool false])] ?_
   refine qB .seq 90 (sq 2 3) #[.pointer none, .string (⟨#[]⟩ : ByteArray), .slice none 0 0, .slice none 0 0, .I 0, .string (⟨#[]⟩ : ByteArray), .slice none 0 0, .bool false] 41 H ?_
   intro b37 w38 H
   refine qF 1 [(1, .slice ax r.length cx), (14, .pointer none), (15, .P b37 0)] ?_
   refine qR 1 [.c [11, 0], .c [12]] [(1, .slice ax r.length cx), (14, .pointer none), (15, .P b37 0)] ?_
   refine qG (sq 0 28) ?_
   refine qP 2 (sq 2 28) [(1, .slice ax r.length cx), (14, .pointer none), (15, .P b37 0), (91, .pointer none), (92, .slice ax r.length cx)] ?_
   refine qK .seq (some 93) (sq 3 28) 16 #[.pointer none, .slice ax r.length cx] (jAppend_nil (S := fun _ => True)) ?_
   rintro _ w39 hE40 rfl
   have H := H.ext hE40
   refine qP 3 (sq 6 28) [(1, .slice ax r.length cx), (14, .pointer none), (15, .P b37 0), (95, .bool true), (96, .pointer none)] ?_
   refine qK .seq (some 97) (sq 7 28) 20 #[.pointer none] (jSync_nil (S := fun _ => True)) ?_
   rintro _ w41 hE42 rfl
   have H := H.ext hE42
   refine qP 5 (sq 12 28) [(1, .slice ax r.length cx), (14, .pointer none), (15, .P b37 0), (100, .bool true), (101, .pointer none), (102, .slice ax r.length cx)] ?_
   refine qK .seq (some 103) (sq 13 28) 15 #[.pointer none, .slice ax r.length cx] (jCheckpoint_nil (S := fun _ => True)) ?_
   rintro _ w43 hE44 rfl
   have H := H.ext hE44
   refine qP 4 (sq 17 28) [(1, .slice ax r.length cx), (14, .pointer none), (15, .P b37 0), (106, .bool true), (107, .pointer none)] ?_
   refine qK .seq (some 108) (sq 18 28) 18 #[.pointer none] (jBase_nil (S := fun _ => True)) ?_
   rintro _ w45 hE46 rfl
   have H := H.ext hE46
   refine qP 5 (sq 23 28) [(1, .slice ax r.length cx), (15, .P b37 0), (112, .bool true), (113, .pointer none)] ?_
   refine qK .seq (some 114) (sq 24 28) 19 #[.pointer none] (jRecords_nil (S := fun _ => True)) ?_
   rintro _ w47 hE48 rfl
   have H := H.ext hE48
   refine qF 4 [(1, .slice ax r.length cx), (15, .P b37 0), (16, .bool true)] ?_
   refine qR 1 [.c [12, 0], .c [13]] [(1, .slice ax r.length cx), (15, .P b37 0), (16, .bool true)] ?_
   refine qG (sq 0 34) ?_
   refine qP 4 (sq 4 34) [(1, .slice ax r.length cx), (15, .P b37 0), (119, .bool true), (120, .P b37 0), (121, .slice ax r.length cx)] ?_
   refine qK .seq (some 122) (sq 5 34) 16 #[.P b37 0, .slice ax r.length cx] (jAppend_zero (S := fun _ => True) (H.viewM 0 rfl (by simp))) ?_
   rintro _ w49 hE50 rfl
   have H := H.ext hE50
   refine qP 4 (sq 9 34) [(1, .slice ax r.length cx), (15, .P b37 0), (125, .bool true), (126, .P b37 0)] ?_
   refine qK .seq (some 127) (sq 10 34) 20 #[.P b37 0] (jSync_zero (S := fun _ => True) (H.viewM 0 rfl (by simp))) ?_
   rintro _ w51 hE52 rfl
   have H := H.ext hE52
   refine qP 5 (sq 15 34) [(15, .P b37 0), (130, .bool true), (131, .P b37 0), (132, .slice ax r.length cx)] ?_
   refine qK .seq (some 133) (sq 16 34) 15 #[.P b37 0, .slice ax r.length cx] (jCheckpoint_zero (S := fun _ => True) (H.viewM 0 rfl (by simp))) ?_
   rintro _ w53 hE54 rfl
   have H := H.ext hE54
   refine qP 4 (sq 20 34) [(15, .P b37 0), (136, .bool true), (137, .P b37 0)] ?_
   refine qK .seq (some 138) (sq 21 34) 18 #[.P b37 0] (jBase_zero (S := fun _ => True) (H.viewM 0 rfl (by simp))) ?_
   rintro _ w55 hE56 ⟨a57, c58, rfl⟩
   have H := H.ext hE56
   refine qP 5 (sq 26 34) [(142, .bool true), (143, .P b37 0)] ?_
   refine qK .seq (some 144) (sq 27 34) 19 #[.P b37 0] (jRecords_zero (S := fun _ => True) (H.viewM 0 rfl (by simp))) ?_
   rintro _ w59 hE60 rfl
   have H := H.ext hE60
   refine qP 4 (sq 31 34) [(148, .bool true)] ?_
   refine qK .seq (some 149) (sq 32 34) 13 #[] (heads_spec (S := fun _ => True) (H.viewF 3 rfl)) ?_
   rintro _ w61 hE62 rfl
   have H := H.ext hE62
   refine qF 2 [(4, .bool true)] ?_
   refine qT (.bool true) Tryz.func4 ?_
   exact ⟨_, rfl, H.done, rfl⟩
 ·
  refine qF 5 [(0, .string x), (1, .slice ax r.length cx), (5, .P db2 0), (6, .bool false)] ?_
  refine qR 4 [.c [4, 0, 1, 0], .b 0, .c [5]] [(0, .string x), (1, .slice ax r.length cx), (5, .P db2 0), (6, .bool false), (7, .I 0)] ?_
  refine WK.loop (α := Nat × Bool) (b := cd Tryz.prog 4 [4, 0, 1, 0, 0]) (by as_aux_lemma => kernel_rfl) (fun st_ => match st_ with | (i, bb) => [(0, .string x), (1, .slice ax r.length cx), (5, .P db2 0), (6, .bool bb), (7, .I i)]) (fun st_ w' => match st_ with | (i, bb) => Hp w S [] ((diskM db2 (newD x3 y4) none 0)) [⟨stepS, 143, .slice none ((newD x3 y4).steps.length) 0, (newD x3 y4).steps⟩] [Rp SB [.slice ax r.length cx] r, Fz jQ] w' ∧ i ≤ x.size ∧ (bb = true ↔ MayP x i)) (fun st_ => match st_ with | (i, bb) => x.size - i) (0, false) ⟨H, Nat.zero_le _, ⟨nofun, fun h => absurd h.1.1 (by omega)⟩⟩ (rfl) ?_
  rintro ⟨i, bb⟩ w64 ⟨H, ⟨hi, hbb⟩⟩ hback63
  refine qR 3 [.c [4, 0, 1, 0, 0, 0, 1], .c [4, 0, 1, 0, 0, 1], .l [4, 0, 1, 0, 0], .b 0, .c [5]] [(0, .string x), (1, .slice ax r.length cx), (5, .P db2 0), (6, .bool bb), (7, .I i), (31, .bool (decide (((i : Int) : Int) < ((x.size : Nat) : Int))))] ?_
  refine qD (((i : Int) : Int) < ((x.size : Nat) : Int)) (fun h65 => ?_) (fun h65 => ?_)
  ·
   refine qR 3 [.c [4, 0, 1, 0, 0, 1, 0, 0], .b 1, .c [4, 0, 1, 0, 0, 2], .l [4, 0, 1, 0, 0], .b 0, .c [5]] [(0, .string x), (1, .slice ax r.length cx), (5, .P db2 0), (6, .bool bb), (7, .I i)] ?_
   refine qG (sq 0 14) ?_
   refine qP 2 (sq 2 14) [(0, .string x), (1, .slice ax r.length cx), (5, .P db2 0), (6, .bool bb), (7, .I i), (35, .bool bb)] ?_
   refine RW.test (fun b_ => [(0, .string x), (1, .slice ax r.length cx), (5, .P db2 0), (6, .bool bb), (7, .I i), (35, .bool b_)]) bb (fun h66 => ?_) (fun h66 => ?_)
   ·
    refine qP 2 (sq 4 14) [(0, .string x), (1, .slice ax r.length cx), (5, .P db2 0), (6, .bool bb), (7, .I i), (35, .bool true), (36, .string x), (37, .I i)] ?_
    have hx67 : i < (x).data.size := by have := hsz9; omega
    refine RW.strAt (κ := .seq) (d := some 38) (r := (sq 5 14)) (T := 9) (s := x) (k := .i64) (t := (i : Int)) i (by as_aux_lemma => kernel_rfl) (by as_aux_lemma => kernel_rfl) (by omega) hx67 ?_
    refine qP 3 (sq 8 14) [(0, .string x), (1, .slice ax r.length cx), (5, .P db2 0), (6, .bool bb), (7, .I i), (41, .bool (decide ((((((x).data[i]'hx67).toNat : Nat) : Int) : Int) ≥ 97)))] ?_
    refine tD (fun b_ => [(0, .string x), (1, .slice ax r.length cx), (5, .P db2 0), (6, .bool bb), (7, .I i), (41, .bool b_)]) ((((((x).data[i]'hx67).toNat : Nat) : Int) : Int) ≥ 97) (fun h68 => ?_) (fun h68 => ?_)
    ·
     refine qP 2 (sq 10 14) [(0, .string x), (1, .slice ax r.length cx), (5, .P db2 0), (6, .bool bb), (7, .I i), (41, .bool true), (42, .string x), (43, .I i)] ?_
     have hx69 : i < (x).data.size := by have := hsz9; omega
     refine RW.strAt (κ := .seq) (d := some 44) (r := (sq 11 14)) (T := 9) (s := x) (k := .i64) (t := (i : Int)) i (by as_aux_lemma => kernel_rfl) (by as_aux_lemma => kernel_rfl) (by omega) hx69 ?_
     refine qF 3 [(0, .string x), (1, .slice ax r.length cx), (5, .P db2 0), (6, .bool (decide ((((((x).data[i]'hx69).toNat : Nat) : Int) : Int) ≤ 122))), (7, .I i)] ?_
     refine qR 1 [.c [4, 0, 1, 0, 0, 2], .l [4, 0, 1, 0, 0], .b 0, .c [5]] [(0, .string x), (1, .slice ax r.length cx), (5, .P db2 0), (6, .bool (decide ((((((x).data[i]'hx69).toNat : Nat) : Int) : Int) ≤ 122))), (7, .I i)] ?_
     refine qG (sq 0 3) ?_
     refine qP 1 (sq 1 3) [(0, .string x), (1, .slice ax r.length cx), (5, .P db2 0), (6, .bool (decide ((((((x).data[i]'hx69).toNat : Nat) : Int) : Int) ≤ 122))), (7, .I i), (32, .I i)] ?_
     refine qI .seq 33 (sq 2 3) ((i : Int) + 1) ?_
     refine qF 1 [(0, .string x), (1, .slice ax r.length cx), (5, .P db2 0), (6, .bool (decide ((((((x).data[i]'hx69).toNat : Nat) : Int) : Int) ≤ 122))), (7, .I ((i : Int) + 1))] ?_
     exact WK.back (hback63 (i + 1, decide ((((((x).data[i]'hx69).toNat : Nat) : Int) : Int) ≤ 122)) _ ⟨H, by omega, may_yes hbb (by assumption) (by omega) ⟨fun h => ⟨by omega, by have := of_decide_eq_true h; omega⟩, fun h => decide_eq_true (by omega)⟩⟩ (by first | omega | (simp only []; omega))) (by as_aux_lemma => kernel_rfl)
    ·
     refine qF 6 [(0, .string x), (1, .slice ax r.length cx), (5, .P db2 0), (6, .bool false), (7, .I i)] ?_
     refine qR 1 [.c [4, 0, 1, 0, 0, 2], .l [4, 0, 1, 0, 0], .b 0, .c [5]] [(0, .string x), (1, .slice ax r.length cx), (5, .P db2 0), (6, .bool false), (7, .I i)] ?_
     refine qG (sq 0 3) ?_
     refine qP 1 (sq 1 3) [(0, .string x), (1, .slice ax r.length cx), (5, .P db2 0), (6, .bool false), (7, .I i), (32, .I i)] ?_
     refine qI .seq 33 (sq 2 3) ((i : Int) + 1) ?_
     refine qF 1 [(0, .string x), (1, .slice ax r.length cx), (5, .P db2 0), (6, .bool false), (7, .I ((i : Int) + 1))] ?_
     exact WK.back (hback63 (i + 1, false) _ ⟨H, by omega, may_bad (by omega) (by omega)⟩ (by first | omega | (simp only []; omega))) (by as_aux_lemma => kernel_rfl)
   ·
    refine qF 12 [(0, .string x), (1, .slice ax r.length cx), (5, .P db2 0), (6, .bool false), (7, .I i)] ?_
    refine qR 1 [.c [4, 0, 1, 0, 0, 2], .l [4, 0, 1, 0, 0], .b 0, .c [5]] [(0, .string x), (1, .slice ax r.length cx), (5, .P db2 0), (6, .bool false), (7, .I i)] ?_
    refine qG (sq 0 3) ?_
    refine qP 1 (sq 1 3) [(0, .string x), (1, .slice ax r.length cx), (5, .P db2 0), (6, .bool false), (7, .I i), (32, .I i)] ?_
    refine qI .seq 33 (sq 2 3) ((i : Int) + 1) ?_
    refine qF 1 [(0, .string x), (1, .slice ax r.length cx), (5, .P db2 0), (6, .bool false), (7, .I ((i : Int) + 1))] ?_
    exact WK.back (hback63 (i + 1, false) _ ⟨H, by omega, may_no hbb (by assumption)⟩ (by first | omega | (simp only []; omega))) (by as_aux_lemma => kernel_rfl)
  ·
   obtain rfl : bb = true := hbb.2 ((may_all (by omega)).2 hpn)
   refine qR 2 [.c [5, 0], .c [6]] [(0, .string x), (1, .slice ax r.length cx), (5, .P db2 0), (6, .bool true)] ?_
   refine qG (sq 0 8) ?_
   refine qP 2 (sq 2 8) [(0, .string x), (1, .slice ax r.length cx), (6, .bool true), (48, .P db2 0), (49, .string x)] ?_
   have hcw0 := newD_CW x3 y4 x
   have hna0 : (newD x3 y4).armed = false := rfl
   have H := H.perms (M' := diskM db2 (newD x3 y4) none 0 ++ []) (W' := [⟨stepS, 143, .slice none ((newD x3 y4).steps.length) 0, (newD x3 y4).steps⟩]) (List.perm_append_comm (l₁ := diskM db2 (newD x3 y4) none 0) (l₂ := ([] : Heap))) (List.Perm.refl _)
   refine RW.callS (d := some 50) (r := (sq 3 8)) (g := 14) (args := #[.P db2 0, .string x]) (by as_aux_lemma => kernel_rfl) (jopen_law (n := 100000000) (m := 0) hpn hcw0.di (hcw0.al.mono (by omega)) hcw0.op hcw0.cap (by omega) (fun B R h => CW.hb0 h) ((H.lend (M1 := diskM db2 (newD x3 y4) none 0) (W1 := [⟨stepS, 143, .slice none ((newD x3 y4).steps.length) 0, (newD x3 y4).steps⟩])).pick [1] rfl)) ?_
   rintro _ w70 (⟨jb71, B72, R73, g74, ab75, cb76, ar77, cr78, D79, sa80, sk81, rfl, hq82, hW83, hS84, H'⟩ | ⟨D79, sa80, sk81, rfl, hQ85, hr86, H'⟩)
   rotate_left
   · exact absurd (hr86) (by rw [hna0]; nofun)
   have H := H.back (M1 := diskM db2 (newD x3 y4) none 0) (W1 := [⟨stepS, 143, .slice none ((newD x3 y4).steps.length) 0, (newD x3 y4).steps⟩]) H'
   have H := H.perms (M' := ((jb71, .cells #[.P db2 0, .string x, .slice ab75 B72.length cb76, .slice ar77 R73.length cr78, .I g74, .string (⟨#[]⟩ : ByteArray), .slice none (([] : List (BitVec 8)).length) 0, .bool true] 41 (0, 0)) :: (diskM db2 D79 sa80 sk81))) (W' := [⟨SB, 23, .slice ar77 R73.length cr78, R73⟩, ⟨stepS, 143, .slice sa80 D79.steps.length sk81, D79.steps⟩]) ((List.perm_append_comm (l₁ := ([] : Heap)) (l₂ := diskM db2 D79 sa80 sk81)).cons _) (List.Perm.refl _)
   have H : Hp w S [] ((jb71, .cells #[.P db2 0, .string x, .slice ab75 B72.length cb76, .slice ar77 R73.length cr78, .I g74, .string (⟨#[]⟩ : ByteArray), .slice none (([] : List (BitVec 8)).length) 0, .bool true] 41 (0, 0)) :: (diskM db2 D79 sa80 sk81)) [⟨SB, 23, .slice ar77 R73.length cr78, R73⟩, ⟨stepS, 143, .slice sa80 D79.steps.length sk81, D79.steps⟩] [Rp SB [.slice ab75 B72.length cb76] B72, Rp SB [.slice none (([] : List (BitVec 8)).length) 0] ([] : List (BitVec 8)), Rp SB [.slice ax r.length cx] r, Fz jQ] _ := H
   have hna87 := hS84.arm.trans hna0
   refine qF 5 [(0, .string x), (1, .slice ax r.length cx), (6, .bool true), (8, .P jb71 0), (9, .I 0)] ?_
   refine qR 1 [.c [6, 0], .c [7]] [(0, .string x), (1, .slice ax r.length cx), (6, .bool true), (8, .P jb71 0), (9, .I 0)] ?_
   refine qG (sq 0 7) ?_
   refine qP 1 (sq 1 7) [(0, .string x), (1, .slice ax r.length cx), (6, .bool true), (8, .P jb71 0), (9, .I 0), (54, .string x)] ?_
   refine qK .seq (some 55) (sq 2 7) 14 #[.pointer none, .string x] (jopen_nil (S := fun _ => True) x) ?_
   rintro _ w88 hE89 rfl
   have H := H.ext hE89
   refine qF 5 [(0, .string x), (1, .slice ax r.length cx), (6, .bool true), (8, .P jb71 0), (9, .I 0), (11, .I 1)] ?_
   refine qR 1 [.c [7, 0], .c [8]] [(0, .string x), (1, .slice ax r.length cx), (6, .bool true), (8, .P jb71 0), (9, .I 0), (11, .I 1)] ?_
   refine qG (sq 0 9) ?_
   refine qP 1 (sq 1 9) [(0, .string x), (1, .slice ax r.length cx), (6, .bool true), (8, .P jb71 0), (9, .I 0), (11, .I 1), (59, .agg #[.bool false, .map none, .map none, .slice none 0 0, .bool false, .I 0, .bool false])] ?_
   refine qB .seq 60 (sq 2 9) #[.bool false, .map none, .map none, .slice none 0 0, .bool false, .I 0, .bool false] 39 H ?_
   intro b90 w91 H
   refine qP 1 (sq 3 9) [(1, .slice ax r.length cx), (6, .bool true), (8, .P jb71 0), (9, .I 0), (11, .I 1), (60, .P b90 0), (61, .string x)] ?_
   refine qK .seq (some 62) (sq 4 9) 14 #[.P b90 0, .string x] (jopen_zero (S := fun _ => True) x (H.viewM 0 rfl (by simp))) ?_
   rintro _ w92 hE93 rfl
   have H := H.ext hE93
   refine qF 5 [(1, .slice ax r.length cx), (6, .bool true), (8, .P jb71 0), (9, .I 0), (11, .I 1), (13, .I 1)] ?_
   refine qR 8 [.c [10, 0], .c [11]] [(1, .slice ax r.length cx), (14, .pointer none)] ?_
   refine qG (sq 0 3) ?_
   refine qP 1 (sq 1 3) [(1, .slice ax r.length cx), (14, .pointer none), (89, .agg #[.pointer none, .string (⟨#[]⟩ : ByteArray), .slice none 0 0, .slice none 0 0, .I 0, .string (⟨#[]⟩ : ByteArray), .slice none 0 0, .bool false])] ?_
   refine qB .seq 90 (sq 2 3) #[.pointer none, .string (⟨#[]⟩ : ByteArray), .slice none 0 0, .slice none 0 0, .I 0, .string (⟨#[]⟩ : ByteArray), .slice none 0 0, .bool false] 41 H ?_
   intro b94 w95 H
   refine qF 1 [(1, .slice ax r.length cx), (14, .pointer none), (15, .P b94 0)] ?_
   refine qR 1 [.c [11, 0], .c [12]] [(1, .slice ax r.length cx), (14, .pointer none), (15, .P b94 0)] ?_
   refine qG (sq 0 28) ?_
   refine qP 2 (sq 2 28) [(1, .slice ax r.length cx), (14, .pointer none), (15, .P b94 0), (91, .pointer none), (92, .slice ax r.length cx)] ?_
   refine qK .seq (some 93) (sq 3 28) 16 #[.pointer none, .slice ax r.length cx] (jAppend_nil (S := fun _ => True)) ?_
   rintro _ w96 hE97 rfl
   have H := H.ext hE97
   refine qP 3 (sq 6 28) [(1, .slice ax r.length cx), (14, .pointer none), (15, .P b94 0), (95, .bool true), (96, .pointer none)] ?_
   refine qK .seq (some 97) (sq 7 28) 20 #[.pointer none] (jSync_nil (S := fun _ => True)) ?_
   rintro _ w98 hE99 rfl
   have H := H.ext hE99
   refine qP 5 (sq 12 28) [(1, .slice ax r.length cx), (14, .pointer none), (15, .P b94 0), (100, .bool true), (101, .pointer none), (102, .slice ax r.length cx)] ?_
   refine qK .seq (some 103) (sq 13 28) 15 #[.pointer none, .slice ax r.length cx] (jCheckpoint_nil (S := fun _ => True)) ?_
   rintro _ w100 hE101 rfl
   have H := H.ext hE101
   refine qP 4 (sq 17 28) [(1, .slice ax r.length cx), (14, .pointer none), (15, .P b94 0), (106, .bool true), (107, .pointer none)] ?_
   refine qK .seq (some 108) (sq 18 28) 18 #[.pointer none] (jBase_nil (S := fun _ => True)) ?_
   rintro _ w102 hE103 rfl
   have H := H.ext hE103
   refine qP 5 (sq 23 28) [(1, .slice ax r.length cx), (15, .P b94 0), (112, .bool true), (113, .pointer none)] ?_
   refine qK .seq (some 114) (sq 24 28) 19 #[.pointer none] (jRecords_nil (S := fun _ => True)) ?_
   rintro _ w104 hE105 rfl
   have H := H.ext hE105
   refine qF 4 [(1, .slice ax r.length cx), (15, .P b94 0), (16, .bool true)] ?_
   refine qR 1 [.c [12, 0], .c [13]] [(1, .slice ax r.length cx), (15, .P b94 0), (16, .bool true)] ?_
   refine qG (sq 0 34) ?_
   refine qP 4 (sq 4 34) [(1, .slice ax r.length cx), (15, .P b94 0), (119, .bool true), (120, .P b94 0), (121, .slice ax r.length cx)] ?_
   refine qK .seq (some 122) (sq 5 34) 16 #[.P b94 0, .slice ax r.length cx] (jAppend_zero (S := fun _ => True) (H.viewM 0 rfl (by simp))) ?_
   rintro _ w106 hE107 rfl
   have H := H.ext hE107
   refine qP 4 (sq 9 34) [(1, .slice ax r.length cx), (15, .P b94 0), (125, .bool true), (126, .P b94 0)] ?_
   refine qK .seq (some 127) (sq 10 34) 20 #[.P b94 0] (jSync_zero (S := fun _ => True) (H.viewM 0 rfl (by simp))) ?_
   rintro _ w108 hE109 rfl
   have H := H.ext hE109
   refine qP 5 (sq 15 34) [(15, .P b94 0), (130, .bool true), (131, .P b94 0), (132, .slice ax r.length cx)] ?_
   refine qK .seq (some 133) (sq 16 34) 15 #[.P b94 0, .slice ax r.length cx] (jCheckpoint_zero (S := fun _ => True) (H.viewM 0 rfl (by simp))) ?_
   rintro _ w110 hE111 rfl
   have H := H.ext hE111
   refine qP 4 (sq 20 34) [(15, .P b94 0), (136, .bool true), (137, .P b94 0)] ?_
   refine qK .seq (some 138) (sq 21 34) 18 #[.P b94 0] (jBase_zero (S := fun _ => True) (H.viewM 0 rfl (by simp))) ?_
   rintro _ w112 hE113 ⟨a114, c115, rfl⟩
   have H := H.ext hE113
   refine qP 5 (sq 26 34) [(142, .bool true), (143, .P b94 0)] ?_
   refine qK .seq (some 144) (sq 27 34) 19 #[.P b94 0] (jRecords_zero (S := fun _ => True) (H.viewM 0 rfl (by simp))) ?_
   rintro _ w116 hE117 rfl
   have H := H.ext hE117
   refine qP 4 (sq 31 34) [(148, .bool true)] ?_
   refine qK .seq (some 149) (sq 32 34) 13 #[] (heads_spec (S := fun _ => True) (H.viewF 3 rfl)) ?_
   rintro _ w118 hE119 rfl
   have H := H.ext hE119
   refine qF 2 [(4, .bool true)] ?_
   refine qT (.bool true) Tryz.func4 ?_
   exact ⟨_, rfl, H.done, rfl⟩
set_option maxHeartbeats 1000000 in
theorem refuses_no {S : Nat → Prop} {w : World} {x : ByteArray} {r : List (BitVec 8)} {ax : Option Addr} {cx : Nat} (hx : x.size ≤ 140737488355328) (hpn : ¬ PlainN x) (hr : (Rp SB [.slice ax r.length cx] r).p S w) (hq : (Fz jQ).p S w) :
 Calls Tryz.prog 4 #[.string x, .slice ax r.length cx] w (Ret fun v w' => Ext w w' ∧ v = .bool true) := by
 have hsz9 : x.data.size = x.size := rfl
 refine qS (fn := Tryz.f4) (n := 151) (σ := [(0, .string x), (1, .slice ax r.length cx)]) Tryz.func4 ?_
 have H := Hp.startF (w := w) (S := S) (G := [Rp SB [.slice ax r.length cx] r, Fz jQ]) (.rp hr (.cons hq .nil))
 refine qR 3 [.c [1, 0], .c [2]] [(0, .string x), (1, .slice ax r.length cx)] ?_
 refine qG (sq 0 2) ?_
 refine qK .seq (some 17) (sq 1 2) 12 #[] (new_spec (S := Av S w [] (idsOf [] []))) ?_
 rintro _ w1 - ⟨db2, x3, y4, rfl, H'⟩
 have H := H.back (M1 := []) (W1 := []) H'
 have H := H.perms (M' := ((diskM db2 (newD x3 y4) none 0))) (W' := [⟨stepS, 143, .slice none ((newD x3 y4).steps.length) 0, (newD x3 y4).steps⟩]) ((List.perm_append_comm (l₁ := diskM db2 (newD x3 y4) none 0) (l₂ := ([] : Heap))).symm) (List.Perm.refl _)
 have H : Hp w S [] ((diskM db2 (newD x3 y4) none 0)) [⟨stepS, 143, .slice none ((newD x3 y4).steps.length) 0, (newD x3 y4).steps⟩] [Rp SB [.slice ax r.length cx] r, Fz jQ] _ := H
 have hokdb2 : DOk (newD x3 y4) := newD_ok x3 y4
 refine qF 1 [(0, .string x), (1, .slice ax r.length cx), (5, .P db2 0)] ?_
 refine qR 6 [.c [3, 0], .c [4]] [(0, .string x), (1, .slice ax r.length cx), (5, .P db2 0)] ?_
 refine qG (sq 0 9) ?_
 refine qP 4 (sq 4 9) [(0, .string x), (1, .slice ax r.length cx), (5, .P db2 0), (23, .bool (decide ((((x.size : Nat) : Int) : Int) ≥ 1)))] ?_
 refine tD (fun b_ => [(0, .string x), (1, .slice ax r.length cx), (5, .P db2 0), (23, .bool b_)]) ((((x.size : Nat) : Int) : Int) ≥ 1) (fun h5 => ?_) (fun h5 => ?_)
 ·
  refine qF 5 [(0, .string x), (1, .slice ax r.length cx), (5, .P db2 0), (6, .bool (decide ((((x.size : Nat) : Int) : Int) ≤ 16)))] ?_
  refine qR 4 [.c [4, 0, 1, 0], .b 0, .c [5]] [(0, .string x), (1, .slice ax r.length cx), (5, .P db2 0), (6, .bool (decide ((((x.size : Nat) : Int) : Int) ≤ 16))), (7, .I 0)] ?_
  refine WK.loop (α := Nat × Bool) (b := cd Tryz.prog 4 [4, 0, 1, 0, 0]) (by as_aux_lemma => kernel_rfl) (fun st_ => match st_ with | (i, bb) => [(0, .string x), (1, .slice ax r.length cx), (5, .P db2 0), (6, .bool bb), (7, .I i)]) (fun st_ w' => match st_ with | (i, bb) => Hp w S [] ((diskM db2 (newD x3 y4) none 0)) [⟨stepS, 143, .slice none ((newD x3 y4).steps.length) 0, (newD x3 y4).steps⟩] [Rp SB [.slice ax r.length cx] r, Fz jQ] w' ∧ i ≤ x.size ∧ (bb = true ↔ MayP x i)) (fun st_ => match st_ with | (i, bb) => x.size - i) (0, decide ((((x.size : Nat) : Int) : Int) ≤ 16)) ⟨H, Nat.zero_le _, ⟨fun h => ⟨⟨by omega, by have := of_decide_eq_true h; omega⟩, fun j hj => absurd hj (Nat.not_lt_zero j)⟩, fun h => decide_eq_true (by have := h.1.2; omega)⟩⟩ (rfl) ?_
  rintro ⟨i, bb⟩ w7 ⟨H, ⟨hi, hbb⟩⟩ hback6
  refine qR 3 [.c [4, 0, 1, 0, 0, 0, 1], .c [4, 0, 1, 0, 0, 1], .l [4, 0, 1, 0, 0], .b 0, .c [5]] [(0, .string x), (1, .slice ax r.length cx), (5, .P db2 0), (6, .bool bb), (7, .I i), (31, .bool (decide (((i : Int) : Int) < ((x.size : Nat) : Int))))] ?_
  refine qD (((i : Int) : Int) < ((x.size : Nat) : Int)) (fun h8 => ?_) (fun h8 => ?_)
  ·
   refine qR 3 [.c [4, 0, 1, 0, 0, 1, 0, 0], .b 1, .c [4, 0, 1, 0, 0, 2], .l [4, 0, 1, 0, 0], .b 0, .c [5]] [(0, .string x), (1, .slice ax r.length cx), (5, .P db2 0), (6, .bool bb), (7, .I i)] ?_
   refine qG (sq 0 14) ?_
   refine qP 2 (sq 2 14) [(0, .string x), (1, .slice ax r.length cx), (5, .P db2 0), (6, .bool bb), (7, .I i), (35, .bool bb)] ?_
   refine RW.test (fun b_ => [(0, .string x), (1, .slice ax r.length cx), (5, .P db2 0), (6, .bool bb), (7, .I i), (35, .bool b_)]) bb (fun h9 => ?_) (fun h9 => ?_)
   ·
    refine qP 2 (sq 4 14) [(0, .string x), (1, .slice ax r.length cx), (5, .P db2 0), (6, .bool bb), (7, .I i), (35, .bool true), (36, .string x), (37, .I i)] ?_
    have hx10 : i < (x).data.size := by have := hsz9; omega
    refine RW.strAt (κ := .seq) (d := some 38) (r := (sq 5 14)) (T := 9) (s := x) (k := .i64) (t := (i : Int)) i (by as_aux_lemma => kernel_rfl) (by as_aux_lemma => kernel_rfl) (by omega) hx10 ?_
    refine qP 3 (sq 8 14) [(0, .string x), (1, .slice ax r.length cx), (5, .P db2 0), (6, .bool bb), (7, .I i), (41, .bool (decide ((((((x).data[i]'hx10).toNat : Nat) : Int) : Int) ≥ 97)))] ?_
    refine tD (fun b_ => [(0, .string x), (1, .slice ax r.length cx), (5, .P db2 0), (6, .bool bb), (7, .I i), (41, .bool b_)]) ((((((x).data[i]'hx10).toNat : Nat) : Int) : Int) ≥ 97) (fun h11 => ?_) (fun h11 => ?_)
    ·
     refine qP 2 (sq 10 14) [(0, .string x), (1, .slice ax r.length cx), (5, .P db2 0), (6, .bool bb), (7, .I i), (41, .bool true), (42, .string x), (43, .I i)] ?_
     have hx12 : i < (x).data.size := by have := hsz9; omega
     refine RW.strAt (κ := .seq) (d := some 44) (r := (sq 11 14)) (T := 9) (s := x) (k := .i64) (t := (i : Int)) i (by as_aux_lemma => kernel_rfl) (by as_aux_lemma => kernel_rfl) (by omega) hx12 ?_
     refine qF 3 [(0, .string x), (1, .slice ax r.length cx), (5, .P db2 0), (6, .bool (decide ((((((x).data[i]'hx12).toNat : Nat) : Int) : Int) ≤ 122))), (7, .I i)] ?_
     refine qR 1 [.c [4, 0, 1, 0, 0, 2], .l [4, 0, 1, 0, 0], .b 0, .c [5]] [(0, .string x), (1, .slice ax r.length cx), (5, .P db2 0), (6, .bool (decide ((((((x).data[i]'hx12).toNat : Nat) : Int) : Int) ≤ 122))), (7, .I i)] ?_
     refine qG (sq 0 3) ?_
     refine qP 1 (sq 1 3) [(0, .string x), (1, .slice ax r.length cx), (5, .P db2 0), (6, .bool (decide ((((((x).data[i]'hx12).toNat : Nat) : Int) : Int) ≤ 122))), (7, .I i), (32, .I i)] ?_
     refine qI .seq 33 (sq 2 3) ((i : Int) + 1) ?_
     refine qF 1 [(0, .string x), (1, .slice ax r.length cx), (5, .P db2 0), (6, .bool (decide ((((((x).data[i]'hx12).toNat : Nat) : Int) : Int) ≤ 122))), (7, .I ((i : Int) + 1))] ?_
     exact WK.back (hback6 (i + 1, decide ((((((x).data[i]'hx12).toNat : Nat) : Int) : Int) ≤ 122)) _ ⟨H, by omega, may_yes hbb (by assumption) (by omega) ⟨fun h => ⟨by omega, by have := of_decide_eq_true h; omega⟩, fun h => decide_eq_true (by omega)⟩⟩ (by first | omega | (simp only []; omega))) (by as_aux_lemma => kernel_rfl)
    ·
     refine qF 6 [(0, .string x), (1, .slice ax r.length cx), (5, .P db2 0), (6, .bool false), (7, .I i)] ?_
     refine qR 1 [.c [4, 0, 1, 0, 0, 2], .l [4, 0, 1, 0, 0], .b 0, .c [5]] [(0, .string x), (1, .slice ax r.length cx), (5, .P db2 0), (6, .bool false), (7, .I i)] ?_
     refine qG (sq 0 3) ?_
     refine qP 1 (sq 1 3) [(0, .string x), (1, .slice ax r.length cx), (5, .P db2 0), (6, .bool false), (7, .I i), (32, .I i)] ?_
     refine qI .seq 33 (sq 2 3) ((i : Int) + 1) ?_
     refine qF 1 [(0, .string x), (1, .slice ax r.length cx), (5, .P db2 0), (6, .bool false), (7, .I ((i : Int) + 1))] ?_
     exact WK.back (hback6 (i + 1, false) _ ⟨H, by omega, may_bad (by omega) (by omega)⟩ (by first | omega | (simp only []; omega))) (by as_aux_lemma => kernel_rfl)
   ·
    refine qF 12 [(0, .string x), (1, .slice ax r.length cx), (5, .P db2 0), (6, .bool false), (7, .I i)] ?_
    refine qR 1 [.c [4, 0, 1, 0, 0, 2], .l [4, 0, 1, 0, 0], .b 0, .c [5]] [(0, .string x), (1, .slice ax r.length cx), (5, .P db2 0), (6, .bool false), (7, .I i)] ?_
    refine qG (sq 0 3) ?_
    refine qP 1 (sq 1 3) [(0, .string x), (1, .slice ax r.length cx), (5, .P db2 0), (6, .bool false), (7, .I i), (32, .I i)] ?_
    refine qI .seq 33 (sq 2 3) ((i : Int) + 1) ?_
    refine qF 1 [(0, .string x), (1, .slice ax r.length cx), (5, .P db2 0), (6, .bool false), (7, .I ((i : Int) + 1))] ?_
    exact WK.back (hback6 (i + 1, false) _ ⟨H, by omega, may_no hbb (by assumption)⟩ (by first | omega | (simp only []; omega))) (by as_aux_lemma => kernel_rfl)
  ·
   obtain rfl : bb = false := Bool.eq_false_iff.2 fun h => hpn ((may_all (by omega)).1 (hbb.1 h))
   refine qR 2 [.c [5, 0], .c [6]] [(0, .string x), (1, .slice ax r.length cx), (5, .P db2 0), (6, .bool false)] ?_
   refine qG (sq 0 8) ?_
   refine qP 2 (sq 2 8) [(0, .string x), (1, .slice ax r.length cx), (6, .bool false), (48, .P db2 0), (49, .string x)] ?_
   have H := H.perms (M' := diskM db2 (newD x3 y4) none 0 ++ []) (W' := [⟨stepS, 143, .slice none ((newD x3 y4).steps.length) 0, (newD x3 y4).steps⟩]) (List.perm_append_comm (l₁ := diskM db2 (newD x3 y4) none 0) (l₂ := ([] : Heap))) (List.Perm.refl _)
   refine RW.callS (d := some 50) (r := (sq 3 8)) (g := 14) (args := #[.P db2 0, .string x]) (by as_aux_lemma => kernel_rfl) (jopen_arg (newD_DI x3 y4) rfl hx hpn ((H.lend (M1 := diskM db2 (newD x3 y4) none 0) (W1 := [⟨stepS, 143, .slice none ((newD x3 y4).steps.length) 0, (newD x3 y4).steps⟩])).pick [] rfl)) ?_
   rintro _ w13 ⟨rfl, H'⟩
   have H := H.back (M1 := diskM db2 (newD x3 y4) none 0) (W1 := [⟨stepS, 143, .slice none ((newD x3 y4).steps.length) 0, (newD x3 y4).steps⟩]) H'
   have H := H.perms (M' := ((diskM db2 (newD x3 y4) none 0))) (W' := [⟨stepS, 143, .slice none ((newD x3 y4).steps.length) 0, (newD x3 y4).steps⟩]) (List.perm_append_comm (l₁ := ([] : Heap)) (l₂ := diskM db2 (newD x3 y4) none 0)) (List.Perm.refl _)
   have H : Hp w S [] ((diskM db2 (newD x3 y4) none 0)) [⟨stepS, 143, .slice none ((newD x3 y4).steps.length) 0, (newD x3 y4).steps⟩] [Rp SB [.slice ax r.length cx] r, Fz jQ] _ := H
   refine qF 5 [(0, .string x), (1, .slice ax r.length cx), (6, .bool false), (8, .pointer none), (9, .I 2)] ?_
   refine qR 1 [.c [6, 0], .c [7]] [(0, .string x), (1, .slice ax r.length cx), (6, .bool false), (8, .pointer none), (9, .I 2)] ?_
   refine qG (sq 0 7) ?_
   refine qP 1 (sq 1 7) [(0, .string x), (1, .slice ax r.length cx), (6, .bool false), (8, .pointer none), (9, .I 2), (54, .string x)] ?_
   refine qK .seq (some 55) (sq 2 7) 14 #[.pointer none, .string x] (jopen_nil (S := fun _ => True) x) ?_
   rintro _ w14 hE15 rfl
   have H := H.ext hE15
   refine qF 5 [(0, .string x), (1, .slice ax r.length cx), (6, .bool false), (8, .pointer none), (9, .I 2), (11, .I 1)] ?_
   refine qR 1 [.c [7, 0], .c [8]] [(0, .string x), (1, .slice ax r.length cx), (6, .bool false), (8, .pointer none), (9, .I 2), (11, .I 1)] ?_
   refine qG (sq 0 9) ?_
   refine qP 1 (sq 1 9) [(0, .string x), (1, .slice ax r.length cx), (6, .bool false), (8, .pointer none), (9, .I 2), (11, .I 1), (59, .agg #[.bool false, .map none, .map none, .slice none 0 0, .bool false, .I 0, .bool false])] ?_
   refine qB .seq 60 (sq 2 9) #[.bool false, .map none, .map none, .slice none 0 0, .bool false, .I 0, .bool false] 39 H ?_
   intro b16 w17 H
   refine qP 1 (sq 3 9) [(1, .slice ax r.length cx), (6, .bool false), (8, .pointer none), (9, .I 2), (11, .I 1), (60, .P b16 0), (61, .string x)] ?_
   refine qK .seq (some 62) (sq 4 9) 14 #[.P b16 0, .string x] (jopen_zero (S := fun _ => True) x (H.viewM 0 rfl (by simp))) ?_
   rintro _ w18 hE19 rfl
   have H := H.ext hE19
   refine qF 5 [(1, .slice ax r.length cx), (6, .bool false), (8, .pointer none), (9, .I 2), (11, .I 1), (13, .I 1)] ?_
   refine qR 8 [.c [10, 0], .c [11]] [(1, .slice ax r.length cx), (14, .pointer none)] ?_
   refine qG (sq 0 3) ?_
   refine qP 1 (sq 1 3) [(1, .slice ax r.length cx), (14, .pointer none), (89, .agg #[.pointer none, .string (⟨#[]⟩ : ByteArray), .slice none 0 0, .slice none 0 0, .I 0, .string (⟨#[]⟩ : ByteArray), .slice none 0 0, .bool false])] ?_
   refine qB .seq 90 (sq 2 3) #[.pointer none, .string (⟨#[]⟩ : ByteArray), .slice none 0 0, .slice none 0 0, .I 0, .string (⟨#[]⟩ : ByteArray), .slice none 0 0, .bool false] 41 H ?_
   intro b20 w21 H
   refine qF 1 [(1, .slice ax r.length cx), (14, .pointer none), (15, .P b20 0)] ?_
   refine qR 1 [.c [11, 0], .c [12]] [(1, .slice ax r.length cx), (14, .pointer none), (15, .P b20 0)] ?_
   refine qG (sq 0 28) ?_
   refine qP 2 (sq 2 28) [(1, .slice ax r.length cx), (14, .pointer none), (15, .P b20 0), (91, .pointer none), (92, .slice ax r.length cx)] ?_
   refine qK .seq (some 93) (sq 3 28) 16 #[.pointer none, .slice ax r.length cx] (jAppend_nil (S := fun _ => True)) ?_
   rintro _ w22 hE23 rfl
   have H := H.ext hE23
   refine qP 3 (sq 6 28) [(1, .slice ax r.length cx), (14, .pointer none), (15, .P b20 0), (95, .bool true), (96, .pointer none)] ?_
   refine qK .seq (some 97) (sq 7 28) 20 #[.pointer none] (jSync_nil (S := fun _ => True)) ?_
   rintro _ w24 hE25 rfl
   have H := H.ext hE25
   refine qP 5 (sq 12 28) [(1, .slice ax r.length cx), (14, .pointer none), (15, .P b20 0), (100, .bool true), (101, .pointer none), (102, .slice ax r.length cx)] ?_
   refine qK .seq (some 103) (sq 13 28) 15 #[.pointer none, .slice ax r.length cx] (jCheckpoint_nil (S := fun _ => True)) ?_
   rintro _ w26 hE27 rfl
   have H := H.ext hE27
   refine qP 4 (sq 17 28) [(1, .slice ax r.length cx), (14, .pointer none), (15, .P b20 0), (106, .bool true), (107, .pointer none)] ?_
   refine qK .seq (some 108) (sq 18 28) 18 #[.pointer none] (jBase_nil (S := fun _ => True)) ?_
   rintro _ w28 hE29 rfl
   have H := H.ext hE29
   refine qP 5 (sq 23 28) [(1, .slice ax r.length cx), (15, .P b20 0), (112, .bool true), (113, .pointer none)] ?_
   refine qK .seq (some 114) (sq 24 28) 19 #[.pointer none] (jRecords_nil (S := fun _ => True)) ?_
   rintro _ w30 hE31 rfl
   have H := H.ext hE31
   refine qF 4 [(1, .slice ax r.length cx), (15, .P b20 0), (16, .bool true)] ?_
   refine qR 1 [.c [12, 0], .c [13]] [(1, .slice ax r.length cx), (15, .P b20 0), (16, .bool true)] ?_
   refine qG (sq 0 34) ?_
   refine qP 4 (sq 4 34) [(1, .slice ax r.length cx), (15, .P b20 0), (119, .bool true), (120, .P b20 0), (121, .slice ax r.length cx)] ?_
   refine qK .seq (some 122) (sq 5 34) 16 #[.P b20 0, .slice ax r.length cx] (jAppend_zero (S := fun _ => True) (H.viewM 0 rfl (by simp))) ?_
   rintro _ w32 hE33 rfl
   have H := H.ext hE33
   refine qP 4 (sq 9 34) [(1, .slice ax r.length cx), (15, .P b20 0), (125, .bool true), (126, .P b20 0)] ?_
   refine qK .seq (some 127) (sq 10 34) 20 #[.P b20 0] (jSync_zero (S := fun _ => True) (H.viewM 0 rfl (by simp))) ?_
   rintro _ w34 hE35 rfl
   have H := H.ext hE35
   refine qP 5 (sq 15 34) [(15, .P b20 0), (130, .bool true), (131, .P b20 0), (132, .slice ax r.length cx)] ?_
   refine qK .seq (some 133) (sq 16 34) 15 #[.P b20 0, .slice ax r.length cx] (jCheckpoint_zero (S := fun _ => True) (H.viewM 0 rfl (by simp))) ?_
   rintro _ w36 hE37 rfl
   have H := H.ext hE37
   refine qP 4 (sq 20 34) [(15, .P b20 0), (136, .bool true), (137, .P b20 0)] ?_
   refine qK .seq (some 138) (sq 21 34) 18 #[.P b20 0] (jBase_zero (S := fun _ => True) (H.viewM 0 rfl (by simp))) ?_
   rintro _ w38 hE39 ⟨a40, c41, rfl⟩
   have H := H.ext hE39
   refine qP 5 (sq 26 34) [(142, .bool true), (143, .P b20 0)] ?_
   refine qK .seq (some 144) (sq 27 34) 19 #[.P b20 0] (jRecords_zero (S := fun _ => True) (H.viewM 0 rfl (by simp))) ?_
   rintro _ w42 hE43 rfl
   have H := H.ext hE43
   refine qP 4 (sq 31 34) [(148, .bool true)] ?_
   refine qK .seq (some 149) (sq 32 34) 13 #[] (heads_spec (S := fun _ => True) (H.viewF 1 rfl)) ?_
   rintro _ w44 hE45 rfl
   have H := H.ext hE45
   refine qF 2 [(4, .bool true)] ?_
   refine qT (.bool true) Tryz.func4 ?_
   exact ⟨_, rfl, H.done, rfl⟩
 ·
  refine qF 5 [(0, .string x), (1, .slice ax r.length cx), (5, .P db2 0), (6, .bool false)] ?_
  refine qR 4 [.c [4, 0, 1, 0], .b 0, .c [5]] [(0, .string x), (1, .slice ax r.length cx), (5, .P db2 0), (6, .bool false), (7, .I 0)] ?_
  refine WK.loop (α := Nat × Bool) (b := cd Tryz.prog 4 [4, 0, 1, 0, 0]) (by as_aux_lemma => kernel_rfl) (fun st_ => match st_ with | (i, bb) => [(0, .string x), (1, .slice ax r.length cx), (5, .P db2 0), (6, .bool bb), (7, .I i)]) (fun st_ w' => match st_ with | (i, bb) => Hp w S [] ((diskM db2 (newD x3 y4) none 0)) [⟨stepS, 143, .slice none ((newD x3 y4).steps.length) 0, (newD x3 y4).steps⟩] [Rp SB [.slice ax r.length cx] r, Fz jQ] w' ∧ i ≤ x.size ∧ (bb = true ↔ MayP x i)) (fun st_ => match st_ with | (i, bb) => x.size - i) (0, false) ⟨H, Nat.zero_le _, ⟨nofun, fun h => absurd h.1.1 (by omega)⟩⟩ (rfl) ?_
  rintro ⟨i, bb⟩ w47 ⟨H, ⟨hi, hbb⟩⟩ hback46
  refine qR 3 [.c [4, 0, 1, 0, 0, 0, 1], .c [4, 0, 1, 0, 0, 1], .l [4, 0, 1, 0, 0], .b 0, .c [5]] [(0, .string x), (1, .slice ax r.length cx), (5, .P db2 0), (6, .bool bb), (7, .I i), (31, .bool (decide (((i : Int) : Int) < ((x.size : Nat) : Int))))] ?_
  refine qD (((i : Int) : Int) < ((x.size : Nat) : Int)) (fun h48 => ?_) (fun h48 => ?_)
  ·
   refine qR 3 [.c [4, 0, 1, 0, 0, 1, 0, 0], .b 1, .c [4, 0, 1, 0, 0, 2], .l [4, 0, 1, 0, 0], .b 0, .c [5]] [(0, .string x), (1, .slice ax r.length cx), (5, .P db2 0), (6, .bool bb), (7, .I i)] ?_
   refine qG (sq 0 14) ?_
   refine qP 2 (sq 2 14) [(0, .string x), (1, .slice ax r.length cx), (5, .P db2 0), (6, .bool bb), (7, .I i), (35, .bool bb)] ?_
   refine RW.test (fun b_ => [(0, .string x), (1, .slice ax r.length cx), (5, .P db2 0), (6, .bool bb), (7, .I i), (35, .bool b_)]) bb (fun h49 => ?_) (fun h49 => ?_)
   ·
    refine qP 2 (sq 4 14) [(0, .string x), (1, .slice ax r.length cx), (5, .P db2 0), (6, .bool bb), (7, .I i), (35, .bool true), (36, .string x), (37, .I i)] ?_
    have hx50 : i < (x).data.size := by have := hsz9; omega
    refine RW.strAt (κ := .seq) (d := some 38) (r := (sq 5 14)) (T := 9) (s := x) (k := .i64) (t := (i : Int)) i (by as_aux_lemma => kernel_rfl) (by as_aux_lemma => kernel_rfl) (by omega) hx50 ?_
    refine qP 3 (sq 8 14) [(0, .string x), (1, .slice ax r.length cx), (5, .P db2 0), (6, .bool bb), (7, .I i), (41, .bool (decide ((((((x).data[i]'hx50).toNat : Nat) : Int) : Int) ≥ 97)))] ?_
    refine tD (fun b_ => [(0, .string x), (1, .slice ax r.length cx), (5, .P db2 0), (6, .bool bb), (7, .I i), (41, .bool b_)]) ((((((x).data[i]'hx50).toNat : Nat) : Int) : Int) ≥ 97) (fun h51 => ?_) (fun h51 => ?_)
    ·
     refine qP 2 (sq 10 14) [(0, .string x), (1, .slice ax r.length cx), (5, .P db2 0), (6, .bool bb), (7, .I i), (41, .bool true), (42, .string x), (43, .I i)] ?_
     have hx52 : i < (x).data.size := by have := hsz9; omega
     refine RW.strAt (κ := .seq) (d := some 44) (r := (sq 11 14)) (T := 9) (s := x) (k := .i64) (t := (i : Int)) i (by as_aux_lemma => kernel_rfl) (by as_aux_lemma => kernel_rfl) (by omega) hx52 ?_
     refine qF 3 [(0, .string x), (1, .slice ax r.length cx), (5, .P db2 0), (6, .bool (decide ((((((x).data[i]'hx52).toNat : Nat) : Int) : Int) ≤ 122))), (7, .I i)] ?_
     refine qR 1 [.c [4, 0, 1, 0, 0, 2], .l [4, 0, 1, 0, 0], .b 0, .c [5]] [(0, .string x), (1, .slice ax r.length cx), (5, .P db2 0), (6, .bool (decide ((((((x).data[i]'hx52).toNat : Nat) : Int) : Int) ≤ 122))), (7, .I i)] ?_
     refine qG (sq 0 3) ?_
     refine qP 1 (sq 1 3) [(0, .string x), (1, .slice ax r.length cx), (5, .P db2 0), (6, .bool (decide ((((((x).data[i]'hx52).toNat : Nat) : Int) : Int) ≤ 122))), (7, .I i), (32, .I i)] ?_
     refine qI .seq 33 (sq 2 3) ((i : Int) + 1) ?_
     refine qF 1 [(0, .string x), (1, .slice ax r.length cx), (5, .P db2 0), (6, .bool (decide ((((((x).data[i]'hx52).toNat : Nat) : Int) : Int) ≤ 122))), (7, .I ((i : Int) + 1))] ?_
     exact WK.back (hback46 (i + 1, decide ((((((x).data[i]'hx52).toNat : Nat) : Int) : Int) ≤ 122)) _ ⟨H, by omega, may_yes hbb (by assumption) (by omega) ⟨fun h => ⟨by omega, by have := of_decide_eq_true h; omega⟩, fun h => decide_eq_true (by omega)⟩⟩ (by first | omega | (simp only []; omega))) (by as_aux_lemma => kernel_rfl)
    ·
     refine qF 6 [(0, .string x), (1, .slice ax r.length cx), (5, .P db2 0), (6, .bool false), (7, .I i)] ?_
     refine qR 1 [.c [4, 0, 1, 0, 0, 2], .l [4, 0, 1, 0, 0], .b 0, .c [5]] [(0, .string x), (1, .slice ax r.length cx), (5, .P db2 0), (6, .bool false), (7, .I i)] ?_
     refine qG (sq 0 3) ?_
     refine qP 1 (sq 1 3) [(0, .string x), (1, .slice ax r.length cx), (5, .P db2 0), (6, .bool false), (7, .I i), (32, .I i)] ?_
     refine qI .seq 33 (sq 2 3) ((i : Int) + 1) ?_
     refine qF 1 [(0, .string x), (1, .slice ax r.length cx), (5, .P db2 0), (6, .bool false), (7, .I ((i : Int) + 1))] ?_
     exact WK.back (hback46 (i + 1, false) _ ⟨H, by omega, may_bad (by omega) (by omega)⟩ (by first | omega | (simp only []; omega))) (by as_aux_lemma => kernel_rfl)
   ·
    refine qF 12 [(0, .string x), (1, .slice ax r.length cx), (5, .P db2 0), (6, .bool false), (7, .I i)] ?_
    refine qR 1 [.c [4, 0, 1, 0, 0, 2], .l [4, 0, 1, 0, 0], .b 0, .c [5]] [(0, .string x), (1, .slice ax r.length cx), (5, .P db2 0), (6, .bool false), (7, .I i)] ?_
    refine qG (sq 0 3) ?_
    refine qP 1 (sq 1 3) [(0, .string x), (1, .slice ax r.length cx), (5, .P db2 0), (6, .bool false), (7, .I i), (32, .I i)] ?_
    refine qI .seq 33 (sq 2 3) ((i : Int) + 1) ?_
    refine qF 1 [(0, .string x), (1, .slice ax r.length cx), (5, .P db2 0), (6, .bool false), (7, .I ((i : Int) + 1))] ?_
    exact WK.back (hback46 (i + 1, false) _ ⟨H, by omega, may_no hbb (by assumption)⟩ (by first | omega | (simp only []; omega))) (by as_aux_lemma => kernel_rfl)
  ·
   obtain rfl : bb = false := Bool.eq_false_iff.2 fun h => hpn ((may_all (by omega)).1 (hbb.1 h))
   refine qR 2 [.c [5, 0], .c [6]] [(0, .string x), (1, .slice ax r.length cx), (5, .P db2 0), (6, .bool false)] ?_
   refine qG (sq 0 8) ?_
   refine qP 2 (sq 2 8) [(0, .string x), (1, .slice ax r.length cx), (6, .bool false), (48, .P db2 0), (49, .string x)] ?_
   have H := H.perms (M' := diskM db2 (newD x3 y4) none 0 ++ []) (W' := [⟨stepS, 143, .slice none ((newD x3 y4).steps.length) 0, (newD x3 y4).steps⟩]) (List.perm_append_comm (l₁ := diskM db2 (newD x3 y4) none 0) (l₂ := ([] : Heap))) (List.Perm.refl _)
   refine RW.callS (d := some 50) (r := (sq 3 8)) (g := 14) (args := #[.P db2 0, .string x]) (by as_aux_lemma => kernel_rfl) (jopen_arg (newD_DI x3 y4) rfl hx hpn ((H.lend (M1 := diskM db2 (newD x3 y4) none 0) (W1 := [⟨stepS, 143, .slice none ((newD x3 y4).steps.length) 0, (newD x3 y4).steps⟩])).pick [] rfl)) ?_
   rintro _ w53 ⟨rfl, H'⟩
   have H := H.back (M1 := diskM db2 (newD x3 y4) none 0) (W1 := [⟨stepS, 143, .slice none ((newD x3 y4).steps.length) 0, (newD x3 y4).steps⟩]) H'
   have H := H.perms (M' := ((diskM db2 (newD x3 y4) none 0))) (W' := [⟨stepS, 143, .slice none ((newD x3 y4).steps.length) 0, (newD x3 y4).steps⟩]) (List.perm_append_comm (l₁ := ([] : Heap)) (l₂ := diskM db2 (newD x3 y4) none 0)) (List.Perm.refl _)
   have H : Hp w S [] ((diskM db2 (newD x3 y4) none 0)) [⟨stepS, 143, .slice none ((newD x3 y4).steps.length) 0, (newD x3 y4).steps⟩] [Rp SB [.slice ax r.length cx] r, Fz jQ] _ := H
   refine qF 5 [(0, .string x), (1, .slice ax r.length cx), (6, .bool false), (8, .pointer none), (9, .I 2)] ?_
   refine qR 1 [.c [6, 0], .c [7]] [(0, .string x), (1, .slice ax r.length cx), (6, .bool false), (8, .pointer none), (9, .I 2)] ?_
   refine qG (sq 0 7) ?_
   refine qP 1 (sq 1 7) [(0, .string x), (1, .slice ax r.length cx), (6, .bool false), (8, .pointer none), (9, .I 2), (54, .string x)] ?_
   refine qK .seq (some 55) (sq 2 7) 14 #[.pointer none, .string x] (jopen_nil (S := fun _ => True) x) ?_
   rintro _ w54 hE55 rfl
   have H := H.ext hE55
   refine qF 5 [(0, .string x), (1, .slice ax r.length cx), (6, .bool false), (8, .pointer none), (9, .I 2), (11, .I 1)] ?_
   refine qR 1 [.c [7, 0], .c [8]] [(0, .string x), (1, .slice ax r.length cx), (6, .bool false), (8, .pointer none), (9, .I 2), (11, .I 1)] ?_
   refine qG (sq 0 9) ?_
   refine qP 1 (sq 1 9) [(0, .string x), (1, .slice ax r.length cx), (6, .bool false), (8, .pointer none), (9, .I 2), (11, .I 1), (59, .agg #[.bool false, .map none, .map none, .slice none 0 0, .bool false, .I 0, .bool false])] ?_
   refine qB .seq 60 (sq 2 9) #[.bool false, .map none, .map none, .slice none 0 0, .bool false, .I 0, .bool false] 39 H ?_
   intro b56 w57 H
   refine qP 1 (sq 3 9) [(1, .slice ax r.length cx), (6, .bool false), (8, .pointer none), (9, .I 2), (11, .I 1), (60, .P b56 0), (61, .string x)] ?_
   refine qK .seq (some 62) (sq 4 9) 14 #[.P b56 0, .string x] (jopen_zero (S := fun _ => True) x (H.viewM 0 rfl (by simp))) ?_
   rintro _ w58 hE59 rfl
   have H := H.ext hE59
   refine qF 5 [(1, .slice ax r.length cx), (6, .bool false), (8, .pointer none), (9, .I 2), (11, .I 1), (13, .I 1)] ?_
   refine qR 8 [.c [10, 0], .c [11]] [(1, .slice ax r.length cx), (14, .pointer none)] ?_
   refine qG (sq 0 3) ?_
   refine qP 1 (sq 1 3) [(1, .slice ax r.length cx), (14, .pointer none), (89, .agg #[.pointer none, .string (⟨#[]⟩ : ByteArray), .slice none 0 0, .slice none 0 0, .I 0, .string (⟨#[]⟩ : ByteArray), .slice none 0 0, .bool false])] ?_
   refine qB .seq 90 (sq 2 3) #[.pointer none, .string (⟨#[]⟩ : ByteArray), .slice none 0 0, .slice none 0 0, .I 0, .string (⟨#[]⟩ : ByteArray), .slice none 0 0, .bool false] 41 H ?_
   intro b60 w61 H
   refine qF 1 [(1, .slice ax r.length cx), (14, .pointer none), (15, .P b60 0)] ?_
   refine qR 1 [.c [11, 0], .c [12]] [(1, .slice ax r.length cx), (14, .pointer none), (15, .P b60 0)] ?_
   refine qG (sq 0 28) ?_
   refine qP 2 (sq 2 28) [(1, .slice ax r.length cx), (14, .pointer none), (15, .P b60 0), (91, .pointer none), (92, .slice ax r.length cx)] ?_
   refine qK .seq (some 93) (sq 3 28) 16 #[.pointer none, .slice ax r.length cx] (jAppend_nil (S := fun _ => True)) ?_
   rintro _ w62 hE63 rfl
   have H := H.ext hE63
   refine qP 3 (sq 6 28) [(1, .slice ax r.length cx), (14, .pointer none), (15, .P b60 0), (95, .bool true), (96, .pointer none)] ?_
   refine qK .seq (some 97) (sq 7 28) 20 #[.pointer none] (jSync_nil (S := fun _ => True)) ?_
   rintro _ w64 hE65 rfl
   have H := H.ext hE65
   refine qP 5 (sq 12 28) [(1, .slice ax r.length cx), (14, .pointer none), (15, .P b60 0), (100, .bool true), (101, .pointer none), (102, .slice ax r.length cx)] ?_
   refine qK .seq (some 103) (sq 13 28) 15 #[.pointer none, .slice ax r.length cx] (jCheckpoint_nil (S := fun _ => True)) ?_
   rintro _ w66 hE67 rfl
   have H := H.ext hE67
   refine qP 4 (sq 17 28) [(1, .slice ax r.length cx), (14, .pointer none), (15, .P b60 0), (106, .bool true), (107, .pointer none)] ?_
   refine qK .seq (some 108) (sq 18 28) 18 #[.pointer none] (jBase_nil (S := fun _ => True)) ?_
   rintro _ w68 hE69 rfl
   have H := H.ext hE69
   refine qP 5 (sq 23 28) [(1, .slice ax r.length cx), (15, .P b60 0), (112, .bool true), (113, .pointer none)] ?_
   refine qK .seq (some 114) (sq 24 28) 19 #[.pointer none] (jRecords_nil (S := fun _ => True)) ?_
   rintro _ w70 hE71 rfl
   have H := H.ext hE71
   refine qF 4 [(1, .slice ax r.length cx), (15, .P b60 0), (16, .bool true)] ?_
   refine qR 1 [.c [12, 0], .c [13]] [(1, .slice ax r.length cx), (15, .P b60 0), (16, .bool true)] ?_
   refine qG (sq 0 34) ?_
   refine qP 4 (sq 4 34) [(1, .slice ax r.length cx), (15, .P b60 0), (119, .bool true), (120, .P b60 0), (121, .slice ax r.length cx)] ?_
   refine qK .seq (some 122) (sq 5 34) 16 #[.P b60 0, .slice ax r.length cx] (jAppend_zero (S := fun _ => True) (H.viewM 0 rfl (by simp))) ?_
   rintro _ w72 hE73 rfl
   have H := H.ext hE73
   refine qP 4 (sq 9 34) [(1, .slice ax r.length cx), (15, .P b60 0), (125, .bool true), (126, .P b60 0)] ?_
   refine qK .seq (some 127) (sq 10 34) 20 #[.P b60 0] (jSync_zero (S := fun _ => True) (H.viewM 0 rfl (by simp))) ?_
   rintro _ w74 hE75 rfl
   have H := H.ext hE75
   refine qP 5 (sq 15 34) [(15, .P b60 0), (130, .bool true), (131, .P b60 0), (132, .slice ax r.length cx)] ?_
   refine qK .seq (some 133) (sq 16 34) 15 #[.P b60 0, .slice ax r.length cx] (jCheckpoint_zero (S := fun _ => True) (H.viewM 0 rfl (by simp))) ?_
   rintro _ w76 hE77 rfl
   have H := H.ext hE77
   refine qP 4 (sq 20 34) [(15, .P b60 0), (136, .bool true), (137, .P b60 0)] ?_
   refine qK .seq (some 138) (sq 21 34) 18 #[.P b60 0] (jBase_zero (S := fun _ => True) (H.viewM 0 rfl (by simp))) ?_
   rintro _ w78 hE79 ⟨a80, c81, rfl⟩
   have H := H.ext hE79
   refine qP 5 (sq 26 34) [(142, .bool true), (143, .P b60 0)] ?_
   refine qK .seq (some 144) (sq 27 34) 19 #[.P b60 0] (jRecords_zero (S := fun _ => True) (H.viewM 0 rfl (by simp))) ?_
   rintro _ w82 hE83 rfl
   have H := H.ext hE83
   refine qP 4 (sq 31 34) [(148, .bool true)] ?_
   refine qK .seq (some 149) (sq 32 34) 13 #[] (heads_spec (S := fun _ => True) (H.viewF 1 rfl)) ?_
   rintro _ w84 hE85 rfl
   have H := H.ext hE85
   refine qF 2 [(4, .bool true)] ?_
   refine qT (.bool true) Tryz.func4 ?_
   exact ⟨_, rfl, H.done, rfl⟩
theorem refuses_spec {S : Nat → Prop} {w : World} {x : ByteArray} {r : List (BitVec 8)} {ax : Option Addr} {cx : Nat} (hx : x.size ≤ 140737488355328) (hr : (Rp SB [.slice ax r.length cx] r).p S w) (hq : (Fz jQ).p S w) :
 Calls Tryz.prog 4 #[.string x, .slice ax r.length cx] w (Ret fun v w' => Ext w w' ∧ v = .bool true) := by
 by_cases h : PlainN x
 · exact refuses_yes hx h hr hq
 · exact refuses_no hx h hr hq
end Go.Proofs.YtdnibpclkhenmaaGreatDoor
