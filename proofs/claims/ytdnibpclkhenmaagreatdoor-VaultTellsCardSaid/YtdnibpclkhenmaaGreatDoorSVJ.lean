import Derived.Test.YtdnibpclkhenmaaGreatDoorSBxB
import Derived.Test.YtdnibpclkhenmaaGreatDoorSVI
namespace Go.Proofs.YtdnibpclkhenmaaGreatDoor
open Go.BX
theorem tells_no {S : Nat → Prop} {w : World} (x1 : Int) {C : Chk} {cs : List Value} (hC : chkS.rep S w cs C) (hno : wholeE C.head C.data ≠ 0 ∨ C.data.length = 0 ∨ x1 < 0) (hq : (Fz jQ).p S w) :
 Calls Tryz.prog 9 #[.agg cs.toArray, .I x1] w (Ret fun v w' => Ext w w' ∧ v = .bool true) := by
 obtain ⟨_, j, k, rfl, N, O⟩ := chk_open hC
 obtain ⟨_, rfl, i, _, _, _⟩ := hdr_open N
 obtain ⟨rfl, _, _, _⟩ := cid_open i
 refine uS1 Tryz.func9 ?_
 have H := Hp.startF (.rp O (.cons hq .nil))
 refine uR 1 [.c [0], .c [1]] ?_
 refine qG (sq 0 2) ?_
 refine uC #[.int .u64 C.head.id.version, .I C.head.id.index, .int .u64 C.head.id.epoch, .I C.head.kk, .I C.head.nn, .I C.head.size, .int .u32 ((C.head.sum.toNat : Nat) : Int), .slice j C.data.length k, .bool C.done_] 102 H ?_
 intro F _ H
 refine uF 1 ?_
 refine uR 1 [.c [1, 0], .c [2]] ?_
 refine qG (sq 0 2) ?_
 refine uK (new_spec (S := Av S w [] (idsOf [(F, .cells #[.int .u64 C.head.id.version, .I C.head.id.index, .int .u64 C.head.id.epoch, .I C.head.kk, .I C.head.nn, .I C.head.size, .int .u32 ((C.head.sum.toNat : Nat) : Int), .slice j C.data.length k, .bool C.done_] 102 (0, 0))] []))) ?_
 rintro _ _ - ⟨a, b, e, rfl, H'⟩
 have H := H.back (M1 := []) (W1 := []) H'
 have H := H.ung 0
 have H : Hp w S [] (_ :: (diskM a (newD b e) none 0)) [⟨stepS, 143, .slice none ((newD b e).steps.length) 0, (newD b e).steps⟩] [_, _] _ := H
 have Q : DOk (newD b e) := newD_ok b e
 refine uF 1 ?_
 refine uR 1 [.c [2, 0], .c [3]] ?_
 refine qG (sq 0 7) ?_
 refine uP 1 ?_
 have f := newD_CW b e (⟨#[118]⟩ : ByteArray)
 have G : (newD b e).armed = false := rfl
 have H := H.gat 0 1
 refine RW.callS (d := some 25) (r := (sq 2 7)) (g := 36) (args := #[.P a 0, .string (⟨#[118]⟩ : ByteArray), .I 100000]) (by as_aux_lemma => kernel_rfl) (vopen_spec (n := 100000000) (m := 0) (q := 0) (c := 0) (ds := ([] : List Deed)) plainV f.di (f.al.mono (by omega)) G (newD_op b e _) f.cap (by omega) (fun B R h => h) allD_nil (Nat.zero_le _) (Nat.zero_le _) (by omega) (by decide) ((H.lend (M1 := (diskM _ _ _ _)) (W1 := [_])).pick [1] rfl)) ?_
 rintro _ _ ⟨l, D, o, T, s, t, u, x, y, z, A, E, rfl, _, _, _, H'⟩
 have H := H.back (M1 := (diskM _ _ _ _)) (W1 := [_]) H'
 have H := H.ung 3
 have H : Hp w S [] ((l, .cells #[.P D 0, .P a 0, .map (some o), .I 100000, .I (usedL (runD ([] : List Deed)).1 : Int), .I (([] : List Deed).length : Int)] 119 (0, 0)) :: (o, mapO cidV veV E ((runD ([] : List Deed)).2)) :: (D, .cells #[.P a 0, .string (⟨#[118]⟩ : ByteArray), .slice s (([] : List (BitVec 8)).length) t, .slice u ((([] : List Deed).map encD).length) x, .I T, .string (⟨#[]⟩ : ByteArray), .slice none (([] : List (BitVec 8)).length) 0, .bool true] 41 (0, 0)) :: _ :: (diskM a y z A)) [⟨SB, 23, .slice u ((([] : List Deed).map encD).length) x, (([] : List Deed).map encD)⟩, ⟨stepS, 143, .slice z y.steps.length A, y.steps⟩] [Rp SB [.slice s (([] : List (BitVec 8)).length) t] ([] : List (BitVec 8)), Rp SB [.slice none (([] : List (BitVec 8)).length) 0] ([] : List (BitVec 8)), Fall E, _, _] _ := H
 refine uF 5 ?_
 refine uR 7 [.c [4, 0, 0], .c [4, 0, 1], .c [5]] ?_
 refine qG (sq 0 13) ?_
 refine uV 102 0 (H.cells 3 rfl) ?_
 refine qK .seq (some 35) (sq 2 13) 37 #[.agg #[.int .u64 C.head.id.version, .I C.head.id.index, .int .u64 C.head.id.epoch, .I C.head.kk, .I C.head.nn, .I C.head.size, .int .u32 ((C.head.sum.toNat : Nat) : Int), .slice j C.data.length k, .bool C.done_]] (whole_spec (C := C) (chk_mk (hdr_mk (cid_mk u64a i64a u64a) i64a i64a i64a Shape.bv_mk) (H.rp 3 rfl) Shape.bool_mk)) ?_
 rintro _ _ J rfl
 have H := H.ext J
 refine qP 2 (sq 4 13) [(1, .I x1), (2, .P F 0), (6, .P l 0), (37, .bool ((wholeE C.head C.data) != 0))] ?_
 refine Go.BX.tN (fun b_ => [(1, .I x1), (2, .P F 0), (6, .P l 0), (37, .bool b_)]) (wholeE C.head C.data) 0 (fun U => ?_) (fun U => ?_)
 ·
  refine uF 9 ?_
  refine uR 2 [.c [4, 0, 1, 0, 0], .c [4, 0, 1, 0, 1], .c [5]] ?_
  refine qG (sq 0 2) ?_
  refine uK (heads9_spec (S := fun _ => True) (H.viewF 4 rfl)) ?_
  rintro _ _ K rfl
  have H := H.ext K
  refine uF 1 ?_
  refine qT (.bool true) Tryz.func9 ?_
  exact ⟨_, rfl, H.done, rfl⟩
 ·
  refine uP 1 ?_
  refine uV 23 7 (H.cells 3 rfl) ?_
  refine uP 4 ?_
  refine uE 43 ((C.data.length : Nat) : Int) 0 (fun V => ?_) (fun V => ?_)
  ·
   refine uF 3 ?_
   refine uR 2 [.c [4, 0, 1, 0, 0], .c [4, 0, 1, 0, 1], .c [5]] ?_
   refine qG (sq 0 2) ?_
   refine uK (heads9_spec (S := fun _ => True) (H.viewF 4 rfl)) ?_
   rintro _ _ L rfl
   have H := H.ext L
   refine uF 1 ?_
   refine qT (.bool true) Tryz.func9 ?_
   exact ⟨_, rfl, H.done, rfl⟩
  ·
   refine uF 3 ?_
   refine qD ((x1 : Int) < 0) (fun W => ?_) (fun W => ?_)
   ·
    refine uR 1 [.c [4, 0, 1, 0, 0], .c [4, 0, 1, 0, 1], .c [5]] ?_
    refine qG (sq 0 2) ?_
    refine uK (heads9_spec (S := fun _ => True) (H.viewF 4 rfl)) ?_
    rintro _ _ M rfl
    have H := H.ext M
    refine qF 1 [(4, .bool true)] ?_
    refine qT (.bool true) Tryz.func9 ?_
    exact ⟨_, rfl, H.done, rfl⟩
   ·
    omega
set_option maxHeartbeats 4000000 in
theorem tells_yes {S : Nat → Prop} {w : World} (bit : Nat) {C : Chk} {cs : List Value} (hC : chkS.rep S w cs C) (hw : wholeE C.head C.data = 0) (hl : 0 < C.data.length) (hq : (Fz jQ).p S w) :
 Calls Tryz.prog 9 #[.agg cs.toArray, .I bit] w (Ret fun v w' => Ext w w' ∧ v = .bool true) := by
 obtain ⟨_, E, F, rfl, c2, d2⟩ := chk_open hC
 obtain ⟨_, rfl, S0, T0, U0, V0⟩ := hdr_open c2
 obtain ⟨rfl, n0, o0, p0⟩ := cid_open S0
 have y : HdrOk C.head := ⟨⟨n0, o0, p0⟩, T0, U0, V0⟩
 have u0 := whole_len hw
 have W : bit % (8 * C.data.length) / 8 < C.data.length := Nat.div_lt_of_lt_mul (Nat.mod_lt _ (by omega))
 refine uS1 Tryz.func9 ?_
 have H := Hp.startF (.rp d2 (.cons hq .nil))
 refine uR 1 [.c [0], .c [1]] ?_
 refine qG (sq 0 2) ?_
 refine uC #[.int .u64 C.head.id.version, .I C.head.id.index, .int .u64 C.head.id.epoch, .I C.head.kk, .I C.head.nn, .I C.head.size, .int .u32 ((C.head.sum.toNat : Nat) : Int), .slice E C.data.length F, .bool C.done_] 102 H ?_
 intro A _ H
 refine uF 1 ?_
 refine uR 1 [.c [1, 0], .c [2]] ?_
 refine qG (sq 0 2) ?_
 refine uK (new_spec (S := Av S w [] (idsOf [(A, .cells #[.int .u64 C.head.id.version, .I C.head.id.index, .int .u64 C.head.id.epoch, .I C.head.kk, .I C.head.nn, .I C.head.size, .int .u32 ((C.head.sum.toNat : Nat) : Int), .slice E C.data.length F, .bool C.done_] 102 (0, 0))] []))) ?_
 rintro _ _ - ⟨f, x5, y6, rfl, H'⟩
 have H := H.back (M1 := []) (W1 := []) H'
 have H := H.ung 0
 have H : Hp w S [] (_ :: (diskM f (newD x5 y6) none 0)) [⟨stepS, 143, .slice none ((newD x5 y6).steps.length) 0, (newD x5 y6).steps⟩] [_, _] _ := H
 have e2 : DOk (newD x5 y6) := newD_ok x5 y6
 refine uF 1 ?_
 refine uR 1 [.c [2, 0], .c [3]] ?_
 refine qG (sq 0 7) ?_
 refine uP 1 ?_
 have v0 := newD_CW x5 y6 (⟨#[118]⟩ : ByteArray)
 have P1 : (newD x5 y6).armed = false := rfl
 have H := H.gat 0 1
 refine RW.callS (d := some 25) (r := (sq 2 7)) (g := 36) (args := #[.P f 0, .string (⟨#[118]⟩ : ByteArray), .I 100000]) (by as_aux_lemma => kernel_rfl) (vopen_spec (n := 100000000) (m := 0) (q := 0) (c := 0) (ds := ([] : List Deed)) plainV v0.di (v0.al.mono (by omega)) P1 (newD_op x5 y6 _) v0.cap (by omega) (fun B R h => h) allD_nil (Nat.zero_le _) (Nat.zero_le _) (by omega) (by decide) ((H.lend (M1 := (diskM _ _ _ _)) (W1 := [_])).pick [1] rfl)) ?_
 rintro _ _ ⟨t, o, j, f2, u, x, Z0, a1, b1, c1, d1, e1, rfl, Q1, x1, R1, H'⟩
 have H := H.back (M1 := (diskM _ _ _ _)) (W1 := [_]) H'
 have H := H.ung 3
 have H : Hp w S [] ((t, .cells #[.P o 0, .P f 0, .map (some j), .I 100000, .I (usedL (runD ([] : List Deed)).1 : Int), .I (([] : List Deed).length : Int)] 119 (0, 0)) :: (j, mapO cidV veV e1 ((runD ([] : List Deed)).2)) :: (o, .cells #[.P f 0, .string (⟨#[118]⟩ : ByteArray), .slice u (([] : List (BitVec 8)).length) x, .slice Z0 ((([] : List Deed).map encD).length) a1, .I f2, .string (⟨#[]⟩ : ByteArray), .slice none (([] : List (BitVec 8)).length) 0, .bool true] 41 (0, 0)) :: _ :: (diskM f b1 c1 d1)) [⟨SB, 23, .slice Z0 ((([] : List Deed).map encD).length) a1, (([] : List Deed).map encD)⟩, ⟨stepS, 143, .slice c1 b1.steps.length d1, b1.steps⟩] [Rp SB [.slice u (([] : List (BitVec 8)).length) x] ([] : List (BitVec 8)), Rp SB [.slice none (([] : List (BitVec 8)).length) 0] ([] : List (BitVec 8)), Fall e1, _, _] _ := H
 refine uF 5 ?_
 refine uR 7 [.c [4, 0, 0], .c [4, 0, 1], .c [5]] ?_
 refine qG (sq 0 13) ?_
 refine uV 102 0 (H.cells 3 rfl) ?_
 refine qK .seq (some 35) (sq 2 13) 37 #[.agg #[.int .u64 C.head.id.version, .I C.head.id.index, .int .u64 C.head.id.epoch, .I C.head.kk, .I C.head.nn, .I C.head.size, .int .u32 ((C.head.sum.toNat : Nat) : Int), .slice E C.data.length F, .bool C.done_]] (whole_spec (C := C) (chk_mk (hdr_mk (cid_mk u64a i64a u64a) i64a i64a i64a Shape.bv_mk) (H.rp 3 rfl) Shape.bool_mk)) ?_
 rintro _ _ S1 rfl
 have H := H.ext S1
 refine qP 2 (sq 4 13) [(1, .I bit), (2, .P A 0), (6, .P t 0), (37, .bool ((wholeE C.head C.data) != 0))] ?_
 refine Go.BX.tN (fun b_ => [(1, .I bit), (2, .P A 0), (6, .P t 0), (37, .bool b_)]) (wholeE C.head C.data) 0 (fun K1 => ?_) (fun K1 => ?_)
 ·
  exact absurd hw K1
 ·
  refine uP 1 ?_
  refine uV 23 7 (H.cells 3 rfl) ?_
  refine uP 4 ?_
  refine uE 43 ((C.data.length : Nat) : Int) 0 (fun g2 => ?_) (fun g2 => ?_)
  ·
   omega
  ·
   refine uF 3 ?_
   refine qD (((bit : Int) : Int) < 0) (fun h2 => ?_) (fun h2 => ?_)
   ·
    omega
   ·
    refine uR 2 [.c [5, 0], .c [6]] ?_
    refine qG (sq 0 4) ?_
    refine uP 1 ?_
    refine uV 23 7 (H.cells 3 rfl) ?_
    refine uK (copy9_own (xs := C.data) (H.rp 3 rfl) (by omega)) ?_
    rintro _ _ - ⟨X, Y, rfl, H'⟩
    have H := H.back (M1 := []) (W1 := []) H'
    have H : Hp w S [] (_ :: _ :: _ :: _ :: _) [⟨Sb, 5, .slice X C.data.length Y, C.data⟩, _, _] [_, _, _, _, _] _ := H
    refine uF 1 ?_
    refine uR 1 [.c [6, 0], .c [7]] ?_
    refine qG (sq 0 7) ?_
    refine uP 2 ?_
    refine uV 100 0 (H.cells 3 rfl) ?_
    refine uP 2 ?_
    have H := H.frontM 2 rfl
    have H := H.frontM 2 rfl
    have H := H.frontM 2 rfl
    have H := H.frontW 2 rfl
    have H := H.frontW 2 rfl
    have H := H.frontW 2 rfl
    have H := H.gat 3 1
    refine uKS (vprep_own (ds := ([] : List Deed)) (C := (⟨C.head, C.data, false⟩ : Chk)) Q1 x1 R1 allD_nil (by omega) (by omega) (by omega) (by omega) (by simp) y hw (none_find (n := 0) rfl) (by rw [none_used (ds := []) (n := 0) rfl]; show ((0 : Nat) : Int) + ((C.data.length : Nat) : Int) ≤ 100000; omega) ((H.lend (M1 := (_ :: _ :: _ :: (diskM _ _ _ _))) (W1 := [_, _, _])).pick [0, 1, 2, 4] rfl)) ?_
    rintro _ _ ⟨rfl, G, J, K, f1, b0, σ38, L, M, N, O, q0, g1, H0, h1, H'⟩
    have Q := allD_snoc allD_nil (d := Deed.prep (⟨C.head, C.data, false⟩ : Chk)) ⟨(none_find (n := 0) rfl), y, whole_len hw⟩
    have i2 := encD_len (s := runD ([] : List Deed)) (d := Deed.prep ⟨(⟨C.head, C.data, false⟩ : Chk).head, (⟨C.head, C.data, false⟩ : Chk).data, false⟩) ⟨(none_find (n := 0) rfl), y, whole_len hw⟩
    have H := H.back (M1 := (_ :: _ :: _ :: (diskM _ _ _ _))) (W1 := [_, _, _]) H'
    have H := H.ung 3
    have H : Hp w S [] ((t, .cells #[.P o 0, .P f 0, .map (some j), .I 100000, .I (usedL (runD (([] : List Deed) ++ [Deed.prep (⟨C.head, C.data, false⟩ : Chk)])).1 : Int), .I ((([] : List Deed) ++ [Deed.prep (⟨C.head, C.data, false⟩ : Chk)]).length : Int)] 119 (0, 0)) :: (j, mapO cidV veV q0 ((runD (([] : List Deed) ++ [Deed.prep (⟨C.head, C.data, false⟩ : Chk)])).2)) :: (o, .cells #[.P f 0, .string (⟨#[118]⟩ : ByteArray), .slice u (([] : List (BitVec 8)).length) x, .slice L (((([] : List Deed) ++ [Deed.prep (⟨C.head, C.data, false⟩ : Chk)]).map encD).length) M, .I f1, .string b0, .slice N σ38.length O, .bool true] 41 (0, 0)) :: _ :: (diskM f G J K)) [_, ⟨SB, 23, .slice L (((([] : List Deed) ++ [Deed.prep (⟨C.head, C.data, false⟩ : Chk)]).map encD).length) M, ((([] : List Deed) ++ [Deed.prep (⟨C.head, C.data, false⟩ : Chk)]).map encD)⟩, ⟨stepS, 143, .slice J G.steps.length K, G.steps⟩] [_, Rp SB [.slice N σ38.length O] σ38, Fall q0, _, _, _, _, _] _ := H
    refine uF 1 ?_
    refine qR 4 [.c [7, 0, 1, 0], .b 0, .c [8]] [(1, .I bit), (2, .P A 0), (6, .P t 0), (8, .slice X C.data.length Y), (9, .I 0), (10, .I 0)] ?_
    refine uL (α := Nat × List (BitVec 8)) (g := 9) (p := [7, 0, 1, 0, 0]) (fun (i, xs) => [(1, .I bit), (2, .P A 0), (6, .P t 0), (8, .slice X C.data.length Y), (9, .I 0), (10, .I i)]) (fun (i, xs) w' => Hp w S [] ((t, .cells #[.P o 0, .P f 0, .map (some j), .I 100000, .I (usedL (runD (([] : List Deed) ++ [Deed.prep (⟨C.head, C.data, false⟩ : Chk)])).1 : Int), .I ((([] : List Deed) ++ [Deed.prep (⟨C.head, C.data, false⟩ : Chk)]).length : Int)] 119 (0, 0)) :: (j, mapO cidV veV q0 ((runD (([] : List Deed) ++ [Deed.prep (⟨C.head, C.data, false⟩ : Chk)])).2)) :: (o, .cells #[.P f 0, .string (⟨#[118]⟩ : ByteArray), .slice u (([] : List (BitVec 8)).length) x, .slice L (((([] : List Deed) ++ [Deed.prep (⟨C.head, C.data, false⟩ : Chk)]).map encD).length) M, .I f1, .string b0, .slice N σ38.length O, .bool true] 41 (0, 0)) :: (A, .cells #[.int .u64 C.head.id.version, .I C.head.id.index, .int .u64 C.head.id.epoch, .I C.head.kk, .I C.head.nn, .I C.head.size, .int .u32 ((C.head.sum.toNat : Nat) : Int), .slice E C.data.length F, .bool C.done_] 102 (0, 0)) :: (diskM f G J K)) [⟨Sb, 5, .slice X C.data.length Y, xs⟩, ⟨SB, 23, .slice L (((([] : List Deed) ++ [Deed.prep (⟨C.head, C.data, false⟩ : Chk)]).map encD).length) M, ((([] : List Deed) ++ [Deed.prep (⟨C.head, C.data, false⟩ : Chk)]).map encD)⟩, ⟨stepS, 143, .slice J G.steps.length K, G.steps⟩] [Rp SB [.slice u (([] : List (BitVec 8)).length) x] ([] : List (BitVec 8)), Rp SB [.slice N σ38.length O] σ38, Fall q0, Rp SB [.slice u (([] : List (BitVec 8)).length) x] ([] : List (BitVec 8)), Rp SB [.slice none (([] : List (BitVec 8)).length) 0] ([] : List (BitVec 8)), Fall e1, Rp SB [.slice E C.data.length F] C.data, Fz jQ] w' ∧ i ≤ C.data.length ∧ xs.length = C.data.length) (fun (i, xs) => C.data.length - i) (0, C.data) ⟨H, Nat.zero_le _, rfl⟩ ?_
    rintro ⟨i, xs⟩ _ ⟨H, ⟨hi, hxl⟩⟩ W0
    refine uR 3 [.c [7, 0, 1, 0, 0, 0, 1], .c [7, 0, 1, 0, 0, 1], .l [7, 0, 1, 0, 0], .b 0, .c [8]] ?_
    refine qD (((i : Int) : Int) < ((C.data.length : Nat) : Int)) (fun j2 => ?_) (fun j2 => ?_)
    ·
     refine uR 3 [.c [7, 0, 1, 0, 0, 1, 0, 0], .b 1, .c [7, 0, 1, 0, 0, 2], .l [7, 0, 1, 0, 0], .b 0, .c [8]] ?_
     refine qG (sq 0 9) ?_
     refine uP 4 ?_
     have T1 : C.data.length = xs.length := hxl.symm
     have U1 : i < xs.length := by omega
     refine RW.indexW (κ := .seq) (d := some 67) (r := (sq 5 9)) (T := 23) (e := 5) (m := 1) (ik := .i64) (ix := (i : Int)) (sh := Sb) (xs := xs) (a := X) (len := C.data.length) (cap := Y) (by as_aux_lemma => kernel_rfl) (by as_aux_lemma => kernel_rfl) rfl H i (by omega) U1 T1 ?_
     intro _ _ _ X0 V1
     obtain rfl := V1
     refine uV 5 0 X0 ?_
     refine RW.pv (κ := .seq) (d := some 69) (r := (sq 7 9)) (v := .int .u8 (IntKind.u8.wrap ((BitVec.ofInt 8 (((xs[i]).toNat : Nat) : Int) ^^^ BitVec.ofInt 8 255).toNat : Nat))) (v' := .int .u8 (((((xs[i]) ^^^ (255#8)).toNat : Nat) : Int))) (by as_aux_lemma => kernel_rfl) (bv_xor8 (bvi _) (by decide)) ?_
     have i1 : C.data.length = xs.length := hxl.symm
     have j1 : i < xs.length := by omega
     refine RW.indexW (κ := .seq) (d := some 70) (r := (sq 8 9)) (T := 23) (e := 5) (m := 1) (ik := .i64) (ix := (i : Int)) (sh := Sb) (xs := xs) (a := X) (len := C.data.length) (cap := Y) (by as_aux_lemma => kernel_rfl) (by as_aux_lemma => kernel_rfl) rfl H i (by omega) j1 i1 ?_
     intro k2 _ X1 _ Y1
     obtain rfl := Y1
     refine RW.storeW (d := none) (r := (sq 9 9)) (e := 5) (m := 1) (b := k2) (k := i) (v := .int .u8 ((((xs[i]) ^^^ (255#8)).toNat : Nat) : Int)) (by as_aux_lemma => kernel_rfl) rfl (by as_aux_lemma => kernel_rfl) H X1 j1 i1 ((xs[i]) ^^^ (255#8)) Shape.bv_mk ?_
     intro _ H
     refine uF 0 ?_
     refine uR 1 [.c [7, 0, 1, 0, 0, 2], .l [7, 0, 1, 0, 0], .b 0, .c [8]] ?_
     refine qG (sq 0 3) ?_
     refine uP 1 ?_
     refine uI ((i : Int) + 1) ?_
     refine uF 1 ?_
     exact uB (W0 (i + 1, xs.set i ((xs[i]) ^^^ (255#8))) _ ⟨H, by omega, by simp only [List.length_set]; exact hxl⟩ (by first | omega | (simp only []; omega)))
    ·
     refine uR 2 [.c [8, 0], .c [9]] ?_
     refine qG (sq 0 11) ?_
     refine uP 3 ?_
     refine uV 82 0 (H.cells 3 rfl) ?_
     have H := H.frontM 2 rfl
     have H := H.frontM 2 rfl
     have H := H.frontM 2 rfl
     have H := H.frontW 2 rfl
     have H := H.frontW 2 rfl
     have H := H.gat 3 1
     refine uKS (vget_ok (ds := (([] : List Deed) ++ [Deed.prep (⟨C.head, C.data, false⟩ : Chk)])) g1 H0 h1 Q (D := C.head.id) (C := (⟨C.head, C.data, false⟩ : Chk)) y.1 (one_find (one_prep (ds := ([] : List Deed)) (n := 0) rfl (⟨C.head, C.data, false⟩ : Chk))) hw ((H.lend (M1 := (_ :: _ :: _ :: (diskM _ _ _ _))) (W1 := [_, _])).pick [0, 1, 2, 7] rfl)) ?_
     rintro _ _ ⟨r0, s0, rfl, H'⟩
     have H := H.back (M1 := (_ :: _ :: _ :: (diskM _ _ _ _))) (W1 := [_, _]) H'
     have H := H.ung 3
     have H : Hp w S [] (_ :: _ :: _ :: _ :: _) [⟨Sb, 5, .slice r0 ((⟨C.head, C.data, false⟩ : Chk).data.length) s0, (⟨C.head, C.data, false⟩ : Chk).data⟩, _, _, _] [_, _, _, _, _, _, _, _] _ := H
     refine uP 3 ?_
     refine uC #[.int .u64 0, .I 0, .int .u64 0, .I 0, .I 0, .I 0, .int .u32 0, .slice none 0 0, .bool false] 102 H ?_
     intro U _ H
     refine qW 102 U 0 (sq 10 11) (.agg #[.int .u64 ((⟨C.head, C.data, false⟩ : Chk).head.id.version), .I ((⟨C.head, C.data, false⟩ : Chk).head.id.index), .int .u64 ((⟨C.head, C.data, false⟩ : Chk).head.id.epoch), .I ((⟨C.head, C.data, false⟩ : Chk).head.kk), .I ((⟨C.head, C.data, false⟩ : Chk).head.nn), .I ((⟨C.head, C.data, false⟩ : Chk).head.size), .int .u32 ((((⟨C.head, C.data, false⟩ : Chk).head.sum).toNat : Nat) : Int), .slice r0 ((⟨C.head, C.data, false⟩ : Chk).data.length) s0, .bool ((⟨C.head, C.data, false⟩ : Chk).done_)]) ((U, .cells #[.int .u64 ((⟨C.head, C.data, false⟩ : Chk).head.id.version), .I ((⟨C.head, C.data, false⟩ : Chk).head.id.index), .int .u64 ((⟨C.head, C.data, false⟩ : Chk).head.id.epoch), .I ((⟨C.head, C.data, false⟩ : Chk).head.kk), .I ((⟨C.head, C.data, false⟩ : Chk).head.nn), .I ((⟨C.head, C.data, false⟩ : Chk).head.size), .int .u32 ((((⟨C.head, C.data, false⟩ : Chk).head.sum).toNat : Nat) : Int), .slice r0 ((⟨C.head, C.data, false⟩ : Chk).data.length) s0, .bool ((⟨C.head, C.data, false⟩ : Chk).done_)] 102 (0, 0)) :: (t, .cells #[.P o 0, .P f 0, .map (some j), .I 100000, .I (usedL (runD (([] : List Deed) ++ [Deed.prep (⟨C.head, C.data, false⟩ : Chk)])).1 : Int), .I ((([] : List Deed) ++ [Deed.prep (⟨C.head, C.data, false⟩ : Chk)]).length : Int)] 119 (0, 0)) :: (j, mapO cidV veV q0 ((runD (([] : List Deed) ++ [Deed.prep (⟨C.head, C.data, false⟩ : Chk)])).2)) :: (o, .cells #[.P f 0, .string (⟨#[118]⟩ : ByteArray), .slice u (([] : List (BitVec 8)).length) x, .slice L (((([] : List Deed) ++ [Deed.prep (⟨C.head, C.data, false⟩ : Chk)]).map encD).length) M, .I f1, .string b0, .slice N σ38.length O, .bool true] 41 (0, 0)) :: (A, .cells #[.int .u64 C.head.id.version, .I C.head.id.index, .int .u64 C.head.id.epoch, .I C.head.kk, .I C.head.nn, .I C.head.size, .int .u32 ((C.head.sum.toNat : Nat) : Int), .slice E C.data.length F, .bool C.done_] 102 (0, 0)) :: (diskM f G J K)) H 0 rfl rfl ?_
     intro L1 H
     refine qF 1 [(1, .I bit), (2, .P A 0), (6, .P t 0), (9, .I 0), (11, .P U 0), (12, .I 0)] ?_
     refine uR 1 [.c [9, 0], .c [10]] ?_
     refine WK.draw1 10 (qs [0, 1, 2, 3, 4, 5, 6, 7, 8, 9]) [(0, .qui), (1, .qui), (2, .qui), (3, .qui), (4, .qui), (5, .qui), (6, .qui), (7, .qui), (8, .qui), (9, .qui), (10, .seq), (11, .seq)] Tryz_mixed (by as_aux_lemma => kernel_rfl) (by as_aux_lemma => kernel_rfl) (by as_aux_lemma => kernel_rfl) ?_
     have H := H.draw
     generalize ({ L1 with drawn := L1.drawn + 1 } : World) = n2 at H ⊢
     refine uP 3 ?_
     refine uV 82 0 (H.cells 4 rfl) ?_
     refine uP 2 ?_
     refine uV 23 7 (H.cells 4 rfl) ?_
     refine uP 1 ?_
     refine uI (8 * ((C.data.length : Nat) : Int)) ?_
     refine RW.readS (κ := .qui) (d := some 88) (r := [(10, .seq), (11, .seq)]) (s := semV (Op.intDiv .rem .i64 (bit : Int) (8 * ((C.data.length : Nat) : Int)))) (v := .I ((bit : Int) % (8 * ((C.data.length : Nat) : Int)))) (by as_aux_lemma => kernel_rfl) (fun w' _ => semV_run (rem_run_i64 (by omega) (by omega))) ?_
     have H := H.frontM 3 rfl
     have H := H.frontM 3 rfl
     have H := H.frontM 3 rfl
     have H := H.frontW 2 rfl
     have H := H.frontW 2 rfl
     have H := H.gat 3 2
     refine uKS (vrot_save (ds := (([] : List Deed) ++ [Deed.prep (⟨C.head, C.data, false⟩ : Chk)])) g1 H0 h1 Q (by omega) (by omega) (by omega) (by omega) (by simp) (D := C.head.id) (C := (⟨C.head, C.data, false⟩ : Chk)) y.1 (one_find (one_prep (ds := ([] : List Deed)) (n := 0) rfl (⟨C.head, C.data, false⟩ : Chk))) (bit := (bit % (8 * C.data.length))) W u0 ((H.lend (M1 := (_ :: _ :: _ :: (diskM _ _ _ _))) (W1 := [_, _])).pick [0, 1, 2, 7] rfl)) ?_
     rintro _ _ ⟨rfl, I0, w0, x0, N1, J0, σ80, y0, z0, A0, B0, Z, D0, c0, V, H'⟩
     have z := allD_snoc Q (d := Deed.turn C.head.id (bit % (8 * C.data.length))) ⟨⟨_, (one_find (one_prep (ds := ([] : List Deed)) (n := 0) rfl (⟨C.head, C.data, false⟩ : Chk))), W, u0⟩, y.1⟩
     have l2 := encD_len (s := runD (([] : List Deed) ++ [Deed.prep (⟨C.head, C.data, false⟩ : Chk)])) (d := Deed.turn C.head.id (bit % (8 * C.data.length))) ⟨⟨_, (one_find (one_prep (ds := ([] : List Deed)) (n := 0) rfl (⟨C.head, C.data, false⟩ : Chk))), W, u0⟩, y.1⟩
     have H := H.back (M1 := (_ :: _ :: _ :: (diskM _ _ _ _))) (W1 := [_, _]) H'
     have H := H.ung 3
     have H : Hp w S [] ((t, .cells #[.P o 0, .P f 0, .map (some j), .I 100000, .I (usedL (runD ((([] : List Deed) ++ [Deed.prep (⟨C.head, C.data, false⟩ : Chk)]) ++ [Deed.turn C.head.id (bit % (8 * C.data.length))])).1 : Int), .I (((([] : List Deed) ++ [Deed.prep (⟨C.head, C.data, false⟩ : Chk)]) ++ [Deed.turn C.head.id (bit % (8 * C.data.length))]).length : Int)] 119 (0, 0)) :: (j, mapO cidV veV Z ((runD ((([] : List Deed) ++ [Deed.prep (⟨C.head, C.data, false⟩ : Chk)]) ++ [Deed.turn C.head.id (bit % (8 * C.data.length))])).2)) :: (o, .cells #[.P f 0, .string (⟨#[118]⟩ : ByteArray), .slice u (([] : List (BitVec 8)).length) x, .slice y0 ((((([] : List Deed) ++ [Deed.prep (⟨C.head, C.data, false⟩ : Chk)]) ++ [Deed.turn C.head.id (bit % (8 * C.data.length))]).map encD).length) z0, .I N1, .string J0, .slice A0 σ80.length B0, .bool true] 41 (0, 0)) :: _ :: _ :: (diskM f I0 w0 x0)) [⟨SB, 23, .slice y0 ((((([] : List Deed) ++ [Deed.prep (⟨C.head, C.data, false⟩ : Chk)]) ++ [Deed.turn C.head.id (bit % (8 * C.data.length))]).map encD).length) z0, (((([] : List Deed) ++ [Deed.prep (⟨C.head, C.data, false⟩ : Chk)]) ++ [Deed.turn C.head.id (bit % (8 * C.data.length))]).map encD)⟩, ⟨stepS, 143, .slice w0 I0.steps.length x0, I0.steps⟩, _, _] [_, Rp SB [.slice A0 σ80.length B0] σ80, Fall Z, _, _, _, _, _, _, _, _] _ := H
     refine uF 1 ?_
     refine uR 1 [.c [10, 0], .c [11]] ?_
     refine qG (sq 0 11) ?_
     refine uP 3 ?_
     refine uV 82 0 (H.cells 4 rfl) ?_
     have H := H.frontM 2 rfl
     have H := H.frontM 2 rfl
     have H := H.frontM 2 rfl
     have H := H.frontW 1 rfl
     have H := H.frontW 1 rfl
     have H := H.gat 3 2
     refine uKS (vget_rot (ds := ((([] : List Deed) ++ [Deed.prep (⟨C.head, C.data, false⟩ : Chk)]) ++ [Deed.turn C.head.id (bit % (8 * C.data.length))])) D0 c0 V z (D := C.head.id) (C := (⟨C.head, turnB C.data (bit % (8 * C.data.length)), false⟩ : Chk)) y.1 (one_find (one_turn (one_prep (ds := ([] : List Deed)) (n := 0) rfl (⟨C.head, C.data, false⟩ : Chk)) (bit % (8 * C.data.length)))) (whole_turned hw W) ((H.lend (M1 := (_ :: _ :: _ :: (diskM _ _ _ _))) (W1 := [_, _])).pick [0, 1, 2, 10] rfl)) ?_
     rintro _ _ ⟨rfl, H'⟩
     have H := H.back (M1 := (_ :: _ :: _ :: (diskM _ _ _ _))) (W1 := [_, _]) H'
     have H := H.ung 3
     have H : Hp w S [] (_ :: _ :: _ :: _ :: _ :: _) [_, _, _, _] [_, _, _, _, _, _, _, _, _, _, _] _ := H
     refine uP 3 ?_
     refine uC #[.int .u64 0, .I 0, .int .u64 0, .I 0, .I 0, .I 0, .int .u32 0, .slice none 0 0, .bool false] 102 H ?_
     intro k1 _ H
     refine qW 102 k1 0 (sq 10 11) (.agg #[.int .u64 0, .I 0, .int .u64 0, .I 0, .I 0, .I 0, .int .u32 (((0#32).toNat : Nat) : Int), .slice none 0 0, .bool false]) ((k1, .cells #[.int .u64 0, .I 0, .int .u64 0, .I 0, .I 0, .I 0, .int .u32 (((0#32).toNat : Nat) : Int), .slice none 0 0, .bool false] 102 (0, 0)) :: (t, .cells #[.P o 0, .P f 0, .map (some j), .I 100000, .I (usedL (runD ((([] : List Deed) ++ [Deed.prep (⟨C.head, C.data, false⟩ : Chk)]) ++ [Deed.turn C.head.id (bit % (8 * C.data.length))])).1 : Int), .I (((([] : List Deed) ++ [Deed.prep (⟨C.head, C.data, false⟩ : Chk)]) ++ [Deed.turn C.head.id (bit % (8 * C.data.length))]).length : Int)] 119 (0, 0)) :: (j, mapO cidV veV Z ((runD ((([] : List Deed) ++ [Deed.prep (⟨C.head, C.data, false⟩ : Chk)]) ++ [Deed.turn C.head.id (bit % (8 * C.data.length))])).2)) :: (o, .cells #[.P f 0, .string (⟨#[118]⟩ : ByteArray), .slice u (([] : List (BitVec 8)).length) x, .slice y0 ((((([] : List Deed) ++ [Deed.prep (⟨C.head, C.data, false⟩ : Chk)]) ++ [Deed.turn C.head.id (bit % (8 * C.data.length))]).map encD).length) z0, .I N1, .string J0, .slice A0 σ80.length B0, .bool true] 41 (0, 0)) :: (U, .cells #[.int .u64 ((⟨C.head, C.data, false⟩ : Chk).head.id.version), .I ((⟨C.head, C.data, false⟩ : Chk).head.id.index), .int .u64 ((⟨C.head, C.data, false⟩ : Chk).head.id.epoch), .I ((⟨C.head, C.data, false⟩ : Chk).head.kk), .I ((⟨C.head, C.data, false⟩ : Chk).head.nn), .I ((⟨C.head, C.data, false⟩ : Chk).head.size), .int .u32 ((((⟨C.head, C.data, false⟩ : Chk).head.sum).toNat : Nat) : Int), .slice r0 ((⟨C.head, C.data, false⟩ : Chk).data.length) s0, .bool ((⟨C.head, C.data, false⟩ : Chk).done_)] 102 (0, 0)) :: (A, .cells #[.int .u64 C.head.id.version, .I C.head.id.index, .int .u64 C.head.id.epoch, .I C.head.kk, .I C.head.nn, .I C.head.size, .int .u32 ((C.head.sum.toNat : Nat) : Int), .slice E C.data.length F, .bool C.done_] 102 (0, 0)) :: (diskM f I0 w0 x0)) H 0 rfl rfl ?_
     intro _ H
     refine uF 1 ?_
     refine uR 1 [.c [11, 0], .c [12]] ?_
     refine qG (sq 0 3) ?_
     refine qP 1 (sq 1 3) [(2, .P A 0), (6, .P t 0), (9, .I 0), (11, .P U 0), (12, .I 0), (13, .I 0), (15, .I 92), (98, .P t 0)] ?_
     obtain ⟨l1, m1, n1, o1⟩ := vkeys_ok V z (by simp)
     have H := H.frontM 2 rfl
     have H := H.frontM 2 rfl
     refine uKS (vscrub_spec l1 m1 n1 o1 ((H.lend (M1 := [_, _]) (W1 := [])).pick [2] rfl)) ?_
     rintro _ _ ⟨K0, L0, d0, y1, rfl, H'⟩
     have H := H.back (M1 := [_, _]) (W1 := []) H'
     have H : Hp w S [] (_ :: _ :: _ :: _ :: _ :: _ :: _) [⟨cidS, 82, .slice K0 ((d0.filter (rotL (cont Z))).length) L0, (d0.filter (rotL (cont Z)))⟩, _, _, _, _] [_, _, _, _, _, _, _, _, _, _, _] _ := H
     have z1 : (d0.filter (rotL (cont Z))) = [C.head.id] := scrub_one (one_turn (one_prep (ds := ([] : List Deed)) (n := 0) rfl (⟨C.head, C.data, false⟩ : Chk)) (bit % (8 * C.data.length))) V y1 (whole_turned hw W)
     rw [z1] at H ⊢
     have H : Hp w S [] (_ :: _ :: _ :: _ :: _ :: _ :: _) [⟨cidS, 82, .slice K0 1 L0, [C.head.id]⟩, _, _, _, _] [_, _, _, _, _, _, _, _, _, _, _] _ := H
     refine uF 1 ?_
     refine uR 1 [.c [12, 0], .c [13]] ?_
     refine qG (sq 0 4) ?_
     refine uP 1 ?_
     refine uV 102 0 (H.cells 5 rfl) ?_
     have H := H.frontM 3 rfl
     have H := H.frontM 2 rfl
     have H := H.frontM 2 rfl
     have H := H.frontW 2 rfl
     have H := H.frontW 2 rfl
     have H := H.gat 3 3
     refine uKS (vprep_found (ds := ((([] : List Deed) ++ [Deed.prep (⟨C.head, C.data, false⟩ : Chk)]) ++ [Deed.turn C.head.id (bit % (8 * C.data.length))])) D0 c0 V z (C := C) (C0 := (⟨C.head, turnB C.data (bit % (8 * C.data.length)), false⟩ : Chk)) y hw (one_find (one_turn (one_prep (ds := ([] : List Deed)) (n := 0) rfl (⟨C.head, C.data, false⟩ : Chk)) (bit % (8 * C.data.length)))) ((H.lend (M1 := (_ :: _ :: _ :: (diskM _ _ _ _))) (W1 := [_, _])).pick [0, 1, 2, 10, 9] rfl)) ?_
     rintro _ _ ⟨O1, H'⟩
     rw [if_neg (fun q => crc_turned W (congrArg crcF q.2))] at O1
     subst O1
     have H := H.back (M1 := (_ :: _ :: _ :: (diskM _ _ _ _))) (W1 := [_, _]) H'
     have H := H.ung 3
     have H : Hp w S [] (_ :: _ :: _ :: _ :: _ :: _ :: _) [_, _, _, _, _] [_, _, _, _, _, _, _, _, _, _, _] _ := H
     refine uF 1 ?_
     refine uR 1 [.c [13, 0], .c [14]] ?_
     refine qG (sq 0 6) ?_
     refine uP 3 ?_
     refine uV 82 0 (H.cells 5 rfl) ?_
     have H := H.frontM 2 rfl
     have H := H.frontM 2 rfl
     have H := H.frontM 2 rfl
     have H := H.frontW 1 rfl
     have H := H.frontW 1 rfl
     have H := H.gat 3 3
     refine uKS (vdrop_save (ds := ((([] : List Deed) ++ [Deed.prep (⟨C.head, C.data, false⟩ : Chk)]) ++ [Deed.turn C.head.id (bit % (8 * C.data.length))])) D0 c0 V z (by omega) (by omega) (by omega) (by omega) (by simp) (D := C.head.id) (C := (⟨C.head, turnB C.data (bit % (8 * C.data.length)), false⟩ : Chk)) y.1 (one_find (one_turn (one_prep (ds := ([] : List Deed)) (n := 0) rfl (⟨C.head, C.data, false⟩ : Chk)) (bit % (8 * C.data.length)))) ((H.lend (M1 := (_ :: _ :: _ :: (diskM _ _ _ _))) (W1 := [_, _])).pick [0, 1, 2, 10] rfl)) ?_
     rintro _ _ ⟨rfl, E0, M0, N0, Z1, p1, σ109, O0, P0, Q0, R0, q1, A1, r1, B1, H'⟩
     have a0 := allD_snoc z (d := Deed.drop C.head.id) ⟨⟨_, (one_find (one_turn (one_prep (ds := ([] : List Deed)) (n := 0) rfl (⟨C.head, C.data, false⟩ : Chk)) (bit % (8 * C.data.length))))⟩, y.1⟩
     have a2 := encD_len (s := runD ((([] : List Deed) ++ [Deed.prep (⟨C.head, C.data, false⟩ : Chk)]) ++ [Deed.turn C.head.id (bit % (8 * C.data.length))])) (d := Deed.drop C.head.id) ⟨⟨_, (one_find (one_turn (one_prep (ds := ([] : List Deed)) (n := 0) rfl (⟨C.head, C.data, false⟩ : Chk)) (bit % (8 * C.data.length))))⟩, y.1⟩
     have H := H.back (M1 := (_ :: _ :: _ :: (diskM _ _ _ _))) (W1 := [_, _]) H'
     have H := H.ung 3
     have H : Hp w S [] ((t, .cells #[.P o 0, .P f 0, .map (some j), .I 100000, .I (usedL (runD (((([] : List Deed) ++ [Deed.prep (⟨C.head, C.data, false⟩ : Chk)]) ++ [Deed.turn C.head.id (bit % (8 * C.data.length))]) ++ [Deed.drop C.head.id])).1 : Int), .I ((((([] : List Deed) ++ [Deed.prep (⟨C.head, C.data, false⟩ : Chk)]) ++ [Deed.turn C.head.id (bit % (8 * C.data.length))]) ++ [Deed.drop C.head.id]).length : Int)] 119 (0, 0)) :: (j, mapO cidV veV q1 ((runD (((([] : List Deed) ++ [Deed.prep (⟨C.head, C.data, false⟩ : Chk)]) ++ [Deed.turn C.head.id (bit % (8 * C.data.length))]) ++ [Deed.drop C.head.id])).2)) :: (o, .cells #[.P f 0, .string (⟨#[118]⟩ : ByteArray), .slice u (([] : List (BitVec 8)).length) x, .slice O0 (((((([] : List Deed) ++ [Deed.prep (⟨C.head, C.data, false⟩ : Chk)]) ++ [Deed.turn C.head.id (bit % (8 * C.data.length))]) ++ [Deed.drop C.head.id]).map encD).length) P0, .I Z1, .string p1, .slice Q0 σ109.length R0, .bool true] 41 (0, 0)) :: _ :: _ :: _ :: (diskM f E0 M0 N0)) [⟨SB, 23, .slice O0 (((((([] : List Deed) ++ [Deed.prep (⟨C.head, C.data, false⟩ : Chk)]) ++ [Deed.turn C.head.id (bit % (8 * C.data.length))]) ++ [Deed.drop C.head.id]).map encD).length) P0, ((((([] : List Deed) ++ [Deed.prep (⟨C.head, C.data, false⟩ : Chk)]) ++ [Deed.turn C.head.id (bit % (8 * C.data.length))]) ++ [Deed.drop C.head.id]).map encD)⟩, ⟨stepS, 143, .slice M0 E0.steps.length N0, E0.steps⟩, _, _, _] [_, Rp SB [.slice Q0 σ109.length R0] σ109, Fall q1, _, _, _, _, _, _, _, _, _, _, _] _ := H
     refine uF 1 ?_
     refine uR 1 [.c [14, 0], .c [15]] ?_
     refine qG (sq 0 4) ?_
     refine uP 1 ?_
     refine uV 102 0 (H.cells 5 rfl) ?_
     have H := H.frontM 2 rfl
     have H := H.frontM 2 rfl
     have H := H.frontM 2 rfl
     have H := H.frontW 1 rfl
     have H := H.frontW 1 rfl
     have H := H.gat 3 3
     refine uKS (vprep_new (ds := (((([] : List Deed) ++ [Deed.prep (⟨C.head, C.data, false⟩ : Chk)]) ++ [Deed.turn C.head.id (bit % (8 * C.data.length))]) ++ [Deed.drop C.head.id])) (C := C) A1 r1 B1 a0 (by omega) (by omega) (by omega) (by omega) (by simp) y hw (none_find (one_drop (one_turn (one_prep (ds := ([] : List Deed)) (n := 0) rfl (⟨C.head, C.data, false⟩ : Chk)) (bit % (8 * C.data.length))))) (by rw [none_used (one_drop (one_turn (one_prep (ds := ([] : List Deed)) (n := 0) rfl (⟨C.head, C.data, false⟩ : Chk)) (bit % (8 * C.data.length))))]; show ((0 : Nat) : Int) + ((C.data.length : Nat) : Int) ≤ 100000; omega) ((H.lend (M1 := (_ :: _ :: _ :: (diskM _ _ _ _))) (W1 := [_, _])).pick [0, 1, 2, 13, 12] rfl)) ?_
     rintro _ _ ⟨rfl, e0, f0, g0, s1, t0, σ126, h0, i0, j0, k0, F0, C1, t1, D1, H'⟩
     have Y0 := allD_snoc a0 (d := Deed.prep (⟨C.head, C.data, false⟩ : Chk)) ⟨(none_find (one_drop (one_turn (one_prep (ds := ([] : List Deed)) (n := 0) rfl (⟨C.head, C.data, false⟩ : Chk)) (bit % (8 * C.data.length))))), y, whole_len hw⟩
     have b2 := encD_len (s := runD (((([] : List Deed) ++ [Deed.prep (⟨C.head, C.data, false⟩ : Chk)]) ++ [Deed.turn C.head.id (bit % (8 * C.data.length))]) ++ [Deed.drop C.head.id])) (d := Deed.prep (⟨C.head, C.data, false⟩ : Chk)) ⟨(none_find (one_drop (one_turn (one_prep (ds := ([] : List Deed)) (n := 0) rfl (⟨C.head, C.data, false⟩ : Chk)) (bit % (8 * C.data.length))))), y, whole_len hw⟩
     have H := H.back (M1 := (_ :: _ :: _ :: (diskM _ _ _ _))) (W1 := [_, _]) H'
     have H := H.ung 3
     have H : Hp w S [] ((t, .cells #[.P o 0, .P f 0, .map (some j), .I 100000, .I (usedL (runD ((((([] : List Deed) ++ [Deed.prep (⟨C.head, C.data, false⟩ : Chk)]) ++ [Deed.turn C.head.id (bit % (8 * C.data.length))]) ++ [Deed.drop C.head.id]) ++ [Deed.prep (⟨C.head, C.data, false⟩ : Chk)])).1 : Int), .I (((((([] : List Deed) ++ [Deed.prep (⟨C.head, C.data, false⟩ : Chk)]) ++ [Deed.turn C.head.id (bit % (8 * C.data.length))]) ++ [Deed.drop C.head.id]) ++ [Deed.prep (⟨C.head, C.data, false⟩ : Chk)]).length : Int)] 119 (0, 0)) :: (j, mapO cidV veV F0 ((runD ((((([] : List Deed) ++ [Deed.prep (⟨C.head, C.data, false⟩ : Chk)]) ++ [Deed.turn C.head.id (bit % (8 * C.data.length))]) ++ [Deed.drop C.head.id]) ++ [Deed.prep (⟨C.head, C.data, false⟩ : Chk)])).2)) :: (o, .cells #[.P f 0, .string (⟨#[118]⟩ : ByteArray), .slice u (([] : List (BitVec 8)).length) x, .slice h0 ((((((([] : List Deed) ++ [Deed.prep (⟨C.head, C.data, false⟩ : Chk)]) ++ [Deed.turn C.head.id (bit % (8 * C.data.length))]) ++ [Deed.drop C.head.id]) ++ [Deed.prep (⟨C.head, C.data, false⟩ : Chk)]).map encD).length) i0, .I s1, .string t0, .slice j0 σ126.length k0, .bool true] 41 (0, 0)) :: _ :: _ :: _ :: (diskM f e0 f0 g0)) [⟨SB, 23, .slice h0 ((((((([] : List Deed) ++ [Deed.prep (⟨C.head, C.data, false⟩ : Chk)]) ++ [Deed.turn C.head.id (bit % (8 * C.data.length))]) ++ [Deed.drop C.head.id]) ++ [Deed.prep (⟨C.head, C.data, false⟩ : Chk)]).map encD).length) i0, (((((([] : List Deed) ++ [Deed.prep (⟨C.head, C.data, false⟩ : Chk)]) ++ [Deed.turn C.head.id (bit % (8 * C.data.length))]) ++ [Deed.drop C.head.id]) ++ [Deed.prep (⟨C.head, C.data, false⟩ : Chk)]).map encD)⟩, ⟨stepS, 143, .slice f0 e0.steps.length g0, e0.steps⟩, _, _, _] [_, Rp SB [.slice j0 σ126.length k0] σ126, Fall F0, _, _, _, _, _, _, _, _, _, _, _, _, _, _] _ := H
     refine uF 1 ?_
     refine qR 1 [.c [15, 0], .c [16]] [(2, .P A 0), (6, .P t 0), (9, .I 0), (11, .P U 0), (12, .I 0), (13, .I 0), (15, .I 92), (16, .slice K0 1 L0), (17, .I 93), (18, .I 0), (19, .I 0)] ?_
     refine qG (sq 0 11) ?_
     refine uP 3 ?_
     refine uV 82 0 (H.cells 5 rfl) ?_
     have H := H.frontM 2 rfl
     have H := H.frontM 2 rfl
     have H := H.frontM 2 rfl
     have H := H.frontW 1 rfl
     have H := H.frontW 1 rfl
     have H := H.gat 3 3
     refine uKS (vget_ok (ds := ((((([] : List Deed) ++ [Deed.prep (⟨C.head, C.data, false⟩ : Chk)]) ++ [Deed.turn C.head.id (bit % (8 * C.data.length))]) ++ [Deed.drop C.head.id]) ++ [Deed.prep (⟨C.head, C.data, false⟩ : Chk)])) C1 t1 D1 Y0 (D := C.head.id) (C := (⟨C.head, C.data, false⟩ : Chk)) y.1 (one_find (one_prep (one_drop (one_turn (one_prep (ds := ([] : List Deed)) (n := 0) rfl (⟨C.head, C.data, false⟩ : Chk)) (bit % (8 * C.data.length)))) (⟨C.head, C.data, false⟩ : Chk))) hw ((H.lend (M1 := (_ :: _ :: _ :: (diskM _ _ _ _))) (W1 := [_, _])).pick [0, 1, 2, 16] rfl)) ?_
     rintro _ _ ⟨l0, m0, rfl, H'⟩
     have H := H.back (M1 := (_ :: _ :: _ :: (diskM _ _ _ _))) (W1 := [_, _]) H'
     have H := H.ung 3
     have H : Hp w S [] (_ :: _ :: _ :: _ :: _ :: _ :: _) [⟨Sb, 5, .slice l0 ((⟨C.head, C.data, false⟩ : Chk).data.length) m0, (⟨C.head, C.data, false⟩ : Chk).data⟩, _, _, _, _, _] [_, _, _, _, _, _, _, _, _, _, _, _, _, _, _, _, _] _ := H
     refine uP 3 ?_
     refine uC #[.int .u64 0, .I 0, .int .u64 0, .I 0, .I 0, .I 0, .int .u32 0, .slice none 0 0, .bool false] 102 H ?_
     intro u1 _ H
     refine qW 102 u1 0 (sq 10 11) (.agg #[.int .u64 ((⟨C.head, C.data, false⟩ : Chk).head.id.version), .I ((⟨C.head, C.data, false⟩ : Chk).head.id.index), .int .u64 ((⟨C.head, C.data, false⟩ : Chk).head.id.epoch), .I ((⟨C.head, C.data, false⟩ : Chk).head.kk), .I ((⟨C.head, C.data, false⟩ : Chk).head.nn), .I ((⟨C.head, C.data, false⟩ : Chk).head.size), .int .u32 ((((⟨C.head, C.data, false⟩ : Chk).head.sum).toNat : Nat) : Int), .slice l0 ((⟨C.head, C.data, false⟩ : Chk).data.length) m0, .bool ((⟨C.head, C.data, false⟩ : Chk).done_)]) ((u1, .cells #[.int .u64 ((⟨C.head, C.data, false⟩ : Chk).head.id.version), .I ((⟨C.head, C.data, false⟩ : Chk).head.id.index), .int .u64 ((⟨C.head, C.data, false⟩ : Chk).head.id.epoch), .I ((⟨C.head, C.data, false⟩ : Chk).head.kk), .I ((⟨C.head, C.data, false⟩ : Chk).head.nn), .I ((⟨C.head, C.data, false⟩ : Chk).head.size), .int .u32 ((((⟨C.head, C.data, false⟩ : Chk).head.sum).toNat : Nat) : Int), .slice l0 ((⟨C.head, C.data, false⟩ : Chk).data.length) m0, .bool ((⟨C.head, C.data, false⟩ : Chk).done_)] 102 (0, 0)) :: (t, .cells #[.P o 0, .P f 0, .map (some j), .I 100000, .I (usedL (runD ((((([] : List Deed) ++ [Deed.prep (⟨C.head, C.data, false⟩ : Chk)]) ++ [Deed.turn C.head.id (bit % (8 * C.data.length))]) ++ [Deed.drop C.head.id]) ++ [Deed.prep (⟨C.head, C.data, false⟩ : Chk)])).1 : Int), .I (((((([] : List Deed) ++ [Deed.prep (⟨C.head, C.data, false⟩ : Chk)]) ++ [Deed.turn C.head.id (bit % (8 * C.data.length))]) ++ [Deed.drop C.head.id]) ++ [Deed.prep (⟨C.head, C.data, false⟩ : Chk)]).length : Int)] 119 (0, 0)) :: (j, mapO cidV veV F0 ((runD ((((([] : List Deed) ++ [Deed.prep (⟨C.head, C.data, false⟩ : Chk)]) ++ [Deed.turn C.head.id (bit % (8 * C.data.length))]) ++ [Deed.drop C.head.id]) ++ [Deed.prep (⟨C.head, C.data, false⟩ : Chk)])).2)) :: (o, .cells #[.P f 0, .string (⟨#[118]⟩ : ByteArray), .slice u (([] : List (BitVec 8)).length) x, .slice h0 ((((((([] : List Deed) ++ [Deed.prep (⟨C.head, C.data, false⟩ : Chk)]) ++ [Deed.turn C.head.id (bit % (8 * C.data.length))]) ++ [Deed.drop C.head.id]) ++ [Deed.prep (⟨C.head, C.data, false⟩ : Chk)]).map encD).length) i0, .I s1, .string t0, .slice j0 σ126.length k0, .bool true] 41 (0, 0)) :: (k1, .cells #[.int .u64 0, .I 0, .int .u64 0, .I 0, .I 0, .I 0, .int .u32 (((0#32).toNat : Nat) : Int), .slice none 0 0, .bool false] 102 (0, 0)) :: (U, .cells #[.int .u64 ((⟨C.head, C.data, false⟩ : Chk).head.id.version), .I ((⟨C.head, C.data, false⟩ : Chk).head.id.index), .int .u64 ((⟨C.head, C.data, false⟩ : Chk).head.id.epoch), .I ((⟨C.head, C.data, false⟩ : Chk).head.kk), .I ((⟨C.head, C.data, false⟩ : Chk).head.nn), .I ((⟨C.head, C.data, false⟩ : Chk).head.size), .int .u32 ((((⟨C.head, C.data, false⟩ : Chk).head.sum).toNat : Nat) : Int), .slice r0 ((⟨C.head, C.data, false⟩ : Chk).data.length) s0, .bool ((⟨C.head, C.data, false⟩ : Chk).done_)] 102 (0, 0)) :: (A, .cells #[.int .u64 C.head.id.version, .I C.head.id.index, .int .u64 C.head.id.epoch, .I C.head.kk, .I C.head.nn, .I C.head.size, .int .u32 ((C.head.sum.toNat : Nat) : Int), .slice E C.data.length F, .bool C.done_] 102 (0, 0)) :: (diskM f e0 f0 g0)) H 0 rfl rfl ?_
     intro v1 H
     refine uF 1 ?_
     refine uR 1 [.c [16, 0], .c [17]] ?_
     refine WK.draw1 62 [(0, .qui), (1, .qui), (2, .qui), (3, .qui), (4, .qui), (5, .qui), (6, .qui), (7, .qui), (8, .qui), (9, .qui), (10, .qui), (11, .chn), (12, .qui), (13, .qui), (14, .qui), (15, .qui), (16, .qui), (17, .qui), (18, .qui), (19, .qui), (20, .qui), (21, .qui), (22, .qui), (23, .qui), (24, .qui), (25, .qui), (26, .qui), (27, .qui), (28, .qui), (29, .qui), (30, .qui), (31, .qui), (32, .qui), (33, .qui), (34, .qui), (35, .qui), (36, .qui), (37, .qui), (38, .qui), (39, .qui), (40, .qui), (41, .qui), (42, .qui), (43, .qui), (44, .qui), (45, .qui), (46, .qui), (47, .qui), (48, .qui), (49, .qui), (50, .qui), (51, .qui), (52, .qui), (53, .qui), (54, .qui), (55, .qui), (56, .chn), (57, .qui), (58, .qui), (59, .chn), (60, .qui), (61, .qui)] [(0, .qui), (1, .qui), (2, .qui), (3, .qui), (4, .qui), (5, .qui), (6, .qui), (7, .qui), (8, .qui), (9, .qui), (10, .qui), (11, .chn), (12, .qui), (13, .qui), (14, .qui), (15, .qui), (16, .qui), (17, .qui), (18, .qui), (19, .qui), (20, .qui), (21, .qui), (22, .qui), (23, .qui), (24, .qui), (25, .qui), (26, .qui), (27, .qui), (28, .qui), (29, .qui), (30, .qui), (31, .qui), (32, .qui), (33, .qui), (34, .qui), (35, .qui), (36, .qui), (37, .qui), (38, .qui), (39, .qui), (40, .qui), (41, .qui), (42, .qui), (43, .qui), (44, .qui), (45, .qui), (46, .qui), (47, .qui), (48, .qui), (49, .qui), (50, .qui), (51, .qui), (52, .qui), (53, .qui), (54, .qui), (55, .qui), (56, .chn), (57, .qui), (58, .qui), (59, .chn), (60, .qui), (61, .qui)] Tryz_mixed (by as_aux_lemma => kernel_rfl) (by as_aux_lemma => kernel_rfl) (by as_aux_lemma => kernel_rfl) ?_
     have H := H.draw
     generalize ({ v1 with drawn := v1.drawn + 1 } : World) = m2 at H ⊢
     refine uP 8 ?_
     refine uV 23 7 (H.cells 5 rfl) ?_
     refine uP 1 ?_
     refine uV 23 7 (H.cells 6 rfl) ?_
     refine uK (same01N (S := fun _ => True) (xs := (⟨C.head, C.data, false⟩ : Chk).data) (ys := C.data) (H.view 4 rfl) (H.viewR 15 rfl)) ?_
     rintro _ _ E1 rfl
     have H := H.ext E1
     rw [sameB_eq (rfl)]
     refine uP 16 ?_
     have H := H.frontW 3 rfl
     have F1 : 1 = [C.head.id].length := rfl
     have G1 : 0 < [C.head.id].length := Nat.zero_lt_one
     refine RW.indexW (κ := .qui) (d := some 147) (r := [(29, .qui), (30, .qui), (31, .qui), (32, .qui), (33, .qui), (34, .qui), (35, .qui), (36, .qui), (37, .qui), (38, .qui), (39, .qui), (40, .qui), (41, .qui), (42, .qui), (43, .qui), (44, .qui), (45, .qui), (46, .qui), (47, .qui), (48, .qui), (49, .qui), (50, .qui), (51, .qui), (52, .qui), (53, .qui), (54, .qui), (55, .qui), (56, .chn), (57, .qui), (58, .qui), (59, .chn), (60, .qui), (61, .qui)]) (T := 110) (e := 82) (m := 3) (ik := .i64) (ix := 0) (sh := cidS) (xs := [C.head.id]) (a := K0) (len := 1) (cap := L0) (by as_aux_lemma => kernel_rfl) (by as_aux_lemma => kernel_rfl) rfl H 0 (by omega) G1 F1 ?_
     intro _ _ _ G0 H1
     obtain ⟨rfl, _, _, _⟩ := cid_open H1
     refine uV 82 0 G0 ?_
     refine uP 2 ?_
     refine uV 82 0 (H.cells 6 rfl) ?_
     refine RW.eqA (κ := .qui) (d := some 152) (r := [(34, .qui), (35, .qui), (36, .qui), (37, .qui), (38, .qui), (39, .qui), (40, .qui), (41, .qui), (42, .qui), (43, .qui), (44, .qui), (45, .qui), (46, .qui), (47, .qui), (48, .qui), (49, .qui), (50, .qui), (51, .qui), (52, .qui), (53, .qui), (54, .qui), (55, .qui), (56, .chn), (57, .qui), (58, .qui), (59, .chn), (60, .qui), (61, .qui)]) (T := 82) (xs := #[.int .u64 C.head.id.version, .I C.head.id.index, .int .u64 C.head.id.epoch]) (ys := #[.int .u64 C.head.id.version, .I C.head.id.index, .int .u64 C.head.id.epoch]) (ox := (.tmp 148)) (oy := (.tmp 151)) [((C.head.id.version : Int) == C.head.id.version), ((C.head.id.index : Int) == C.head.id.index), ((C.head.id.epoch : Int) == C.head.id.epoch)] (by as_aux_lemma => kernel_rfl) (by as_aux_lemma => kernel_rfl) (by as_aux_lemma => kernel_rfl) ?_
     refine uP 2 ?_
     refine uT 154 ([((C.head.id.version : Int) == C.head.id.version), ((C.head.id.index : Int) == C.head.id.index), ((C.head.id.epoch : Int) == C.head.id.epoch)].all id) (fun w1 => ?_) (fun w1 => ?_)
     ·
      refine uP 17 ?_
      refine uV 23 7 (H.cells 0 rfl) ?_
      refine qP 1 [(55, .qui), (56, .chn), (57, .qui), (58, .qui), (59, .chn), (60, .qui), (61, .qui)] [(170, .bool true), (172, .slice l0 ((⟨C.head, C.data, false⟩ : Chk).data.length) m0), (173, .P A 7)] ?_
      refine uV 23 7 (H.cells 6 rfl) ?_
      refine uK (same01N (S := fun _ => True) (xs := (⟨C.head, C.data, false⟩ : Chk).data) (ys := C.data) (H.view 1 rfl) (H.viewR 15 rfl)) ?_
      rintro _ _ I1 rfl
      have H := H.ext I1
      rw [sameB_eq (rfl)]
      refine uP 2 ?_
      refine uK (heads9_spec (S := fun _ => True) (H.viewF 16 rfl)) ?_
      rintro _ _ J1 rfl
      have H := H.ext J1
      refine uF 2 ?_
      refine qT (.bool true) Tryz.func9 ?_
      exact ⟨_, rfl, H.done, rfl⟩
     ·
      (simp at w1)
theorem tells_spec {S : Nat → Prop} {w : World} (x1 : Int) {C : Chk} {cs : List Value} (hC : chkS.rep S w cs C) (hq : (Fz jQ).p S w) :
 Calls Tryz.prog 9 #[.agg cs.toArray, .I x1] w (Ret fun v w' => Ext w w' ∧ v = .bool true) := by
 by_cases h : wholeE C.head C.data ≠ 0 ∨ C.data.length = 0 ∨ x1 < 0
 · exact tells_no x1 hC h hq
 · obtain ⟨bit, rfl⟩ := Int.eq_ofNat_of_zero_le (show 0 ≤ x1 by omega)
   exact tells_yes bit hC (Classical.byContradiction fun q => h (.inl q)) (by omega) hq
end Go.Proofs.YtdnibpclkhenmaaGreatDoor
