import Derived.Test.YtdnibpclkhenmaaGreatDoorSBxA
import Derived.Test.YtdnibpclkhenmaaGreatDoorSJX
import Derived.Test.YtdnibpclkhenmaaGreatDoorSJM
namespace Go.Proofs.YtdnibpclkhenmaaGreatDoor
open Go.BX
theorem own_long {S : Nat → Prop} {w : World} {r : List (BitVec 8)} {ax : Option Addr} {cx : Nat} (hl : 20000 < r.length) (hr : (Rp SB [.slice ax r.length cx] r).p S w) (hq : (Fz jQ).p S w) :
 Calls Tryz.prog 5 #[.slice ax r.length cx] w (Ret fun v w' => Ext w w' ∧ v = .bool true) := by
 have hal := Shape.slice_len hr
 refine uS1 Tryz.func5 ?_
 have H := Hp.startF (w := w) (S := S) (G := [Rp SB [.slice ax r.length cx] r, Fz jQ]) (.rp hr (.cons hq .nil))
 refine uR 3 [.c [1, 0], .c [2]] ?_
 refine qG (sq 0 2) ?_
 refine uK (new_spec (S := Av S w [] (idsOf [] []))) ?_
 rintro _ _ - ⟨d, a, b, rfl, H'⟩
 have H := H.back (M1 := []) (W1 := []) H'
 have H := H.perms (M' := ((diskM d (newD a b) none 0))) (W' := [⟨stepS, 143, .slice none ((newD a b).steps.length) 0, (newD a b).steps⟩]) ((List.perm_append_comm (l₁ := diskM d (newD a b) none 0) (l₂ := ([] : Heap))).symm) (List.Perm.refl _)
 have H : Hp w S [] _ [_] [_, _] _ := H
 have e : DOk (newD a b) := newD_ok a b
 refine uF 1 ?_
 refine uR 3 [.c [2, 0, 1], .c [3]] ?_
 refine qD ((((r.length : Nat) : Int) : Int) > 20000) (fun f => ?_) (fun f => ?_)
 ·
  refine uR 2 [.c [2, 0, 1, 0, 1], .c [3]] ?_
  refine qT (.bool true) Tryz.func5 ?_
  exact ⟨_, rfl, H.done, rfl⟩
 ·
  omega
set_option maxHeartbeats 4000000 in
theorem own_short {S : Nat → Prop} {w : World} {r : List (BitVec 8)} {ax : Option Addr} {cx : Nat} (hl : r.length ≤ 20000) (h0 : 0 < r.length) (hr : (Rp SB [.slice ax r.length cx] r).p S w) (hq : (Fz jQ).p S w) :
 Calls Tryz.prog 5 #[.slice ax r.length cx] w (Ret fun v w' => Ext w w' ∧ v = .bool true) := by
 have hal := Shape.slice_len hr
 refine uS1 Tryz.func5 ?_
 have H := Hp.startF (w := w) (S := S) (G := [Rp SB [.slice ax r.length cx] r, Fz jQ]) (.rp hr (.cons hq .nil))
 refine uR 3 [.c [1, 0], .c [2]] ?_
 refine qG (sq 0 2) ?_
 refine uK (new_spec (S := Av S w [] (idsOf [] []))) ?_
 rintro _ _ - ⟨f, x3, y4, rfl, H'⟩
 have H := H.back (M1 := []) (W1 := []) H'
 have H := H.perms (M' := ((diskM f (newD x3 y4) none 0))) (W' := [⟨stepS, 143, .slice none ((newD x3 y4).steps.length) 0, (newD x3 y4).steps⟩]) ((List.perm_append_comm (l₁ := diskM f (newD x3 y4) none 0) (l₂ := ([] : Heap))).symm) (List.Perm.refl _)
 have H : Hp w S [] _ [_] [_, _] _ := H
 have Z2 : DOk (newD x3 y4) := newD_ok x3 y4
 refine uF 1 ?_
 refine uR 3 [.c [2, 0, 1], .c [3]] ?_
 refine qD ((((r.length : Nat) : Int) : Int) > 20000) (fun h5 => ?_) (fun h5 => ?_)
 ·
  omega
 ·
  refine uR 2 [.c [3, 0], .c [4]] ?_
  refine qG (sq 0 7) ?_
  refine uP 1 ?_
  have A0 := newD_CW x3 y4 ⟨#[106]⟩
  have c1 : (newD x3 y4).armed = false := rfl
  have H := H.perms (M' := diskM f (newD x3 y4) none 0 ++ []) (W' := [⟨stepS, 143, .slice none ((newD x3 y4).steps.length) 0, (newD x3 y4).steps⟩]) (List.perm_append_comm (l₁ := diskM f (newD x3 y4) none 0) (l₂ := ([] : Heap))) (List.Perm.refl _)
  refine uKS (jopen_law (n := 100000000) (m := 0) (q := 0) (c := 0) plainJ A0.di (A0.al.mono (by omega)) (newD_op x3 y4 _) A0.cap (by omega) (fun B R h => CW.hb0 h) ((H.lend (M1 := diskM f (newD x3 y4) none 0) (W1 := [⟨stepS, 143, .slice none ((newD x3 y4).steps.length) 0, (newD x3 y4).steps⟩])).pick [1] rfl)) ?_
  rintro _ _ (⟨u, _, _, o0, i0, j0, a0, b0, M, N, O, rfl, t2, c0, u2, H'⟩ | ⟨M, N, O, rfl, _, v2, H'⟩)
  rotate_left
  · exact absurd (v2) (by rw [c1]; nofun)
  obtain ⟨a3, b3⟩ := t2
  subst a3
  subst b3
  have H := H.back (M1 := diskM f (newD x3 y4) none 0) (W1 := [⟨stepS, 143, .slice none ((newD x3 y4).steps.length) 0, (newD x3 y4).steps⟩]) H'
  have H := H.perms (M' := ((u, .cells #[.P f 0, .string (⟨#[106]⟩ : ByteArray), .slice i0 (([] : List (BitVec 8)).length) j0, .slice a0 (([] : List (List (BitVec 8))).length) b0, .I o0, .string (⟨#[]⟩ : ByteArray), .slice none (([] : List (BitVec 8)).length) 0, .bool true] 41 (0, 0)) :: (diskM f M N O))) (W' := [⟨SB, 23, .slice a0 (([] : List (List (BitVec 8))).length) b0, ([] : List (List (BitVec 8)))⟩, ⟨stepS, 143, .slice N M.steps.length O, M.steps⟩]) ((List.perm_append_comm (l₁ := ([] : Heap)) (l₂ := diskM f M N O)).cons _) (List.Perm.refl _)
  have H : Hp w S [] _ [_, _] [Rp SB [.slice i0 (([] : List (BitVec 8)).length) j0] ([] : List (BitVec 8)), Rp SB [.slice none (([] : List (BitVec 8)).length) 0] ([] : List (BitVec 8)), _, _] _ := H
  have K0 := u2.arm.trans c1
  refine uF 5 ?_
  refine uR 6 [.c [5, 0], .c [6]] ?_
  refine qG (sq 0 3) ?_
  refine uP 1 ?_
  refine uK (copy_own (xs := r) (H.rp 2 rfl) (by omega)) ?_
  rintro _ _ - ⟨K, L, rfl, H'⟩
  have H := H.back (M1 := []) (W1 := []) H'
  have H : Hp w S [] _ [⟨Sb, 5, .slice K r.length L, r⟩, _, _] [_, _, _, _] _ := H
  refine uF 1 ?_
  refine uR 2 [.c [6, 0, 0], .c [6, 0, 1], .c [7]] ?_
  refine qG (sq 0 10) ?_
  refine qP 2 (sq 2 10) [(0, .slice ax r.length cx), (4, .P u 0), (6, .slice K r.length L), (36, .P u 0), (37, .slice K r.length L)] ?_
  have H := H.frontW 2 rfl
  have H := H.frontW 1 rfl
  have H := H.frontW 2 rfl
  have H := H.perms (M' := ((u, .cells #[.P f 0, .string (⟨#[106]⟩ : ByteArray), .slice i0 (([] : List (BitVec 8)).length) j0, .slice a0 (([] : List (List (BitVec 8))).length) b0, .I o0, .string (⟨#[]⟩ : ByteArray), .slice none (([] : List (BitVec 8)).length) 0, .bool true] 41 (0, 0)) :: diskM f M N O) ++ []) (W' := [⟨SB, 23, .slice a0 (([] : List (List (BitVec 8))).length) b0, ([] : List (List (BitVec 8)))⟩, ⟨Sb, 5, .slice K r.length L, r⟩, ⟨stepS, 143, .slice N M.steps.length O, M.steps⟩]) ((List.perm_append_comm (l₁ := diskM f M N O) (l₂ := ([] : Heap))).cons _) (List.Perm.refl _)
  refine uKS (jcheck_own (b := r) (n := 99700000) c0.pl c0.di (c0.al.mono (by omega)) c0.jl (Nat.lt_of_le_of_lt c0.gm (by omega)) (by omega) (Nat.lt_of_le_of_lt c0.now (by omega)) ((H.lend (M1 := ((u, .cells #[.P f 0, .string (⟨#[106]⟩ : ByteArray), .slice i0 (([] : List (BitVec 8)).length) j0, .slice a0 (([] : List (List (BitVec 8))).length) b0, .I o0, .string (⟨#[]⟩ : ByteArray), .slice none (([] : List (BitVec 8)).length) 0, .bool true] 41 (0, 0)) :: diskM f M N O)) (W1 := [⟨SB, 23, .slice a0 (([] : List (List (BitVec 8))).length) b0, ([] : List (List (BitVec 8)))⟩, ⟨Sb, 5, .slice K r.length L, r⟩, ⟨stepS, 143, .slice N M.steps.length O, M.steps⟩])).pick [0, 1, 3] rfl)) ?_
  rintro _ _ (⟨rfl, s, t, Q, U, V, w2, x2, y2, z2, A2, H'⟩ | ⟨_, _, _, _, Q, U, V, rfl, B2, H'⟩)
  rotate_left
  · exact absurd (B2.arm) (by rw [K0]; nofun)
  have W := c0.chk (by omega) w2 x2 y2 (c0.cap.step A2)
  have H := H.back (M1 := ((u, .cells #[.P f 0, .string (⟨#[106]⟩ : ByteArray), .slice i0 (([] : List (BitVec 8)).length) j0, .slice a0 (([] : List (List (BitVec 8))).length) b0, .I o0, .string (⟨#[]⟩ : ByteArray), .slice none (([] : List (BitVec 8)).length) 0, .bool true] 41 (0, 0)) :: diskM f M N O)) (W1 := [⟨SB, 23, .slice a0 (([] : List (List (BitVec 8))).length) b0, ([] : List (List (BitVec 8)))⟩, ⟨Sb, 5, .slice K r.length L, r⟩, ⟨stepS, 143, .slice N M.steps.length O, M.steps⟩]) H'
  have H := H.perms (M' := ((u, .cells #[.P f 0, .string (⟨#[106]⟩ : ByteArray), .slice s r.length t, .slice none (([] : List (List (BitVec 8))).length) 0, .I (((o0 + 1) : Nat) : Int), .string (⟨#[]⟩ : ByteArray), .slice none (([] : List (BitVec 8)).length) 0, .bool true] 41 (0, 0)) :: (diskM f Q U V))) (W' := [⟨SB, 23, .slice none (([] : List (List (BitVec 8))).length) 0, ([] : List (List (BitVec 8)))⟩, ⟨Sb, 5, .slice K r.length L, r⟩, ⟨stepS, 143, .slice U Q.steps.length V, Q.steps⟩]) ((List.perm_append_comm (l₁ := ([] : Heap)) (l₂ := diskM f Q U V)).cons _) (List.Perm.refl _)
  have H : Hp w S [] _ [_, _, _] [Rp SB [.slice s r.length t] r, _, _, _, _, _] _ := H
  have L0 := z2.arm.trans K0
  refine uP 4 ?_
  have H := H.frontW 2 rfl
  have H := H.frontW 2 rfl
  have H := H.frontW 2 rfl
  have H := H.perms (M' := ((u, .cells #[.P f 0, .string (⟨#[106]⟩ : ByteArray), .slice s r.length t, .slice none (([] : List (List (BitVec 8))).length) 0, .I (((o0 + 1) : Nat) : Int), .string (⟨#[]⟩ : ByteArray), .slice none (([] : List (BitVec 8)).length) 0, .bool true] 41 (0, 0)) :: diskM f Q U V) ++ []) (W' := [⟨SB, 23, .slice none (([] : List (List (BitVec 8))).length) 0, ([] : List (List (BitVec 8)))⟩, ⟨Sb, 5, .slice K r.length L, r⟩, ⟨stepS, 143, .slice U Q.steps.length V, Q.steps⟩]) ((List.perm_append_comm (l₁ := diskM f Q U V) (l₂ := ([] : Heap))).cons _) (List.Perm.refl _)
  refine uKS (jappend_own (r := r) (n := 99400000) W.pl W.di (W.al.mono (by omega)) W.jl (Nat.lt_of_le_of_lt W.gm (by omega)) (by omega) (by have := W.sl; omega) (Nat.le_trans W.rl (by omega)) (Nat.lt_of_le_of_lt W.now (by omega)) ((H.lend (M1 := ((u, .cells #[.P f 0, .string (⟨#[106]⟩ : ByteArray), .slice s r.length t, .slice none (([] : List (List (BitVec 8))).length) 0, .I (((o0 + 1) : Nat) : Int), .string (⟨#[]⟩ : ByteArray), .slice none (([] : List (BitVec 8)).length) 0, .bool true] 41 (0, 0)) :: diskM f Q U V)) (W1 := [⟨SB, 23, .slice none (([] : List (List (BitVec 8))).length) 0, ([] : List (List (BitVec 8)))⟩, ⟨Sb, 5, .slice K r.length L, r⟩, ⟨stepS, 143, .slice U Q.steps.length V, Q.steps⟩])).pick [0, 1, 5] rfl)) ?_
  rintro _ _ (⟨rfl, E, y, j, o, A, C, Z, X, Y, C2, D2, E2, F2, G2, H2, _, H'⟩ | ⟨_, _, _, _, Z, X, Y, rfl, I2, H'⟩)
  rotate_left
  · exact absurd (I2.arm) (by rw [L0]; nofun)
  have x0 := W.app (by omega) C2 D2 E2 F2 (W.cap.step H2)
  have H := H.back (M1 := ((u, .cells #[.P f 0, .string (⟨#[106]⟩ : ByteArray), .slice s r.length t, .slice none (([] : List (List (BitVec 8))).length) 0, .I (((o0 + 1) : Nat) : Int), .string (⟨#[]⟩ : ByteArray), .slice none (([] : List (BitVec 8)).length) 0, .bool true] 41 (0, 0)) :: diskM f Q U V)) (W1 := [⟨SB, 23, .slice none (([] : List (List (BitVec 8))).length) 0, ([] : List (List (BitVec 8)))⟩, ⟨Sb, 5, .slice K r.length L, r⟩, ⟨stepS, 143, .slice U Q.steps.length V, Q.steps⟩]) H'
  have H := H.perms (M' := ((u, .cells #[.P f 0, .string (⟨#[106]⟩ : ByteArray), .slice s r.length t, .slice j ((([] : List (List (BitVec 8))) ++ [r]).length) o, .I E, .string y, .slice A ((([] : List (BitVec 8)) ++ frameF r).length) C, .bool false] 41 (0, 0)) :: (diskM f Z X Y))) (W' := [⟨SB, 23, .slice j ((([] : List (List (BitVec 8))) ++ [r]).length) o, (([] : List (List (BitVec 8))) ++ [r])⟩, ⟨Sb, 5, .slice K r.length L, r⟩, ⟨stepS, 143, .slice X Z.steps.length Y, Z.steps⟩]) ((List.perm_append_comm (l₁ := ([] : Heap)) (l₂ := diskM f Z X Y)).cons _) (List.Perm.refl _)
  have H : Hp w S [] _ [_, _, _] [_, Rp SB [.slice A ((([] : List (BitVec 8)) ++ frameF r).length) C] (([] : List (BitVec 8)) ++ frameF r), _, _, _, _, _, _] _ := H
  have g3 := G2.arm.trans L0
  refine uF 2 ?_
  refine uR 6 [.c [7, 0, 1, 0], .b 0, .c [8]] ?_
  refine uL (α := Nat × List (BitVec 8)) (g := 5) (p := [7, 0, 1, 0, 0]) (fun (i, xs) => [(0, .slice ax r.length cx), (4, .P u 0), (6, .slice K r.length L), (7, .I i)]) (fun (i, xs) w' => Hp w S [] ((u, .cells #[.P f 0, .string (⟨#[106]⟩ : ByteArray), .slice s r.length t, .slice j ((([] : List (List (BitVec 8))) ++ [r]).length) o, .I E, .string y, .slice A ((([] : List (BitVec 8)) ++ frameF r).length) C, .bool false] 41 (0, 0)) :: (diskM f Z X Y)) [⟨SB, 23, .slice j ((([] : List (List (BitVec 8))) ++ [r]).length) o, (([] : List (List (BitVec 8))) ++ [r])⟩, ⟨Sb, 5, .slice K r.length L, xs⟩, ⟨stepS, 143, .slice X Z.steps.length Y, Z.steps⟩] [Rp SB [.slice s r.length t] r, Rp SB [.slice A ((([] : List (BitVec 8)) ++ frameF r).length) C] (([] : List (BitVec 8)) ++ frameF r), Rp SB [.slice s r.length t] r, Rp SB [.slice none (([] : List (BitVec 8)).length) 0] ([] : List (BitVec 8)), Rp SB [.slice i0 (([] : List (BitVec 8)).length) j0] ([] : List (BitVec 8)), Rp SB [.slice none (([] : List (BitVec 8)).length) 0] ([] : List (BitVec 8)), Rp SB [.slice ax r.length cx] r, Fz jQ] w' ∧ i ≤ r.length ∧ xs.length = r.length) (fun (i, xs) => r.length - i) (0, r) ⟨H, Nat.zero_le _, rfl⟩ ?_
  rintro ⟨i, xs⟩ _ ⟨H, ⟨hi, hxl⟩⟩ a1
  refine uR 3 [.c [7, 0, 1, 0, 0, 0, 1], .c [7, 0, 1, 0, 0, 1], .l [7, 0, 1, 0, 0], .b 0, .c [8]] ?_
  refine qD (((i : Int) : Int) < ((r.length : Nat) : Int)) (fun c3 => ?_) (fun c3 => ?_)
  ·
   refine uR 3 [.c [7, 0, 1, 0, 0, 1, 0, 0], .b 1, .c [7, 0, 1, 0, 0, 2], .l [7, 0, 1, 0, 0], .b 0, .c [8]] ?_
   refine qG (sq 0 9) ?_
   refine uP 4 ?_
   have H := H.frontW 1 rfl
   have J2 : r.length = xs.length := hxl.symm
   have K2 : i < xs.length := by omega
   refine RW.indexW (κ := .seq) (d := some 56) (r := (sq 5 9)) (T := 23) (e := 5) (m := 1) (ik := .i64) (ix := (i : Int)) (sh := Sb) (xs := xs) (a := K) (len := r.length) (cap := L) (by as_aux_lemma => kernel_rfl) (by as_aux_lemma => kernel_rfl) rfl H i (by omega) K2 J2 ?_
   intro _ _ _ b1 L2
   obtain rfl := L2
   refine uV 5 0 b1 ?_
   refine RW.pv (κ := .seq) (d := some 58) (r := (sq 7 9)) (v := .int .u8 (IntKind.u8.wrap ((BitVec.ofInt 8 (((xs[i]).toNat : Nat) : Int) ^^^ BitVec.ofInt 8 255).toNat : Nat))) (v' := .int .u8 (((((xs[i]) ^^^ (255#8)).toNat : Nat) : Int))) (by as_aux_lemma => kernel_rfl) (bv_xor8 (bvi _) (by decide)) ?_
   have d1 : r.length = xs.length := hxl.symm
   have e1 : i < xs.length := by omega
   refine RW.indexW (κ := .seq) (d := some 59) (r := (sq 8 9)) (T := 23) (e := 5) (m := 1) (ik := .i64) (ix := (i : Int)) (sh := Sb) (xs := xs) (a := K) (len := r.length) (cap := L) (by as_aux_lemma => kernel_rfl) (by as_aux_lemma => kernel_rfl) rfl H i (by omega) e1 d1 ?_
   intro d3 _ M2 _ N2
   obtain rfl := N2
   refine RW.storeW (d := none) (r := (sq 9 9)) (e := 5) (m := 1) (b := d3) (k := i) (v := .int .u8 ((((xs[i]) ^^^ (255#8)).toNat : Nat) : Int)) (by as_aux_lemma => kernel_rfl) rfl (by as_aux_lemma => kernel_rfl) H M2 e1 d1 ((xs[i]) ^^^ (255#8)) Shape.bv_mk ?_
   intro _ H
   refine uF 0 ?_
   refine uR 1 [.c [7, 0, 1, 0, 0, 2], .l [7, 0, 1, 0, 0], .b 0, .c [8]] ?_
   refine qG (sq 0 3) ?_
   refine uP 1 ?_
   refine uI ((i : Int) + 1) ?_
   refine uF 1 ?_
   have H := H.frontW 2 rfl
   have H := H.frontW 1 rfl
   have H := H.frontW 2 rfl
   exact uB (a1 (i + 1, xs.set i ((xs[i]) ^^^ (255#8))) _ ⟨H, by omega, by simp only [List.length_set]; exact hxl⟩ (by first | omega | (simp only []; omega)))
  ·
   refine uR 2 [.c [8, 0], .c [9]] ?_
   refine qG (sq 0 6) ?_
   refine uP 1 ?_
   refine uKS (jbase_spec x0.bl ((H.lend (M1 := [(u, .cells #[.P f 0, .string (⟨#[106]⟩ : ByteArray), .slice s r.length t, .slice j ((([] : List (List (BitVec 8))) ++ [r]).length) o, .I E, .string y, .slice A ((([] : List (BitVec 8)) ++ frameF r).length) C, .bool false] 41 (0, 0))]) (W1 := [])).pick [0] rfl)) ?_
   rintro _ _ ⟨e3, k0, rfl, H'⟩
   have H := H.back (M1 := [(u, .cells #[.P f 0, .string (⟨#[106]⟩ : ByteArray), .slice s r.length t, .slice j ((([] : List (List (BitVec 8))) ++ [r]).length) o, .I E, .string y, .slice A ((([] : List (BitVec 8)) ++ frameF r).length) C, .bool false] 41 (0, 0))]) (W1 := []) H'
   have H : Hp w S [] _ [⟨Sb, 5, .slice e3 r.length k0, r⟩, _, _, _] [_, _, _, _, _, _, _, _] _ := H
   obtain ⟨F, rfl⟩ := H.ownLit (h0) rfl
   have H : Hp w S [] _ [⟨Sb, 5, .slice (some ⟨F, 0, none⟩) r.length k0, r⟩, _, _, _] [_, _, _, _, _, _, _, _] _ := H
   refine uP 1 ?_
   have H := H.frontW 1 rfl
   have H : Hp w S [] ((u, .cells #[.P f 0, .string (⟨#[106]⟩ : ByteArray), .slice s r.length t, .slice j 1 o, .I E, .string y, .slice A ((([] : List (BitVec 8)) ++ frameF r).length) C, .bool false] 41 (0, 0)) :: (diskM f Z X Y)) [⟨SB, 23, .slice j 1 o, [r]⟩, _, _, _] [_, _, _, _, _, _, _, _] _ := H
   refine uKS (jrecs_one (x := r) (by omega) ((H.lend (M1 := [(u, .cells #[.P f 0, .string (⟨#[106]⟩ : ByteArray), .slice s r.length t, .slice j 1 o, .I E, .string y, .slice A ((([] : List (BitVec 8)) ++ frameF r).length) C, .bool false] 41 (0, 0))]) (W1 := [⟨SB, 23, .slice j 1 o, [r]⟩])).pick [] rfl)) ?_
   rintro _ _ ⟨f3, d0, f1, D, rfl, H'⟩
   have H := H.back (M1 := [(u, .cells #[.P f 0, .string (⟨#[106]⟩ : ByteArray), .slice s r.length t, .slice j 1 o, .I E, .string y, .slice A ((([] : List (BitVec 8)) ++ frameF r).length) C, .bool false] 41 (0, 0))]) (W1 := [⟨SB, 23, .slice j 1 o, [r]⟩]) H'
   have H : Hp w S [] ((u, .cells #[.P f 0, .string (⟨#[106]⟩ : ByteArray), .slice s r.length t, .slice j ([r].length) o, .I E, .string y, .slice A ((([] : List (BitVec 8)) ++ frameF r).length) C, .bool false] 41 (0, 0)) :: (diskM f Z X Y)) [⟨Shape.raw, 23, .slice f3 1 d0, ([.slice f1 r.length D] : List Value)⟩, ⟨Sb, 5, .slice f1 r.length D, r⟩, ⟨SB, 23, .slice j ([r].length) o, [r]⟩, _, _, _] [_, _, _, _, _, _, _, _] _ := H
   obtain ⟨J, rfl⟩ := H.ownLit (Nat.zero_lt_one) rfl
   have H : Hp w S [] _ [⟨Shape.raw, 23, .slice (some ⟨J, 0, none⟩) 1 d0, ([.slice f1 r.length D] : List Value)⟩, _, _, _, _, _] [_, _, _, _, _, _, _, _] _ := H
   have H := H.frontW 1 rfl
   obtain ⟨z, rfl⟩ := H.ownLit (h0) rfl
   have H : Hp w S [] _ [⟨Sb, 5, .slice (some ⟨z, 0, none⟩) r.length D, r⟩, ⟨Shape.raw, 23, .slice (some ⟨J, 0, none⟩) 1 d0, ([.slice (some ⟨z, 0, none⟩) r.length D] : List Value)⟩, _, _, _, _] [_, _, _, _, _, _, _, _] _ := H
   refine qF 2 [(0, .slice ax r.length cx), (4, .P u 0), (8, .slice (some ⟨F, 0, none⟩) r.length k0), (9, .slice (some ⟨J, 0, none⟩) 1 d0)] ?_
   refine uR 2 [.c [9, 0, 0], .c [9, 0, 1], .c [10]] ?_
   refine qG (sq 0 17) ?_
   refine uP 6 ?_
   refine uK (same01N (S := fun _ => True) (xs := r) (ys := r) (H.view 3 rfl) (H.viewR 6 rfl)) ?_
   rintro _ _ O2 rfl
   have H := H.ext O2
   rw [sameB_eq (rfl)]
   refine uP 4 ?_
   have H := H.frontW 1 rfl
   have m1 : 1 = ([.slice (some ⟨z, 0, none⟩) r.length D] : List Value).length := rfl
   have n1 : 0 < ([.slice (some ⟨z, 0, none⟩) r.length D] : List Value).length := Nat.zero_lt_one
   refine RW.indexW (κ := .seq) (d := some 75) (r := (sq 12 17)) (T := 22) (e := 23) (m := 1) (ik := .i64) (ix := 0) (sh := Shape.raw) (xs := ([.slice (some ⟨z, 0, none⟩) r.length D] : List Value)) (a := (some ⟨J, 0, none⟩)) (len := 1) (cap := d0) (by as_aux_lemma => kernel_rfl) (by as_aux_lemma => kernel_rfl) rfl H 0 (by omega) n1 m1 ?_
   intro _ _ o1 B0 p1
   cases o1
   obtain ⟨rfl, -⟩ := p1
   refine uV 23 0 B0 ?_
   refine uP 1 ?_
   refine uK (same01N (S := fun _ => True) (xs := r) (ys := r) (H.view 1 rfl) (H.viewR 6 rfl)) ?_
   rintro _ _ q1 rfl
   have H := H.ext q1
   rw [sameB_eq (rfl)]
   refine uF 2 ?_
   refine uR 6 [.c [10, 0, 1, 0], .b 2, .c [11]] ?_
   refine uL (α := Nat × List (BitVec 8) × List (BitVec 8)) (g := 5) (p := [10, 0, 1, 0, 0]) (fun (i, ys, zs) => [(0, .slice ax r.length cx), (4, .P u 0), (8, .slice (some ⟨F, 0, none⟩) r.length k0), (9, .slice (some ⟨J, 0, none⟩) 1 d0), (10, .I i)]) (fun (i, ys, zs) w' => Hp w S [] ((u, .cells #[.P f 0, .string (⟨#[106]⟩ : ByteArray), .slice s r.length t, .slice j ([r].length) o, .I E, .string y, .slice A ((([] : List (BitVec 8)) ++ frameF r).length) C, .bool false] 41 (0, 0)) :: (diskM f Z X Y)) [⟨Shape.raw, 23, .slice (some ⟨J, 0, none⟩) 1 d0, ([.slice (some ⟨z, 0, none⟩) r.length D] : List Value)⟩, ⟨Sb, 5, .slice (some ⟨z, 0, none⟩) r.length D, zs⟩, ⟨SB, 23, .slice j ([r].length) o, [r]⟩, ⟨Sb, 5, .slice (some ⟨F, 0, none⟩) r.length k0, ys⟩, ⟨Sb, 5, .slice K r.length L, xs⟩, ⟨stepS, 143, .slice X Z.steps.length Y, Z.steps⟩] [Rp SB [.slice s r.length t] r, Rp SB [.slice A ((([] : List (BitVec 8)) ++ frameF r).length) C] (([] : List (BitVec 8)) ++ frameF r), Rp SB [.slice s r.length t] r, Rp SB [.slice none (([] : List (BitVec 8)).length) 0] ([] : List (BitVec 8)), Rp SB [.slice i0 (([] : List (BitVec 8)).length) j0] ([] : List (BitVec 8)), Rp SB [.slice none (([] : List (BitVec 8)).length) 0] ([] : List (BitVec 8)), Rp SB [.slice ax r.length cx] r, Fz jQ] w' ∧ i ≤ r.length ∧ ys.length = r.length ∧ zs.length = r.length) (fun (i, ys, zs) => r.length - i) (0, r, r) ⟨H, Nat.zero_le _, rfl, rfl⟩ ?_
   rintro ⟨i, ys, zs⟩ _ ⟨H, ⟨hi, hyl, hzl⟩⟩ r0
   refine uR 2 [.c [10, 0, 1, 0, 0, 0, 0], .c [10, 0, 1, 0, 0, 0, 1], .c [10, 0, 1, 0, 0, 1], .l [10, 0, 1, 0, 0], .b 2, .c [11]] ?_
   refine qG (sq 0 18) ?_
   refine uP 5 ?_
   refine uD 85 (((i : Int) : Int) < ((r.length : Nat) : Int)) (fun P2 => ?_) (fun P2 => ?_)
   ·
    refine uP 6 ?_
    refine uD 91 (((i : Int) : Int) < ((r.length : Nat) : Int)) (fun Q2 => ?_) (fun Q2 => ?_)
    ·
     refine uP 2 ?_
     have r1 : 1 = ([.slice (some ⟨z, 0, none⟩) r.length D] : List Value).length := rfl
     have s1 : 0 < ([.slice (some ⟨z, 0, none⟩) r.length D] : List Value).length := Nat.zero_lt_one
     refine RW.indexW (κ := .seq) (d := some 94) (r := (sq 14 18)) (T := 22) (e := 23) (m := 1) (ik := .i64) (ix := 0) (sh := Shape.raw) (xs := ([.slice (some ⟨z, 0, none⟩) r.length D] : List Value)) (a := (some ⟨J, 0, none⟩)) (len := 1) (cap := d0) (by as_aux_lemma => kernel_rfl) (by as_aux_lemma => kernel_rfl) rfl H 0 (by omega) s1 r1 ?_
     intro _ _ t1 C0 u1
     cases t1
     obtain ⟨rfl, -⟩ := u1
     refine uV 23 0 C0 ?_
     refine uF 3 ?_
     refine qD (((i : Int) : Int) < ((r.length : Nat) : Int)) (fun R2 => ?_) (fun R2 => ?_)
     ·
      refine uR 3 [.c [10, 0, 1, 0, 0, 1, 0, 0], .b 3, .c [10, 0, 1, 0, 0, 2], .l [10, 0, 1, 0, 0], .b 2, .c [11]] ?_
      refine WK.drawH1 [F, z] (.node (qs [0, 1, 2, 3, 4, 5, 6, 7, 8, 11, 12, 13, 14, 15]) (.cons 9 (.leaf [(10, .qui), (16, .seq), (17, .qui), (18, .qui), (19, .seq), (20, .qui), (21, .seq)]) (.cons 16 (.leaf [(17, .qui), (9, .seq), (10, .qui), (18, .qui), (19, .seq), (20, .qui), (21, .seq)]) .nil))) Tryz_mixed (by as_aux_lemma => kernel_rfl) (by as_aux_lemma => kernel_rfl) ?_
      intro S2 M0
      have H := H.draw
      rw [← M0] at H
      clear M0
      have hS := Chg.refl S2 [F, z]
      refine RG.node' (qs [0, 1, 2, 3, 4, 5, 6, 7, 8, 11, 12, 13, 14, 15]) (by as_aux_lemma => kernel_rfl) ?_
      refine uHP hS 3 ?_
      have v1 : 1 = ([.slice (some ⟨z, 0, none⟩) r.length D] : List Value).length := rfl
      have x1 : 0 < ([.slice (some ⟨z, 0, none⟩) r.length D] : List Value).length := Nat.zero_lt_one
      refine RH.indexW (d := some 104) (r := (qs [4, 5, 6, 7, 8, 11, 12, 13, 14, 15])) (T := 22) (e := 23) (m := 1) (ik := .i64) (ix := 0) (sh := Shape.raw) (xs := ([.slice (some ⟨z, 0, none⟩) r.length D] : List Value)) (a := (some ⟨J, 0, none⟩)) (len := 1) (cap := d0) (by as_aux_lemma => kernel_rfl) hS (by as_aux_lemma => kernel_rfl) rfl H 0 (by omega) x1 v1 ?_
      intro _ _ y1 s0 z1
      cases y1
      obtain ⟨rfl, -⟩ := z1
      refine RH.load (d := some 105) (r := (qs [5, 6, 7, 8, 11, 12, 13, 14, 15])) (T := 23) (b := J) (o' := 0 * 1) (k := 0) (v := .slice (some ⟨z, 0, none⟩) r.length D) (by as_aux_lemma => kernel_rfl) hS s0 (by intro hq; simp only [List.mem_cons, List.not_mem_nil, or_false] at hq; rcases hq with hq | hq; exact Hp.neWW H 0 rfl 3 rfl (by decide) hq; exact Hp.neWW H 0 rfl 1 rfl (by decide) hq) (by simp) rfl (by as_aux_lemma => kernel_rfl) ?_
      refine uHP hS 3 ?_
      have H := H.frontW 3 rfl
      have A1 : r.length = ys.length := hyl.symm
      have B1 : i < ys.length := by omega
      refine RH.indexW (d := some 109) (r := (qs [11, 12, 13, 14, 15])) (T := 23) (e := 5) (m := 1) (ik := .i64) (ix := (i : Int)) (sh := Sb) (xs := ys) (a := (some ⟨F, 0, none⟩)) (len := r.length) (cap := k0) (by as_aux_lemma => kernel_rfl) hS (by as_aux_lemma => kernel_rfl) rfl H i (by omega) B1 A1 ?_
      intro _ _ C1 t0 D1
      cases C1
      obtain rfl := D1
      refine uHP hS 1 ?_
      have H := H.frontW 1 rfl
      have E1 : 1 = ([.slice (some ⟨z, 0, none⟩) r.length D] : List Value).length := rfl
      have F1 : 0 < ([.slice (some ⟨z, 0, none⟩) r.length D] : List Value).length := Nat.zero_lt_one
      refine RH.indexW (d := some 113) (r := (qs [13, 14, 15])) (T := 22) (e := 23) (m := 1) (ik := .i64) (ix := 0) (sh := Shape.raw) (xs := ([.slice (some ⟨z, 0, none⟩) r.length D] : List Value)) (a := (some ⟨J, 0, none⟩)) (len := 1) (cap := d0) (by as_aux_lemma => kernel_rfl) hS (by as_aux_lemma => kernel_rfl) rfl H 0 (by omega) F1 E1 ?_
      intro _ _ G1 _ H1
      cases G1
      obtain ⟨rfl, -⟩ := H1
      refine RH.load (d := some 114) (r := (qs [14, 15])) (T := 23) (b := J) (o' := 0 * 1) (k := 0) (v := .slice (some ⟨z, 0, none⟩) r.length D) (by as_aux_lemma => kernel_rfl) hS s0 (by intro hq; simp only [List.mem_cons, List.not_mem_nil, or_false] at hq; rcases hq with hq | hq; exact Hp.neWW H 0 rfl 1 rfl (by decide) hq; exact Hp.neWW H 0 rfl 2 rfl (by decide) hq) (by simp) rfl (by as_aux_lemma => kernel_rfl) ?_
      refine uHP hS 1 ?_
      have H := H.frontW 2 rfl
      have I1 : r.length = zs.length := hzl.symm
      have J1 : i < zs.length := by omega
      refine RH.indexW (d := some 116) (r := []) (T := 23) (e := 5) (m := 1) (ik := .i64) (ix := (i : Int)) (sh := Sb) (xs := zs) (a := (some ⟨z, 0, none⟩)) (len := r.length) (cap := D) (by as_aux_lemma => kernel_rfl) hS (by as_aux_lemma => kernel_rfl) rfl H i (by omega) J1 I1 ?_
      intro _ _ K1 u0 L1
      cases K1
      obtain rfl := L1
      refine uHB hS 0 ?_
      refine (RGB.cons' ?_ (RGB.cons' ?_ RGB.nil'))
      ·
       refine RG.leaf' [(9, .seq), (10, .qui), (16, .seq), (17, .qui), (18, .qui), (19, .seq), (20, .qui), (21, .seq)] (by as_aux_lemma => kernel_rfl) ?_
       have Hr := H
       refine RH.chn hS ?_
       refine uV 5 0 t0 ?_
       intro hS
       refine RH.pv (d := some 111) (r := [(16, .seq), (17, .qui), (18, .qui), (19, .seq), (20, .qui), (21, .seq)]) (v := .int .u8 (IntKind.u8.wrap ((BitVec.ofInt 8 (((ys[i]).toNat : Nat) : Int) ^^^ BitVec.ofInt 8 255).toNat : Nat))) (v' := .int .u8 (((((ys[i]) ^^^ (255#8)).toNat : Nat) : Int))) (by as_aux_lemma => kernel_rfl) hS (bv_xor8 (bvi _) (by decide)) ?_
       have Hr := H
       refine RH.chn hS ?_
       refine uV 5 0 u0 ?_
       intro hS
       refine RH.pv (d := some 118) (r := [(18, .qui), (19, .seq), (20, .qui), (21, .seq)]) (v := .int .u8 (IntKind.u8.wrap ((BitVec.ofInt 8 (((zs[i]).toNat : Nat) : Int) ^^^ BitVec.ofInt 8 255).toNat : Nat))) (v' := .int .u8 (((((zs[i]) ^^^ (255#8)).toNat : Nat) : Int))) (by as_aux_lemma => kernel_rfl) hS (bv_xor8 (bvi _) (by decide)) ?_
       have H := H.frontW 2 rfl
       have N0 : r.length = ys.length := hyl.symm
       have O0 : i < ys.length := by omega
       refine RH.indexW (d := some 119) (r := [(19, .seq), (20, .qui), (21, .seq)]) (T := 23) (e := 5) (m := 1) (ik := .i64) (ix := (i : Int)) (sh := Sb) (xs := ys) (a := (some ⟨F, 0, none⟩)) (len := r.length) (cap := k0) (by as_aux_lemma => kernel_rfl) hS (by as_aux_lemma => kernel_rfl) rfl H i (by omega) O0 N0 ?_
       intro _ _ N1 _ O1
       cases N1
       obtain rfl := O1
       have Hr := H
       refine RH.sto ?_
       refine RW.storeWC (d := none) (r := []) (e := 5) (m := 1) (b := F) (k := i) (v := .int .u8 ((((ys[i]) ^^^ (255#8)).toNat : Nat) : Int)) (by as_aux_lemma => kernel_rfl) rfl (by as_aux_lemma => kernel_rfl) H rfl O0 N0 ((ys[i]) ^^^ (255#8)) Shape.bv_mk ?_
       intro _ g1 H
       have P0 := hS.sto g1 (.inr (by simp))
       refine ⟨P0, ?_⟩
       have hS := P0
       have H := H.frontW 1 rfl
       have Q0 : r.length = zs.length := hzl.symm
       have R0 : i < zs.length := by omega
       refine RH.indexW (d := some 120) (r := [(21, .seq)]) (T := 23) (e := 5) (m := 1) (ik := .i64) (ix := (i : Int)) (sh := Sb) (xs := zs) (a := (some ⟨z, 0, none⟩)) (len := r.length) (cap := D) (by as_aux_lemma => kernel_rfl) hS (by as_aux_lemma => kernel_rfl) rfl H i (by omega) R0 Q0 ?_
       intro _ _ P1 _ Q1
       cases P1
       obtain rfl := Q1
       refine RH.sto ?_
       refine RW.storeWC (d := none) (r := []) (e := 5) (m := 1) (b := z) (k := i) (v := .int .u8 ((((zs[i]) ^^^ (255#8)).toNat : Nat) : Int)) (by as_aux_lemma => kernel_rfl) rfl (by as_aux_lemma => kernel_rfl) H rfl R0 Q0 ((zs[i]) ^^^ (255#8)) Shape.bv_mk ?_
       intro _ h1 H
       have S0 := hS.sto h1 (.inr (by simp))
       refine ⟨S0, ?_⟩
       have hS := S0
       refine uHF hS 0 ?_
       refine qR 1 [.c [10, 0, 1, 0, 0, 2], .l [10, 0, 1, 0, 0], .b 2, .c [11]] [(0, .slice ax r.length cx), (4, .P u 0), (8, .slice (some ⟨F, 0, none⟩) r.length k0), (9, .slice (some ⟨J, 0, none⟩) 1 d0), (10, .I i)] ?_
       refine qG (sq 0 3) ?_
       refine uP 1 ?_
       refine uI ((i : Int) + 1) ?_
       refine uF 1 ?_
       have H := H.frontW 5 rfl
       have H := H.frontW 5 rfl
       have H := H.frontW 3 rfl
       have H := H.frontW 5 rfl
       have H := H.frontW 4 rfl
       have H := H.frontW 5 rfl
       exact uB (r0 (i + 1, ys.set i ((ys[i]) ^^^ (255#8)), zs.set i ((zs[i]) ^^^ (255#8))) _ ⟨H, by omega, by simp only [List.length_set]; exact hyl, by simp only [List.length_set]; exact hzl⟩ (by first | omega | (simp only []; omega)))
      ·
       refine RG.leaf' [(16, .seq), (17, .qui), (9, .seq), (10, .qui), (18, .qui), (19, .seq), (20, .qui), (21, .seq)] (by as_aux_lemma => kernel_rfl) ?_
       have Hr := H
       refine RH.chn hS ?_
       refine uV 5 0 u0 ?_
       intro hS
       refine RH.pv (d := some 118) (r := [(9, .seq), (10, .qui), (18, .qui), (19, .seq), (20, .qui), (21, .seq)]) (v := .int .u8 (IntKind.u8.wrap ((BitVec.ofInt 8 (((zs[i]).toNat : Nat) : Int) ^^^ BitVec.ofInt 8 255).toNat : Nat))) (v' := .int .u8 (((((zs[i]) ^^^ (255#8)).toNat : Nat) : Int))) (by as_aux_lemma => kernel_rfl) hS (bv_xor8 (bvi _) (by decide)) ?_
       have Hr := H
       refine RH.chn hS ?_
       refine uV 5 0 t0 ?_
       intro hS
       refine RH.pv (d := some 111) (r := [(18, .qui), (19, .seq), (20, .qui), (21, .seq)]) (v := .int .u8 (IntKind.u8.wrap ((BitVec.ofInt 8 (((ys[i]).toNat : Nat) : Int) ^^^ BitVec.ofInt 8 255).toNat : Nat))) (v' := .int .u8 (((((ys[i]) ^^^ (255#8)).toNat : Nat) : Int))) (by as_aux_lemma => kernel_rfl) hS (bv_xor8 (bvi _) (by decide)) ?_
       have H := H.frontW 2 rfl
       have T0 : r.length = ys.length := hyl.symm
       have U0 : i < ys.length := by omega
       refine RH.indexW (d := some 119) (r := [(19, .seq), (20, .qui), (21, .seq)]) (T := 23) (e := 5) (m := 1) (ik := .i64) (ix := (i : Int)) (sh := Sb) (xs := ys) (a := (some ⟨F, 0, none⟩)) (len := r.length) (cap := k0) (by as_aux_lemma => kernel_rfl) hS (by as_aux_lemma => kernel_rfl) rfl H i (by omega) U0 T0 ?_
       intro _ _ R1 _ S1
       cases R1
       obtain rfl := S1
       have Hr := H
       refine RH.sto ?_
       refine RW.storeWC (d := none) (r := []) (e := 5) (m := 1) (b := F) (k := i) (v := .int .u8 ((((ys[i]) ^^^ (255#8)).toNat : Nat) : Int)) (by as_aux_lemma => kernel_rfl) rfl (by as_aux_lemma => kernel_rfl) H rfl U0 T0 ((ys[i]) ^^^ (255#8)) Shape.bv_mk ?_
       intro _ i1 H
       have V0 := hS.sto i1 (.inr (by simp))
       refine ⟨V0, ?_⟩
       have hS := V0
       have H := H.frontW 1 rfl
       have W0 : r.length = zs.length := hzl.symm
       have X0 : i < zs.length := by omega
       refine RH.indexW (d := some 120) (r := [(21, .seq)]) (T := 23) (e := 5) (m := 1) (ik := .i64) (ix := (i : Int)) (sh := Sb) (xs := zs) (a := (some ⟨z, 0, none⟩)) (len := r.length) (cap := D) (by as_aux_lemma => kernel_rfl) hS (by as_aux_lemma => kernel_rfl) rfl H i (by omega) X0 W0 ?_
       intro _ _ T1 _ U1
       cases T1
       obtain rfl := U1
       refine RH.sto ?_
       refine RW.storeWC (d := none) (r := []) (e := 5) (m := 1) (b := z) (k := i) (v := .int .u8 ((((zs[i]) ^^^ (255#8)).toNat : Nat) : Int)) (by as_aux_lemma => kernel_rfl) rfl (by as_aux_lemma => kernel_rfl) H rfl X0 W0 ((zs[i]) ^^^ (255#8)) Shape.bv_mk ?_
       intro _ j1 H
       have Y0 := hS.sto j1 (.inr (by simp))
       refine ⟨Y0, ?_⟩
       have hS := Y0
       refine uHF hS 0 ?_
       refine uR 1 [.c [10, 0, 1, 0, 0, 2], .l [10, 0, 1, 0, 0], .b 2, .c [11]] ?_
       refine qG (sq 0 3) ?_
       refine uP 1 ?_
       refine uI ((i : Int) + 1) ?_
       refine uF 1 ?_
       have H := H.frontW 5 rfl
       have H := H.frontW 5 rfl
       have H := H.frontW 3 rfl
       have H := H.frontW 5 rfl
       have H := H.frontW 4 rfl
       have H := H.frontW 5 rfl
       exact uB (r0 (i + 1, ys.set i ((ys[i]) ^^^ (255#8)), zs.set i ((zs[i]) ^^^ (255#8))) _ ⟨H, by omega, by simp only [List.length_set]; exact hyl, by simp only [List.length_set]; exact hzl⟩ (by first | omega | (simp only []; omega)))
     ·
      refine qR 2 [.c [11, 0], .c [12]] [(0, .slice ax r.length cx), (4, .P u 0)] ?_
      refine qG (sq 0 6) ?_
      refine uP 1 ?_
      refine uKS (jbase_spec x0.bl ((H.lend (M1 := [(u, .cells #[.P f 0, .string (⟨#[106]⟩ : ByteArray), .slice s r.length t, .slice j ([r].length) o, .I E, .string y, .slice A ((([] : List (BitVec 8)) ++ frameF r).length) C, .bool false] 41 (0, 0))]) (W1 := [])).pick [0] rfl)) ?_
      rintro _ _ ⟨T2, k1, rfl, H'⟩
      have H := H.back (M1 := [(u, .cells #[.P f 0, .string (⟨#[106]⟩ : ByteArray), .slice s r.length t, .slice j ([r].length) o, .I E, .string y, .slice A ((([] : List (BitVec 8)) ++ frameF r).length) C, .bool false] 41 (0, 0))]) (W1 := []) H'
      have H : Hp w S [] _ [⟨Sb, 5, .slice T2 r.length k1, r⟩, _, _, _, _, _, _] [_, _, _, _, _, _, _, _] _ := H
      obtain ⟨V1, rfl⟩ := H.ownLit (h0) rfl
      have H : Hp w S [] _ [⟨Sb, 5, .slice (some ⟨V1, 0, none⟩) r.length k1, r⟩, _, _, _, _, _, _] [_, _, _, _, _, _, _, _] _ := H
      refine uP 1 ?_
      have H := H.frontW 3 rfl
      have H : Hp w S [] _ [_, _, _, _, _, _, _] [_, _, _, _, _, _, _, _] _ := H
      refine uKS (jrecs_one (x := r) (by omega) ((H.lend (M1 := [(u, .cells #[.P f 0, .string (⟨#[106]⟩ : ByteArray), .slice s r.length t, .slice j 1 o, .I E, .string y, .slice A ((([] : List (BitVec 8)) ++ frameF r).length) C, .bool false] 41 (0, 0))]) (W1 := [⟨SB, 23, .slice j 1 o, [r]⟩])).pick [] rfl)) ?_
      rintro _ _ ⟨U2, y0, D0, e0, rfl, H'⟩
      have H := H.back (M1 := [(u, .cells #[.P f 0, .string (⟨#[106]⟩ : ByteArray), .slice s r.length t, .slice j 1 o, .I E, .string y, .slice A ((([] : List (BitVec 8)) ++ frameF r).length) C, .bool false] 41 (0, 0))]) (W1 := [⟨SB, 23, .slice j 1 o, [r]⟩]) H'
      have H : Hp w S [] _ [⟨Shape.raw, 23, .slice U2 1 y0, ([.slice D0 r.length e0] : List Value)⟩, ⟨Sb, 5, .slice D0 r.length e0, r⟩, _, _, _, _, _, _, _] [_, _, _, _, _, _, _, _] _ := H
      obtain ⟨z0, rfl⟩ := H.ownLit (Nat.zero_lt_one) rfl
      have H : Hp w S [] _ [⟨Shape.raw, 23, .slice (some ⟨z0, 0, none⟩) 1 y0, ([.slice D0 r.length e0] : List Value)⟩, _, _, _, _, _, _, _, _] [_, _, _, _, _, _, _, _] _ := H
      have H := H.frontW 1 rfl
      obtain ⟨l0, rfl⟩ := H.ownLit (h0) rfl
      have H : Hp w S [] _ [⟨Sb, 5, .slice (some ⟨l0, 0, none⟩) r.length e0, r⟩, ⟨Shape.raw, 23, .slice (some ⟨z0, 0, none⟩) 1 y0, ([.slice (some ⟨l0, 0, none⟩) r.length e0] : List Value)⟩, _, _, _, _, _, _, _] [_, _, _, _, _, _, _, _] _ := H
      refine uF 2 ?_
      refine uR 1 [.c [12, 0], .c [13]] ?_
      refine qG (sq 0 19) ?_
      refine uP 6 ?_
      refine uK (same01N (S := fun _ => True) (xs := r) (ys := r) (H.view 3 rfl) (H.viewR 6 rfl)) ?_
      rintro _ _ X1 rfl
      have H := H.ext X1
      rw [sameB_eq (rfl)]
      refine uP 3 ?_
      have H := H.frontW 1 rfl
      have Y1 : 1 = ([.slice (some ⟨l0, 0, none⟩) r.length e0] : List Value).length := rfl
      have Z1 : 0 < ([.slice (some ⟨l0, 0, none⟩) r.length e0] : List Value).length := Nat.zero_lt_one
      refine RW.indexW (κ := .seq) (d := some 135) (r := (sq 11 19)) (T := 22) (e := 23) (m := 1) (ik := .i64) (ix := 0) (sh := Shape.raw) (xs := ([.slice (some ⟨l0, 0, none⟩) r.length e0] : List Value)) (a := (some ⟨z0, 0, none⟩)) (len := 1) (cap := y0) (by as_aux_lemma => kernel_rfl) (by as_aux_lemma => kernel_rfl) rfl H 0 (by omega) Z1 Y1 ?_
      intro _ _ a2 E0 b2
      cases a2
      obtain ⟨rfl, -⟩ := b2
      refine uV 23 0 E0 ?_
      refine uP 1 ?_
      refine uK (same01N (S := fun _ => True) (xs := r) (ys := r) (H.view 1 rfl) (H.viewR 6 rfl)) ?_
      rintro _ _ c2 rfl
      have H := H.ext c2
      rw [sameB_eq (rfl)]
      refine uP 2 ?_
      refine uK (heads_spec (S := fun _ => True) (H.viewF 7 rfl)) ?_
      rintro _ _ d2 rfl
      have H := H.ext d2
      refine uF 2 ?_
      refine qT (.bool true) Tryz.func5 ?_
      exact ⟨_, rfl, H.done, rfl⟩
    ·
     refine uF 7 ?_
     refine uR 3 [.c [11, 0], .c [12]] ?_
     refine qG (sq 0 6) ?_
     refine uP 1 ?_
     refine uKS (jbase_spec x0.bl ((H.lend (M1 := [(u, .cells #[.P f 0, .string (⟨#[106]⟩ : ByteArray), .slice s r.length t, .slice j ([r].length) o, .I E, .string y, .slice A ((([] : List (BitVec 8)) ++ frameF r).length) C, .bool false] 41 (0, 0))]) (W1 := [])).pick [0] rfl)) ?_
     rintro _ _ ⟨V2, F0, rfl, H'⟩
     have H := H.back (M1 := [(u, .cells #[.P f 0, .string (⟨#[106]⟩ : ByteArray), .slice s r.length t, .slice j ([r].length) o, .I E, .string y, .slice A ((([] : List (BitVec 8)) ++ frameF r).length) C, .bool false] 41 (0, 0))]) (W1 := []) H'
     have H : Hp w S [] _ [⟨Sb, 5, .slice V2 r.length F0, r⟩, _, _, _, _, _, _] [_, _, _, _, _, _, _, _] _ := H
     obtain ⟨Z0, rfl⟩ := H.ownLit (h0) rfl
     have H : Hp w S [] _ [⟨Sb, 5, .slice (some ⟨Z0, 0, none⟩) r.length F0, r⟩, _, _, _, _, _, _] [_, _, _, _, _, _, _, _] _ := H
     refine uP 1 ?_
     have H := H.frontW 3 rfl
     have H : Hp w S [] _ [_, _, _, _, _, _, _] [_, _, _, _, _, _, _, _] _ := H
     refine uKS (jrecs_one (x := r) (by omega) ((H.lend (M1 := [(u, .cells #[.P f 0, .string (⟨#[106]⟩ : ByteArray), .slice s r.length t, .slice j 1 o, .I E, .string y, .slice A ((([] : List (BitVec 8)) ++ frameF r).length) C, .bool false] 41 (0, 0))]) (W1 := [⟨SB, 23, .slice j 1 o, [r]⟩])).pick [] rfl)) ?_
     rintro _ _ ⟨W2, v0, G0, f0, rfl, H'⟩
     have H := H.back (M1 := [(u, .cells #[.P f 0, .string (⟨#[106]⟩ : ByteArray), .slice s r.length t, .slice j 1 o, .I E, .string y, .slice A ((([] : List (BitVec 8)) ++ frameF r).length) C, .bool false] 41 (0, 0))]) (W1 := [⟨SB, 23, .slice j 1 o, [r]⟩]) H'
     have H : Hp w S [] _ [⟨Shape.raw, 23, .slice W2 1 v0, ([.slice G0 r.length f0] : List Value)⟩, ⟨Sb, 5, .slice G0 r.length f0, r⟩, _, _, _, _, _, _, _] [_, _, _, _, _, _, _, _] _ := H
     obtain ⟨p0, rfl⟩ := H.ownLit (Nat.zero_lt_one) rfl
     have H : Hp w S [] _ [⟨Shape.raw, 23, .slice (some ⟨p0, 0, none⟩) 1 v0, ([.slice G0 r.length f0] : List Value)⟩, _, _, _, _, _, _, _, _] [_, _, _, _, _, _, _, _] _ := H
     have H := H.frontW 1 rfl
     obtain ⟨m0, rfl⟩ := H.ownLit (h0) rfl
     have H : Hp w S [] _ [⟨Sb, 5, .slice (some ⟨m0, 0, none⟩) r.length f0, r⟩, ⟨Shape.raw, 23, .slice (some ⟨p0, 0, none⟩) 1 v0, ([.slice (some ⟨m0, 0, none⟩) r.length f0] : List Value)⟩, _, _, _, _, _, _, _] [_, _, _, _, _, _, _, _] _ := H
     refine uF 2 ?_
     refine qR 1 [.c [12, 0], .c [13]] [(0, .slice ax r.length cx), (11, .slice (some ⟨Z0, 0, none⟩) r.length F0), (12, .slice (some ⟨p0, 0, none⟩) 1 v0)] ?_
     refine qG (sq 0 19) ?_
     refine uP 6 ?_
     refine uK (same01N (S := fun _ => True) (xs := r) (ys := r) (H.view 3 rfl) (H.viewR 6 rfl)) ?_
     rintro _ _ e2 rfl
     have H := H.ext e2
     rw [sameB_eq (rfl)]
     refine uP 3 ?_
     have H := H.frontW 1 rfl
     have f2 : 1 = ([.slice (some ⟨m0, 0, none⟩) r.length f0] : List Value).length := rfl
     have g2 : 0 < ([.slice (some ⟨m0, 0, none⟩) r.length f0] : List Value).length := Nat.zero_lt_one
     refine RW.indexW (κ := .seq) (d := some 135) (r := (sq 11 19)) (T := 22) (e := 23) (m := 1) (ik := .i64) (ix := 0) (sh := Shape.raw) (xs := ([.slice (some ⟨m0, 0, none⟩) r.length f0] : List Value)) (a := (some ⟨p0, 0, none⟩)) (len := 1) (cap := v0) (by as_aux_lemma => kernel_rfl) (by as_aux_lemma => kernel_rfl) rfl H 0 (by omega) g2 f2 ?_
     intro _ _ h2 H0 i2
     cases h2
     obtain ⟨rfl, -⟩ := i2
     refine uV 23 0 H0 ?_
     refine uP 1 ?_
     refine uK (same01N (S := fun _ => True) (xs := r) (ys := r) (H.view 1 rfl) (H.viewR 6 rfl)) ?_
     rintro _ _ j2 rfl
     have H := H.ext j2
     rw [sameB_eq (rfl)]
     refine uP 2 ?_
     refine uK (heads_spec (S := fun _ => True) (H.viewF 7 rfl)) ?_
     rintro _ _ k2 rfl
     have H := H.ext k2
     refine uF 2 ?_
     refine qT (.bool true) Tryz.func5 ?_
     exact ⟨_, rfl, H.done, rfl⟩
   ·
    refine uF 13 ?_
    refine uR 3 [.c [11, 0], .c [12]] ?_
    refine qG (sq 0 6) ?_
    refine uP 1 ?_
    refine uKS (jbase_spec x0.bl ((H.lend (M1 := [(u, .cells #[.P f 0, .string (⟨#[106]⟩ : ByteArray), .slice s r.length t, .slice j ([r].length) o, .I E, .string y, .slice A ((([] : List (BitVec 8)) ++ frameF r).length) C, .bool false] 41 (0, 0))]) (W1 := [])).pick [0] rfl)) ?_
    rintro _ _ ⟨X2, l1, rfl, H'⟩
    have H := H.back (M1 := [(u, .cells #[.P f 0, .string (⟨#[106]⟩ : ByteArray), .slice s r.length t, .slice j ([r].length) o, .I E, .string y, .slice A ((([] : List (BitVec 8)) ++ frameF r).length) C, .bool false] 41 (0, 0))]) (W1 := []) H'
    have H : Hp w S [] _ [⟨Sb, 5, .slice X2 r.length l1, r⟩, _, _, _, _, _, _] [_, _, _, _, _, _, _, _] _ := H
    obtain ⟨l2, rfl⟩ := H.ownLit (h0) rfl
    have H : Hp w S [] _ [⟨Sb, 5, .slice (some ⟨l2, 0, none⟩) r.length l1, r⟩, _, _, _, _, _, _] [_, _, _, _, _, _, _, _] _ := H
    refine uP 1 ?_
    have H := H.frontW 3 rfl
    have H : Hp w S [] _ [_, _, _, _, _, _, _] [_, _, _, _, _, _, _, _] _ := H
    refine uKS (jrecs_one (x := r) (by omega) ((H.lend (M1 := [(u, .cells #[.P f 0, .string (⟨#[106]⟩ : ByteArray), .slice s r.length t, .slice j 1 o, .I E, .string y, .slice A ((([] : List (BitVec 8)) ++ frameF r).length) C, .bool false] 41 (0, 0))]) (W1 := [⟨SB, 23, .slice j 1 o, [r]⟩])).pick [] rfl)) ?_
    rintro _ _ ⟨Y2, w0, I0, g0, rfl, H'⟩
    have H := H.back (M1 := [(u, .cells #[.P f 0, .string (⟨#[106]⟩ : ByteArray), .slice s r.length t, .slice j 1 o, .I E, .string y, .slice A ((([] : List (BitVec 8)) ++ frameF r).length) C, .bool false] 41 (0, 0))]) (W1 := [⟨SB, 23, .slice j 1 o, [r]⟩]) H'
    have H : Hp w S [] _ [⟨Shape.raw, 23, .slice Y2 1 w0, ([.slice I0 r.length g0] : List Value)⟩, ⟨Sb, 5, .slice I0 r.length g0, r⟩, _, _, _, _, _, _, _] [_, _, _, _, _, _, _, _] _ := H
    obtain ⟨q0, rfl⟩ := H.ownLit (Nat.zero_lt_one) rfl
    have H : Hp w S [] _ [⟨Shape.raw, 23, .slice (some ⟨q0, 0, none⟩) 1 w0, ([.slice I0 r.length g0] : List Value)⟩, _, _, _, _, _, _, _, _] [_, _, _, _, _, _, _, _] _ := H
    have H := H.frontW 1 rfl
    obtain ⟨n0, rfl⟩ := H.ownLit (h0) rfl
    have H : Hp w S [] _ [⟨Sb, 5, .slice (some ⟨n0, 0, none⟩) r.length g0, r⟩, ⟨Shape.raw, 23, .slice (some ⟨q0, 0, none⟩) 1 w0, ([.slice (some ⟨n0, 0, none⟩) r.length g0] : List Value)⟩, _, _, _, _, _, _, _] [_, _, _, _, _, _, _, _] _ := H
    refine uF 2 ?_
    refine uR 1 [.c [12, 0], .c [13]] ?_
    refine qG (sq 0 19) ?_
    refine uP 6 ?_
    refine uK (same01N (S := fun _ => True) (xs := r) (ys := r) (H.view 3 rfl) (H.viewR 6 rfl)) ?_
    rintro _ _ m2 rfl
    have H := H.ext m2
    rw [sameB_eq (rfl)]
    refine qP 3 (sq 10 19) [(0, .slice ax r.length cx), (133, .bool true), (134, .slice (some ⟨q0, 0, none⟩) 1 w0)] ?_
    have H := H.frontW 1 rfl
    have n2 : 1 = ([.slice (some ⟨n0, 0, none⟩) r.length g0] : List Value).length := rfl
    have o2 : 0 < ([.slice (some ⟨n0, 0, none⟩) r.length g0] : List Value).length := Nat.zero_lt_one
    refine RW.indexW (κ := .seq) (d := some 135) (r := (sq 11 19)) (T := 22) (e := 23) (m := 1) (ik := .i64) (ix := 0) (sh := Shape.raw) (xs := ([.slice (some ⟨n0, 0, none⟩) r.length g0] : List Value)) (a := (some ⟨q0, 0, none⟩)) (len := 1) (cap := w0) (by as_aux_lemma => kernel_rfl) (by as_aux_lemma => kernel_rfl) rfl H 0 (by omega) o2 n2 ?_
    intro _ _ p2 J0 q2
    cases p2
    obtain ⟨rfl, -⟩ := q2
    refine uV 23 0 J0 ?_
    refine uP 1 ?_
    refine uK (same01N (S := fun _ => True) (xs := r) (ys := r) (H.view 1 rfl) (H.viewR 6 rfl)) ?_
    rintro _ _ r2 rfl
    have H := H.ext r2
    rw [sameB_eq (rfl)]
    refine uP 2 ?_
    refine uK (heads_spec (S := fun _ => True) (H.viewF 7 rfl)) ?_
    rintro _ _ s2 rfl
    have H := H.ext s2
    refine uF 2 ?_
    refine qT (.bool true) Tryz.func5 ?_
    exact ⟨_, rfl, H.done, rfl⟩
set_option maxHeartbeats 4000000 in
theorem own_nil {S : Nat → Prop} {w : World} {r : List (BitVec 8)} {ax : Option Addr} {cx : Nat} (h0 : r.length = 0) (hr : (Rp SB [.slice ax r.length cx] r).p S w) (hq : (Fz jQ).p S w) :
 Calls Tryz.prog 5 #[.slice ax r.length cx] w (Ret fun v w' => Ext w w' ∧ v = .bool true) := by
 have hal := Shape.slice_len hr
 have hl : r.length ≤ 20000 := by omega
 refine uS1 Tryz.func5 ?_
 have H := Hp.startF (w := w) (S := S) (G := [Rp SB [.slice ax r.length cx] r, Fz jQ]) (.rp hr (.cons hq .nil))
 refine uR 3 [.c [1, 0], .c [2]] ?_
 refine qG (sq 0 2) ?_
 refine uK (new_spec (S := Av S w [] (idsOf [] []))) ?_
 rintro _ _ - ⟨f, V, W, rfl, H'⟩
 have H := H.back (M1 := []) (W1 := []) H'
 have H := H.perms (M' := ((diskM f (newD V W) none 0))) (W' := [⟨stepS, 143, .slice none ((newD V W).steps.length) 0, (newD V W).steps⟩]) ((List.perm_append_comm (l₁ := diskM f (newD V W) none 0) (l₂ := ([] : Heap))).symm) (List.Perm.refl _)
 have H : Hp w S [] _ [_] [_, _] _ := H
 have E1 : DOk (newD V W) := newD_ok V W
 refine uF 1 ?_
 refine uR 3 [.c [2, 0, 1], .c [3]] ?_
 refine qD ((((r.length : Nat) : Int) : Int) > 20000) (fun h5 => ?_) (fun h5 => ?_)
 ·
  omega
 ·
  refine uR 2 [.c [3, 0], .c [4]] ?_
  refine qG (sq 0 7) ?_
  refine uP 1 ?_
  have p0 := newD_CW V W ⟨#[106]⟩
  have F0 : (newD V W).armed = false := rfl
  have H := H.perms (M' := diskM f (newD V W) none 0 ++ []) (W' := [⟨stepS, 143, .slice none ((newD V W).steps.length) 0, (newD V W).steps⟩]) (List.perm_append_comm (l₁ := diskM f (newD V W) none 0) (l₂ := ([] : Heap))) (List.Perm.refl _)
  refine uKS (jopen_law (n := 100000000) (m := 0) (q := 0) (c := 0) plainJ p0.di (p0.al.mono (by omega)) (newD_op V W _) p0.cap (by omega) (fun B R h => CW.hb0 h) ((H.lend (M1 := diskM f (newD V W) none 0) (W1 := [⟨stepS, 143, .slice none ((newD V W).steps.length) 0, (newD V W).steps⟩])).pick [1] rfl)) ?_
  rintro _ _ (⟨u, _, _, e0, c0, d0, X, Y, C, D, E, rfl, d1, Z, e1, H'⟩ | ⟨C, D, E, rfl, _, f1, H'⟩)
  rotate_left
  · exact absurd (f1) (by rw [F0]; nofun)
  obtain ⟨F1, G1⟩ := d1
  subst F1
  subst G1
  have H := H.back (M1 := diskM f (newD V W) none 0) (W1 := [⟨stepS, 143, .slice none ((newD V W).steps.length) 0, (newD V W).steps⟩]) H'
  have H := H.perms (M' := ((u, .cells #[.P f 0, .string (⟨#[106]⟩ : ByteArray), .slice c0 (([] : List (BitVec 8)).length) d0, .slice X (([] : List (List (BitVec 8))).length) Y, .I e0, .string (⟨#[]⟩ : ByteArray), .slice none (([] : List (BitVec 8)).length) 0, .bool true] 41 (0, 0)) :: (diskM f C D E))) (W' := [⟨SB, 23, .slice X (([] : List (List (BitVec 8))).length) Y, ([] : List (List (BitVec 8)))⟩, ⟨stepS, 143, .slice D C.steps.length E, C.steps⟩]) ((List.perm_append_comm (l₁ := ([] : Heap)) (l₂ := diskM f C D E)).cons _) (List.Perm.refl _)
  have H : Hp w S [] _ [_, _] [Rp SB [.slice c0 (([] : List (BitVec 8)).length) d0] ([] : List (BitVec 8)), Rp SB [.slice none (([] : List (BitVec 8)).length) 0] ([] : List (BitVec 8)), _, _] _ := H
  have A0 := e1.arm.trans F0
  refine uF 5 ?_
  refine uR 6 [.c [5, 0], .c [6]] ?_
  refine qG (sq 0 3) ?_
  refine uP 1 ?_
  refine uK (copy_own (xs := r) (H.rp 2 rfl) (by omega)) ?_
  rintro _ _ - ⟨L, M, rfl, H'⟩
  have H := H.back (M1 := []) (W1 := []) H'
  have H : Hp w S [] _ [⟨Sb, 5, .slice L r.length M, r⟩, _, _] [_, _, _, _] _ := H
  refine uF 1 ?_
  refine uR 2 [.c [6, 0, 0], .c [6, 0, 1], .c [7]] ?_
  refine qG (sq 0 10) ?_
  refine qP 2 (sq 2 10) [(0, .slice ax r.length cx), (4, .P u 0), (6, .slice L r.length M), (36, .P u 0), (37, .slice L r.length M)] ?_
  have H := H.frontW 2 rfl
  have H := H.frontW 1 rfl
  have H := H.frontW 2 rfl
  have H := H.perms (M' := ((u, .cells #[.P f 0, .string (⟨#[106]⟩ : ByteArray), .slice c0 (([] : List (BitVec 8)).length) d0, .slice X (([] : List (List (BitVec 8))).length) Y, .I e0, .string (⟨#[]⟩ : ByteArray), .slice none (([] : List (BitVec 8)).length) 0, .bool true] 41 (0, 0)) :: diskM f C D E) ++ []) (W' := [⟨SB, 23, .slice X (([] : List (List (BitVec 8))).length) Y, ([] : List (List (BitVec 8)))⟩, ⟨Sb, 5, .slice L r.length M, r⟩, ⟨stepS, 143, .slice D C.steps.length E, C.steps⟩]) ((List.perm_append_comm (l₁ := diskM f C D E) (l₂ := ([] : Heap))).cons _) (List.Perm.refl _)
  refine uKS (jcheck_own (b := r) (n := 99700000) Z.pl Z.di (Z.al.mono (by omega)) Z.jl (Nat.lt_of_le_of_lt Z.gm (by omega)) (by omega) (Nat.lt_of_le_of_lt Z.now (by omega)) ((H.lend (M1 := ((u, .cells #[.P f 0, .string (⟨#[106]⟩ : ByteArray), .slice c0 (([] : List (BitVec 8)).length) d0, .slice X (([] : List (List (BitVec 8))).length) Y, .I e0, .string (⟨#[]⟩ : ByteArray), .slice none (([] : List (BitVec 8)).length) 0, .bool true] 41 (0, 0)) :: diskM f C D E)) (W1 := [⟨SB, 23, .slice X (([] : List (List (BitVec 8))).length) Y, ([] : List (List (BitVec 8)))⟩, ⟨Sb, 5, .slice L r.length M, r⟩, ⟨stepS, 143, .slice D C.steps.length E, C.steps⟩])).pick [0, 1, 3] rfl)) ?_
  rintro _ _ (⟨rfl, o, s, F, J, K, g1, h1, i1, j1, k1, H'⟩ | ⟨_, _, _, _, F, J, K, rfl, l1, H'⟩)
  rotate_left
  · exact absurd (l1.arm) (by rw [A0]; nofun)
  have N := Z.chk (by omega) g1 h1 i1 (Z.cap.step k1)
  have H := H.back (M1 := ((u, .cells #[.P f 0, .string (⟨#[106]⟩ : ByteArray), .slice c0 (([] : List (BitVec 8)).length) d0, .slice X (([] : List (List (BitVec 8))).length) Y, .I e0, .string (⟨#[]⟩ : ByteArray), .slice none (([] : List (BitVec 8)).length) 0, .bool true] 41 (0, 0)) :: diskM f C D E)) (W1 := [⟨SB, 23, .slice X (([] : List (List (BitVec 8))).length) Y, ([] : List (List (BitVec 8)))⟩, ⟨Sb, 5, .slice L r.length M, r⟩, ⟨stepS, 143, .slice D C.steps.length E, C.steps⟩]) H'
  have H := H.perms (M' := ((u, .cells #[.P f 0, .string (⟨#[106]⟩ : ByteArray), .slice o r.length s, .slice none (([] : List (List (BitVec 8))).length) 0, .I (((e0 + 1) : Nat) : Int), .string (⟨#[]⟩ : ByteArray), .slice none (([] : List (BitVec 8)).length) 0, .bool true] 41 (0, 0)) :: (diskM f F J K))) (W' := [⟨SB, 23, .slice none (([] : List (List (BitVec 8))).length) 0, ([] : List (List (BitVec 8)))⟩, ⟨Sb, 5, .slice L r.length M, r⟩, ⟨stepS, 143, .slice J F.steps.length K, F.steps⟩]) ((List.perm_append_comm (l₁ := ([] : Heap)) (l₂ := diskM f F J K)).cons _) (List.Perm.refl _)
  have H : Hp w S [] _ [_, _, _] [Rp SB [.slice o r.length s] r, _, _, _, _, _] _ := H
  have B0 := j1.arm.trans A0
  refine uP 4 ?_
  have H := H.frontW 2 rfl
  have H := H.frontW 2 rfl
  have H := H.frontW 2 rfl
  have H := H.perms (M' := ((u, .cells #[.P f 0, .string (⟨#[106]⟩ : ByteArray), .slice o r.length s, .slice none (([] : List (List (BitVec 8))).length) 0, .I (((e0 + 1) : Nat) : Int), .string (⟨#[]⟩ : ByteArray), .slice none (([] : List (BitVec 8)).length) 0, .bool true] 41 (0, 0)) :: diskM f F J K) ++ []) (W' := [⟨SB, 23, .slice none (([] : List (List (BitVec 8))).length) 0, ([] : List (List (BitVec 8)))⟩, ⟨Sb, 5, .slice L r.length M, r⟩, ⟨stepS, 143, .slice J F.steps.length K, F.steps⟩]) ((List.perm_append_comm (l₁ := diskM f F J K) (l₂ := ([] : Heap))).cons _) (List.Perm.refl _)
  refine uKS (jappend_own (r := r) (n := 99400000) N.pl N.di (N.al.mono (by omega)) N.jl (Nat.lt_of_le_of_lt N.gm (by omega)) (by omega) (by have := N.sl; omega) (Nat.le_trans N.rl (by omega)) (Nat.lt_of_le_of_lt N.now (by omega)) ((H.lend (M1 := ((u, .cells #[.P f 0, .string (⟨#[106]⟩ : ByteArray), .slice o r.length s, .slice none (([] : List (List (BitVec 8))).length) 0, .I (((e0 + 1) : Nat) : Int), .string (⟨#[]⟩ : ByteArray), .slice none (([] : List (BitVec 8)).length) 0, .bool true] 41 (0, 0)) :: diskM f F J K)) (W1 := [⟨SB, 23, .slice none (([] : List (List (BitVec 8))).length) 0, ([] : List (List (BitVec 8)))⟩, ⟨Sb, 5, .slice L r.length M, r⟩, ⟨stepS, 143, .slice J F.steps.length K, F.steps⟩])).pick [0, 1, 5] rfl)) ?_
  rintro _ _ (⟨rfl, A, t, j, k, y, z, U, O, Q, m1, n1, o1, p1, q1, r1, _, H'⟩ | ⟨_, _, _, _, U, O, Q, rfl, s1, H'⟩)
  rotate_left
  · exact absurd (s1.arm) (by rw [B0]; nofun)
  have o0 := N.app (by omega) m1 n1 o1 p1 (N.cap.step r1)
  have H := H.back (M1 := ((u, .cells #[.P f 0, .string (⟨#[106]⟩ : ByteArray), .slice o r.length s, .slice none (([] : List (List (BitVec 8))).length) 0, .I (((e0 + 1) : Nat) : Int), .string (⟨#[]⟩ : ByteArray), .slice none (([] : List (BitVec 8)).length) 0, .bool true] 41 (0, 0)) :: diskM f F J K)) (W1 := [⟨SB, 23, .slice none (([] : List (List (BitVec 8))).length) 0, ([] : List (List (BitVec 8)))⟩, ⟨Sb, 5, .slice L r.length M, r⟩, ⟨stepS, 143, .slice J F.steps.length K, F.steps⟩]) H'
  have H := H.perms (M' := ((u, .cells #[.P f 0, .string (⟨#[106]⟩ : ByteArray), .slice o r.length s, .slice j ((([] : List (List (BitVec 8))) ++ [r]).length) k, .I A, .string t, .slice y ((([] : List (BitVec 8)) ++ frameF r).length) z, .bool false] 41 (0, 0)) :: (diskM f U O Q))) (W' := [⟨SB, 23, .slice j ((([] : List (List (BitVec 8))) ++ [r]).length) k, (([] : List (List (BitVec 8))) ++ [r])⟩, ⟨Sb, 5, .slice L r.length M, r⟩, ⟨stepS, 143, .slice O U.steps.length Q, U.steps⟩]) ((List.perm_append_comm (l₁ := ([] : Heap)) (l₂ := diskM f U O Q)).cons _) (List.Perm.refl _)
  have H : Hp w S [] _ [_, _, _] [_, Rp SB [.slice y ((([] : List (BitVec 8)) ++ frameF r).length) z] (([] : List (BitVec 8)) ++ frameF r), _, _, _, _, _, _] _ := H
  have K1 := q1.arm.trans B0
  refine uF 2 ?_
  refine uR 6 [.c [7, 0, 1, 0], .b 0, .c [8]] ?_
  refine uL (α := Nat × List (BitVec 8)) (g := 5) (p := [7, 0, 1, 0, 0]) (fun (i, xs) => [(0, .slice ax r.length cx), (4, .P u 0), (6, .slice L r.length M), (7, .I i)]) (fun (i, xs) w' => Hp w S [] ((u, .cells #[.P f 0, .string (⟨#[106]⟩ : ByteArray), .slice o r.length s, .slice j ((([] : List (List (BitVec 8))) ++ [r]).length) k, .I A, .string t, .slice y ((([] : List (BitVec 8)) ++ frameF r).length) z, .bool false] 41 (0, 0)) :: (diskM f U O Q)) [⟨SB, 23, .slice j ((([] : List (List (BitVec 8))) ++ [r]).length) k, (([] : List (List (BitVec 8))) ++ [r])⟩, ⟨Sb, 5, .slice L r.length M, xs⟩, ⟨stepS, 143, .slice O U.steps.length Q, U.steps⟩] [Rp SB [.slice o r.length s] r, Rp SB [.slice y ((([] : List (BitVec 8)) ++ frameF r).length) z] (([] : List (BitVec 8)) ++ frameF r), Rp SB [.slice o r.length s] r, Rp SB [.slice none (([] : List (BitVec 8)).length) 0] ([] : List (BitVec 8)), Rp SB [.slice c0 (([] : List (BitVec 8)).length) d0] ([] : List (BitVec 8)), Rp SB [.slice none (([] : List (BitVec 8)).length) 0] ([] : List (BitVec 8)), Rp SB [.slice ax r.length cx] r, Fz jQ] w' ∧ i ≤ r.length ∧ xs.length = r.length) (fun (i, xs) => r.length - i) (0, r) ⟨H, Nat.zero_le _, rfl⟩ ?_
  rintro ⟨i, xs⟩ _ ⟨H, ⟨hi, hxl⟩⟩ _
  refine uR 3 [.c [7, 0, 1, 0, 0, 0, 1], .c [7, 0, 1, 0, 0, 1], .l [7, 0, 1, 0, 0], .b 0, .c [8]] ?_
  refine qD (((i : Int) : Int) < ((r.length : Nat) : Int)) (fun H1 => ?_) (fun H1 => ?_)
  ·
   omega
  ·
   refine uR 2 [.c [8, 0], .c [9]] ?_
   refine qG (sq 0 6) ?_
   refine uP 1 ?_
   refine uKS (jbase_spec o0.bl ((H.lend (M1 := [(u, .cells #[.P f 0, .string (⟨#[106]⟩ : ByteArray), .slice o r.length s, .slice j ((([] : List (List (BitVec 8))) ++ [r]).length) k, .I A, .string t, .slice y ((([] : List (BitVec 8)) ++ frameF r).length) z, .bool false] 41 (0, 0))]) (W1 := [])).pick [0] rfl)) ?_
   rintro _ _ ⟨C0, D0, rfl, H'⟩
   have H := H.back (M1 := [(u, .cells #[.P f 0, .string (⟨#[106]⟩ : ByteArray), .slice o r.length s, .slice j ((([] : List (List (BitVec 8))) ++ [r]).length) k, .I A, .string t, .slice y ((([] : List (BitVec 8)) ++ frameF r).length) z, .bool false] 41 (0, 0))]) (W1 := []) H'
   have H : Hp w S [] _ [⟨Sb, 5, .slice C0 r.length D0, r⟩, _, _, _] [_, _, _, _, _, _, _, _] _ := H
   refine uP 1 ?_
   have H := H.frontW 1 rfl
   have H : Hp w S [] ((u, .cells #[.P f 0, .string (⟨#[106]⟩ : ByteArray), .slice o r.length s, .slice j 1 k, .I A, .string t, .slice y ((([] : List (BitVec 8)) ++ frameF r).length) z, .bool false] 41 (0, 0)) :: (diskM f U O Q)) [⟨SB, 23, .slice j 1 k, [r]⟩, _, _, _] [_, _, _, _, _, _, _, _] _ := H
   refine uKS (jrecs_one (x := r) (by omega) ((H.lend (M1 := [(u, .cells #[.P f 0, .string (⟨#[106]⟩ : ByteArray), .slice o r.length s, .slice j 1 k, .I A, .string t, .slice y ((([] : List (BitVec 8)) ++ frameF r).length) z, .bool false] 41 (0, 0))]) (W1 := [⟨SB, 23, .slice j 1 k, [r]⟩])).pick [] rfl)) ?_
   rintro _ _ ⟨m0, n0, a0, b0, rfl, H'⟩
   have H := H.back (M1 := [(u, .cells #[.P f 0, .string (⟨#[106]⟩ : ByteArray), .slice o r.length s, .slice j 1 k, .I A, .string t, .slice y ((([] : List (BitVec 8)) ++ frameF r).length) z, .bool false] 41 (0, 0))]) (W1 := [⟨SB, 23, .slice j 1 k, [r]⟩]) H'
   have H : Hp w S [] ((u, .cells #[.P f 0, .string (⟨#[106]⟩ : ByteArray), .slice o r.length s, .slice j ([r].length) k, .I A, .string t, .slice y ((([] : List (BitVec 8)) ++ frameF r).length) z, .bool false] 41 (0, 0)) :: (diskM f U O Q)) [⟨Shape.raw, 23, .slice m0 1 n0, ([.slice a0 r.length b0] : List Value)⟩, ⟨Sb, 5, .slice a0 r.length b0, r⟩, ⟨SB, 23, .slice j ([r].length) k, [r]⟩, _, _, _] [_, _, _, _, _, _, _, _] _ := H
   refine uF 2 ?_
   refine uR 2 [.c [9, 0, 0], .c [9, 0, 1], .c [10]] ?_
   refine qG (sq 0 17) ?_
   refine uP 6 ?_
   refine uK (same01N (S := fun _ => True) (xs := r) (ys := r) (H.view 3 rfl) (H.viewR 6 rfl)) ?_
   rintro _ _ t1 rfl
   have H := H.ext t1
   rw [sameB_eq (rfl)]
   refine uP 4 ?_
   have u1 : 1 = ([.slice a0 r.length b0] : List Value).length := rfl
   have v1 : 0 < ([.slice a0 r.length b0] : List Value).length := Nat.zero_lt_one
   refine RW.indexW (κ := .seq) (d := some 75) (r := (sq 12 17)) (T := 22) (e := 23) (m := 1) (ik := .i64) (ix := 0) (sh := Shape.raw) (xs := ([.slice a0 r.length b0] : List Value)) (a := m0) (len := 1) (cap := n0) (by as_aux_lemma => kernel_rfl) (by as_aux_lemma => kernel_rfl) rfl H 0 (by omega) v1 u1 ?_
   intro _ _ _ E0 x1
   obtain ⟨rfl, -⟩ := x1
   refine uV 23 0 E0 ?_
   refine uP 1 ?_
   refine uK (same01N (S := fun _ => True) (xs := r) (ys := r) (H.view 1 rfl) (H.viewR 6 rfl)) ?_
   rintro _ _ y1 rfl
   have H := H.ext y1
   rw [sameB_eq (rfl)]
   refine uF 2 ?_
   refine qR 6 [.c [10, 0, 1, 0], .b 2, .c [11]] [(0, .slice ax r.length cx), (4, .P u 0), (8, .slice C0 r.length D0), (9, .slice m0 1 n0), (10, .I 0)] ?_
   refine uL (α := Nat × List (BitVec 8) × List (BitVec 8)) (g := 5) (p := [10, 0, 1, 0, 0]) (fun (i, ys, zs) => [(0, .slice ax r.length cx), (4, .P u 0), (8, .slice C0 r.length D0), (9, .slice m0 1 n0), (10, .I i)]) (fun (i, ys, zs) w' => Hp w S [] ((u, .cells #[.P f 0, .string (⟨#[106]⟩ : ByteArray), .slice o r.length s, .slice j ([r].length) k, .I A, .string t, .slice y ((([] : List (BitVec 8)) ++ frameF r).length) z, .bool false] 41 (0, 0)) :: (diskM f U O Q)) [⟨Shape.raw, 23, .slice m0 1 n0, ([.slice a0 r.length b0] : List Value)⟩, ⟨Sb, 5, .slice a0 r.length b0, zs⟩, ⟨SB, 23, .slice j ([r].length) k, [r]⟩, ⟨Sb, 5, .slice C0 r.length D0, ys⟩, ⟨Sb, 5, .slice L r.length M, xs⟩, ⟨stepS, 143, .slice O U.steps.length Q, U.steps⟩] [Rp SB [.slice o r.length s] r, Rp SB [.slice y ((([] : List (BitVec 8)) ++ frameF r).length) z] (([] : List (BitVec 8)) ++ frameF r), Rp SB [.slice o r.length s] r, Rp SB [.slice none (([] : List (BitVec 8)).length) 0] ([] : List (BitVec 8)), Rp SB [.slice c0 (([] : List (BitVec 8)).length) d0] ([] : List (BitVec 8)), Rp SB [.slice none (([] : List (BitVec 8)).length) 0] ([] : List (BitVec 8)), Rp SB [.slice ax r.length cx] r, Fz jQ] w' ∧ i ≤ r.length ∧ ys.length = r.length ∧ zs.length = r.length) (fun (i, ys, zs) => r.length - i) (0, r, r) ⟨H, Nat.zero_le _, rfl, rfl⟩ ?_
   rintro ⟨i, ys, zs⟩ _ ⟨H, ⟨hi, hyl, hzl⟩⟩ _
   refine uR 2 [.c [10, 0, 1, 0, 0, 0, 0], .c [10, 0, 1, 0, 0, 0, 1], .c [10, 0, 1, 0, 0, 1], .l [10, 0, 1, 0, 0], .b 2, .c [11]] ?_
   refine qG (sq 0 18) ?_
   refine uP 5 ?_
   refine uD 85 (((i : Int) : Int) < ((r.length : Nat) : Int)) (fun I1 => ?_) (fun I1 => ?_)
   ·
    refine uP 6 ?_
    refine uD 91 (((i : Int) : Int) < ((r.length : Nat) : Int)) (fun J1 => ?_) (fun J1 => ?_)
    ·
     refine uP 2 ?_
     have z1 : 1 = ([.slice a0 r.length b0] : List Value).length := rfl
     have A1 : 0 < ([.slice a0 r.length b0] : List Value).length := Nat.zero_lt_one
     refine RW.indexW (κ := .seq) (d := some 94) (r := (sq 14 18)) (T := 22) (e := 23) (m := 1) (ik := .i64) (ix := 0) (sh := Shape.raw) (xs := ([.slice a0 r.length b0] : List Value)) (a := m0) (len := 1) (cap := n0) (by as_aux_lemma => kernel_rfl) (by as_aux_lemma => kernel_rfl) rfl H 0 (by omega) A1 z1 ?_
     intro _ _ _ q0 K0
     obtain ⟨rfl, -⟩ := K0
     refine uV 23 0 q0 ?_
     refine uF 3 ?_
     refine qD (((i : Int) : Int) < ((r.length : Nat) : Int)) (fun B1 => ?_) (fun B1 => ?_)
     ·
      omega
     ·
      refine uR 2 [.c [11, 0], .c [12]] ?_
      refine qG (sq 0 6) ?_
      refine uP 1 ?_
      refine uKS (jbase_spec o0.bl ((H.lend (M1 := [(u, .cells #[.P f 0, .string (⟨#[106]⟩ : ByteArray), .slice o r.length s, .slice j ([r].length) k, .I A, .string t, .slice y ((([] : List (BitVec 8)) ++ frameF r).length) z, .bool false] 41 (0, 0))]) (W1 := [])).pick [0] rfl)) ?_
      rintro _ _ ⟨G0, H0, rfl, H'⟩
      have H := H.back (M1 := [(u, .cells #[.P f 0, .string (⟨#[106]⟩ : ByteArray), .slice o r.length s, .slice j ([r].length) k, .I A, .string t, .slice y ((([] : List (BitVec 8)) ++ frameF r).length) z, .bool false] 41 (0, 0))]) (W1 := []) H'
      have H : Hp w S [] _ [⟨Sb, 5, .slice G0 r.length H0, r⟩, _, _, _, _, _, _] [_, _, _, _, _, _, _, _] _ := H
      refine uP 1 ?_
      have H := H.frontW 3 rfl
      have H : Hp w S [] _ [_, _, _, _, _, _, _] [_, _, _, _, _, _, _, _] _ := H
      refine uKS (jrecs_one (x := r) (by omega) ((H.lend (M1 := [(u, .cells #[.P f 0, .string (⟨#[106]⟩ : ByteArray), .slice o r.length s, .slice j 1 k, .I A, .string t, .slice y ((([] : List (BitVec 8)) ++ frameF r).length) z, .bool false] 41 (0, 0))]) (W1 := [⟨SB, 23, .slice j 1 k, [r]⟩])).pick [] rfl)) ?_
      rintro _ _ ⟨r0, s0, f0, g0, rfl, H'⟩
      have H := H.back (M1 := [(u, .cells #[.P f 0, .string (⟨#[106]⟩ : ByteArray), .slice o r.length s, .slice j 1 k, .I A, .string t, .slice y ((([] : List (BitVec 8)) ++ frameF r).length) z, .bool false] 41 (0, 0))]) (W1 := [⟨SB, 23, .slice j 1 k, [r]⟩]) H'
      have H : Hp w S [] _ [⟨Shape.raw, 23, .slice r0 1 s0, ([.slice f0 r.length g0] : List Value)⟩, ⟨Sb, 5, .slice f0 r.length g0, r⟩, _, _, _, _, _, _, _] [_, _, _, _, _, _, _, _] _ := H
      refine uF 2 ?_
      refine uR 1 [.c [12, 0], .c [13]] ?_
      refine qG (sq 0 19) ?_
      refine qP 6 (sq 6 19) [(0, .slice ax r.length cx), (12, .slice r0 1 s0), (128, .bool true), (129, .slice G0 r.length H0), (130, .slice ax r.length cx)] ?_
      refine uK (same01N (S := fun _ => True) (xs := r) (ys := r) (H.view 3 rfl) (H.viewR 6 rfl)) ?_
      rintro _ _ L0 rfl
      have H := H.ext L0
      rw [sameB_eq (rfl)]
      refine uP 3 ?_
      have M0 : 1 = ([.slice f0 r.length g0] : List Value).length := rfl
      have N0 : 0 < ([.slice f0 r.length g0] : List Value).length := Nat.zero_lt_one
      refine RW.indexW (κ := .seq) (d := some 135) (r := (sq 11 19)) (T := 22) (e := 23) (m := 1) (ik := .i64) (ix := 0) (sh := Shape.raw) (xs := ([.slice f0 r.length g0] : List Value)) (a := r0) (len := 1) (cap := s0) (by as_aux_lemma => kernel_rfl) (by as_aux_lemma => kernel_rfl) rfl H 0 (by omega) N0 M0 ?_
      intro _ _ _ t0 O0
      obtain ⟨rfl, -⟩ := O0
      refine uV 23 0 t0 ?_
      refine uP 1 ?_
      refine uK (same01N (S := fun _ => True) (xs := r) (ys := r) (H.view 1 rfl) (H.viewR 6 rfl)) ?_
      rintro _ _ P0 rfl
      have H := H.ext P0
      rw [sameB_eq (rfl)]
      refine uP 2 ?_
      refine uK (heads_spec (S := fun _ => True) (H.viewF 7 rfl)) ?_
      rintro _ _ Q0 rfl
      have H := H.ext Q0
      refine uF 2 ?_
      refine qT (.bool true) Tryz.func5 ?_
      exact ⟨_, rfl, H.done, rfl⟩
    ·
     refine uF 7 ?_
     refine uR 3 [.c [11, 0], .c [12]] ?_
     refine qG (sq 0 6) ?_
     refine uP 1 ?_
     refine uKS (jbase_spec o0.bl ((H.lend (M1 := [(u, .cells #[.P f 0, .string (⟨#[106]⟩ : ByteArray), .slice o r.length s, .slice j ([r].length) k, .I A, .string t, .slice y ((([] : List (BitVec 8)) ++ frameF r).length) z, .bool false] 41 (0, 0))]) (W1 := [])).pick [0] rfl)) ?_
     rintro _ _ ⟨I0, J0, rfl, H'⟩
     have H := H.back (M1 := [(u, .cells #[.P f 0, .string (⟨#[106]⟩ : ByteArray), .slice o r.length s, .slice j ([r].length) k, .I A, .string t, .slice y ((([] : List (BitVec 8)) ++ frameF r).length) z, .bool false] 41 (0, 0))]) (W1 := []) H'
     have H : Hp w S [] _ [⟨Sb, 5, .slice I0 r.length J0, r⟩, _, _, _, _, _, _] [_, _, _, _, _, _, _, _] _ := H
     refine uP 1 ?_
     have H := H.frontW 3 rfl
     have H : Hp w S [] _ [_, _, _, _, _, _, _] [_, _, _, _, _, _, _, _] _ := H
     refine uKS (jrecs_one (x := r) (by omega) ((H.lend (M1 := [(u, .cells #[.P f 0, .string (⟨#[106]⟩ : ByteArray), .slice o r.length s, .slice j 1 k, .I A, .string t, .slice y ((([] : List (BitVec 8)) ++ frameF r).length) z, .bool false] 41 (0, 0))]) (W1 := [⟨SB, 23, .slice j 1 k, [r]⟩])).pick [] rfl)) ?_
     rintro _ _ ⟨u0, v0, i0, j0, rfl, H'⟩
     have H := H.back (M1 := [(u, .cells #[.P f 0, .string (⟨#[106]⟩ : ByteArray), .slice o r.length s, .slice j 1 k, .I A, .string t, .slice y ((([] : List (BitVec 8)) ++ frameF r).length) z, .bool false] 41 (0, 0))]) (W1 := [⟨SB, 23, .slice j 1 k, [r]⟩]) H'
     have H : Hp w S [] _ [⟨Shape.raw, 23, .slice u0 1 v0, ([.slice i0 r.length j0] : List Value)⟩, ⟨Sb, 5, .slice i0 r.length j0, r⟩, _, _, _, _, _, _, _] [_, _, _, _, _, _, _, _] _ := H
     refine uF 2 ?_
     refine qR 1 [.c [12, 0], .c [13]] [(0, .slice ax r.length cx), (11, .slice I0 r.length J0), (12, .slice u0 1 v0)] ?_
     refine qG (sq 0 19) ?_
     refine uP 6 ?_
     refine uK (same01N (S := fun _ => True) (xs := r) (ys := r) (H.view 3 rfl) (H.viewR 6 rfl)) ?_
     rintro _ _ R0 rfl
     have H := H.ext R0
     rw [sameB_eq (rfl)]
     refine uP 3 ?_
     have S0 : 1 = ([.slice i0 r.length j0] : List Value).length := rfl
     have T0 : 0 < ([.slice i0 r.length j0] : List Value).length := Nat.zero_lt_one
     refine RW.indexW (κ := .seq) (d := some 135) (r := (sq 11 19)) (T := 22) (e := 23) (m := 1) (ik := .i64) (ix := 0) (sh := Shape.raw) (xs := ([.slice i0 r.length j0] : List Value)) (a := u0) (len := 1) (cap := v0) (by as_aux_lemma => kernel_rfl) (by as_aux_lemma => kernel_rfl) rfl H 0 (by omega) T0 S0 ?_
     intro _ _ _ w0 U0
     obtain ⟨rfl, -⟩ := U0
     refine uV 23 0 w0 ?_
     refine uP 1 ?_
     refine uK (same01N (S := fun _ => True) (xs := r) (ys := r) (H.view 1 rfl) (H.viewR 6 rfl)) ?_
     rintro _ _ V0 rfl
     have H := H.ext V0
     rw [sameB_eq (rfl)]
     refine uP 2 ?_
     refine uK (heads_spec (S := fun _ => True) (H.viewF 7 rfl)) ?_
     rintro _ _ W0 rfl
     have H := H.ext W0
     refine uF 2 ?_
     refine qT (.bool true) Tryz.func5 ?_
     exact ⟨_, rfl, H.done, rfl⟩
   ·
    refine uF 13 ?_
    refine uR 3 [.c [11, 0], .c [12]] ?_
    refine qG (sq 0 6) ?_
    refine uP 1 ?_
    refine uKS (jbase_spec o0.bl ((H.lend (M1 := [(u, .cells #[.P f 0, .string (⟨#[106]⟩ : ByteArray), .slice o r.length s, .slice j ([r].length) k, .I A, .string t, .slice y ((([] : List (BitVec 8)) ++ frameF r).length) z, .bool false] 41 (0, 0))]) (W1 := [])).pick [0] rfl)) ?_
    rintro _ _ ⟨C1, D1, rfl, H'⟩
    have H := H.back (M1 := [(u, .cells #[.P f 0, .string (⟨#[106]⟩ : ByteArray), .slice o r.length s, .slice j ([r].length) k, .I A, .string t, .slice y ((([] : List (BitVec 8)) ++ frameF r).length) z, .bool false] 41 (0, 0))]) (W1 := []) H'
    have H : Hp w S [] _ [⟨Sb, 5, .slice C1 r.length D1, r⟩, _, _, _, _, _, _] [_, _, _, _, _, _, _, _] _ := H
    refine uP 1 ?_
    have H := H.frontW 3 rfl
    have H : Hp w S [] _ [_, _, _, _, _, _, _] [_, _, _, _, _, _, _, _] _ := H
    refine uKS (jrecs_one (x := r) (by omega) ((H.lend (M1 := [(u, .cells #[.P f 0, .string (⟨#[106]⟩ : ByteArray), .slice o r.length s, .slice j 1 k, .I A, .string t, .slice y ((([] : List (BitVec 8)) ++ frameF r).length) z, .bool false] 41 (0, 0))]) (W1 := [⟨SB, 23, .slice j 1 k, [r]⟩])).pick [] rfl)) ?_
    rintro _ _ ⟨x0, y0, k0, l0, rfl, H'⟩
    have H := H.back (M1 := [(u, .cells #[.P f 0, .string (⟨#[106]⟩ : ByteArray), .slice o r.length s, .slice j 1 k, .I A, .string t, .slice y ((([] : List (BitVec 8)) ++ frameF r).length) z, .bool false] 41 (0, 0))]) (W1 := [⟨SB, 23, .slice j 1 k, [r]⟩]) H'
    have H : Hp w S [] _ [⟨Shape.raw, 23, .slice x0 1 y0, ([.slice k0 r.length l0] : List Value)⟩, ⟨Sb, 5, .slice k0 r.length l0, r⟩, _, _, _, _, _, _, _] [_, _, _, _, _, _, _, _] _ := H
    refine uF 2 ?_
    refine uR 1 [.c [12, 0], .c [13]] ?_
    refine qG (sq 0 19) ?_
    refine uP 6 ?_
    refine uK (same01N (S := fun _ => True) (xs := r) (ys := r) (H.view 3 rfl) (H.viewR 6 rfl)) ?_
    rintro _ _ X0 rfl
    have H := H.ext X0
    rw [sameB_eq (rfl)]
    refine qP 3 (sq 10 19) [(0, .slice ax r.length cx), (133, .bool true), (134, .slice x0 1 y0)] ?_
    have Y0 : 1 = ([.slice k0 r.length l0] : List Value).length := rfl
    have Z0 : 0 < ([.slice k0 r.length l0] : List Value).length := Nat.zero_lt_one
    refine RW.indexW (κ := .seq) (d := some 135) (r := (sq 11 19)) (T := 22) (e := 23) (m := 1) (ik := .i64) (ix := 0) (sh := Shape.raw) (xs := ([.slice k0 r.length l0] : List Value)) (a := x0) (len := 1) (cap := y0) (by as_aux_lemma => kernel_rfl) (by as_aux_lemma => kernel_rfl) rfl H 0 (by omega) Z0 Y0 ?_
    intro _ _ _ z0 a1
    obtain ⟨rfl, -⟩ := a1
    refine uV 23 0 z0 ?_
    refine uP 1 ?_
    refine uK (same01N (S := fun _ => True) (xs := r) (ys := r) (H.view 1 rfl) (H.viewR 6 rfl)) ?_
    rintro _ _ b1 rfl
    have H := H.ext b1
    rw [sameB_eq (rfl)]
    refine uP 2 ?_
    refine uK (heads_spec (S := fun _ => True) (H.viewF 7 rfl)) ?_
    rintro _ _ c1 rfl
    have H := H.ext c1
    refine uF 2 ?_
    refine qT (.bool true) Tryz.func5 ?_
    exact ⟨_, rfl, H.done, rfl⟩
theorem own_spec {S : Nat → Prop} {w : World} {r : List (BitVec 8)} {ax : Option Addr} {cx : Nat} (hr : (Rp SB [.slice ax r.length cx] r).p S w) (hq : (Fz jQ).p S w) :
 Calls Tryz.prog 5 #[.slice ax r.length cx] w (Ret fun v w' => Ext w w' ∧ v = .bool true) := by
 by_cases h : r.length ≤ 20000
 · rcases Nat.eq_zero_or_pos r.length with a | a
   · exact own_nil a hr hq
   · exact own_short h a hr hq
 · exact own_long (Nat.lt_of_not_le h) hr hq
end Go.Proofs.YtdnibpclkhenmaaGreatDoor
