import Derived.Test.YtdnibpclkhenmaaGreatDoorSBxA
import Derived.Test.YtdnibpclkhenmaaGreatDoorSJL
namespace Go.Proofs.YtdnibpclkhenmaaGreatDoor
open Go.BX
theorem plainJ : PlainN (⟨#[106]⟩ : ByteArray) := ⟨⟨by decide, by decide⟩, by decide⟩
theorem notJ : ¬ PlainN (⟨#[74]⟩ : ByteArray) := fun h => absurd (h.1.2 74 (by simp)) (by decide)
theorem CW.hb0 {B : Bs} {R : List Bs} {m : Nat} (h : B = [] ∧ R = []) : B.length ≤ 4194304 ∧ R.length ≤ m ∧ ∀ r ∈ R, r.length ≤ 4194304 := by
 obtain ⟨rfl, rfl⟩ := h
 exact ⟨Nat.zero_le _, Nat.zero_le _, nofun⟩
theorem heads_crash {D2 D3 : DiskD} {nm seg seg' : ByteArray} {B B' : Bs} {R R0' R' : List Bs} {g g' : Nat} {σ σ' : Bs} {sy' : Bool} {n m t q c n' m' t' q' c' : Nat} (h2 : JW D2 nm B R R g seg σ true n m t q c) (h3 : JW D3 nm B' R0' R' g' seg' σ' sy' n' m' t' q' c') (hmm : m ≤ m') (hdry : Dry D2 D3) (ns : Nat → Nat) (nb : Nat) : CW (crashD D3 [] ns nb) nm m' c' fun B' lo hi => B' = B ∧ R <+: lo ∧ hi <+: R :=
 ⟨h3.di.crash [] ns nb, rfl, rfl, rfl, JS.dryc (hdry _ _ _ ((h2.jl.js.mono (Nat.le_trans h2.gm hmm) fun _ _ _ h => h).dryd)) ns nb, h3.cap.crash [] ns nb⟩
theorem CW.hb1 {B B0 : Bs} {R R0 : List Bs} {m : Nat} (h0 : B0.length ≤ 4194304) (h1 : R0.length ≤ m) (h2 : ∀ r ∈ R0, r.length ≤ 4194304) (h : ∃ lo hi : List Bs, (B = B0 ∧ R0 <+: lo ∧ hi <+: R0) ∧ lo <+: R ∧ R <+: hi) : B.length ≤ 4194304 ∧ R.length ≤ m ∧ ∀ r ∈ R, r.length ≤ 4194304 := by
 obtain ⟨rfl, rfl⟩ := found_one h
 exact ⟨h0, h1, h2⟩
set_option maxHeartbeats 2000000 in
theorem heads_spec {S : Nat → Prop} {w : World} (hq : (Fz jQ).p S w) :
 Calls Tryz.prog 13 #[] w (Ret fun v w' => Ext w w' ∧ v = .bool true) := by
 refine uS1 Tryz.func13 ?_
 have H := Hp.startF (w := w) (S := S) (G := [Fz jQ]) (.cons hq .nil)
 refine uR 3 [.c [1, 0], .c [2]] ?_
 refine qG (sq 0 2) ?_
 refine uK (new_spec (S := Av S w [] (idsOf [] []))) ?_
 rintro _ _ - ⟨f, x3, y4, rfl, H'⟩
 have H := H.back (M1 := []) (W1 := []) H'
 have H := H.perms (M' := ((diskM f (newD x3 y4) none 0))) (W' := [⟨stepS, 143, .slice none ((newD x3 y4).steps.length) 0, (newD x3 y4).steps⟩]) ((List.perm_append_comm (l₁ := diskM f (newD x3 y4) none 0) (l₂ := ([] : Heap))).symm) (List.Perm.refl _)
 have H : Hp w S [] _ [_] [_] _ := H
 have n1 : DOk (newD x3 y4) := newD_ok x3 y4
 refine uF 1 ?_
 refine uR 1 [.c [2, 0], .c [3]] ?_
 refine qG (sq 0 7) ?_
 refine uP 1 ?_
 have t0 := newD_CW x3 y4 ⟨#[106]⟩
 have A0 : (newD x3 y4).armed = false := rfl
 have H := H.perms (M' := diskM f (newD x3 y4) none 0 ++ []) (W' := [⟨stepS, 143, .slice none ((newD x3 y4).steps.length) 0, (newD x3 y4).steps⟩]) (List.perm_append_comm (l₁ := diskM f (newD x3 y4) none 0) (l₂ := ([] : Heap))) (List.Perm.refl _)
 refine uKS (jopen_law (n := 100000000) (m := 0) (q := 0) (c := 0) plainJ t0.di (t0.al.mono (by omega)) (newD_op x3 y4 _) t0.cap (by omega) (fun B R h => CW.hb0 h) ((H.lend (M1 := diskM f (newD x3 y4) none 0) (W1 := [⟨stepS, 143, .slice none ((newD x3 y4).steps.length) 0, (newD x3 y4).steps⟩])).pick [0] rfl)) ?_
 rintro _ _ (⟨t, _, _, g9, g, i, j0, k0, N, O, Q, rfl, P0, f0, Q0, H'⟩ | ⟨N, O, Q, rfl, _, R0, H'⟩)
 rotate_left
 · exact absurd (R0) (by rw [A0]; nofun)
 obtain ⟨B0, C0⟩ := P0
 subst B0
 subst C0
 have H := H.back (M1 := diskM f (newD x3 y4) none 0) (W1 := [⟨stepS, 143, .slice none ((newD x3 y4).steps.length) 0, (newD x3 y4).steps⟩]) H'
 have H := H.perms (M' := ((t, .cells #[.P f 0, .string (⟨#[106]⟩ : ByteArray), .slice g (([] : List (BitVec 8)).length) i, .slice j0 (([] : List (List (BitVec 8))).length) k0, .I g9, .string (⟨#[]⟩ : ByteArray), .slice none (([] : List (BitVec 8)).length) 0, .bool true] 41 (0, 0)) :: (diskM f N O Q))) (W' := [⟨SB, 23, .slice j0 (([] : List (List (BitVec 8))).length) k0, ([] : List (List (BitVec 8)))⟩, ⟨stepS, 143, .slice O N.steps.length Q, N.steps⟩]) ((List.perm_append_comm (l₁ := ([] : Heap)) (l₂ := diskM f N O Q)).cons _) (List.Perm.refl _)
 have H : Hp w S [] _ [_, _] [Rp SB [.slice g (([] : List (BitVec 8)).length) i] ([] : List (BitVec 8)), Rp SB [.slice none (([] : List (BitVec 8)).length) 0] ([] : List (BitVec 8)), _] _ := H
 have w0 := Q0.arm.trans A0
 refine uF 5 ?_
 refine uR 2 [.c [3, 0, 0], .c [3, 0, 1], .c [4]] ?_
 refine qG (sq 0 25) ?_
 refine uP 8 ?_
 refine RW.new (κ := .seq) (d := some 23) (r := (sq 9 25)) (o := .cells #[.int .u8 97] 5 (0, 0)) (v := fun b => .slice (some ⟨b, 0, none⟩) 1 1) (fun b => by as_aux_lemma => kernel_rfl) (nofun) H ?_
 intro N0 _ H
 refine RW.convS (d := some 24) (r := (sq 10 25)) (T := 23) (e := 5) (b := N0) (len := 1) (cap := 1) (by as_aux_lemma => kernel_rfl) (by as_aux_lemma => kernel_rfl) H ?_
 intro _ H
 have H := H.freeze 0 rfl Sb ([97#8] : List (BitVec 8)) 1 (by simp [maxLen]) (by first | exact Nat.le_refl _ | simp) (EsP.cons (c := [.int .u8 97]) (Shape.bv_lit (x := 97#8) (by decide)) EsP.nil)
 have H : Hp w S [] _ [_, _] [Rp SB [.slice (some ⟨N0, 0, none⟩) 1 1] ([97#8] : List (BitVec 8)), _, _, _] _ := H
 have hlit : ([97#8] : List (BitVec 8)).length = 1 := rfl
 have H := H.frontW 1 rfl
 have H := H.frontW 1 rfl
 have H := H.perms (M' := ((t, .cells #[.P f 0, .string (⟨#[106]⟩ : ByteArray), .slice g (([] : List (BitVec 8)).length) i, .slice j0 (([] : List (List (BitVec 8))).length) k0, .I g9, .string (⟨#[]⟩ : ByteArray), .slice none (([] : List (BitVec 8)).length) 0, .bool true] 41 (0, 0)) :: diskM f N O Q) ++ []) (W' := [⟨SB, 23, .slice j0 (([] : List (List (BitVec 8))).length) k0, ([] : List (List (BitVec 8)))⟩, ⟨stepS, 143, .slice O N.steps.length Q, N.steps⟩]) ((List.perm_append_comm (l₁ := diskM f N O Q) (l₂ := ([] : Heap))).cons _) (List.Perm.refl _)
 refine uKS (jappend_spec (r := ([97#8] : List (BitVec 8))) (n := 99700000) f0.pl f0.di (f0.al.mono (by omega)) f0.jl (Nat.lt_of_le_of_lt f0.gm (by omega)) (by omega) (by have := f0.sl; omega) (Nat.le_trans f0.rl (by omega)) (Nat.lt_of_le_of_lt f0.now (by omega)) ((H.lend (M1 := ((t, .cells #[.P f 0, .string (⟨#[106]⟩ : ByteArray), .slice g (([] : List (BitVec 8)).length) i, .slice j0 (([] : List (List (BitVec 8))).length) k0, .I g9, .string (⟨#[]⟩ : ByteArray), .slice none (([] : List (BitVec 8)).length) 0, .bool true] 41 (0, 0)) :: diskM f N O Q)) (W1 := [⟨SB, 23, .slice j0 (([] : List (List (BitVec 8))).length) k0, ([] : List (List (BitVec 8)))⟩, ⟨stepS, 143, .slice O N.steps.length Q, N.steps⟩])).pick [1, 2, 3, 0] rfl)) ?_
 rintro _ _ (⟨rfl, o0, c0, A, C, h0, i0, U, V, W, S0, T0, U0, V0, W0, X0, _, H'⟩ | ⟨_, _, _, _, U, V, W, rfl, Y0, H'⟩)
 rotate_left
 · exact absurd (Y0.arm) (by rw [w0]; nofun)
 have n0 := f0.app (by omega) S0 T0 U0 V0 (f0.cap.step X0)
 have H := H.back (M1 := ((t, .cells #[.P f 0, .string (⟨#[106]⟩ : ByteArray), .slice g (([] : List (BitVec 8)).length) i, .slice j0 (([] : List (List (BitVec 8))).length) k0, .I g9, .string (⟨#[]⟩ : ByteArray), .slice none (([] : List (BitVec 8)).length) 0, .bool true] 41 (0, 0)) :: diskM f N O Q)) (W1 := [⟨SB, 23, .slice j0 (([] : List (List (BitVec 8))).length) k0, ([] : List (List (BitVec 8)))⟩, ⟨stepS, 143, .slice O N.steps.length Q, N.steps⟩]) H'
 have H := H.perms (M' := ((t, .cells #[.P f 0, .string (⟨#[106]⟩ : ByteArray), .slice g (([] : List (BitVec 8)).length) i, .slice A ((([] : List (List (BitVec 8))) ++ [([97#8] : List (BitVec 8))]).length) C, .I o0, .string c0, .slice h0 ((([] : List (BitVec 8)) ++ frameF ([97#8] : List (BitVec 8))).length) i0, .bool false] 41 (0, 0)) :: (diskM f U V W))) (W' := [⟨SB, 23, .slice A ((([] : List (List (BitVec 8))) ++ [([97#8] : List (BitVec 8))]).length) C, (([] : List (List (BitVec 8))) ++ [([97#8] : List (BitVec 8))])⟩, ⟨stepS, 143, .slice V U.steps.length W, U.steps⟩]) ((List.perm_append_comm (l₁ := ([] : Heap)) (l₂ := diskM f U V W)).cons _) (List.Perm.refl _)
 have H : Hp w S [] _ [_, _] [_, Rp SB [.slice h0 ((([] : List (BitVec 8)) ++ frameF ([97#8] : List (BitVec 8))).length) i0] (([] : List (BitVec 8)) ++ frameF ([97#8] : List (BitVec 8))), _, _, _, _] _ := H
 have x0 := W0.arm.trans w0
 refine uP 4 ?_
 have H := H.frontW 1 rfl
 have H := H.frontW 1 rfl
 have H := H.perms (M' := ((t, .cells #[.P f 0, .string (⟨#[106]⟩ : ByteArray), .slice g (([] : List (BitVec 8)).length) i, .slice A ((([] : List (List (BitVec 8))) ++ [([97#8] : List (BitVec 8))]).length) C, .I o0, .string c0, .slice h0 ((([] : List (BitVec 8)) ++ frameF ([97#8] : List (BitVec 8))).length) i0, .bool false] 41 (0, 0)) :: diskM f U V W) ++ []) (W' := [⟨SB, 23, .slice A ((([] : List (List (BitVec 8))) ++ [([97#8] : List (BitVec 8))]).length) C, (([] : List (List (BitVec 8))) ++ [([97#8] : List (BitVec 8))])⟩, ⟨stepS, 143, .slice V U.steps.length W, U.steps⟩]) ((List.perm_append_comm (l₁ := diskM f U V W) (l₂ := ([] : Heap))).cons _) (List.Perm.refl _)
 refine uKS (jsync_spec (n := 99400000) n0.pl n0.di (n0.al.mono (by omega)) n0.jl ((H.lend (M1 := ((t, .cells #[.P f 0, .string (⟨#[106]⟩ : ByteArray), .slice g (([] : List (BitVec 8)).length) i, .slice A ((([] : List (List (BitVec 8))) ++ [([97#8] : List (BitVec 8))]).length) C, .I o0, .string c0, .slice h0 ((([] : List (BitVec 8)) ++ frameF ([97#8] : List (BitVec 8))).length) i0, .bool false] 41 (0, 0)) :: diskM f U V W)) (W1 := [⟨SB, 23, .slice A ((([] : List (List (BitVec 8))) ++ [([97#8] : List (BitVec 8))]).length) C, (([] : List (List (BitVec 8))) ++ [([97#8] : List (BitVec 8))])⟩, ⟨stepS, 143, .slice V U.steps.length W, U.steps⟩])).pick [0, 1, 5] rfl)) ?_
 rintro _ _ (⟨rfl, X, Y, Z, Z0, a1, b1, c1, d1, H'⟩ | ⟨_, _, _, _, X, Y, Z, rfl, e1, H'⟩)
 rotate_left
 · exact absurd (e1.arm) (by rw [x0]; nofun)
 have K := n0.syn Z0 a1 b1 (n0.cap.step d1)
 have H := H.back (M1 := ((t, .cells #[.P f 0, .string (⟨#[106]⟩ : ByteArray), .slice g (([] : List (BitVec 8)).length) i, .slice A ((([] : List (List (BitVec 8))) ++ [([97#8] : List (BitVec 8))]).length) C, .I o0, .string c0, .slice h0 ((([] : List (BitVec 8)) ++ frameF ([97#8] : List (BitVec 8))).length) i0, .bool false] 41 (0, 0)) :: diskM f U V W)) (W1 := [⟨SB, 23, .slice A ((([] : List (List (BitVec 8))) ++ [([97#8] : List (BitVec 8))]).length) C, (([] : List (List (BitVec 8))) ++ [([97#8] : List (BitVec 8))])⟩, ⟨stepS, 143, .slice V U.steps.length W, U.steps⟩]) H'
 have H := H.perms (M' := ((t, .cells #[.P f 0, .string (⟨#[106]⟩ : ByteArray), .slice g (([] : List (BitVec 8)).length) i, .slice A ((([] : List (List (BitVec 8))) ++ [([97#8] : List (BitVec 8))]).length) C, .I o0, .string c0, .slice h0 ((([] : List (BitVec 8)) ++ frameF ([97#8] : List (BitVec 8))).length) i0, .bool true] 41 (0, 0)) :: (diskM f X Y Z))) (W' := [⟨SB, 23, .slice A ((([] : List (List (BitVec 8))) ++ [([97#8] : List (BitVec 8))]).length) C, (([] : List (List (BitVec 8))) ++ [([97#8] : List (BitVec 8))])⟩, ⟨stepS, 143, .slice Y X.steps.length Z, X.steps⟩]) ((List.perm_append_comm (l₁ := ([] : Heap)) (l₂ := diskM f X Y Z)).cons _) (List.Perm.refl _)
 have H : Hp w S [] _ [_, _] [_, _, _, _, _, _, _, _] _ := H
 have y0 := c1.arm.trans x0
 refine uP 4 ?_
 refine RW.new (κ := .seq) (d := some 35) (r := (sq 21 25)) (o := .cells #[.int .u8 98] 5 (0, 0)) (v := fun b => .slice (some ⟨b, 0, none⟩) 1 1) (fun b => by as_aux_lemma => kernel_rfl) (nofun) H ?_
 intro O0 _ H
 refine RW.convS (d := some 36) (r := (sq 22 25)) (T := 23) (e := 5) (b := O0) (len := 1) (cap := 1) (by as_aux_lemma => kernel_rfl) (by as_aux_lemma => kernel_rfl) H ?_
 intro _ H
 have H := H.freeze 0 rfl Sb ([98#8] : List (BitVec 8)) 1 (by simp [maxLen]) (by first | exact Nat.le_refl _ | simp) (EsP.cons (c := [.int .u8 98]) (Shape.bv_lit (x := 98#8) (by decide)) EsP.nil)
 have H : Hp w S [] _ [_, _] [Rp SB [.slice (some ⟨O0, 0, none⟩) 1 1] ([98#8] : List (BitVec 8)), _, _, _, _, _, _, _, _] _ := H
 have hlit : ([98#8] : List (BitVec 8)).length = 1 := rfl
 have H := H.frontW 1 rfl
 have H := H.frontW 1 rfl
 have H := H.perms (M' := ((t, .cells #[.P f 0, .string (⟨#[106]⟩ : ByteArray), .slice g (([] : List (BitVec 8)).length) i, .slice A ((([] : List (List (BitVec 8))) ++ [([97#8] : List (BitVec 8))]).length) C, .I o0, .string c0, .slice h0 ((([] : List (BitVec 8)) ++ frameF ([97#8] : List (BitVec 8))).length) i0, .bool true] 41 (0, 0)) :: diskM f X Y Z) ++ []) (W' := [⟨SB, 23, .slice A ((([] : List (List (BitVec 8))) ++ [([97#8] : List (BitVec 8))]).length) C, (([] : List (List (BitVec 8))) ++ [([97#8] : List (BitVec 8))])⟩, ⟨stepS, 143, .slice Y X.steps.length Z, X.steps⟩]) ((List.perm_append_comm (l₁ := diskM f X Y Z) (l₂ := ([] : Heap))).cons _) (List.Perm.refl _)
 refine uKS (jappend_spec (r := ([98#8] : List (BitVec 8))) (n := 99100000) K.pl K.di (K.al.mono (by omega)) K.jl (Nat.lt_of_le_of_lt K.gm (by omega)) (by omega) (by have := K.sl; omega) (Nat.le_trans K.rl (by omega)) (Nat.lt_of_le_of_lt K.now (by omega)) ((H.lend (M1 := ((t, .cells #[.P f 0, .string (⟨#[106]⟩ : ByteArray), .slice g (([] : List (BitVec 8)).length) i, .slice A ((([] : List (List (BitVec 8))) ++ [([97#8] : List (BitVec 8))]).length) C, .I o0, .string c0, .slice h0 ((([] : List (BitVec 8)) ++ frameF ([97#8] : List (BitVec 8))).length) i0, .bool true] 41 (0, 0)) :: diskM f X Y Z)) (W1 := [⟨SB, 23, .slice A ((([] : List (List (BitVec 8))) ++ [([97#8] : List (BitVec 8))]).length) C, (([] : List (List (BitVec 8))) ++ [([97#8] : List (BitVec 8))])⟩, ⟨stepS, 143, .slice Y X.steps.length Z, X.steps⟩])).pick [1, 2, 8, 0] rfl)) ?_
 rintro _ _ (⟨rfl, g0, z, k, l, L, M, j, a0, b0, f1, g1, h1, i1, j1, k1, G0, H'⟩ | ⟨_, _, _, _, j, a0, b0, rfl, l1, H'⟩)
 rotate_left
 · exact absurd (l1.arm) (by rw [y0]; nofun)
 have u0 := K.app (by omega) f1 g1 h1 i1 (K.cap.step k1)
 have H := H.back (M1 := ((t, .cells #[.P f 0, .string (⟨#[106]⟩ : ByteArray), .slice g (([] : List (BitVec 8)).length) i, .slice A ((([] : List (List (BitVec 8))) ++ [([97#8] : List (BitVec 8))]).length) C, .I o0, .string c0, .slice h0 ((([] : List (BitVec 8)) ++ frameF ([97#8] : List (BitVec 8))).length) i0, .bool true] 41 (0, 0)) :: diskM f X Y Z)) (W1 := [⟨SB, 23, .slice A ((([] : List (List (BitVec 8))) ++ [([97#8] : List (BitVec 8))]).length) C, (([] : List (List (BitVec 8))) ++ [([97#8] : List (BitVec 8))])⟩, ⟨stepS, 143, .slice Y X.steps.length Z, X.steps⟩]) H'
 have H := H.perms (M' := ((t, .cells #[.P f 0, .string (⟨#[106]⟩ : ByteArray), .slice g (([] : List (BitVec 8)).length) i, .slice k (((([] : List (List (BitVec 8))) ++ [([97#8] : List (BitVec 8))]) ++ [([98#8] : List (BitVec 8))]).length) l, .I g0, .string z, .slice L (((([] : List (BitVec 8)) ++ frameF ([97#8] : List (BitVec 8))) ++ frameF ([98#8] : List (BitVec 8))).length) M, .bool false] 41 (0, 0)) :: (diskM f j a0 b0))) (W' := [⟨SB, 23, .slice k (((([] : List (List (BitVec 8))) ++ [([97#8] : List (BitVec 8))]) ++ [([98#8] : List (BitVec 8))]).length) l, ((([] : List (List (BitVec 8))) ++ [([97#8] : List (BitVec 8))]) ++ [([98#8] : List (BitVec 8))])⟩, ⟨stepS, 143, .slice a0 j.steps.length b0, j.steps⟩]) ((List.perm_append_comm (l₁ := ([] : Heap)) (l₂ := diskM f j a0 b0)).cons _) (List.Perm.refl _)
 have H : Hp w S [] _ [_, _] [_, Rp SB [.slice L (((([] : List (BitVec 8)) ++ frameF ([97#8] : List (BitVec 8))) ++ frameF ([98#8] : List (BitVec 8))).length) M] ((([] : List (BitVec 8)) ++ frameF ([97#8] : List (BitVec 8))) ++ frameF ([98#8] : List (BitVec 8))), _, _, _, _, _, _, _, _, _] _ := H
 have p1 := j1.arm.trans y0
 refine uF 2 ?_
 refine qR 3 [.c [4, 0], .c [5]] [(1, .P f 0)] ?_
 refine qG (sq 0 2) ?_
 refine uP 1 ?_
 have H := H.frontW 1 rfl
 have H := H.perms (M' := diskM f j a0 b0 ++ [(t, .cells #[.P f 0, .string (⟨#[106]⟩ : ByteArray), .slice g (([] : List (BitVec 8)).length) i, .slice k (((([] : List (List (BitVec 8))) ++ [([97#8] : List (BitVec 8))]) ++ [([98#8] : List (BitVec 8))]).length) l, .I g0, .string z, .slice L (((([] : List (BitVec 8)) ++ frameF ([97#8] : List (BitVec 8))) ++ frameF ([98#8] : List (BitVec 8))).length) M, .bool false] 41 (0, 0))]) (W' := [⟨stepS, 143, .slice a0 j.steps.length b0, j.steps⟩, ⟨SB, 23, .slice k (((([] : List (List (BitVec 8))) ++ [([97#8] : List (BitVec 8))]) ++ [([98#8] : List (BitVec 8))]).length) l, ((([] : List (List (BitVec 8))) ++ [([97#8] : List (BitVec 8))]) ++ [([98#8] : List (BitVec 8))])⟩]) (List.perm_append_comm (l₁ := diskM f j a0 b0) (l₂ := ([(t, .cells #[.P f 0, .string (⟨#[106]⟩ : ByteArray), .slice g (([] : List (BitVec 8)).length) i, .slice k (((([] : List (List (BitVec 8))) ++ [([97#8] : List (BitVec 8))]) ++ [([98#8] : List (BitVec 8))]).length) l, .I g0, .string z, .slice L (((([] : List (BitVec 8)) ++ frameF ([97#8] : List (BitVec 8))) ++ frameF ([98#8] : List (BitVec 8))).length) M, .bool false] 41 (0, 0))] : Heap))) (List.Perm.refl _)
 refine uKS (dCrash0 u0.di.ok u0.al.hst ((H.lend (M1 := diskM f j a0 b0) (W1 := [⟨stepS, 143, .slice a0 j.steps.length b0, j.steps⟩])).pick [] rfl)) ?_
 rintro _ _ ⟨rfl, D, E, H'⟩
 have H := H.back (M1 := diskM f j a0 b0) (W1 := [⟨stepS, 143, .slice a0 j.steps.length b0, j.steps⟩]) H'
 have H := H.perms (M' := ((t, .cells #[.P f 0, .string (⟨#[106]⟩ : ByteArray), .slice g (([] : List (BitVec 8)).length) i, .slice k (((([] : List (List (BitVec 8))) ++ [([97#8] : List (BitVec 8))]) ++ [([98#8] : List (BitVec 8))]).length) l, .I g0, .string z, .slice L (((([] : List (BitVec 8)) ++ frameF ([97#8] : List (BitVec 8))) ++ frameF ([98#8] : List (BitVec 8))).length) M, .bool false] 41 (0, 0)) :: (diskM f (crashD j [] D E) none 0))) (W' := [⟨stepS, 143, .slice none ((crashD j [] D E).steps.length) 0, (crashD j [] D E).steps⟩, ⟨SB, 23, .slice k (((([] : List (List (BitVec 8))) ++ [([97#8] : List (BitVec 8))]) ++ [([98#8] : List (BitVec 8))]).length) l, ((([] : List (List (BitVec 8))) ++ [([97#8] : List (BitVec 8))]) ++ [([98#8] : List (BitVec 8))])⟩]) ((List.perm_append_comm (l₁ := diskM f (crashD j [] D E) none 0) (l₂ := ([(t, .cells #[.P f 0, .string (⟨#[106]⟩ : ByteArray), .slice g (([] : List (BitVec 8)).length) i, .slice k (((([] : List (List (BitVec 8))) ++ [([97#8] : List (BitVec 8))]) ++ [([98#8] : List (BitVec 8))]).length) l, .I g0, .string z, .slice L (((([] : List (BitVec 8)) ++ frameF ([97#8] : List (BitVec 8))) ++ frameF ([98#8] : List (BitVec 8))).length) M, .bool false] 41 (0, 0))] : Heap))).symm) (List.Perm.refl _)
 have H : Hp w S [] _ [_, _] [_, _, _, _, _, _, _, _, _, _, _] _ := H
 have s0 := heads_crash K u0 (by omega) G0 D E
 have D0 : (crashD j [] D E).armed = false := rfl
 obtain ⟨q9, m1⟩ := s0.op
 refine uF 0 ?_
 refine uR 1 [.c [5, 0], .c [6]] ?_
 refine qG (sq 0 7) ?_
 refine uP 1 ?_
 have H := H.perms (M' := diskM f (crashD j [] D E) none 0 ++ [(t, .cells #[.P f 0, .string (⟨#[106]⟩ : ByteArray), .slice g (([] : List (BitVec 8)).length) i, .slice k (((([] : List (List (BitVec 8))) ++ [([97#8] : List (BitVec 8))]) ++ [([98#8] : List (BitVec 8))]).length) l, .I g0, .string z, .slice L (((([] : List (BitVec 8)) ++ frameF ([97#8] : List (BitVec 8))) ++ frameF ([98#8] : List (BitVec 8))).length) M, .bool false] 41 (0, 0))]) (W' := [⟨stepS, 143, .slice none ((crashD j [] D E).steps.length) 0, (crashD j [] D E).steps⟩, ⟨SB, 23, .slice k (((([] : List (List (BitVec 8))) ++ [([97#8] : List (BitVec 8))]) ++ [([98#8] : List (BitVec 8))]).length) l, ((([] : List (List (BitVec 8))) ++ [([97#8] : List (BitVec 8))]) ++ [([98#8] : List (BitVec 8))])⟩]) (List.perm_append_comm (l₁ := diskM f (crashD j [] D E) none 0) (l₂ := ([(t, .cells #[.P f 0, .string (⟨#[106]⟩ : ByteArray), .slice g (([] : List (BitVec 8)).length) i, .slice k (((([] : List (List (BitVec 8))) ++ [([97#8] : List (BitVec 8))]) ++ [([98#8] : List (BitVec 8))]).length) l, .I g0, .string z, .slice L (((([] : List (BitVec 8)) ++ frameF ([97#8] : List (BitVec 8))) ++ frameF ([98#8] : List (BitVec 8))).length) M, .bool false] 41 (0, 0))] : Heap))) (List.Perm.refl _)
 refine uKS (jopen_law (n := 100000000) (m := 4) (q := q9) (c := 4) plainJ s0.di (s0.al.mono (by omega)) m1 s0.cap (by omega) (fun B R h => CW.hb1 K.bl (Nat.le_trans K.rl (by omega)) K.rb h) ((H.lend (M1 := diskM f (crashD j [] D E) none 0) (W1 := [⟨stepS, 143, .slice none ((crashD j [] D E).steps.length) 0, (crashD j [] D E).steps⟩])).pick [10] rfl)) ?_
 rintro _ _ (⟨l0, _, _, m0, d0, e0, F, J, s, u, y, rfl, H0, p0, I0, H'⟩ | ⟨s, u, y, rfl, _, J0, H'⟩)
 rotate_left
 · exact absurd (J0) (by rw [D0]; nofun)
 obtain ⟨B0, C0⟩ := found_one H0
 subst B0
 subst C0
 have H := H.back (M1 := diskM f (crashD j [] D E) none 0) (W1 := [⟨stepS, 143, .slice none ((crashD j [] D E).steps.length) 0, (crashD j [] D E).steps⟩]) H'
 have H := H.perms (M' := ((l0, .cells #[.P f 0, .string (⟨#[106]⟩ : ByteArray), .slice d0 (([] : List (BitVec 8)).length) e0, .slice F ((([] : List (List (BitVec 8))) ++ [([97#8] : List (BitVec 8))]).length) J, .I m0, .string (⟨#[]⟩ : ByteArray), .slice none (([] : List (BitVec 8)).length) 0, .bool true] 41 (0, 0)) :: (t, .cells #[.P f 0, .string (⟨#[106]⟩ : ByteArray), .slice g (([] : List (BitVec 8)).length) i, .slice k (((([] : List (List (BitVec 8))) ++ [([97#8] : List (BitVec 8))]) ++ [([98#8] : List (BitVec 8))]).length) l, .I g0, .string z, .slice L (((([] : List (BitVec 8)) ++ frameF ([97#8] : List (BitVec 8))) ++ frameF ([98#8] : List (BitVec 8))).length) M, .bool false] 41 (0, 0)) :: (diskM f s u y))) (W' := [⟨SB, 23, .slice F ((([] : List (List (BitVec 8))) ++ [([97#8] : List (BitVec 8))]).length) J, (([] : List (List (BitVec 8))) ++ [([97#8] : List (BitVec 8))])⟩, ⟨stepS, 143, .slice u s.steps.length y, s.steps⟩, ⟨SB, 23, .slice k (((([] : List (List (BitVec 8))) ++ [([97#8] : List (BitVec 8))]) ++ [([98#8] : List (BitVec 8))]).length) l, ((([] : List (List (BitVec 8))) ++ [([97#8] : List (BitVec 8))]) ++ [([98#8] : List (BitVec 8))])⟩]) ((List.perm_append_comm (l₁ := ([(t, .cells #[.P f 0, .string (⟨#[106]⟩ : ByteArray), .slice g (([] : List (BitVec 8)).length) i, .slice k (((([] : List (List (BitVec 8))) ++ [([97#8] : List (BitVec 8))]) ++ [([98#8] : List (BitVec 8))]).length) l, .I g0, .string z, .slice L (((([] : List (BitVec 8)) ++ frameF ([97#8] : List (BitVec 8))) ++ frameF ([98#8] : List (BitVec 8))).length) M, .bool false] 41 (0, 0))] : Heap)) (l₂ := diskM f s u y)).cons _) (List.Perm.refl _)
 have H : Hp w S [] _ [_, _, _] [Rp SB [.slice d0 (([] : List (BitVec 8)).length) e0] ([] : List (BitVec 8)), _, _, _, _, _, _, _, _, _, _, _, _] _ := H
 have o1 := I0.arm.trans D0
 refine uF 5 ?_
 refine uR 6 [.c [7, 0], .c [8]] ?_
 refine qG (sq 0 3) ?_
 refine uP 1 ?_
 refine uKS (jrecs_spec (Nat.le_trans p0.rl (by omega)) p0.rb ((H.lend (M1 := [(l0, .cells #[.P f 0, .string (⟨#[106]⟩ : ByteArray), .slice d0 (([] : List (BitVec 8)).length) e0, .slice F ((([] : List (List (BitVec 8))) ++ [([97#8] : List (BitVec 8))]).length) J, .I m0, .string (⟨#[]⟩ : ByteArray), .slice none (([] : List (BitVec 8)).length) 0, .bool true] 41 (0, 0))]) (W1 := [⟨SB, 23, .slice F ((([] : List (List (BitVec 8))) ++ [([97#8] : List (BitVec 8))]).length) J, (([] : List (List (BitVec 8))) ++ [([97#8] : List (BitVec 8))])⟩])).pick [] rfl)) ?_
 rintro _ _ ⟨q0, r0, rfl, H'⟩
 have H := H.back (M1 := [(l0, .cells #[.P f 0, .string (⟨#[106]⟩ : ByteArray), .slice d0 (([] : List (BitVec 8)).length) e0, .slice F ((([] : List (List (BitVec 8))) ++ [([97#8] : List (BitVec 8))]).length) J, .I m0, .string (⟨#[]⟩ : ByteArray), .slice none (([] : List (BitVec 8)).length) 0, .bool true] 41 (0, 0))]) (W1 := [⟨SB, 23, .slice F ((([] : List (List (BitVec 8))) ++ [([97#8] : List (BitVec 8))]).length) J, (([] : List (List (BitVec 8))) ++ [([97#8] : List (BitVec 8))])⟩]) H'
 have H : Hp w S [] _ [⟨SB, 23, .slice q0 ((([] : List (List (BitVec 8))) ++ [([97#8] : List (BitVec 8))]).length) r0, (([] : List (List (BitVec 8))) ++ [([97#8] : List (BitVec 8))])⟩, _, _, _] [_, _, _, _, _, _, _, _, _, _, _, _, _] _ := H
 refine uF 1 ?_
 refine uR 1 [.c [8, 0], .c [9]] ?_
 refine qG (sq 0 7) ?_
 refine uP 1 ?_
 have H := H.frontW 2 rfl
 have H := H.perms (M' := diskM f s u y ++ [(l0, .cells #[.P f 0, .string (⟨#[106]⟩ : ByteArray), .slice d0 (([] : List (BitVec 8)).length) e0, .slice F ((([] : List (List (BitVec 8))) ++ [([97#8] : List (BitVec 8))]).length) J, .I m0, .string (⟨#[]⟩ : ByteArray), .slice none (([] : List (BitVec 8)).length) 0, .bool true] 41 (0, 0)), (t, .cells #[.P f 0, .string (⟨#[106]⟩ : ByteArray), .slice g (([] : List (BitVec 8)).length) i, .slice k (((([] : List (List (BitVec 8))) ++ [([97#8] : List (BitVec 8))]) ++ [([98#8] : List (BitVec 8))]).length) l, .I g0, .string z, .slice L (((([] : List (BitVec 8)) ++ frameF ([97#8] : List (BitVec 8))) ++ frameF ([98#8] : List (BitVec 8))).length) M, .bool false] 41 (0, 0))]) (W' := [⟨stepS, 143, .slice u s.steps.length y, s.steps⟩, ⟨SB, 23, .slice q0 ((([] : List (List (BitVec 8))) ++ [([97#8] : List (BitVec 8))]).length) r0, (([] : List (List (BitVec 8))) ++ [([97#8] : List (BitVec 8))])⟩, ⟨SB, 23, .slice F ((([] : List (List (BitVec 8))) ++ [([97#8] : List (BitVec 8))]).length) J, (([] : List (List (BitVec 8))) ++ [([97#8] : List (BitVec 8))])⟩, ⟨SB, 23, .slice k (((([] : List (List (BitVec 8))) ++ [([97#8] : List (BitVec 8))]) ++ [([98#8] : List (BitVec 8))]).length) l, ((([] : List (List (BitVec 8))) ++ [([97#8] : List (BitVec 8))]) ++ [([98#8] : List (BitVec 8))])⟩]) (List.perm_append_comm (l₁ := diskM f s u y) (l₂ := ([(l0, .cells #[.P f 0, .string (⟨#[106]⟩ : ByteArray), .slice d0 (([] : List (BitVec 8)).length) e0, .slice F ((([] : List (List (BitVec 8))) ++ [([97#8] : List (BitVec 8))]).length) J, .I m0, .string (⟨#[]⟩ : ByteArray), .slice none (([] : List (BitVec 8)).length) 0, .bool true] 41 (0, 0)), (t, .cells #[.P f 0, .string (⟨#[106]⟩ : ByteArray), .slice g (([] : List (BitVec 8)).length) i, .slice k (((([] : List (List (BitVec 8))) ++ [([97#8] : List (BitVec 8))]) ++ [([98#8] : List (BitVec 8))]).length) l, .I g0, .string z, .slice L (((([] : List (BitVec 8)) ++ frameF ([97#8] : List (BitVec 8))) ++ frameF ([98#8] : List (BitVec 8))).length) M, .bool false] 41 (0, 0))] : Heap))) (List.Perm.refl _)
 refine uKS (jopen_arg p0.di p0.al.dead (by decide) notJ ((H.lend (M1 := diskM f s u y) (W1 := [⟨stepS, 143, .slice u s.steps.length y, s.steps⟩])).pick [] rfl)) ?_
 rintro _ _ ⟨rfl, H'⟩
 have H := H.back (M1 := diskM f s u y) (W1 := [⟨stepS, 143, .slice u s.steps.length y, s.steps⟩]) H'
 have H := H.perms (M' := ((l0, .cells #[.P f 0, .string (⟨#[106]⟩ : ByteArray), .slice d0 (([] : List (BitVec 8)).length) e0, .slice F ((([] : List (List (BitVec 8))) ++ [([97#8] : List (BitVec 8))]).length) J, .I m0, .string (⟨#[]⟩ : ByteArray), .slice none (([] : List (BitVec 8)).length) 0, .bool true] 41 (0, 0)) :: (t, .cells #[.P f 0, .string (⟨#[106]⟩ : ByteArray), .slice g (([] : List (BitVec 8)).length) i, .slice k (((([] : List (List (BitVec 8))) ++ [([97#8] : List (BitVec 8))]) ++ [([98#8] : List (BitVec 8))]).length) l, .I g0, .string z, .slice L (((([] : List (BitVec 8)) ++ frameF ([97#8] : List (BitVec 8))) ++ frameF ([98#8] : List (BitVec 8))).length) M, .bool false] 41 (0, 0)) :: (diskM f s u y))) (W' := [⟨stepS, 143, .slice u s.steps.length y, s.steps⟩, ⟨SB, 23, .slice q0 ((([] : List (List (BitVec 8))) ++ [([97#8] : List (BitVec 8))]).length) r0, (([] : List (List (BitVec 8))) ++ [([97#8] : List (BitVec 8))])⟩, ⟨SB, 23, .slice F ((([] : List (List (BitVec 8))) ++ [([97#8] : List (BitVec 8))]).length) J, (([] : List (List (BitVec 8))) ++ [([97#8] : List (BitVec 8))])⟩, ⟨SB, 23, .slice k (((([] : List (List (BitVec 8))) ++ [([97#8] : List (BitVec 8))]) ++ [([98#8] : List (BitVec 8))]).length) l, ((([] : List (List (BitVec 8))) ++ [([97#8] : List (BitVec 8))]) ++ [([98#8] : List (BitVec 8))])⟩]) (List.perm_append_comm (l₁ := ([(l0, .cells #[.P f 0, .string (⟨#[106]⟩ : ByteArray), .slice d0 (([] : List (BitVec 8)).length) e0, .slice F ((([] : List (List (BitVec 8))) ++ [([97#8] : List (BitVec 8))]).length) J, .I m0, .string (⟨#[]⟩ : ByteArray), .slice none (([] : List (BitVec 8)).length) 0, .bool true] 41 (0, 0)), (t, .cells #[.P f 0, .string (⟨#[106]⟩ : ByteArray), .slice g (([] : List (BitVec 8)).length) i, .slice k (((([] : List (List (BitVec 8))) ++ [([97#8] : List (BitVec 8))]) ++ [([98#8] : List (BitVec 8))]).length) l, .I g0, .string z, .slice L (((([] : List (BitVec 8)) ++ frameF ([97#8] : List (BitVec 8))) ++ frameF ([98#8] : List (BitVec 8))).length) M, .bool false] 41 (0, 0))] : Heap)) (l₂ := diskM f s u y)) (List.Perm.refl _)
 have H : Hp w S [] _ [_, _, _, _] [_, _, _, _, _, _, _, _, _, _, _, _, _] _ := H
 refine qF 5 [(6, .slice q0 ((([] : List (List (BitVec 8))) ++ [([97#8] : List (BitVec 8))]).length) r0), (8, .I 2)] ?_
 refine uR 1 [.c [9, 0], .c [10]] ?_
 refine qG (sq 0 16) ?_
 refine uP 4 ?_
 refine uE 63 (((([] : List (List (BitVec 8))) ++ [([97#8] : List (BitVec 8))]).length : Nat) : Int) 1 (fun E0 => ?_) (fun E0 => ?_)
 ·
  refine uP 1 ?_
  have H := H.frontW 1 rfl
  have K0 : (([] : List (List (BitVec 8))) ++ [([97#8] : List (BitVec 8))]).length = (([] : List (List (BitVec 8))) ++ [([97#8] : List (BitVec 8))]).length := by simp
  have L0 : 0 < (([] : List (List (BitVec 8))) ++ [([97#8] : List (BitVec 8))]).length := by simp
  refine RW.indexW (κ := .seq) (d := some 65) (r := (sq 6 16)) (T := 22) (e := 23) (m := 1) (ik := .i64) (ix := 0) (sh := SB) (xs := (([] : List (List (BitVec 8))) ++ [([97#8] : List (BitVec 8))])) (a := q0) (len := (([] : List (List (BitVec 8))) ++ [([97#8] : List (BitVec 8))]).length) (cap := r0) (by as_aux_lemma => kernel_rfl) (by as_aux_lemma => kernel_rfl) rfl H 0 (by omega) L0 K0 ?_
  intro _ _ _ v0 z0
  obtain ⟨_, _, rfl⟩ := Shape.slice_form' z0
  have H := H.addR z0
  refine uV 23 0 v0 ?_
  refine RW.new (κ := .seq) (d := some 67) (r := (sq 8 16)) (o := .cells #[.int .u8 97] 5 (0, 0)) (v := fun b => .slice (some ⟨b, 0, none⟩) 1 1) (fun b => by as_aux_lemma => kernel_rfl) (nofun) H ?_
  intro F0 _ H
  refine RW.convS (d := some 68) (r := (sq 9 16)) (T := 23) (e := 5) (b := F0) (len := 1) (cap := 1) (by as_aux_lemma => kernel_rfl) (by as_aux_lemma => kernel_rfl) H ?_
  intro _ H
  have H := H.freeze 0 rfl Sb ([97#8] : List (BitVec 8)) 1 (by simp [maxLen]) (by first | exact Nat.le_refl _ | simp) (EsP.cons (c := [.int .u8 97]) (Shape.bv_lit (x := 97#8) (by decide)) EsP.nil)
  have H : Hp w S [] _ [_, _, _, _] [Rp SB [.slice (some ⟨F0, 0, none⟩) 1 1] ([97#8] : List (BitVec 8)), _, _, _, _, _, _, _, _, _, _, _, _, _, _] _ := H
  refine uK (same01N (xs := (([] : List (List (BitVec 8))) ++ [([97#8] : List (BitVec 8))])[0]) (ys := ([97#8] : List (BitVec 8))) (H.rp 1 rfl) (H.rp 0 rfl)) ?_
  rintro _ _ M0 rfl
  have H := H.ext M0
  rw [sameB_eq (show (([] : List (List (BitVec 8))) ++ [([97#8] : List (BitVec 8))])[0] = ([97#8] : List (BitVec 8)) from rfl)]
  refine uF 6 ?_
  refine qT (.bool true) Tryz.func13 ?_
  exact ⟨_, rfl, H.done, rfl⟩
 ·
  exact absurd rfl E0
end Go.Proofs.YtdnibpclkhenmaaGreatDoor
