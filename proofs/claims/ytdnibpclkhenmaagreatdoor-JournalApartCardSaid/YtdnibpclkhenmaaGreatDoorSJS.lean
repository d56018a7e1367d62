import Derived.Test.YtdnibpclkhenmaaGreatDoorSBxA
import Derived.Test.YtdnibpclkhenmaaGreatDoorSJR
import Derived.Test.YtdnibpclkhenmaaGreatDoorSJM
namespace Go.Proofs.YtdnibpclkhenmaaGreatDoor
open Go.BX
theorem newRS (x y : Nat) (nm : ByteArray) : RS (newD x y) nm ⟨0, 0, [], []⟩ :=
 ⟨fun k => ⟨fun n h => by rw [nmAt_newD] at h; exact absurd rfl h, fun h => absurd rfl h, fun n _ h => by rw [nmAt_newD] at h; exact absurd rfl h, fun s hs => (by cases hs)⟩, ⟨fun s hs => (by cases hs), List.Pairwise.nil, fun s hs => (by cases hs), fun _ => rfl⟩, ⟨fun s hs => (by cases hs), fun h => absurd rfl h⟩⟩
theorem RS.op0 {D : DiskD} (hd : DI D) {nm : ByteArray} (h : RS D nm ⟨0, 0, [], []⟩) : OpQ D nm 0 0 (fun B lo hi => B = [] ∧ lo = [] ∧ hi = []) fun B R => B = [] ∧ R = [] :=
 ⟨_, h.pv hd, Nat.le_refl _, h.js (Nat.le_refl _) (fun s hs => (by cases hs)), ⟨rfl, rfl⟩, Nat.le_refl _⟩
theorem OpQ.mono {D : DiskD} {nm : ByteArray} {m q : Nat} {P : Bs → List Bs → List Bs → Prop} {Q Q' : Bs → List Bs → Prop} (h : OpQ D nm m q P Q) (hQ : ∀ B R, Q B R → Q' B R) : OpQ D nm m q P Q' := by
 obtain ⟨V, a, b, c, d, e⟩ := h
 exact ⟨V, a, b, c, hQ _ _ d, e⟩
theorem newAll (x y : Nat) (nms : List ByteArray) : AllOf (newD x y) nms := fun k z h => by rw [nmAt_newD] at h; exact absurd rfl h
abbrev QC (B : Bs) (R0 R : List Bs) : Bs → List Bs → Prop := fun B' R' => ∃ lo hi, (B' = B ∧ R0 <+: lo ∧ hi <+: R) ∧ lo <+: R' ∧ R' <+: hi
theorem JW.hbc {D : DiskD} {nm seg : ByteArray} {B : Bs} {R0 R : List Bs} {g : Nat} {σ : Bs} {sy : Bool} {n m t q c : Nat} (h : JW D nm B R0 R g seg σ sy n m t q c) {B' : Bs} {R' : List Bs} (hq : QC B R0 R B' R') : B'.length ≤ 4194304 ∧ R'.length ≤ m + 1 ∧ ∀ r ∈ R', r.length ≤ 4194304 := by
 obtain ⟨lo, hi, ⟨rfl, _, a⟩, _, b⟩ := hq
 have hp := b.trans a
 exact ⟨h.bl, Nat.le_trans hp.length_le (Nat.le_succ_of_le h.rl), fun r hr => h.rb r (hp.subset hr)⟩
theorem QC.may {B B' t : Bs} {R0 R R' L : List Bs} {torn : Bool} (hq : QC B R0 R B' R') (hRL : R = R0 ++ L) : mayP B t R0 L torn B' R' := by
 obtain ⟨lo, hi, ⟨rfl, a, b⟩, c, d⟩ := hq
 exact .inr ⟨rfl, a.trans c, hRL ▸ d.trans b⟩
theorem QC.len {B B' : Bs} {R0 R R' : List Bs} (hq : QC B R0 R B' R') : R'.length ≤ R.length := by
 obtain ⟨lo, hi, ⟨rfl, _, a⟩, _, b⟩ := hq
 exact (b.trans a).length_le
theorem apart_k {D1 D2 : DiskD} {nm nm2 : ByteArray} {m c : Nat} {B : Bs} {R0 R : List Bs} (h : CW D1 nm2 m c fun B' lo hi => B' = B ∧ R0 <+: lo ∧ hi <+: R) (hp : PlainB nm2) (hs : Stp nm D1 D2) (hne : nm2 ≠ nm) (hd : DI D2) : ∃ q P, OpQ D2 nm2 m q P (QC B R0 R) := by
 obtain ⟨V, hr, ⟨a, b⟩, hP⟩ := h.js.rs h.st
 obtain ⟨q, ho⟩ := RS.op hd (hs.rs nm2 hp hne V hr) a b
 exact ⟨q, _, ho.mono fun B' R' hq => ⟨V.lo, V.hi, ⟨hq.1.trans hP.1, hP.2.1, hP.2.2⟩, hq.2.1, hq.2.2⟩⟩
theorem sumD_up (l : List Act) (i : Nat) : sumD (l.take i) ≤ sumD (l.take (i + 1)) := by
 rcases Nat.lt_or_ge i l.length with h | h
 · rw [sumD_snoc h]; omega
 · rw [List.take_of_length_le h, List.take_of_length_le (Nat.le_succ_of_le h)]
   exact Nat.le_refl _
set_option maxHeartbeats 4000000 in
theorem apart_spec {S : Nat → Prop} {w : World} {l m : List Act} {kp : List (BitVec 8)} {al am ak : Option Addr} {cl cm ck : Nat} (hl : (Rp (Shape.slice actS) [.slice al l.length cl] l).p S w) (hm : (Rp (Shape.slice actS) [.slice am m.length cm] m).p S w) (hk : (Rp SB [.slice ak kp.length ck] kp).p S w) (hq : (Fz jQ).p S w) :
 Calls Tryz.prog 6 #[.slice al l.length cl, .slice am m.length cm, .slice ak kp.length ck] w (Ret fun v w' => Ext w w' ∧ v = .bool true) := by
 refine uS1 Tryz.func6 ?_
 have H := Hp.startF (w := w) (S := S) (G := [Rp (Shape.slice actS) [.slice al l.length cl] l, Rp (Shape.slice actS) [.slice am m.length cm] m, Rp SB [.slice ak kp.length ck] kp, Fz jQ]) (.rp hl (.rp hm (.rp hk (.cons hq .nil))))
 refine uR 4 [.c [1, 0, 0], .c [1, 0, 1], .c [2]] ?_
 refine qG (sq 0 8) ?_
 refine uP 1 ?_
 refine uK (room_spec (H.rp 0 rfl)) ?_
 rintro _ _ l7 ⟨l4, rfl, m7⟩
 have H := H.ext l7
 refine uP 2 ?_
 refine uT 18 (!l4) (fun h5 => ?_) (fun h5 => ?_)
 ·
  replace h5 : (l4) = false := by revert h5; cases (l4) <;> simp
  refine uF 4 ?_
  refine uR 2 [.c [1, 0, 1, 0, 0], .c [1, 0, 1, 0, 1], .c [2]] ?_
  refine qG (sq 0 2) ?_
  refine uK (heads_spec (S := fun _ => True) (H.viewF 3 rfl)) ?_
  rintro _ _ n7 rfl
  have H := H.ext n7
  refine uF 1 ?_
  refine qT (.bool true) Tryz.func6 ?_
  exact ⟨_, rfl, H.done, rfl⟩
 ·
  replace h5 : (l4) = true := by revert h5; cases (l4) <;> simp
  refine uP 1 ?_
  refine uK (room_spec (H.rp 1 rfl)) ?_
  rintro _ _ o7 ⟨M2, rfl, D6⟩
  have H := H.ext o7
  refine uF 2 ?_
  refine qC (!M2) (fun m4 => ?_) (fun m4 => ?_)
  ·
   replace m4 : (M2) = false := by revert m4; cases (M2) <;> simp
   refine uR 1 [.c [1, 0, 1, 0, 0], .c [1, 0, 1, 0, 1], .c [2]] ?_
   refine qG (sq 0 2) ?_
   refine uK (heads_spec (S := fun _ => True) (H.viewF 3 rfl)) ?_
   rintro _ _ E6 rfl
   have H := H.ext E6
   refine uF 1 ?_
   refine qT (.bool true) Tryz.func6 ?_
   exact ⟨_, rfl, H.done, rfl⟩
  ·
   replace m4 : (M2) = true := by revert m4; cases (M2) <;> simp
   have hrl : RoomP l := m7 (by first | assumption | simp_all)
   have hrm : RoomP m := D6 (by first | assumption | simp_all)
   have u7 := hrl.2.1
   have v7 := hrm.2.1
   have w7 := hrl.2.2
   have x7 := hrm.2.2
   refine qR 2 [.c [2, 0], .c [3]] [(0, .slice al l.length cl), (1, .slice am m.length cm), (2, .slice ak kp.length ck)] ?_
   refine qG (sq 0 2) ?_
   refine uK (new_spec (S := Av S w [] (idsOf [] []))) ?_
   rintro _ _ - ⟨a, I0, J0, rfl, H'⟩
   have H := H.back (M1 := []) (W1 := []) H'
   have H := H.perms (M' := ((diskM a (newD I0 J0) none 0))) (W' := [⟨stepS, 143, .slice none ((newD I0 J0).steps.length) 0, (newD I0 J0).steps⟩]) ((List.perm_append_comm (l₁ := diskM a (newD I0 J0) none 0) (l₂ := ([] : Heap))).symm) (List.Perm.refl _)
   have H : Hp w S [] _ [_] [_, _, _, _] _ := H
   have k7 : DOk (newD I0 J0) := newD_ok I0 J0
   refine uF 1 ?_
   refine uR 1 [.c [3, 0], .c [4]] ?_
   refine qG (sq 0 7) ?_
   refine uP 1 ?_
   have u4 := newD_CW I0 J0 (⟨#[106]⟩ : ByteArray)
   have k5 : (newD I0 J0).armed = false := rfl
   have H := H.perms (M' := diskM a (newD I0 J0) none 0 ++ []) (W' := [⟨stepS, 143, .slice none ((newD I0 J0).steps.length) 0, (newD I0 J0).steps⟩]) (List.perm_append_comm (l₁ := diskM a (newD I0 J0) none 0) (l₂ := ([] : Heap))) (List.Perm.refl _)
   refine uKS (jopen_law (n := 200000000) (m := 0) (q := 0) (c := 0) plainJ u4.di (u4.al.mono (by omega)) (newD_op I0 J0 _) u4.cap (by omega) (fun B R h => CW.hb0 h) ((H.lend (M1 := diskM a (newD I0 J0) none 0) (W1 := [⟨stepS, 143, .slice none ((newD I0 J0).steps.length) 0, (newD I0 J0).steps⟩])).pick [3] rfl)) ?_
   rintro _ _ (⟨N, _, _, u2, I1, J1, f1, g1, h1, i1, j1, rfl, F6, N2, v4, H'⟩ | ⟨h1, i1, j1, rfl, _, G6, H'⟩)
   rotate_left
   · exact absurd (G6) (by rw [k5]; nofun)
   obtain ⟨l5, m5⟩ := F6
   subst l5
   subst m5
   have H := H.back (M1 := diskM a (newD I0 J0) none 0) (W1 := [⟨stepS, 143, .slice none ((newD I0 J0).steps.length) 0, (newD I0 J0).steps⟩]) H'
   have H := H.perms (M' := ((N, .cells #[.P a 0, .string (⟨#[106]⟩ : ByteArray), .slice I1 (([] : List (BitVec 8)).length) J1, .slice f1 (([] : List (List (BitVec 8))).length) g1, .I u2, .string (⟨#[]⟩ : ByteArray), .slice none (([] : List (BitVec 8)).length) 0, .bool true] 41 (0, 0)) :: (diskM a h1 i1 j1))) (W' := [⟨SB, 23, .slice f1 (([] : List (List (BitVec 8))).length) g1, ([] : List (List (BitVec 8)))⟩, ⟨stepS, 143, .slice i1 h1.steps.length j1, h1.steps⟩]) ((List.perm_append_comm (l₁ := ([] : Heap)) (l₂ := diskM a h1 i1 j1)).cons _) (List.Perm.refl _)
   have H : Hp w S [] _ [_, _] [Rp SB [.slice I1 (([] : List (BitVec 8)).length) J1] ([] : List (BitVec 8)), Rp SB [.slice none (([] : List (BitVec 8)).length) 0] ([] : List (BitVec 8)), _, _, _, _] _ := H
   have R4 := v4.arm.trans k5
   have H6 := v4.all [(⟨#[106]⟩ : ByteArray), (⟨#[107]⟩ : ByteArray)] (by simp) (newAll I0 J0 _)
   have I6 := v4.rs (⟨#[107]⟩ : ByteArray) plainK.1 (by decide) _ (newRS I0 J0 (⟨#[107]⟩ : ByteArray))
   refine uF 5 ?_
   refine uR 1 [.c [4, 0], .c [5]] ?_
   refine qG (sq 0 7) ?_
   refine uP 1 ?_
   have H := H.frontW 1 rfl
   have H := H.perms (M' := diskM a h1 i1 j1 ++ [(N, .cells #[.P a 0, .string (⟨#[106]⟩ : ByteArray), .slice I1 (([] : List (BitVec 8)).length) J1, .slice f1 (([] : List (List (BitVec 8))).length) g1, .I u2, .string (⟨#[]⟩ : ByteArray), .slice none (([] : List (BitVec 8)).length) 0, .bool true] 41 (0, 0))]) (W' := [⟨stepS, 143, .slice i1 h1.steps.length j1, h1.steps⟩, ⟨SB, 23, .slice f1 (([] : List (List (BitVec 8))).length) g1, ([] : List (List (BitVec 8)))⟩]) (List.perm_append_comm (l₁ := diskM a h1 i1 j1) (l₂ := ([(N, .cells #[.P a 0, .string (⟨#[106]⟩ : ByteArray), .slice I1 (([] : List (BitVec 8)).length) J1, .slice f1 (([] : List (List (BitVec 8))).length) g1, .I u2, .string (⟨#[]⟩ : ByteArray), .slice none (([] : List (BitVec 8)).length) 0, .bool true] 41 (0, 0))] : Heap))) (List.Perm.refl _)
   refine uKS (jopen_law (n := 199000000) (m := 0) (q := 0) (c := 1) plainK N2.di (N2.al.mono (by omega)) (RS.op0 N2.di I6) N2.cap (by omega) (fun B R h => CW.hb0 h) ((H.lend (M1 := diskM a h1 i1 j1) (W1 := [⟨stepS, 143, .slice i1 h1.steps.length j1, h1.steps⟩])).pick [5] rfl)) ?_
   rintro _ _ (⟨O, _, _, S4, O2, P2, Q2, R2, v2, g2, h2, rfl, J6, Z2, w4, H'⟩ | ⟨v2, g2, h2, rfl, _, K6, H'⟩)
   rotate_left
   · exact absurd (K6) (by rw [R4]; nofun)
   obtain ⟨l5, m5⟩ := J6
   subst l5
   subst m5
   have H := H.back (M1 := diskM a h1 i1 j1) (W1 := [⟨stepS, 143, .slice i1 h1.steps.length j1, h1.steps⟩]) H'
   have H := H.perms (M' := ((O, .cells #[.P a 0, .string (⟨#[107]⟩ : ByteArray), .slice O2 (([] : List (BitVec 8)).length) P2, .slice Q2 (([] : List (List (BitVec 8))).length) R2, .I S4, .string (⟨#[]⟩ : ByteArray), .slice none (([] : List (BitVec 8)).length) 0, .bool true] 41 (0, 0)) :: (N, .cells #[.P a 0, .string (⟨#[106]⟩ : ByteArray), .slice I1 (([] : List (BitVec 8)).length) J1, .slice f1 (([] : List (List (BitVec 8))).length) g1, .I u2, .string (⟨#[]⟩ : ByteArray), .slice none (([] : List (BitVec 8)).length) 0, .bool true] 41 (0, 0)) :: (diskM a v2 g2 h2))) (W' := [⟨SB, 23, .slice Q2 (([] : List (List (BitVec 8))).length) R2, ([] : List (List (BitVec 8)))⟩, ⟨stepS, 143, .slice g2 v2.steps.length h2, v2.steps⟩, ⟨SB, 23, .slice f1 (([] : List (List (BitVec 8))).length) g1, ([] : List (List (BitVec 8)))⟩]) ((List.perm_append_comm (l₁ := ([(N, .cells #[.P a 0, .string (⟨#[106]⟩ : ByteArray), .slice I1 (([] : List (BitVec 8)).length) J1, .slice f1 (([] : List (List (BitVec 8))).length) g1, .I u2, .string (⟨#[]⟩ : ByteArray), .slice none (([] : List (BitVec 8)).length) 0, .bool true] 41 (0, 0))] : Heap)) (l₂ := diskM a v2 g2 h2)).cons _) (List.Perm.refl _)
   have H : Hp w S [] _ [_, _, _] [Rp SB [.slice O2 (([] : List (BitVec 8)).length) P2] ([] : List (BitVec 8)), _, _, _, _, _, _, _] _ := H
   have Y5 := w4.arm.trans R4
   have L6 := N2.oth w4 (by decide) Z2.di Z2.al Z2.cap
   have M6 := w4.all [(⟨#[106]⟩ : ByteArray), (⟨#[107]⟩ : ByteArray)] (by simp) H6
   refine uF 5 ?_
   refine uR 6 [.c [6, 0], .c [7]] ?_
   refine qG (sq 0 6) ?_
   refine uP 1 ?_
   refine uC #[.slice none 0 0, .slice none 0 0, .slice none 0 0, .slice none 0 0, .slice none 0 0, .bool false, .slice none 0 0] 50 H ?_
   intro j0 _ H
   refine uP 1 ?_
   refine uC #[.slice none 0 0, .slice none 0 0, .slice none 0 0, .slice none 0 0, .slice none 0 0, .bool false, .slice none 0 0] 50 H ?_
   intro k0 _ H
   refine qF 2 [(0, .slice al l.length cl), (1, .slice am m.length cm), (2, .slice ak kp.length ck), (7, .P a 0), (8, .P N 0), (10, .P O 0), (12, .P j0 0), (13, .P k0 0)] ?_
   refine uR 4 [.c [7, 0, 1, 0], .b 0, .c [8]] ?_
   have H := H.ownNil SB 23
   have H := H.ownNil SB 23
   have H : Hp w S [] ((k0, .cells #[.slice none 0 0, .slice none 0 0, .slice none 0 0, .slice none 0 0, .slice none 0 0, .bool false, .slice none 0 0] 50 (0, 0)) :: (j0, .cells #[.slice none 0 0, .slice none 0 0, .slice none 0 0, .slice none 0 0, .slice none 0 0, .bool false, .slice none 0 0] 50 (0, 0)) :: (O, .cells #[.P a 0, .string (⟨#[107]⟩ : ByteArray), .slice O2 (([] : List (BitVec 8)).length) P2, .slice Q2 (([] : List (List (BitVec 8))).length) R2, .I S4, .string (⟨#[]⟩ : ByteArray), .slice none (([] : List (BitVec 8)).length) 0, .bool true] 41 (0, 0)) :: (N, .cells #[.P a 0, .string (⟨#[106]⟩ : ByteArray), .slice I1 (([] : List (BitVec 8)).length) J1, .slice f1 (([] : List (List (BitVec 8))).length) g1, .I u2, .string (⟨#[]⟩ : ByteArray), .slice none (([] : List (BitVec 8)).length) 0, .bool true] 41 (0, 0)) :: (diskM a v2 g2 h2)) [⟨SB, 23, .slice none (([] : List (List (BitVec 8))).length) 0, ([] : List (List (BitVec 8)))⟩, ⟨SB, 23, .slice none (([] : List (List (BitVec 8))).length) 0, ([] : List (List (BitVec 8)))⟩, _, _, _] [_, _, _, _, _, _, _, _] _ := H
   have H := H.ownNil SB 23
   have H := H.ownNil SB 23
   have H : Hp w S [] _ [_, _, _, _, _, _, _] [_, _, _, _, _, _, _, _] _ := H
   have H := H.add (F := Rp SB [.slice none 0 0] ([] : List (BitVec 8))) Shape.slice_nil
   have H := H.add (F := Rp (Shape.slice SB) [.slice none (([] : List (List (BitVec 8))).length) 0] ([] : List (List (BitVec 8)))) Shape.slice_nil
   have H : Hp w S [] ((k0, .cells #[.slice none (([] : List (BitVec 8)).length) 0, .slice none (([] : List (List (BitVec 8))).length) 0, .slice none (([] : List (BitVec 8)).length) 0, .slice none (([] : List (List (BitVec 8))).length) 0, .slice none (([] : List (List (BitVec 8))).length) 0, .bool false, .slice none (([] : List (BitVec 8)).length) 0] 50 (0, 0)) :: (j0, .cells #[.slice none (([] : List (BitVec 8)).length) 0, .slice none (([] : List (List (BitVec 8))).length) 0, .slice none (([] : List (BitVec 8)).length) 0, .slice none (([] : List (List (BitVec 8))).length) 0, .slice none (([] : List (List (BitVec 8))).length) 0, .bool false, .slice none (([] : List (BitVec 8)).length) 0] 50 (0, 0)) :: (O, .cells #[.P a 0, .string (⟨#[107]⟩ : ByteArray), .slice O2 (([] : List (BitVec 8)).length) P2, .slice Q2 (([] : List (List (BitVec 8))).length) R2, .I S4, .string (⟨#[]⟩ : ByteArray), .slice none (([] : List (BitVec 8)).length) 0, .bool true] 41 (0, 0)) :: (N, .cells #[.P a 0, .string (⟨#[106]⟩ : ByteArray), .slice I1 (([] : List (BitVec 8)).length) J1, .slice f1 (([] : List (List (BitVec 8))).length) g1, .I u2, .string (⟨#[]⟩ : ByteArray), .slice none (([] : List (BitVec 8)).length) 0, .bool true] 41 (0, 0)) :: (diskM a v2 g2 h2)) [_, _, _, _, _, _, _] [_, _, _, _, _, _, _, _, _, _] _ := H
   have H := H.pick [6, 7, 8, 9, 4, 3, 3, 3, 3, 0, 2, 3, 3, 3, 3, 0] rfl
   have H := H.frontM 2 rfl
   have H := H.frontM 2 rfl
   have H := H.frontM 3 rfl
   have H := H.frontW 5 rfl
   have H := H.frontW 1 rfl
   have H := H.frontW 2 rfl
   have H := H.frontW 5 rfl
   have H := H.frontW 4 rfl
   have H := H.frontW 5 rfl
   have H := H.frontW 6 rfl
   refine uL (α := Nat × DiskD × Option Addr × Nat × List (BitVec 8) × List (List (BitVec 8)) × List (List (BitVec 8)) × Nat × ByteArray × List (BitVec 8) × Bool × List (List (BitVec 8)) × Option Addr × Nat × Option Addr × Nat × Option Addr × Nat × Option Addr × Nat × Option Addr × Nat × Option Addr × Nat × Option Addr × Nat × Option Addr × Nat × List (BitVec 8) × List (List (BitVec 8)) × List (List (BitVec 8)) × Nat × ByteArray × List (BitVec 8) × Bool × List (List (BitVec 8)) × Option Addr × Nat × Option Addr × Nat × Option Addr × Nat × Option Addr × Nat × Option Addr × Nat × Option Addr × Nat × Option Addr × Nat × Option Addr × Nat) (g := 6) (p := [7, 0, 1, 0, 0]) (fun (i, D, sa, sk, j, u0, e, v0, Q, σ1z, e0, z, f0, g0, A, C, h0, i0, l0, m0, E, J, n0, o0, p0, q0, K, L, f, r0, d, s0, M, σ2z, T, k, U, V, u, y, W, X, Y, Z, o, r, a0, b0, c0, d0, s, t) => [(0, .slice al l.length cl), (1, .slice am m.length cm), (2, .slice ak kp.length ck), (7, .P a 0), (8, .P N 0), (10, .P O 0), (12, .P j0 0), (13, .P k0 0), (14, .I i)]) (fun (i, D, sa, sk, j, u0, e, v0, Q, σ1z, e0, z, f0, g0, A, C, h0, i0, l0, m0, E, J, n0, o0, p0, q0, K, L, f, r0, d, s0, M, σ2z, T, k, U, V, u, y, W, X, Y, Z, o, r, a0, b0, c0, d0, s, t) w' => Hp w S [] ((N, .cells #[.P a 0, .string (⟨#[106]⟩ : ByteArray), .slice f0 j.length g0, .slice A e.length C, .I v0, .string Q, .slice h0 σ1z.length i0, .bool e0] 41 (0, 0)) :: (j0, .cells #[.slice l0 j.length m0, .slice E e.length J, .slice n0 j.length o0, .slice p0 u0.length q0, .slice K z.length L, .bool false, .slice none (([] : List (BitVec 8)).length) 0] 50 (0, 0)) :: (O, .cells #[.P a 0, .string (⟨#[107]⟩ : ByteArray), .slice U f.length V, .slice u d.length y, .I s0, .string M, .slice W σ2z.length X, .bool T] 41 (0, 0)) :: (k0, .cells #[.slice Y f.length Z, .slice o d.length r, .slice a0 f.length b0, .slice c0 r0.length d0, .slice s k.length t, .bool false, .slice none (([] : List (BitVec 8)).length) 0] 50 (0, 0)) :: (diskM a D sa sk)) [⟨SB, 23, .slice A e.length C, e⟩, ⟨SB, 23, .slice E e.length J, e⟩, ⟨SB, 23, .slice K z.length L, z⟩, ⟨SB, 23, .slice u d.length y, d⟩, ⟨SB, 23, .slice o d.length r, d⟩, ⟨SB, 23, .slice s k.length t, k⟩, ⟨stepS, 143, .slice sa D.steps.length sk, D.steps⟩] [Rp (Shape.slice actS) [.slice al l.length cl] l, Rp (Shape.slice actS) [.slice am m.length cm] m, Rp SB [.slice ak kp.length ck] kp, Fz jQ, Rp SB [.slice f0 j.length g0] j, Rp SB [.slice h0 σ1z.length i0] σ1z, Rp SB [.slice l0 j.length m0] j, Rp SB [.slice n0 j.length o0] j, Rp SB [.slice none (([] : List (BitVec 8)).length) 0] ([] : List (BitVec 8)), Rp (Shape.slice SB) [.slice p0 u0.length q0] u0, Rp SB [.slice U f.length V] f, Rp SB [.slice W σ2z.length X] σ2z, Rp SB [.slice Y f.length Z] f, Rp SB [.slice a0 f.length b0] f, Rp SB [.slice none (([] : List (BitVec 8)).length) 0] ([] : List (BitVec 8)), Rp (Shape.slice SB) [.slice c0 r0.length d0] r0] w' ∧ i ≤ 200 ∧ JW D (⟨#[106]⟩ : ByteArray) j u0 e v0 Q σ1z e0 (600000 * (202 - i)) (i + 1) (sumD (l.take i) + 12 * i) 0 8 ∧ JW D (⟨#[107]⟩ : ByteArray) f r0 d s0 M σ2z T (600000 * (202 - i)) (i + 1) (sumD (m.take i) + 12 * i) 0 8 ∧ e = u0 ++ z ∧ d = r0 ++ k ∧ AllOf D [(⟨#[106]⟩ : ByteArray), (⟨#[107]⟩ : ByteArray)] ∧ D.armed = false) (fun (i, D, sa, sk, j, u0, e, v0, Q, σ1z, e0, z, f0, g0, A, C, h0, i0, l0, m0, E, J, n0, o0, p0, q0, K, L, f, r0, d, s0, M, σ2z, T, k, U, V, u, y, W, X, Y, Z, o, r, a0, b0, c0, d0, s, t) => 200 - i) (0, v2, g2, h2, ([] : List (BitVec 8)), ([] : List (List (BitVec 8))), ([] : List (List (BitVec 8))), u2, (⟨#[]⟩ : ByteArray), ([] : List (BitVec 8)), true, ([] : List (List (BitVec 8))), I1, J1, f1, g1, none, 0, none, 0, none, 0, none, 0, none, 0, none, 0, ([] : List (BitVec 8)), ([] : List (List (BitVec 8))), ([] : List (List (BitVec 8))), S4, (⟨#[]⟩ : ByteArray), ([] : List (BitVec 8)), true, ([] : List (List (BitVec 8))), O2, P2, Q2, R2, none, 0, none, 0, none, 0, none, 0, none, 0, none, 0) ⟨H, Nat.zero_le _, L6.mono (by omega) (by omega) (by first | omega | (rw [sumD_snoc (by omega)]; omega) | (have := sumD_up l i; omega)) (Nat.le_refl _) (by omega), Z2.mono (by omega) (by omega) (by first | omega | (rw [sumD_snoc (by omega)]; omega) | (have := sumD_up m i; omega)) (Nat.le_refl _) (by omega), rfl, rfl, M6, Y5⟩ ?_
   rintro ⟨i, D, sa, sk, j, u0, e, v0, Q, σ1z, e0, z, f0, g0, A, C, h0, i0, l0, m0, E, J, n0, o0, p0, q0, K, L, f, r0, d, s0, M, σ2z, T, k, U, V, u, y, W, X, Y, Z, o, r, a0, b0, c0, d0, s, t⟩ _ ⟨H, ⟨hi, E0, G0, q2, Q1, hal, hna⟩⟩ Q0
   refine uR 2 [.c [7, 0, 1, 0, 0, 0, 0], .c [7, 0, 1, 0, 0, 0, 1], .c [7, 0, 1, 0, 0, 1], .l [7, 0, 1, 0, 0], .b 0, .c [8]] ?_
   refine qG (sq 0 10) ?_
   refine uP 5 ?_
   refine uD 57 (((i : Int) : Int) < ((l.length : Nat) : Int)) (fun p7 => ?_) (fun p7 => ?_)
   ·
    have N6 := sumD_take l i
    have O6 := sumD_take m i
    have n5 := E0.rl
    have o5 := G0.rl
    refine uF 5 ?_
    refine uR 5 [.c [7, 0, 1, 0, 0, 1, 0, 0, 0], .c [7, 0, 1, 0, 0, 1, 0, 0, 1], .b 1, .c [7, 0, 1, 0, 0, 2], .l [7, 0, 1, 0, 0], .b 0, .c [8]] ?_
    refine qG (sq 0 30) ?_
    refine uP 5 ?_
    refine uD 69 (((i : Int) : Int) < ((l.length : Nat) : Int)) (fun q7 => ?_) (fun q7 => ?_)
    ·
     refine uP 4 ?_
     have P6 : i < l.length := by omega
     refine uX 46 (i : Int) H 0 rfl i (by omega) (List.getElem?_eq_getElem P6) ?_
     intro r7 s7 _ Q6 H
     obtain ⟨Z5, a6, rfl, _, R6, _⟩ := act_open Q6
     have H := H.addR R6
     refine uV 53 0 (H.fc 1 rfl) ?_
     have H := H.frontM 1 rfl
     have H := H.frontM 1 rfl
     have H := H.frontW 6 rfl
     have H := H.frontW 3 rfl
     have H := H.frontW 3 rfl
     have H := H.frontW 3 rfl
     have H := H.perms (M' := ((N, .cells #[.P a 0, .string (⟨#[106]⟩ : ByteArray), .slice f0 j.length g0, .slice A e.length C, .I v0, .string Q, .slice h0 σ1z.length i0, .bool e0] 41 (0, 0)) :: (j0, .cells #[.slice l0 j.length m0, .slice E e.length J, .slice n0 j.length o0, .slice p0 u0.length q0, .slice K z.length L, .bool false, .slice none (([] : List (BitVec 8)).length) 0] 50 (0, 0)) :: diskM a D sa sk) ++ [(O, .cells #[.P a 0, .string (⟨#[107]⟩ : ByteArray), .slice U f.length V, .slice u d.length y, .I s0, .string M, .slice W σ2z.length X, .bool T] 41 (0, 0)), (k0, .cells #[.slice Y f.length Z, .slice o d.length r, .slice a0 f.length b0, .slice c0 r0.length d0, .slice s k.length t, .bool false, .slice none (([] : List (BitVec 8)).length) 0] 50 (0, 0))]) (W' := [⟨SB, 23, .slice A e.length C, e⟩, ⟨SB, 23, .slice E e.length J, e⟩, ⟨SB, 23, .slice K z.length L, z⟩, ⟨stepS, 143, .slice sa D.steps.length sk, D.steps⟩, ⟨SB, 23, .slice u d.length y, d⟩, ⟨SB, 23, .slice o d.length r, d⟩, ⟨SB, 23, .slice s k.length t, k⟩]) (((List.perm_append_comm (l₁ := diskM a D sa sk) (l₂ := ([(O, .cells #[.P a 0, .string (⟨#[107]⟩ : ByteArray), .slice U f.length V, .slice u d.length y, .I s0, .string M, .slice W σ2z.length X, .bool T] 41 (0, 0)), (k0, .cells #[.slice Y f.length Z, .slice o d.length r, .slice a0 f.length b0, .slice c0 r0.length d0, .slice s k.length t, .bool false, .slice none (([] : List (BitVec 8)).length) 0] 50 (0, 0))] : Heap))).cons _).cons _) (List.Perm.refl _)
     refine uKS (plainly_spec (x := l[i]) (n := ((600000 * (202 - i)) - 300000)) (E0.mono (by omega) (Nat.le_refl _) (Nat.le_refl _) (Nat.le_refl _) (Nat.le_refl _)) (two_names E0.jl.names G0.jl.names hal) hna q2 (hrl.at (by omega)) (by omega) (by omega) ((H.lend (M1 := ((N, .cells #[.P a 0, .string (⟨#[106]⟩ : ByteArray), .slice f0 j.length g0, .slice A e.length C, .I v0, .string Q, .slice h0 σ1z.length i0, .bool e0] 41 (0, 0)) :: (j0, .cells #[.slice l0 j.length m0, .slice E e.length J, .slice n0 j.length o0, .slice p0 u0.length q0, .slice K z.length L, .bool false, .slice none (([] : List (BitVec 8)).length) 0] 50 (0, 0)) :: diskM a D sa sk)) (W1 := [⟨SB, 23, .slice A e.length C, e⟩, ⟨SB, 23, .slice E e.length J, e⟩, ⟨SB, 23, .slice K z.length L, z⟩, ⟨stepS, 143, .slice sa D.steps.length sk, D.steps⟩])).pick [6, 7, 8, 9, 10, 11, 5, 0] rfl)) ?_
     rintro _ _ ⟨rfl, k1, l1, m1, H0, r2, F0, H1, S2, K1, σ83, i2, R1, S1, y1, z1, T1, U1, V1, X1, A1, B1, w2, x2, y2, z2, C1, W0, c2, T4, U4, n4, H'⟩
     have H := H.back (M1 := ((N, .cells #[.P a 0, .string (⟨#[106]⟩ : ByteArray), .slice f0 j.length g0, .slice A e.length C, .I v0, .string Q, .slice h0 σ1z.length i0, .bool e0] 41 (0, 0)) :: (j0, .cells #[.slice l0 j.length m0, .slice E e.length J, .slice n0 j.length o0, .slice p0 u0.length q0, .slice K z.length L, .bool false, .slice none (([] : List (BitVec 8)).length) 0] 50 (0, 0)) :: diskM a D sa sk)) (W1 := [⟨SB, 23, .slice A e.length C, e⟩, ⟨SB, 23, .slice E e.length J, e⟩, ⟨SB, 23, .slice K z.length L, z⟩, ⟨stepS, 143, .slice sa D.steps.length sk, D.steps⟩]) H'
     have H := H.perms (M' := ((N, .cells #[.P a 0, .string (⟨#[106]⟩ : ByteArray), .slice R1 H0.length S1, .slice y1 F0.length z1, .I S2, .string K1, .slice T1 σ83.length U1, .bool i2] 41 (0, 0)) :: (j0, .cells #[.slice V1 H0.length X1, .slice A1 F0.length B1, .slice w2 H0.length x2, .slice y2 r2.length z2, .slice C1 H1.length W0, .bool false, .slice none (([] : List (BitVec 8)).length) 0] 50 (0, 0)) :: (O, .cells #[.P a 0, .string (⟨#[107]⟩ : ByteArray), .slice U f.length V, .slice u d.length y, .I s0, .string M, .slice W σ2z.length X, .bool T] 41 (0, 0)) :: (k0, .cells #[.slice Y f.length Z, .slice o d.length r, .slice a0 f.length b0, .slice c0 r0.length d0, .slice s k.length t, .bool false, .slice none (([] : List (BitVec 8)).length) 0] 50 (0, 0)) :: (diskM a k1 l1 m1))) (W' := [⟨SB, 23, .slice y1 F0.length z1, F0⟩, ⟨SB, 23, .slice A1 F0.length B1, F0⟩, ⟨SB, 23, .slice C1 H1.length W0, H1⟩, ⟨stepS, 143, .slice l1 k1.steps.length m1, k1.steps⟩, ⟨SB, 23, .slice u d.length y, d⟩, ⟨SB, 23, .slice o d.length r, d⟩, ⟨SB, 23, .slice s k.length t, k⟩]) (((List.perm_append_comm (l₁ := ([(O, .cells #[.P a 0, .string (⟨#[107]⟩ : ByteArray), .slice U f.length V, .slice u d.length y, .I s0, .string M, .slice W σ2z.length X, .bool T] 41 (0, 0)), (k0, .cells #[.slice Y f.length Z, .slice o d.length r, .slice a0 f.length b0, .slice c0 r0.length d0, .slice s k.length t, .bool false, .slice none (([] : List (BitVec 8)).length) 0] 50 (0, 0))] : Heap)) (l₂ := diskM a k1 l1 m1)).cons _).cons _) (List.Perm.refl _)
     have H : Hp w S [] _ [_, _, _, _, _, _, _] [Rp SB [.slice R1 H0.length S1] H0, Rp SB [.slice T1 σ83.length U1] σ83, Rp SB [.slice V1 H0.length X1] H0, Rp SB [.slice w2 H0.length x2] H0, _, Rp (Shape.slice SB) [.slice y2 r2.length z2] r2, _, Fc r7 s7 [.I ((l[i]).kind), .slice Z5 ((l[i]).data.length) a6, .I ((l[i]).n)], _, _, _, _, _, _, _, _, _, _, _, _, _, _, _, _] _ := H
     have a3 := G0.oth U4 (by decide) c2.di c2.al c2.cap
     have T2 := U4.all _ (by simp) hal
     refine uP 8 ?_
     refine uD 84 (((i : Int) : Int) < ((m.length : Nat) : Int)) (fun S6 => ?_) (fun S6 => ?_)
     ·
      refine uP 4 ?_
      have b6 : i < m.length := by omega
      refine uX 46 (i : Int) H 9 rfl i (by omega) (List.getElem?_eq_getElem b6) ?_
      intro T6 U6 _ c6 H
      obtain ⟨p5, q5, rfl, _, d6, _⟩ := act_open c6
      have H := H.addR d6
      refine uV 53 0 (H.fc 1 rfl) ?_
      have H := H.frontM 3 rfl
      have H := H.frontM 3 rfl
      have H := H.frontW 3 rfl
      have H := H.frontW 6 rfl
      have H := H.frontW 6 rfl
      have H := H.frontW 6 rfl
      have H := H.perms (M' := ((O, .cells #[.P a 0, .string (⟨#[107]⟩ : ByteArray), .slice U f.length V, .slice u d.length y, .I s0, .string M, .slice W σ2z.length X, .bool T] 41 (0, 0)) :: (k0, .cells #[.slice Y f.length Z, .slice o d.length r, .slice a0 f.length b0, .slice c0 r0.length d0, .slice s k.length t, .bool false, .slice none (([] : List (BitVec 8)).length) 0] 50 (0, 0)) :: diskM a k1 l1 m1) ++ [(N, .cells #[.P a 0, .string (⟨#[106]⟩ : ByteArray), .slice R1 H0.length S1, .slice y1 F0.length z1, .I S2, .string K1, .slice T1 σ83.length U1, .bool i2] 41 (0, 0)), (j0, .cells #[.slice V1 H0.length X1, .slice A1 F0.length B1, .slice w2 H0.length x2, .slice y2 r2.length z2, .slice C1 H1.length W0, .bool false, .slice none (([] : List (BitVec 8)).length) 0] 50 (0, 0))]) (W' := [⟨SB, 23, .slice u d.length y, d⟩, ⟨SB, 23, .slice o d.length r, d⟩, ⟨SB, 23, .slice s k.length t, k⟩, ⟨stepS, 143, .slice l1 k1.steps.length m1, k1.steps⟩, ⟨SB, 23, .slice y1 F0.length z1, F0⟩, ⟨SB, 23, .slice A1 F0.length B1, F0⟩, ⟨SB, 23, .slice C1 H1.length W0, H1⟩]) (((List.perm_append_comm (l₁ := diskM a k1 l1 m1) (l₂ := ([(N, .cells #[.P a 0, .string (⟨#[106]⟩ : ByteArray), .slice R1 H0.length S1, .slice y1 F0.length z1, .I S2, .string K1, .slice T1 σ83.length U1, .bool i2] 41 (0, 0)), (j0, .cells #[.slice V1 H0.length X1, .slice A1 F0.length B1, .slice w2 H0.length x2, .slice y2 r2.length z2, .slice C1 H1.length W0, .bool false, .slice none (([] : List (BitVec 8)).length) 0] 50 (0, 0))] : Heap))).cons _).cons _) (List.Perm.refl _)
      refine uKS (plainly_spec (x := m[i]) (n := (((600000 * (202 - i)) - 300000) - 300000)) (a3.mono (by omega) (Nat.le_refl _) (Nat.le_refl _) (Nat.le_refl _) (Nat.le_refl _)) (two_names c2.jl.names a3.jl.names T2) n4 Q1 (hrm.at (by omega)) (by omega) (by omega) ((H.lend (M1 := ((O, .cells #[.P a 0, .string (⟨#[107]⟩ : ByteArray), .slice U f.length V, .slice u d.length y, .I s0, .string M, .slice W σ2z.length X, .bool T] 41 (0, 0)) :: (k0, .cells #[.slice Y f.length Z, .slice o d.length r, .slice a0 f.length b0, .slice c0 r0.length d0, .slice s k.length t, .bool false, .slice none (([] : List (BitVec 8)).length) 0] 50 (0, 0)) :: diskM a k1 l1 m1)) (W1 := [⟨SB, 23, .slice u d.length y, d⟩, ⟨SB, 23, .slice o d.length r, d⟩, ⟨SB, 23, .slice s k.length t, k⟩, ⟨stepS, 143, .slice l1 k1.steps.length m1, k1.steps⟩])).pick [20, 21, 22, 23, 6, 25, 13, 0] rfl)) ?_
      rintro _ _ ⟨rfl, U2, A2, B2, D1, b3, j2, c3, r5, o4, σ127, V4, d3, e3, f3, g3, h3, i3, j3, k3, l3, m3, x4, y4, z4, A4, n3, o3, C2, e6, W4, s5, H'⟩
      have H := H.back (M1 := ((O, .cells #[.P a 0, .string (⟨#[107]⟩ : ByteArray), .slice U f.length V, .slice u d.length y, .I s0, .string M, .slice W σ2z.length X, .bool T] 41 (0, 0)) :: (k0, .cells #[.slice Y f.length Z, .slice o d.length r, .slice a0 f.length b0, .slice c0 r0.length d0, .slice s k.length t, .bool false, .slice none (([] : List (BitVec 8)).length) 0] 50 (0, 0)) :: diskM a k1 l1 m1)) (W1 := [⟨SB, 23, .slice u d.length y, d⟩, ⟨SB, 23, .slice o d.length r, d⟩, ⟨SB, 23, .slice s k.length t, k⟩, ⟨stepS, 143, .slice l1 k1.steps.length m1, k1.steps⟩]) H'
      have H := H.perms (M' := ((O, .cells #[.P a 0, .string (⟨#[107]⟩ : ByteArray), .slice d3 D1.length e3, .slice f3 j2.length g3, .I r5, .string o4, .slice h3 σ127.length i3, .bool V4] 41 (0, 0)) :: (k0, .cells #[.slice j3 D1.length k3, .slice l3 j2.length m3, .slice x4 D1.length y4, .slice z4 b3.length A4, .slice n3 c3.length o3, .bool false, .slice none (([] : List (BitVec 8)).length) 0] 50 (0, 0)) :: (N, .cells #[.P a 0, .string (⟨#[106]⟩ : ByteArray), .slice R1 H0.length S1, .slice y1 F0.length z1, .I S2, .string K1, .slice T1 σ83.length U1, .bool i2] 41 (0, 0)) :: (j0, .cells #[.slice V1 H0.length X1, .slice A1 F0.length B1, .slice w2 H0.length x2, .slice y2 r2.length z2, .slice C1 H1.length W0, .bool false, .slice none (([] : List (BitVec 8)).length) 0] 50 (0, 0)) :: (diskM a U2 A2 B2))) (W' := [⟨SB, 23, .slice f3 j2.length g3, j2⟩, ⟨SB, 23, .slice l3 j2.length m3, j2⟩, ⟨SB, 23, .slice n3 c3.length o3, c3⟩, ⟨stepS, 143, .slice A2 U2.steps.length B2, U2.steps⟩, ⟨SB, 23, .slice y1 F0.length z1, F0⟩, ⟨SB, 23, .slice A1 F0.length B1, F0⟩, ⟨SB, 23, .slice C1 H1.length W0, H1⟩]) (((List.perm_append_comm (l₁ := ([(N, .cells #[.P a 0, .string (⟨#[106]⟩ : ByteArray), .slice R1 H0.length S1, .slice y1 F0.length z1, .I S2, .string K1, .slice T1 σ83.length U1, .bool i2] 41 (0, 0)), (j0, .cells #[.slice V1 H0.length X1, .slice A1 F0.length B1, .slice w2 H0.length x2, .slice y2 r2.length z2, .slice C1 H1.length W0, .bool false, .slice none (([] : List (BitVec 8)).length) 0] 50 (0, 0))] : Heap)) (l₂ := diskM a U2 A2 B2)).cons _).cons _) (List.Perm.refl _)
      have H : Hp w S [] _ [_, _, _, _, _, _, _] [Rp SB [.slice d3 D1.length e3] D1, Rp SB [.slice h3 σ127.length i3] σ127, Rp SB [.slice j3 D1.length k3] D1, Rp SB [.slice x4 D1.length y4] D1, _, Rp (Shape.slice SB) [.slice z4 b3.length A4] b3, _, Fc T6 U6 [.I ((m[i]).kind), .slice p5 ((m[i]).data.length) q5, .I ((m[i]).n)], _, _, _, _, _, _, _, _, _, _, _, _, _, _, _, _, _, _, _, _, _, _, _, _] _ := H
      have f6 := c2.oth W4 (by decide) C2.di C2.al C2.cap
      have t5 := W4.all _ (by simp) T2
      refine uF 3 ?_
      refine uR 3 [.c [7, 0, 1, 0, 0, 2], .l [7, 0, 1, 0, 0], .b 0, .c [8]] ?_
      refine qG (sq 0 3) ?_
      refine qP 1 (sq 1 3) [(0, .slice al l.length cl), (1, .slice am m.length cm), (2, .slice ak kp.length ck), (7, .P a 0), (8, .P N 0), (10, .P O 0), (12, .P j0 0), (13, .P k0 0), (14, .I i), (63, .I i)] ?_
      refine uI ((i : Int) + 1) ?_
      refine uF 1 ?_
      have H := H.pick [16, 17, 18, 19, 8, 9, 10, 11, 4, 13, 0, 1, 2, 3, 4, 5] rfl
      have H := H.frontM 1 rfl
      have H := H.frontM 1 rfl
      have H := H.frontM 3 rfl
      have H := H.frontM 3 rfl
      have H := H.frontW 3 rfl
      have H := H.frontW 3 rfl
      have H := H.frontW 3 rfl
      have H := H.frontW 3 rfl
      have H := H.frontW 6 rfl
      have H := H.frontW 6 rfl
      have H := H.frontW 6 rfl
      exact uB (Q0 (i + 1, U2, A2, B2, H0, r2, F0, S2, K1, σ83, i2, H1, R1, S1, y1, z1, T1, U1, V1, X1, A1, B1, w2, x2, y2, z2, C1, W0, D1, b3, j2, r5, o4, σ127, V4, c3, d3, e3, f3, g3, h3, i3, j3, k3, l3, m3, x4, y4, z4, A4, n3, o3) _ ⟨H, by omega, f6.mono (by omega) (by omega) (by first | omega | (rw [sumD_snoc (by omega)]; omega) | (have := sumD_up l i; omega)) (Nat.le_refl _) (by omega), C2.mono (by omega) (by omega) (by first | omega | (rw [sumD_snoc (by omega)]; omega) | (have := sumD_up m i; omega)) (Nat.le_refl _) (by omega), T4, e6, t5, s5⟩ (by first | omega | (simp only []; omega)))
     ·
      refine uF 10 ?_
      refine uR 3 [.c [7, 0, 1, 0, 0, 2], .l [7, 0, 1, 0, 0], .b 0, .c [8]] ?_
      refine qG (sq 0 3) ?_
      refine uP 1 ?_
      refine uI ((i : Int) + 1) ?_
      refine uF 1 ?_
      have H := H.pick [8, 9, 10, 11, 0, 1, 2, 3, 4, 5, 18, 19, 20, 21, 4, 23] rfl
      have H := H.frontW 3 rfl
      have H := H.frontW 6 rfl
      have H := H.frontW 6 rfl
      have H := H.frontW 6 rfl
      have H := H.frontW 6 rfl
      have H := H.frontW 6 rfl
      have H := H.frontW 6 rfl
      exact uB (Q0 (i + 1, k1, l1, m1, H0, r2, F0, S2, K1, σ83, i2, H1, R1, S1, y1, z1, T1, U1, V1, X1, A1, B1, w2, x2, y2, z2, C1, W0, f, r0, d, s0, M, σ2z, T, k, U, V, u, y, W, X, Y, Z, o, r, a0, b0, c0, d0, s, t) _ ⟨H, by omega, c2.mono (by omega) (by omega) (by first | omega | (rw [sumD_snoc (by omega)]; omega) | (have := sumD_up l i; omega)) (Nat.le_refl _) (by omega), a3.mono (by omega) (by omega) (by first | omega | (rw [sumD_snoc (by omega)]; omega) | (have := sumD_up m i; omega)) (Nat.le_refl _) (by omega), T4, Q1, T2, n4⟩ (by first | omega | (simp only []; omega)))
    ·
     refine uP 15 ?_
     refine uD 84 (((i : Int) : Int) < ((m.length : Nat) : Int)) (fun V6 => ?_) (fun V6 => ?_)
     ·
      refine uP 4 ?_
      have g6 : i < m.length := by omega
      refine uX 46 (i : Int) H 1 rfl i (by omega) (List.getElem?_eq_getElem g6) ?_
      intro W6 X6 _ h6 H
      obtain ⟨u5, v5, rfl, _, i6, _⟩ := act_open h6
      have H := H.addR i6
      refine uV 53 0 (H.fc 1 rfl) ?_
      have H := H.frontM 3 rfl
      have H := H.frontM 3 rfl
      have H := H.frontW 6 rfl
      have H := H.frontW 6 rfl
      have H := H.frontW 6 rfl
      have H := H.frontW 6 rfl
      have H := H.perms (M' := ((O, .cells #[.P a 0, .string (⟨#[107]⟩ : ByteArray), .slice U f.length V, .slice u d.length y, .I s0, .string M, .slice W σ2z.length X, .bool T] 41 (0, 0)) :: (k0, .cells #[.slice Y f.length Z, .slice o d.length r, .slice a0 f.length b0, .slice c0 r0.length d0, .slice s k.length t, .bool false, .slice none (([] : List (BitVec 8)).length) 0] 50 (0, 0)) :: diskM a D sa sk) ++ [(N, .cells #[.P a 0, .string (⟨#[106]⟩ : ByteArray), .slice f0 j.length g0, .slice A e.length C, .I v0, .string Q, .slice h0 σ1z.length i0, .bool e0] 41 (0, 0)), (j0, .cells #[.slice l0 j.length m0, .slice E e.length J, .slice n0 j.length o0, .slice p0 u0.length q0, .slice K z.length L, .bool false, .slice none (([] : List (BitVec 8)).length) 0] 50 (0, 0))]) (W' := [⟨SB, 23, .slice u d.length y, d⟩, ⟨SB, 23, .slice o d.length r, d⟩, ⟨SB, 23, .slice s k.length t, k⟩, ⟨stepS, 143, .slice sa D.steps.length sk, D.steps⟩, ⟨SB, 23, .slice A e.length C, e⟩, ⟨SB, 23, .slice E e.length J, e⟩, ⟨SB, 23, .slice K z.length L, z⟩]) (((List.perm_append_comm (l₁ := diskM a D sa sk) (l₂ := ([(N, .cells #[.P a 0, .string (⟨#[106]⟩ : ByteArray), .slice f0 j.length g0, .slice A e.length C, .I v0, .string Q, .slice h0 σ1z.length i0, .bool e0] 41 (0, 0)), (j0, .cells #[.slice l0 j.length m0, .slice E e.length J, .slice n0 j.length o0, .slice p0 u0.length q0, .slice K z.length L, .bool false, .slice none (([] : List (BitVec 8)).length) 0] 50 (0, 0))] : Heap))).cons _).cons _) (List.Perm.refl _)
      refine uKS (plainly_spec (x := m[i]) (n := ((600000 * (202 - i)) - 300000)) (G0.mono (by omega) (Nat.le_refl _) (Nat.le_refl _) (Nat.le_refl _) (Nat.le_refl _)) (two_names E0.jl.names G0.jl.names hal) hna Q1 (hrm.at (by omega)) (by omega) (by omega) ((H.lend (M1 := ((O, .cells #[.P a 0, .string (⟨#[107]⟩ : ByteArray), .slice U f.length V, .slice u d.length y, .I s0, .string M, .slice W σ2z.length X, .bool T] 41 (0, 0)) :: (k0, .cells #[.slice Y f.length Z, .slice o d.length r, .slice a0 f.length b0, .slice c0 r0.length d0, .slice s k.length t, .bool false, .slice none (([] : List (BitVec 8)).length) 0] 50 (0, 0)) :: diskM a D sa sk)) (W1 := [⟨SB, 23, .slice u d.length y, d⟩, ⟨SB, 23, .slice o d.length r, d⟩, ⟨SB, 23, .slice s k.length t, k⟩, ⟨stepS, 143, .slice sa D.steps.length sk, D.steps⟩])).pick [12, 13, 14, 15, 10, 17, 5, 0] rfl)) ?_
      rintro _ _ ⟨rfl, V2, D2, E2, E1, p3, k2, q3, w5, p4, σ171, X4, r3, s3, t3, u3, v3, w3, x3, y3, z3, A3, B4, C4, D4, E4, B3, C3, F2, j6, Y4, x5, H'⟩
      have H := H.back (M1 := ((O, .cells #[.P a 0, .string (⟨#[107]⟩ : ByteArray), .slice U f.length V, .slice u d.length y, .I s0, .string M, .slice W σ2z.length X, .bool T] 41 (0, 0)) :: (k0, .cells #[.slice Y f.length Z, .slice o d.length r, .slice a0 f.length b0, .slice c0 r0.length d0, .slice s k.length t, .bool false, .slice none (([] : List (BitVec 8)).length) 0] 50 (0, 0)) :: diskM a D sa sk)) (W1 := [⟨SB, 23, .slice u d.length y, d⟩, ⟨SB, 23, .slice o d.length r, d⟩, ⟨SB, 23, .slice s k.length t, k⟩, ⟨stepS, 143, .slice sa D.steps.length sk, D.steps⟩]) H'
      have H := H.perms (M' := ((O, .cells #[.P a 0, .string (⟨#[107]⟩ : ByteArray), .slice r3 E1.length s3, .slice t3 k2.length u3, .I w5, .string p4, .slice v3 σ171.length w3, .bool X4] 41 (0, 0)) :: (k0, .cells #[.slice x3 E1.length y3, .slice z3 k2.length A3, .slice B4 E1.length C4, .slice D4 p3.length E4, .slice B3 q3.length C3, .bool false, .slice none (([] : List (BitVec 8)).length) 0] 50 (0, 0)) :: (N, .cells #[.P a 0, .string (⟨#[106]⟩ : ByteArray), .slice f0 j.length g0, .slice A e.length C, .I v0, .string Q, .slice h0 σ1z.length i0, .bool e0] 41 (0, 0)) :: (j0, .cells #[.slice l0 j.length m0, .slice E e.length J, .slice n0 j.length o0, .slice p0 u0.length q0, .slice K z.length L, .bool false, .slice none (([] : List (BitVec 8)).length) 0] 50 (0, 0)) :: (diskM a V2 D2 E2))) (W' := [⟨SB, 23, .slice t3 k2.length u3, k2⟩, ⟨SB, 23, .slice z3 k2.length A3, k2⟩, ⟨SB, 23, .slice B3 q3.length C3, q3⟩, ⟨stepS, 143, .slice D2 V2.steps.length E2, V2.steps⟩, ⟨SB, 23, .slice A e.length C, e⟩, ⟨SB, 23, .slice E e.length J, e⟩, ⟨SB, 23, .slice K z.length L, z⟩]) (((List.perm_append_comm (l₁ := ([(N, .cells #[.P a 0, .string (⟨#[106]⟩ : ByteArray), .slice f0 j.length g0, .slice A e.length C, .I v0, .string Q, .slice h0 σ1z.length i0, .bool e0] 41 (0, 0)), (j0, .cells #[.slice l0 j.length m0, .slice E e.length J, .slice n0 j.length o0, .slice p0 u0.length q0, .slice K z.length L, .bool false, .slice none (([] : List (BitVec 8)).length) 0] 50 (0, 0))] : Heap)) (l₂ := diskM a V2 D2 E2)).cons _).cons _) (List.Perm.refl _)
      have H : Hp w S [] _ [_, _, _, _, _, _, _] [Rp SB [.slice r3 E1.length s3] E1, Rp SB [.slice v3 σ171.length w3] σ171, Rp SB [.slice x3 E1.length y3] E1, Rp SB [.slice B4 E1.length C4] E1, _, Rp (Shape.slice SB) [.slice D4 p3.length E4] p3, _, Fc W6 X6 [.I ((m[i]).kind), .slice u5 ((m[i]).data.length) v5, .I ((m[i]).n)], _, _, _, _, _, _, _, _, _, _, _, _, _, _, _, _] _ := H
      have k6 := E0.oth Y4 (by decide) F2.di F2.al F2.cap
      have y5 := Y4.all _ (by simp) hal
      refine uF 3 ?_
      refine qR 3 [.c [7, 0, 1, 0, 0, 2], .l [7, 0, 1, 0, 0], .b 0, .c [8]] [(0, .slice al l.length cl), (1, .slice am m.length cm), (2, .slice ak kp.length ck), (7, .P a 0), (8, .P N 0), (10, .P O 0), (12, .P j0 0), (13, .P k0 0), (14, .I i)] ?_
      refine qG (sq 0 3) ?_
      refine uP 1 ?_
      refine uI ((i : Int) + 1) ?_
      refine uF 1 ?_
      have H := H.pick [8, 9, 10, 11, 12, 13, 14, 15, 4, 17, 0, 1, 2, 3, 4, 5] rfl
      have H := H.frontM 1 rfl
      have H := H.frontM 1 rfl
      have H := H.frontM 3 rfl
      have H := H.frontM 3 rfl
      have H := H.frontW 3 rfl
      have H := H.frontW 3 rfl
      have H := H.frontW 3 rfl
      have H := H.frontW 3 rfl
      have H := H.frontW 6 rfl
      have H := H.frontW 6 rfl
      have H := H.frontW 6 rfl
      exact uB (Q0 (i + 1, V2, D2, E2, j, u0, e, v0, Q, σ1z, e0, z, f0, g0, A, C, h0, i0, l0, m0, E, J, n0, o0, p0, q0, K, L, E1, p3, k2, w5, p4, σ171, X4, q3, r3, s3, t3, u3, v3, w3, x3, y3, z3, A3, B4, C4, D4, E4, B3, C3) _ ⟨H, by omega, k6.mono (by omega) (by omega) (by first | omega | (rw [sumD_snoc (by omega)]; omega) | (have := sumD_up l i; omega)) (Nat.le_refl _) (by omega), F2.mono (by omega) (by omega) (by first | omega | (rw [sumD_snoc (by omega)]; omega) | (have := sumD_up m i; omega)) (Nat.le_refl _) (by omega), q2, j6, y5, x5⟩ (by first | omega | (simp only []; omega)))
     ·
      refine uF 10 ?_
      refine uR 3 [.c [7, 0, 1, 0, 0, 2], .l [7, 0, 1, 0, 0], .b 0, .c [8]] ?_
      refine qG (sq 0 3) ?_
      refine uP 1 ?_
      refine uI ((i : Int) + 1) ?_
      refine uF 1 ?_
      exact uB (Q0 (i + 1, D, sa, sk, j, u0, e, v0, Q, σ1z, e0, z, f0, g0, A, C, h0, i0, l0, m0, E, J, n0, o0, p0, q0, K, L, f, r0, d, s0, M, σ2z, T, k, U, V, u, y, W, X, Y, Z, o, r, a0, b0, c0, d0, s, t) _ ⟨H, by omega, E0.mono (by omega) (by omega) (by first | omega | (rw [sumD_snoc (by omega)]; omega) | (have := sumD_up l i; omega)) (Nat.le_refl _) (by omega), G0.mono (by omega) (by omega) (by first | omega | (rw [sumD_snoc (by omega)]; omega) | (have := sumD_up m i; omega)) (Nat.le_refl _) (by omega), q2, Q1, hal, hna⟩ (by first | omega | (simp only []; omega)))
   ·
    refine uF 5 ?_
    refine qD (((i : Int) : Int) < ((m.length : Nat) : Int)) (fun Y6 => ?_) (fun Y6 => ?_)
    ·
     have N6 := sumD_take l i
     have O6 := sumD_take m i
     have n5 := E0.rl
     have o5 := G0.rl
     refine uR 4 [.c [7, 0, 1, 0, 0, 1, 0, 0, 0], .c [7, 0, 1, 0, 0, 1, 0, 0, 1], .b 1, .c [7, 0, 1, 0, 0, 2], .l [7, 0, 1, 0, 0], .b 0, .c [8]] ?_
     refine qG (sq 0 30) ?_
     refine uP 5 ?_
     refine uD 69 (((i : Int) : Int) < ((l.length : Nat) : Int)) (fun Z6 => ?_) (fun Z6 => ?_)
     ·
      refine uP 4 ?_
      have l6 : i < l.length := by omega
      refine uX 46 (i : Int) H 0 rfl i (by omega) (List.getElem?_eq_getElem l6) ?_
      intro a7 b7 _ m6 H
      obtain ⟨z5, A5, rfl, _, n6, _⟩ := act_open m6
      have H := H.addR n6
      refine uV 53 0 (H.fc 1 rfl) ?_
      have H := H.frontM 1 rfl
      have H := H.frontM 1 rfl
      have H := H.frontW 6 rfl
      have H := H.frontW 3 rfl
      have H := H.frontW 3 rfl
      have H := H.frontW 3 rfl
      have H := H.perms (M' := ((N, .cells #[.P a 0, .string (⟨#[106]⟩ : ByteArray), .slice f0 j.length g0, .slice A e.length C, .I v0, .string Q, .slice h0 σ1z.length i0, .bool e0] 41 (0, 0)) :: (j0, .cells #[.slice l0 j.length m0, .slice E e.length J, .slice n0 j.length o0, .slice p0 u0.length q0, .slice K z.length L, .bool false, .slice none (([] : List (BitVec 8)).length) 0] 50 (0, 0)) :: diskM a D sa sk) ++ [(O, .cells #[.P a 0, .string (⟨#[107]⟩ : ByteArray), .slice U f.length V, .slice u d.length y, .I s0, .string M, .slice W σ2z.length X, .bool T] 41 (0, 0)), (k0, .cells #[.slice Y f.length Z, .slice o d.length r, .slice a0 f.length b0, .slice c0 r0.length d0, .slice s k.length t, .bool false, .slice none (([] : List (BitVec 8)).length) 0] 50 (0, 0))]) (W' := [⟨SB, 23, .slice A e.length C, e⟩, ⟨SB, 23, .slice E e.length J, e⟩, ⟨SB, 23, .slice K z.length L, z⟩, ⟨stepS, 143, .slice sa D.steps.length sk, D.steps⟩, ⟨SB, 23, .slice u d.length y, d⟩, ⟨SB, 23, .slice o d.length r, d⟩, ⟨SB, 23, .slice s k.length t, k⟩]) (((List.perm_append_comm (l₁ := diskM a D sa sk) (l₂ := ([(O, .cells #[.P a 0, .string (⟨#[107]⟩ : ByteArray), .slice U f.length V, .slice u d.length y, .I s0, .string M, .slice W σ2z.length X, .bool T] 41 (0, 0)), (k0, .cells #[.slice Y f.length Z, .slice o d.length r, .slice a0 f.length b0, .slice c0 r0.length d0, .slice s k.length t, .bool false, .slice none (([] : List (BitVec 8)).length) 0] 50 (0, 0))] : Heap))).cons _).cons _) (List.Perm.refl _)
      refine uKS (plainly_spec (x := l[i]) (n := ((600000 * (202 - i)) - 300000)) (E0.mono (by omega) (Nat.le_refl _) (Nat.le_refl _) (Nat.le_refl _) (Nat.le_refl _)) (two_names E0.jl.names G0.jl.names hal) hna q2 (hrl.at (by omega)) (by omega) (by omega) ((H.lend (M1 := ((N, .cells #[.P a 0, .string (⟨#[106]⟩ : ByteArray), .slice f0 j.length g0, .slice A e.length C, .I v0, .string Q, .slice h0 σ1z.length i0, .bool e0] 41 (0, 0)) :: (j0, .cells #[.slice l0 j.length m0, .slice E e.length J, .slice n0 j.length o0, .slice p0 u0.length q0, .slice K z.length L, .bool false, .slice none (([] : List (BitVec 8)).length) 0] 50 (0, 0)) :: diskM a D sa sk)) (W1 := [⟨SB, 23, .slice A e.length C, e⟩, ⟨SB, 23, .slice E e.length J, e⟩, ⟨SB, 23, .slice K z.length L, z⟩, ⟨stepS, 143, .slice sa D.steps.length sk, D.steps⟩])).pick [6, 7, 8, 9, 10, 11, 5, 0] rfl)) ?_
      rintro _ _ ⟨rfl, N0, R0, S0, x0, L1, w0, V0, l2, n1, σ216, N1, p1, q1, X0, Y0, r1, s1, t1, u1, Z0, a1, Y1, Z1, a2, b2, b1, c1, d2, Z4, a5, q4, H'⟩
      have H := H.back (M1 := ((N, .cells #[.P a 0, .string (⟨#[106]⟩ : ByteArray), .slice f0 j.length g0, .slice A e.length C, .I v0, .string Q, .slice h0 σ1z.length i0, .bool e0] 41 (0, 0)) :: (j0, .cells #[.slice l0 j.length m0, .slice E e.length J, .slice n0 j.length o0, .slice p0 u0.length q0, .slice K z.length L, .bool false, .slice none (([] : List (BitVec 8)).length) 0] 50 (0, 0)) :: diskM a D sa sk)) (W1 := [⟨SB, 23, .slice A e.length C, e⟩, ⟨SB, 23, .slice E e.length J, e⟩, ⟨SB, 23, .slice K z.length L, z⟩, ⟨stepS, 143, .slice sa D.steps.length sk, D.steps⟩]) H'
      have H := H.perms (M' := ((N, .cells #[.P a 0, .string (⟨#[106]⟩ : ByteArray), .slice p1 x0.length q1, .slice X0 w0.length Y0, .I l2, .string n1, .slice r1 σ216.length s1, .bool N1] 41 (0, 0)) :: (j0, .cells #[.slice t1 x0.length u1, .slice Z0 w0.length a1, .slice Y1 x0.length Z1, .slice a2 L1.length b2, .slice b1 V0.length c1, .bool false, .slice none (([] : List (BitVec 8)).length) 0] 50 (0, 0)) :: (O, .cells #[.P a 0, .string (⟨#[107]⟩ : ByteArray), .slice U f.length V, .slice u d.length y, .I s0, .string M, .slice W σ2z.length X, .bool T] 41 (0, 0)) :: (k0, .cells #[.slice Y f.length Z, .slice o d.length r, .slice a0 f.length b0, .slice c0 r0.length d0, .slice s k.length t, .bool false, .slice none (([] : List (BitVec 8)).length) 0] 50 (0, 0)) :: (diskM a N0 R0 S0))) (W' := [⟨SB, 23, .slice X0 w0.length Y0, w0⟩, ⟨SB, 23, .slice Z0 w0.length a1, w0⟩, ⟨SB, 23, .slice b1 V0.length c1, V0⟩, ⟨stepS, 143, .slice R0 N0.steps.length S0, N0.steps⟩, ⟨SB, 23, .slice u d.length y, d⟩, ⟨SB, 23, .slice o d.length r, d⟩, ⟨SB, 23, .slice s k.length t, k⟩]) (((List.perm_append_comm (l₁ := ([(O, .cells #[.P a 0, .string (⟨#[107]⟩ : ByteArray), .slice U f.length V, .slice u d.length y, .I s0, .string M, .slice W σ2z.length X, .bool T] 41 (0, 0)), (k0, .cells #[.slice Y f.length Z, .slice o d.length r, .slice a0 f.length b0, .slice c0 r0.length d0, .slice s k.length t, .bool false, .slice none (([] : List (BitVec 8)).length) 0] 50 (0, 0))] : Heap)) (l₂ := diskM a N0 R0 S0)).cons _).cons _) (List.Perm.refl _)
      have H : Hp w S [] _ [_, _, _, _, _, _, _] [Rp SB [.slice p1 x0.length q1] x0, Rp SB [.slice r1 σ216.length s1] σ216, Rp SB [.slice t1 x0.length u1] x0, Rp SB [.slice Y1 x0.length Z1] x0, _, Rp (Shape.slice SB) [.slice a2 L1.length b2] L1, _, Fc a7 b7 [.I ((l[i]).kind), .slice z5 ((l[i]).data.length) A5, .I ((l[i]).n)], _, _, _, _, _, _, _, _, _, _, _, _, _, _, _, _] _ := H
      have D3 := G0.oth a5 (by decide) d2.di d2.al d2.cap
      have W2 := a5.all _ (by simp) hal
      refine uP 8 ?_
      refine uD 84 (((i : Int) : Int) < ((m.length : Nat) : Int)) (fun c7 => ?_) (fun c7 => ?_)
      ·
       refine qP 4 (sq 24 30) [(0, .slice al l.length cl), (1, .slice am m.length cm), (2, .slice ak kp.length ck), (7, .P a 0), (8, .P N 0), (10, .P O 0), (12, .P j0 0), (13, .P k0 0), (14, .I i), (79, .bool false), (84, .bool true), (85, .P O 0), (86, .P k0 0), (87, .slice am m.length cm), (88, .I i)] ?_
       have o6 : i < m.length := by omega
       refine uX 46 (i : Int) H 9 rfl i (by omega) (List.getElem?_eq_getElem o6) ?_
       intro d7 e7 _ p6 H
       obtain ⟨B5, C5, rfl, _, q6, _⟩ := act_open p6
       have H := H.addR q6
       refine uV 53 0 (H.fc 1 rfl) ?_
       have H := H.frontM 3 rfl
       have H := H.frontM 3 rfl
       have H := H.frontW 3 rfl
       have H := H.frontW 6 rfl
       have H := H.frontW 6 rfl
       have H := H.frontW 6 rfl
       have H := H.perms (M' := ((O, .cells #[.P a 0, .string (⟨#[107]⟩ : ByteArray), .slice U f.length V, .slice u d.length y, .I s0, .string M, .slice W σ2z.length X, .bool T] 41 (0, 0)) :: (k0, .cells #[.slice Y f.length Z, .slice o d.length r, .slice a0 f.length b0, .slice c0 r0.length d0, .slice s k.length t, .bool false, .slice none (([] : List (BitVec 8)).length) 0] 50 (0, 0)) :: diskM a N0 R0 S0) ++ [(N, .cells #[.P a 0, .string (⟨#[106]⟩ : ByteArray), .slice p1 x0.length q1, .slice X0 w0.length Y0, .I l2, .string n1, .slice r1 σ216.length s1, .bool N1] 41 (0, 0)), (j0, .cells #[.slice t1 x0.length u1, .slice Z0 w0.length a1, .slice Y1 x0.length Z1, .slice a2 L1.length b2, .slice b1 V0.length c1, .bool false, .slice none (([] : List (BitVec 8)).length) 0] 50 (0, 0))]) (W' := [⟨SB, 23, .slice u d.length y, d⟩, ⟨SB, 23, .slice o d.length r, d⟩, ⟨SB, 23, .slice s k.length t, k⟩, ⟨stepS, 143, .slice R0 N0.steps.length S0, N0.steps⟩, ⟨SB, 23, .slice X0 w0.length Y0, w0⟩, ⟨SB, 23, .slice Z0 w0.length a1, w0⟩, ⟨SB, 23, .slice b1 V0.length c1, V0⟩]) (((List.perm_append_comm (l₁ := diskM a N0 R0 S0) (l₂ := ([(N, .cells #[.P a 0, .string (⟨#[106]⟩ : ByteArray), .slice p1 x0.length q1, .slice X0 w0.length Y0, .I l2, .string n1, .slice r1 σ216.length s1, .bool N1] 41 (0, 0)), (j0, .cells #[.slice t1 x0.length u1, .slice Z0 w0.length a1, .slice Y1 x0.length Z1, .slice a2 L1.length b2, .slice b1 V0.length c1, .bool false, .slice none (([] : List (BitVec 8)).length) 0] 50 (0, 0))] : Heap))).cons _).cons _) (List.Perm.refl _)
       refine uKS (plainly_spec (x := m[i]) (n := (((600000 * (202 - i)) - 300000) - 300000)) (D3.mono (by omega) (Nat.le_refl _) (Nat.le_refl _) (Nat.le_refl _) (Nat.le_refl _)) (two_names d2.jl.names D3.jl.names W2) q4 Q1 (hrm.at (by omega)) (by omega) (by omega) ((H.lend (M1 := ((O, .cells #[.P a 0, .string (⟨#[107]⟩ : ByteArray), .slice U f.length V, .slice u d.length y, .I s0, .string M, .slice W σ2z.length X, .bool T] 41 (0, 0)) :: (k0, .cells #[.slice Y f.length Z, .slice o d.length r, .slice a0 f.length b0, .slice c0 r0.length d0, .slice s k.length t, .bool false, .slice none (([] : List (BitVec 8)).length) 0] 50 (0, 0)) :: diskM a N0 R0 S0)) (W1 := [⟨SB, 23, .slice u d.length y, d⟩, ⟨SB, 23, .slice o d.length r, d⟩, ⟨SB, 23, .slice s k.length t, k⟩, ⟨stepS, 143, .slice R0 N0.steps.length S0, N0.steps⟩])).pick [20, 21, 22, 23, 6, 25, 13, 0] rfl)) ?_
       rintro _ _ ⟨rfl, X2, G2, H2, F1, E3, m2, F3, D5, r4, σ260, b5, G3, H3, I3, J3, K3, L3, M3, N3, O3, P3, F4, G4, H4, I4, Q3, R3, I2, r6, c5, E5, H'⟩
       have H := H.back (M1 := ((O, .cells #[.P a 0, .string (⟨#[107]⟩ : ByteArray), .slice U f.length V, .slice u d.length y, .I s0, .string M, .slice W σ2z.length X, .bool T] 41 (0, 0)) :: (k0, .cells #[.slice Y f.length Z, .slice o d.length r, .slice a0 f.length b0, .slice c0 r0.length d0, .slice s k.length t, .bool false, .slice none (([] : List (BitVec 8)).length) 0] 50 (0, 0)) :: diskM a N0 R0 S0)) (W1 := [⟨SB, 23, .slice u d.length y, d⟩, ⟨SB, 23, .slice o d.length r, d⟩, ⟨SB, 23, .slice s k.length t, k⟩, ⟨stepS, 143, .slice R0 N0.steps.length S0, N0.steps⟩]) H'
       have H := H.perms (M' := ((O, .cells #[.P a 0, .string (⟨#[107]⟩ : ByteArray), .slice G3 F1.length H3, .slice I3 m2.length J3, .I D5, .string r4, .slice K3 σ260.length L3, .bool b5] 41 (0, 0)) :: (k0, .cells #[.slice M3 F1.length N3, .slice O3 m2.length P3, .slice F4 F1.length G4, .slice H4 E3.length I4, .slice Q3 F3.length R3, .bool false, .slice none (([] : List (BitVec 8)).length) 0] 50 (0, 0)) :: (N, .cells #[.P a 0, .string (⟨#[106]⟩ : ByteArray), .slice p1 x0.length q1, .slice X0 w0.length Y0, .I l2, .string n1, .slice r1 σ216.length s1, .bool N1] 41 (0, 0)) :: (j0, .cells #[.slice t1 x0.length u1, .slice Z0 w0.length a1, .slice Y1 x0.length Z1, .slice a2 L1.length b2, .slice b1 V0.length c1, .bool false, .slice none (([] : List (BitVec 8)).length) 0] 50 (0, 0)) :: (diskM a X2 G2 H2))) (W' := [⟨SB, 23, .slice I3 m2.length J3, m2⟩, ⟨SB, 23, .slice O3 m2.length P3, m2⟩, ⟨SB, 23, .slice Q3 F3.length R3, F3⟩, ⟨stepS, 143, .slice G2 X2.steps.length H2, X2.steps⟩, ⟨SB, 23, .slice X0 w0.length Y0, w0⟩, ⟨SB, 23, .slice Z0 w0.length a1, w0⟩, ⟨SB, 23, .slice b1 V0.length c1, V0⟩]) (((List.perm_append_comm (l₁ := ([(N, .cells #[.P a 0, .string (⟨#[106]⟩ : ByteArray), .slice p1 x0.length q1, .slice X0 w0.length Y0, .I l2, .string n1, .slice r1 σ216.length s1, .bool N1] 41 (0, 0)), (j0, .cells #[.slice t1 x0.length u1, .slice Z0 w0.length a1, .slice Y1 x0.length Z1, .slice a2 L1.length b2, .slice b1 V0.length c1, .bool false, .slice none (([] : List (BitVec 8)).length) 0] 50 (0, 0))] : Heap)) (l₂ := diskM a X2 G2 H2)).cons _).cons _) (List.Perm.refl _)
       have H : Hp w S [] _ [_, _, _, _, _, _, _] [Rp SB [.slice G3 F1.length H3] F1, Rp SB [.slice K3 σ260.length L3] σ260, Rp SB [.slice M3 F1.length N3] F1, Rp SB [.slice F4 F1.length G4] F1, _, Rp (Shape.slice SB) [.slice H4 E3.length I4] E3, _, Fc d7 e7 [.I ((m[i]).kind), .slice B5 ((m[i]).data.length) C5, .I ((m[i]).n)], _, _, _, _, _, _, _, _, _, _, _, _, _, _, _, _, _, _, _, _, _, _, _, _] _ := H
       have s6 := d2.oth c5 (by decide) I2.di I2.al I2.cap
       have F5 := c5.all _ (by simp) W2
       refine uF 3 ?_
       refine uR 3 [.c [7, 0, 1, 0, 0, 2], .l [7, 0, 1, 0, 0], .b 0, .c [8]] ?_
       refine qG (sq 0 3) ?_
       refine uP 1 ?_
       refine uI ((i : Int) + 1) ?_
       refine uF 1 ?_
       have H := H.pick [16, 17, 18, 19, 8, 9, 10, 11, 4, 13, 0, 1, 2, 3, 4, 5] rfl
       have H := H.frontM 1 rfl
       have H := H.frontM 1 rfl
       have H := H.frontM 3 rfl
       have H := H.frontM 3 rfl
       have H := H.frontW 3 rfl
       have H := H.frontW 3 rfl
       have H := H.frontW 3 rfl
       have H := H.frontW 3 rfl
       have H := H.frontW 6 rfl
       have H := H.frontW 6 rfl
       have H := H.frontW 6 rfl
       exact uB (Q0 (i + 1, X2, G2, H2, x0, L1, w0, l2, n1, σ216, N1, V0, p1, q1, X0, Y0, r1, s1, t1, u1, Z0, a1, Y1, Z1, a2, b2, b1, c1, F1, E3, m2, D5, r4, σ260, b5, F3, G3, H3, I3, J3, K3, L3, M3, N3, O3, P3, F4, G4, H4, I4, Q3, R3) _ ⟨H, by omega, s6.mono (by omega) (by omega) (by first | omega | (rw [sumD_snoc (by omega)]; omega) | (have := sumD_up l i; omega)) (Nat.le_refl _) (by omega), I2.mono (by omega) (by omega) (by first | omega | (rw [sumD_snoc (by omega)]; omega) | (have := sumD_up m i; omega)) (Nat.le_refl _) (by omega), Z4, r6, F5, E5⟩ (by first | omega | (simp only []; omega)))
      ·
       refine uF 10 ?_
       refine uR 3 [.c [7, 0, 1, 0, 0, 2], .l [7, 0, 1, 0, 0], .b 0, .c [8]] ?_
       refine qG (sq 0 3) ?_
       refine uP 1 ?_
       refine uI ((i : Int) + 1) ?_
       refine uF 1 ?_
       have H := H.pick [8, 9, 10, 11, 0, 1, 2, 3, 4, 5, 18, 19, 20, 21, 4, 23] rfl
       have H := H.frontW 3 rfl
       have H := H.frontW 6 rfl
       have H := H.frontW 6 rfl
       have H := H.frontW 6 rfl
       have H := H.frontW 6 rfl
       have H := H.frontW 6 rfl
       have H := H.frontW 6 rfl
       exact uB (Q0 (i + 1, N0, R0, S0, x0, L1, w0, l2, n1, σ216, N1, V0, p1, q1, X0, Y0, r1, s1, t1, u1, Z0, a1, Y1, Z1, a2, b2, b1, c1, f, r0, d, s0, M, σ2z, T, k, U, V, u, y, W, X, Y, Z, o, r, a0, b0, c0, d0, s, t) _ ⟨H, by omega, d2.mono (by omega) (by omega) (by first | omega | (rw [sumD_snoc (by omega)]; omega) | (have := sumD_up l i; omega)) (Nat.le_refl _) (by omega), D3.mono (by omega) (by omega) (by first | omega | (rw [sumD_snoc (by omega)]; omega) | (have := sumD_up m i; omega)) (Nat.le_refl _) (by omega), Z4, Q1, W2, q4⟩ (by first | omega | (simp only []; omega)))
     ·
      refine qP 15 (sq 20 30) [(0, .slice al l.length cl), (1, .slice am m.length cm), (2, .slice ak kp.length ck), (7, .P a 0), (8, .P N 0), (10, .P O 0), (12, .P j0 0), (13, .P k0 0), (14, .I i), (79, .bool false), (84, .bool (decide (((i : Int) : Int) < ((m.length : Nat) : Int))))] ?_
      refine uD 84 (((i : Int) : Int) < ((m.length : Nat) : Int)) (fun f7 => ?_) (fun f7 => ?_)
      ·
       refine uP 4 ?_
       have t6 : i < m.length := by omega
       refine uX 46 (i : Int) H 1 rfl i (by omega) (List.getElem?_eq_getElem t6) ?_
       intro g7 h7 _ u6 H
       obtain ⟨G5, H5, rfl, _, v6, _⟩ := act_open u6
       have H := H.addR v6
       refine uV 53 0 (H.fc 1 rfl) ?_
       have H := H.frontM 3 rfl
       have H := H.frontM 3 rfl
       have H := H.frontW 6 rfl
       have H := H.frontW 6 rfl
       have H := H.frontW 6 rfl
       have H := H.frontW 6 rfl
       have H := H.perms (M' := ((O, .cells #[.P a 0, .string (⟨#[107]⟩ : ByteArray), .slice U f.length V, .slice u d.length y, .I s0, .string M, .slice W σ2z.length X, .bool T] 41 (0, 0)) :: (k0, .cells #[.slice Y f.length Z, .slice o d.length r, .slice a0 f.length b0, .slice c0 r0.length d0, .slice s k.length t, .bool false, .slice none (([] : List (BitVec 8)).length) 0] 50 (0, 0)) :: diskM a D sa sk) ++ [(N, .cells #[.P a 0, .string (⟨#[106]⟩ : ByteArray), .slice f0 j.length g0, .slice A e.length C, .I v0, .string Q, .slice h0 σ1z.length i0, .bool e0] 41 (0, 0)), (j0, .cells #[.slice l0 j.length m0, .slice E e.length J, .slice n0 j.length o0, .slice p0 u0.length q0, .slice K z.length L, .bool false, .slice none (([] : List (BitVec 8)).length) 0] 50 (0, 0))]) (W' := [⟨SB, 23, .slice u d.length y, d⟩, ⟨SB, 23, .slice o d.length r, d⟩, ⟨SB, 23, .slice s k.length t, k⟩, ⟨stepS, 143, .slice sa D.steps.length sk, D.steps⟩, ⟨SB, 23, .slice A e.length C, e⟩, ⟨SB, 23, .slice E e.length J, e⟩, ⟨SB, 23, .slice K z.length L, z⟩]) (((List.perm_append_comm (l₁ := diskM a D sa sk) (l₂ := ([(N, .cells #[.P a 0, .string (⟨#[106]⟩ : ByteArray), .slice f0 j.length g0, .slice A e.length C, .I v0, .string Q, .slice h0 σ1z.length i0, .bool e0] 41 (0, 0)), (j0, .cells #[.slice l0 j.length m0, .slice E e.length J, .slice n0 j.length o0, .slice p0 u0.length q0, .slice K z.length L, .bool false, .slice none (([] : List (BitVec 8)).length) 0] 50 (0, 0))] : Heap))).cons _).cons _) (List.Perm.refl _)
       refine uKS (plainly_spec (x := m[i]) (n := ((600000 * (202 - i)) - 300000)) (G0.mono (by omega) (Nat.le_refl _) (Nat.le_refl _) (Nat.le_refl _) (Nat.le_refl _)) (two_names E0.jl.names G0.jl.names hal) hna Q1 (hrm.at (by omega)) (by omega) (by omega) ((H.lend (M1 := ((O, .cells #[.P a 0, .string (⟨#[107]⟩ : ByteArray), .slice U f.length V, .slice u d.length y, .I s0, .string M, .slice W σ2z.length X, .bool T] 41 (0, 0)) :: (k0, .cells #[.slice Y f.length Z, .slice o d.length r, .slice a0 f.length b0, .slice c0 r0.length d0, .slice s k.length t, .bool false, .slice none (([] : List (BitVec 8)).length) 0] 50 (0, 0)) :: diskM a D sa sk)) (W1 := [⟨SB, 23, .slice u d.length y, d⟩, ⟨SB, 23, .slice o d.length r, d⟩, ⟨SB, 23, .slice s k.length t, k⟩, ⟨stepS, 143, .slice sa D.steps.length sk, D.steps⟩])).pick [12, 13, 14, 15, 10, 17, 5, 0] rfl)) ?_
       rintro _ _ ⟨rfl, Y2, J2, K2, G1, S3, n2, T3, I5, s4, σ304, d5, U3, V3, W3, X3, Y3, Z3, a4, b4, c4, d4, J4, K4, L4, M4, e4, f4, L2, x6, e5, J5, H'⟩
       have H := H.back (M1 := ((O, .cells #[.P a 0, .string (⟨#[107]⟩ : ByteArray), .slice U f.length V, .slice u d.length y, .I s0, .string M, .slice W σ2z.length X, .bool T] 41 (0, 0)) :: (k0, .cells #[.slice Y f.length Z, .slice o d.length r, .slice a0 f.length b0, .slice c0 r0.length d0, .slice s k.length t, .bool false, .slice none (([] : List (BitVec 8)).length) 0] 50 (0, 0)) :: diskM a D sa sk)) (W1 := [⟨SB, 23, .slice u d.length y, d⟩, ⟨SB, 23, .slice o d.length r, d⟩, ⟨SB, 23, .slice s k.length t, k⟩, ⟨stepS, 143, .slice sa D.steps.length sk, D.steps⟩]) H'
       have H := H.perms (M' := ((O, .cells #[.P a 0, .string (⟨#[107]⟩ : ByteArray), .slice U3 G1.length V3, .slice W3 n2.length X3, .I I5, .string s4, .slice Y3 σ304.length Z3, .bool d5] 41 (0, 0)) :: (k0, .cells #[.slice a4 G1.length b4, .slice c4 n2.length d4, .slice J4 G1.length K4, .slice L4 S3.length M4, .slice e4 T3.length f4, .bool false, .slice none (([] : List (BitVec 8)).length) 0] 50 (0, 0)) :: (N, .cells #[.P a 0, .string (⟨#[106]⟩ : ByteArray), .slice f0 j.length g0, .slice A e.length C, .I v0, .string Q, .slice h0 σ1z.length i0, .bool e0] 41 (0, 0)) :: (j0, .cells #[.slice l0 j.length m0, .slice E e.length J, .slice n0 j.length o0, .slice p0 u0.length q0, .slice K z.length L, .bool false, .slice none (([] : List (BitVec 8)).length) 0] 50 (0, 0)) :: (diskM a Y2 J2 K2))) (W' := [⟨SB, 23, .slice W3 n2.length X3, n2⟩, ⟨SB, 23, .slice c4 n2.length d4, n2⟩, ⟨SB, 23, .slice e4 T3.length f4, T3⟩, ⟨stepS, 143, .slice J2 Y2.steps.length K2, Y2.steps⟩, ⟨SB, 23, .slice A e.length C, e⟩, ⟨SB, 23, .slice E e.length J, e⟩, ⟨SB, 23, .slice K z.length L, z⟩]) (((List.perm_append_comm (l₁ := ([(N, .cells #[.P a 0, .string (⟨#[106]⟩ : ByteArray), .slice f0 j.length g0, .slice A e.length C, .I v0, .string Q, .slice h0 σ1z.length i0, .bool e0] 41 (0, 0)), (j0, .cells #[.slice l0 j.length m0, .slice E e.length J, .slice n0 j.length o0, .slice p0 u0.length q0, .slice K z.length L, .bool false, .slice none (([] : List (BitVec 8)).length) 0] 50 (0, 0))] : Heap)) (l₂ := diskM a Y2 J2 K2)).cons _).cons _) (List.Perm.refl _)
       have H : Hp w S [] _ [_, _, _, _, _, _, _] [Rp SB [.slice U3 G1.length V3] G1, Rp SB [.slice Y3 σ304.length Z3] σ304, Rp SB [.slice a4 G1.length b4] G1, Rp SB [.slice J4 G1.length K4] G1, _, Rp (Shape.slice SB) [.slice L4 S3.length M4] S3, _, Fc g7 h7 [.I ((m[i]).kind), .slice G5 ((m[i]).data.length) H5, .I ((m[i]).n)], _, _, _, _, _, _, _, _, _, _, _, _, _, _, _, _] _ := H
       have y6 := E0.oth e5 (by decide) L2.di L2.al L2.cap
       have K5 := e5.all _ (by simp) hal
       refine uF 3 ?_
       refine uR 3 [.c [7, 0, 1, 0, 0, 2], .l [7, 0, 1, 0, 0], .b 0, .c [8]] ?_
       refine qG (sq 0 3) ?_
       refine uP 1 ?_
       refine uI ((i : Int) + 1) ?_
       refine uF 1 ?_
       have H := H.pick [8, 9, 10, 11, 12, 13, 14, 15, 4, 17, 0, 1, 2, 3, 4, 5] rfl
       have H := H.frontM 1 rfl
       have H := H.frontM 1 rfl
       have H := H.frontM 3 rfl
       have H := H.frontM 3 rfl
       have H := H.frontW 3 rfl
       have H := H.frontW 3 rfl
       have H := H.frontW 3 rfl
       have H := H.frontW 3 rfl
       have H := H.frontW 6 rfl
       have H := H.frontW 6 rfl
       have H := H.frontW 6 rfl
       exact uB (Q0 (i + 1, Y2, J2, K2, j, u0, e, v0, Q, σ1z, e0, z, f0, g0, A, C, h0, i0, l0, m0, E, J, n0, o0, p0, q0, K, L, G1, S3, n2, I5, s4, σ304, d5, T3, U3, V3, W3, X3, Y3, Z3, a4, b4, c4, d4, J4, K4, L4, M4, e4, f4) _ ⟨H, by omega, y6.mono (by omega) (by omega) (by first | omega | (rw [sumD_snoc (by omega)]; omega) | (have := sumD_up l i; omega)) (Nat.le_refl _) (by omega), L2.mono (by omega) (by omega) (by first | omega | (rw [sumD_snoc (by omega)]; omega) | (have := sumD_up m i; omega)) (Nat.le_refl _) (by omega), q2, x6, K5, J5⟩ (by first | omega | (simp only []; omega)))
      ·
       refine uF 10 ?_
       refine uR 3 [.c [7, 0, 1, 0, 0, 2], .l [7, 0, 1, 0, 0], .b 0, .c [8]] ?_
       refine qG (sq 0 3) ?_
       refine uP 1 ?_
       refine uI ((i : Int) + 1) ?_
       refine uF 1 ?_
       exact uB (Q0 (i + 1, D, sa, sk, j, u0, e, v0, Q, σ1z, e0, z, f0, g0, A, C, h0, i0, l0, m0, E, J, n0, o0, p0, q0, K, L, f, r0, d, s0, M, σ2z, T, k, U, V, u, y, W, X, Y, Z, o, r, a0, b0, c0, d0, s, t) _ ⟨H, by omega, E0.mono (by omega) (by omega) (by first | omega | (rw [sumD_snoc (by omega)]; omega) | (have := sumD_up l i; omega)) (Nat.le_refl _) (by omega), G0.mono (by omega) (by omega) (by first | omega | (rw [sumD_snoc (by omega)]; omega) | (have := sumD_up m i; omega)) (Nat.le_refl _) (by omega), q2, Q1, hal, hna⟩ (by first | omega | (simp only []; omega)))
    ·
     have n5 := E0.rl
     have o5 := G0.rl
     have i7 := congrArg List.length q2
     have j7 := congrArg List.length Q1
     rw [List.length_append] at i7 j7
     refine uR 3 [.c [8, 0, 0], .c [8, 0, 1], .c [9]] ?_
     refine qG (sq 0 16) ?_
     refine uP 2 ?_
     refine uKS (jbase_spec E0.bl ((H.lend (M1 := [(N, .cells #[.P a 0, .string (⟨#[106]⟩ : ByteArray), .slice f0 j.length g0, .slice A e.length C, .I v0, .string Q, .slice h0 σ1z.length i0, .bool e0] 41 (0, 0))]) (W1 := [])).pick [4] rfl)) ?_
     rintro _ _ ⟨N4, O4, rfl, H'⟩
     have H := H.back (M1 := [(N, .cells #[.P a 0, .string (⟨#[106]⟩ : ByteArray), .slice f0 j.length g0, .slice A e.length C, .I v0, .string Q, .slice h0 σ1z.length i0, .bool e0] 41 (0, 0))]) (W1 := []) H'
     have H : Hp w S [] _ [⟨Sb, 5, .slice N4 j.length O4, j⟩, _, _, _, _, _, _, _] [_, _, _, _, _, _, _, _, _, _, _, _, _, _, _, _] _ := H
     refine qP 1 (sq 4 16) [(2, .slice ak kp.length ck), (7, .P a 0), (10, .P O 0), (12, .P j0 0), (13, .P k0 0), (95, .P j0 0), (97, .slice N4 j.length O4), (98, .P N 0)] ?_
     have H := H.frontW 1 rfl
     refine uKS (jrecs_spec (Nat.le_trans E0.rl (by omega)) E0.rb ((H.lend (M1 := [(N, .cells #[.P a 0, .string (⟨#[106]⟩ : ByteArray), .slice f0 j.length g0, .slice A e.length C, .I v0, .string Q, .slice h0 σ1z.length i0, .bool e0] 41 (0, 0))]) (W1 := [⟨SB, 23, .slice A e.length C, e⟩])).pick [] rfl)) ?_
     rintro _ _ ⟨L5, M5, rfl, H'⟩
     have H := H.back (M1 := [(N, .cells #[.P a 0, .string (⟨#[106]⟩ : ByteArray), .slice f0 j.length g0, .slice A e.length C, .I v0, .string Q, .slice h0 σ1z.length i0, .bool e0] 41 (0, 0))]) (W1 := [⟨SB, 23, .slice A e.length C, e⟩]) H'
     have H : Hp w S [] _ [⟨SB, 23, .slice L5 e.length M5, e⟩, _, _, _, _, _, _, _, _] [_, _, _, _, _, _, _, _, _, _, _, _, _, _, _, _] _ := H
     have H : Hp w S [] _ [_, _, _, _, _, _, _, _] [Rp SB [.slice N4 j.length O4] j, _, _, _, _, _, _, _, _, _, _, _, _, _, _, _, _] _ := H.freezeW 2 rfl
     have H : Hp w S [] _ [_, _, _, _, _, _, _] [Rp (Shape.slice SB) [.slice L5 e.length M5] e, _, _, _, _, _, _, _, _, _, _, _, _, _, _, _, _, _] _ := H.freezeW 0 rfl
     have H := H.frontM 1 rfl
     have H := H.frontW 2 rfl
     have H := H.frontW 2 rfl
     refine uKS (bk_has (by omega) (by omega) rfl rfl ((H.lend (M1 := [(j0, .cells #[.slice l0 j.length m0, .slice E e.length J, .slice n0 j.length o0, .slice p0 u0.length q0, .slice K z.length L, .bool false, .slice none (([] : List (BitVec 8)).length) 0] 50 (0, 0))]) (W1 := [⟨SB, 23, .slice E e.length J, e⟩, ⟨SB, 23, .slice K z.length L, z⟩])).pick [8, 9, 10, 11, 1, 0] rfl)) ?_
     rintro _ _ ⟨rfl, H'⟩
     have H := H.back (M1 := [(j0, .cells #[.slice l0 j.length m0, .slice E e.length J, .slice n0 j.length o0, .slice p0 u0.length q0, .slice K z.length L, .bool false, .slice none (([] : List (BitVec 8)).length) 0] 50 (0, 0))]) (W1 := [⟨SB, 23, .slice E e.length J, e⟩, ⟨SB, 23, .slice K z.length L, z⟩]) H'
     have H : Hp w S [] _ [_, _, _, _, _, _, _] [_, _, _, _, _, _, _, _, _, _, _, _, _, _, _, _, _, _, _, _, _, _] _ := H
     refine uP 4 ?_
     have H := H.frontM 2 rfl
     refine uKS (jbase_spec G0.bl ((H.lend (M1 := [(O, .cells #[.P a 0, .string (⟨#[107]⟩ : ByteArray), .slice U f.length V, .slice u d.length y, .I s0, .string M, .slice W σ2z.length X, .bool T] 41 (0, 0))]) (W1 := [])).pick [16] rfl)) ?_
     rintro _ _ ⟨N5, O5, rfl, H'⟩
     have H := H.back (M1 := [(O, .cells #[.P a 0, .string (⟨#[107]⟩ : ByteArray), .slice U f.length V, .slice u d.length y, .I s0, .string M, .slice W σ2z.length X, .bool T] 41 (0, 0))]) (W1 := []) H'
     have H : Hp w S [] _ [⟨Sb, 5, .slice N5 f.length O5, f⟩, _, _, _, _, _, _, _] [_, _, _, _, _, _, _, _, _, _, _, _, _, _, _, _, _, _, _, _, _, _] _ := H
     refine uP 1 ?_
     have H := H.frontW 4 rfl
     refine uKS (jrecs_spec (Nat.le_trans G0.rl (by omega)) G0.rb ((H.lend (M1 := [(O, .cells #[.P a 0, .string (⟨#[107]⟩ : ByteArray), .slice U f.length V, .slice u d.length y, .I s0, .string M, .slice W σ2z.length X, .bool T] 41 (0, 0))]) (W1 := [⟨SB, 23, .slice u d.length y, d⟩])).pick [] rfl)) ?_
     rintro _ _ ⟨P5, Q5, rfl, H'⟩
     have H := H.back (M1 := [(O, .cells #[.P a 0, .string (⟨#[107]⟩ : ByteArray), .slice U f.length V, .slice u d.length y, .I s0, .string M, .slice W σ2z.length X, .bool T] 41 (0, 0))]) (W1 := [⟨SB, 23, .slice u d.length y, d⟩]) H'
     have H : Hp w S [] _ [⟨SB, 23, .slice P5 d.length Q5, d⟩, _, _, _, _, _, _, _, _] [_, _, _, _, _, _, _, _, _, _, _, _, _, _, _, _, _, _, _, _, _, _] _ := H
     have H : Hp w S [] _ [_, _, _, _, _, _, _, _] [Rp SB [.slice N5 f.length O5] f, _, _, _, _, _, _, _, _, _, _, _, _, _, _, _, _, _, _, _, _, _, _] _ := H.freezeW 2 rfl
     have H : Hp w S [] _ [_, _, _, _, _, _, _] [Rp (Shape.slice SB) [.slice P5 d.length Q5] d, _, _, _, _, _, _, _, _, _, _, _, _, _, _, _, _, _, _, _, _, _, _, _] _ := H.freezeW 0 rfl
     have H := H.frontM 3 rfl
     have H := H.frontW 5 rfl
     have H := H.frontW 5 rfl
     refine uKS (bk_has (by omega) (by omega) rfl rfl ((H.lend (M1 := [(k0, .cells #[.slice Y f.length Z, .slice o d.length r, .slice a0 f.length b0, .slice c0 r0.length d0, .slice s k.length t, .bool false, .slice none (([] : List (BitVec 8)).length) 0] 50 (0, 0))]) (W1 := [⟨SB, 23, .slice o d.length r, d⟩, ⟨SB, 23, .slice s k.length t, k⟩])).pick [20, 21, 4, 23, 1, 0] rfl)) ?_
     rintro _ _ ⟨rfl, H'⟩
     have H := H.back (M1 := [(k0, .cells #[.slice Y f.length Z, .slice o d.length r, .slice a0 f.length b0, .slice c0 r0.length d0, .slice s k.length t, .bool false, .slice none (([] : List (BitVec 8)).length) 0] 50 (0, 0))]) (W1 := [⟨SB, 23, .slice o d.length r, d⟩, ⟨SB, 23, .slice s k.length t, k⟩]) H'
     have H : Hp w S [] _ [_, _, _, _, _, _, _] [_, _, _, _, _, _, _, _, _, _, _, _, _, _, _, _, _, _, _, _, _, _, _, _, _, _, _, _] _ := H
     refine uF 2 ?_
     refine uR 3 [.c [9, 0], .c [10]] ?_
     refine qG (sq 0 3) ?_
     refine uP 2 ?_
     have H := H.frontW 6 rfl
     have H := H.perms (M' := diskM a D sa sk ++ [(k0, .cells #[.slice Y f.length Z, .slice o d.length r, .slice a0 f.length b0, .slice c0 r0.length d0, .slice s k.length t, .bool false, .slice none (([] : List (BitVec 8)).length) 0] 50 (0, 0)), (O, .cells #[.P a 0, .string (⟨#[107]⟩ : ByteArray), .slice U f.length V, .slice u d.length y, .I s0, .string M, .slice W σ2z.length X, .bool T] 41 (0, 0)), (j0, .cells #[.slice l0 j.length m0, .slice E e.length J, .slice n0 j.length o0, .slice p0 u0.length q0, .slice K z.length L, .bool false, .slice none (([] : List (BitVec 8)).length) 0] 50 (0, 0)), (N, .cells #[.P a 0, .string (⟨#[106]⟩ : ByteArray), .slice f0 j.length g0, .slice A e.length C, .I v0, .string Q, .slice h0 σ1z.length i0, .bool e0] 41 (0, 0))]) (W' := [⟨stepS, 143, .slice sa D.steps.length sk, D.steps⟩, ⟨SB, 23, .slice o d.length r, d⟩, ⟨SB, 23, .slice s k.length t, k⟩, ⟨SB, 23, .slice u d.length y, d⟩, ⟨SB, 23, .slice E e.length J, e⟩, ⟨SB, 23, .slice K z.length L, z⟩, ⟨SB, 23, .slice A e.length C, e⟩]) (List.perm_append_comm (l₁ := diskM a D sa sk) (l₂ := ([(k0, .cells #[.slice Y f.length Z, .slice o d.length r, .slice a0 f.length b0, .slice c0 r0.length d0, .slice s k.length t, .bool false, .slice none (([] : List (BitVec 8)).length) 0] 50 (0, 0)), (O, .cells #[.P a 0, .string (⟨#[107]⟩ : ByteArray), .slice U f.length V, .slice u d.length y, .I s0, .string M, .slice W σ2z.length X, .bool T] 41 (0, 0)), (j0, .cells #[.slice l0 j.length m0, .slice E e.length J, .slice n0 j.length o0, .slice p0 u0.length q0, .slice K z.length L, .bool false, .slice none (([] : List (BitVec 8)).length) 0] 50 (0, 0)), (N, .cells #[.P a 0, .string (⟨#[106]⟩ : ByteArray), .slice f0 j.length g0, .slice A e.length C, .I v0, .string Q, .slice h0 σ1z.length i0, .bool e0] 41 (0, 0))] : Heap))) (List.Perm.refl _)
     refine uKS (dCrashAny E0.di.ok E0.al.hst ((H.lend (M1 := diskM a D sa sk) (W1 := [⟨stepS, 143, .slice sa D.steps.length sk, D.steps⟩])).pick [14] rfl)) ?_
     rintro _ _ ⟨rfl, z0, A0, H'⟩
     have H := H.back (M1 := diskM a D sa sk) (W1 := [⟨stepS, 143, .slice sa D.steps.length sk, D.steps⟩]) H'
     have H := H.perms (M' := ((k0, .cells #[.slice Y f.length Z, .slice o d.length r, .slice a0 f.length b0, .slice c0 r0.length d0, .slice s k.length t, .bool false, .slice none (([] : List (BitVec 8)).length) 0] 50 (0, 0)) :: (O, .cells #[.P a 0, .string (⟨#[107]⟩ : ByteArray), .slice U f.length V, .slice u d.length y, .I s0, .string M, .slice W σ2z.length X, .bool T] 41 (0, 0)) :: (j0, .cells #[.slice l0 j.length m0, .slice E e.length J, .slice n0 j.length o0, .slice p0 u0.length q0, .slice K z.length L, .bool false, .slice none (([] : List (BitVec 8)).length) 0] 50 (0, 0)) :: (N, .cells #[.P a 0, .string (⟨#[106]⟩ : ByteArray), .slice f0 j.length g0, .slice A e.length C, .I v0, .string Q, .slice h0 σ1z.length i0, .bool e0] 41 (0, 0)) :: (diskM a (crashD D kp z0 A0) none 0))) (W' := [⟨stepS, 143, .slice none ((crashD D kp z0 A0).steps.length) 0, (crashD D kp z0 A0).steps⟩, ⟨SB, 23, .slice o d.length r, d⟩, ⟨SB, 23, .slice s k.length t, k⟩, ⟨SB, 23, .slice u d.length y, d⟩, ⟨SB, 23, .slice E e.length J, e⟩, ⟨SB, 23, .slice K z.length L, z⟩, ⟨SB, 23, .slice A e.length C, e⟩]) ((List.perm_append_comm (l₁ := diskM a (crashD D kp z0 A0) none 0) (l₂ := ([(k0, .cells #[.slice Y f.length Z, .slice o d.length r, .slice a0 f.length b0, .slice c0 r0.length d0, .slice s k.length t, .bool false, .slice none (([] : List (BitVec 8)).length) 0] 50 (0, 0)), (O, .cells #[.P a 0, .string (⟨#[107]⟩ : ByteArray), .slice U f.length V, .slice u d.length y, .I s0, .string M, .slice W σ2z.length X, .bool T] 41 (0, 0)), (j0, .cells #[.slice l0 j.length m0, .slice E e.length J, .slice n0 j.length o0, .slice p0 u0.length q0, .slice K z.length L, .bool false, .slice none (([] : List (BitVec 8)).length) 0] 50 (0, 0)), (N, .cells #[.P a 0, .string (⟨#[106]⟩ : ByteArray), .slice f0 j.length g0, .slice A e.length C, .I v0, .string Q, .slice h0 σ1z.length i0, .bool e0] 41 (0, 0))] : Heap))).symm) (List.Perm.refl _)
     have H : Hp w S [] _ [_, _, _, _, _, _, _] [_, _, _, _, _, _, _, _, _, _, _, _, _, _, _, _, _, _, _, _, _, _, _, _, _, _, _, _] _ := H
     have hcj := CW.of E0.di (E0.jl.js.mono E0.gm fun _ _ _ h => h) E0.cap kp z0 A0
     have hck := CW.of G0.di (G0.jl.js.mono G0.gm fun _ _ _ h => h) G0.cap kp z0 A0
     have R5 : (crashD D kp z0 A0).armed = false := rfl
     obtain ⟨q8, hopj⟩ := hcj.op
     refine uF 0 ?_
     refine uR 1 [.c [10, 0], .c [11]] ?_
     refine qG (sq 0 7) ?_
     refine uP 1 ?_
     have H := H.perms (M' := diskM a (crashD D kp z0 A0) none 0 ++ [(k0, .cells #[.slice Y f.length Z, .slice o d.length r, .slice a0 f.length b0, .slice c0 r0.length d0, .slice s k.length t, .bool false, .slice none (([] : List (BitVec 8)).length) 0] 50 (0, 0)), (O, .cells #[.P a 0, .string (⟨#[107]⟩ : ByteArray), .slice U f.length V, .slice u d.length y, .I s0, .string M, .slice W σ2z.length X, .bool T] 41 (0, 0)), (j0, .cells #[.slice l0 j.length m0, .slice E e.length J, .slice n0 j.length o0, .slice p0 u0.length q0, .slice K z.length L, .bool false, .slice none (([] : List (BitVec 8)).length) 0] 50 (0, 0)), (N, .cells #[.P a 0, .string (⟨#[106]⟩ : ByteArray), .slice f0 j.length g0, .slice A e.length C, .I v0, .string Q, .slice h0 σ1z.length i0, .bool e0] 41 (0, 0))]) (W' := [⟨stepS, 143, .slice none ((crashD D kp z0 A0).steps.length) 0, (crashD D kp z0 A0).steps⟩, ⟨SB, 23, .slice o d.length r, d⟩, ⟨SB, 23, .slice s k.length t, k⟩, ⟨SB, 23, .slice u d.length y, d⟩, ⟨SB, 23, .slice E e.length J, e⟩, ⟨SB, 23, .slice K z.length L, z⟩, ⟨SB, 23, .slice A e.length C, e⟩]) (List.perm_append_comm (l₁ := diskM a (crashD D kp z0 A0) none 0) (l₂ := ([(k0, .cells #[.slice Y f.length Z, .slice o d.length r, .slice a0 f.length b0, .slice c0 r0.length d0, .slice s k.length t, .bool false, .slice none (([] : List (BitVec 8)).length) 0] 50 (0, 0)), (O, .cells #[.P a 0, .string (⟨#[107]⟩ : ByteArray), .slice U f.length V, .slice u d.length y, .I s0, .string M, .slice W σ2z.length X, .bool T] 41 (0, 0)), (j0, .cells #[.slice l0 j.length m0, .slice E e.length J, .slice n0 j.length o0, .slice p0 u0.length q0, .slice K z.length L, .bool false, .slice none (([] : List (BitVec 8)).length) 0] 50 (0, 0)), (N, .cells #[.P a 0, .string (⟨#[106]⟩ : ByteArray), .slice f0 j.length g0, .slice A e.length C, .I v0, .string Q, .slice h0 σ1z.length i0, .bool e0] 41 (0, 0))] : Heap))) (List.Perm.refl _)
     refine uKS (jopen_law (n := 200000000) (m := (i + 1)) (q := q8) (c := 8) plainJ hcj.di (hcj.al.mono (by omega)) hopj hcj.cap (by omega) (fun B R h => E0.hbc h) ((H.lend (M1 := diskM a (crashD D kp z0 A0) none 0) (W1 := [⟨stepS, 143, .slice none ((crashD D kp z0 A0).steps.length) 0, (crashD D kp z0 A0).steps⟩])).pick [15] rfl)) ?_
     rintro _ _ (⟨K0, B0, t0, o1, L0, M0, C0, D0, O0, T0, U0, rfl, f5, O1, g5, H'⟩ | ⟨O0, T0, U0, rfl, _, z6, H'⟩)
     rotate_left
     · exact absurd (z6) (by rw [R5]; nofun)
     have H := H.back (M1 := diskM a (crashD D kp z0 A0) none 0) (W1 := [⟨stepS, 143, .slice none ((crashD D kp z0 A0).steps.length) 0, (crashD D kp z0 A0).steps⟩]) H'
     have H := H.perms (M' := ((K0, .cells #[.P a 0, .string (⟨#[106]⟩ : ByteArray), .slice L0 B0.length M0, .slice C0 t0.length D0, .I o1, .string (⟨#[]⟩ : ByteArray), .slice none (([] : List (BitVec 8)).length) 0, .bool true] 41 (0, 0)) :: (k0, .cells #[.slice Y f.length Z, .slice o d.length r, .slice a0 f.length b0, .slice c0 r0.length d0, .slice s k.length t, .bool false, .slice none (([] : List (BitVec 8)).length) 0] 50 (0, 0)) :: (O, .cells #[.P a 0, .string (⟨#[107]⟩ : ByteArray), .slice U f.length V, .slice u d.length y, .I s0, .string M, .slice W σ2z.length X, .bool T] 41 (0, 0)) :: (j0, .cells #[.slice l0 j.length m0, .slice E e.length J, .slice n0 j.length o0, .slice p0 u0.length q0, .slice K z.length L, .bool false, .slice none (([] : List (BitVec 8)).length) 0] 50 (0, 0)) :: (N, .cells #[.P a 0, .string (⟨#[106]⟩ : ByteArray), .slice f0 j.length g0, .slice A e.length C, .I v0, .string Q, .slice h0 σ1z.length i0, .bool e0] 41 (0, 0)) :: (diskM a O0 T0 U0))) (W' := [⟨SB, 23, .slice C0 t0.length D0, t0⟩, ⟨stepS, 143, .slice T0 O0.steps.length U0, O0.steps⟩, ⟨SB, 23, .slice o d.length r, d⟩, ⟨SB, 23, .slice s k.length t, k⟩, ⟨SB, 23, .slice u d.length y, d⟩, ⟨SB, 23, .slice E e.length J, e⟩, ⟨SB, 23, .slice K z.length L, z⟩, ⟨SB, 23, .slice A e.length C, e⟩]) ((List.perm_append_comm (l₁ := ([(k0, .cells #[.slice Y f.length Z, .slice o d.length r, .slice a0 f.length b0, .slice c0 r0.length d0, .slice s k.length t, .bool false, .slice none (([] : List (BitVec 8)).length) 0] 50 (0, 0)), (O, .cells #[.P a 0, .string (⟨#[107]⟩ : ByteArray), .slice U f.length V, .slice u d.length y, .I s0, .string M, .slice W σ2z.length X, .bool T] 41 (0, 0)), (j0, .cells #[.slice l0 j.length m0, .slice E e.length J, .slice n0 j.length o0, .slice p0 u0.length q0, .slice K z.length L, .bool false, .slice none (([] : List (BitVec 8)).length) 0] 50 (0, 0)), (N, .cells #[.P a 0, .string (⟨#[106]⟩ : ByteArray), .slice f0 j.length g0, .slice A e.length C, .I v0, .string Q, .slice h0 σ1z.length i0, .bool e0] 41 (0, 0))] : Heap)) (l₂ := diskM a O0 T0 U0)).cons _) (List.Perm.refl _)
     have H : Hp w S [] _ [_, _, _, _, _, _, _, _] [Rp SB [.slice L0 B0.length M0] B0, _, _, _, _, _, _, _, _, _, _, _, _, _, _, _, _, _, _, _, _, _, _, _, _, _, _, _, _, _] _ := H
     have t4 := g5.arm.trans R5
     obtain ⟨q9, _, hopk⟩ := apart_k hck plainK.1 g5 (by decide) O1.di
     refine uF 5 ?_
     refine uR 1 [.c [11, 0], .c [12]] ?_
     refine qG (sq 0 7) ?_
     refine qP 1 (sq 1 7) [(8, .P K0 0), (9, .I 0), (12, .P j0 0), (13, .P k0 0), (120, .P a 0)] ?_
     have H := H.frontW 1 rfl
     have H := H.perms (M' := diskM a O0 T0 U0 ++ [(K0, .cells #[.P a 0, .string (⟨#[106]⟩ : ByteArray), .slice L0 B0.length M0, .slice C0 t0.length D0, .I o1, .string (⟨#[]⟩ : ByteArray), .slice none (([] : List (BitVec 8)).length) 0, .bool true] 41 (0, 0)), (k0, .cells #[.slice Y f.length Z, .slice o d.length r, .slice a0 f.length b0, .slice c0 r0.length d0, .slice s k.length t, .bool false, .slice none (([] : List (BitVec 8)).length) 0] 50 (0, 0)), (O, .cells #[.P a 0, .string (⟨#[107]⟩ : ByteArray), .slice U f.length V, .slice u d.length y, .I s0, .string M, .slice W σ2z.length X, .bool T] 41 (0, 0)), (j0, .cells #[.slice l0 j.length m0, .slice E e.length J, .slice n0 j.length o0, .slice p0 u0.length q0, .slice K z.length L, .bool false, .slice none (([] : List (BitVec 8)).length) 0] 50 (0, 0)), (N, .cells #[.P a 0, .string (⟨#[106]⟩ : ByteArray), .slice f0 j.length g0, .slice A e.length C, .I v0, .string Q, .slice h0 σ1z.length i0, .bool e0] 41 (0, 0))]) (W' := [⟨stepS, 143, .slice T0 O0.steps.length U0, O0.steps⟩, ⟨SB, 23, .slice C0 t0.length D0, t0⟩, ⟨SB, 23, .slice o d.length r, d⟩, ⟨SB, 23, .slice s k.length t, k⟩, ⟨SB, 23, .slice u d.length y, d⟩, ⟨SB, 23, .slice E e.length J, e⟩, ⟨SB, 23, .slice K z.length L, z⟩, ⟨SB, 23, .slice A e.length C, e⟩]) (List.perm_append_comm (l₁ := diskM a O0 T0 U0) (l₂ := ([(K0, .cells #[.P a 0, .string (⟨#[106]⟩ : ByteArray), .slice L0 B0.length M0, .slice C0 t0.length D0, .I o1, .string (⟨#[]⟩ : ByteArray), .slice none (([] : List (BitVec 8)).length) 0, .bool true] 41 (0, 0)), (k0, .cells #[.slice Y f.length Z, .slice o d.length r, .slice a0 f.length b0, .slice c0 r0.length d0, .slice s k.length t, .bool false, .slice none (([] : List (BitVec 8)).length) 0] 50 (0, 0)), (O, .cells #[.P a 0, .string (⟨#[107]⟩ : ByteArray), .slice U f.length V, .slice u d.length y, .I s0, .string M, .slice W σ2z.length X, .bool T] 41 (0, 0)), (j0, .cells #[.slice l0 j.length m0, .slice E e.length J, .slice n0 j.length o0, .slice p0 u0.length q0, .slice K z.length L, .bool false, .slice none (([] : List (BitVec 8)).length) 0] 50 (0, 0)), (N, .cells #[.P a 0, .string (⟨#[106]⟩ : ByteArray), .slice f0 j.length g0, .slice A e.length C, .I v0, .string Q, .slice h0 σ1z.length i0, .bool e0] 41 (0, 0))] : Heap))) (List.Perm.refl _)
     refine uKS (jopen_law (n := 199000000) (m := (i + 1)) (q := q9) (c := 9) plainK O1.di (O1.al.mono (by omega)) hopk O1.cap (by omega) (fun B R h => G0.hbc h) ((H.lend (M1 := diskM a O0 T0 U0) (W1 := [⟨stepS, 143, .slice T0 O0.steps.length U0, O0.steps⟩])).pick [17] rfl)) ?_
     rintro _ _ (⟨P1, P0, y0, o2, v1, x1, d1, e1, p2, e2, f2, rfl, hq375, g4, A6, H'⟩ | ⟨p2, e2, f2, rfl, _, B6, H'⟩)
     rotate_left
     · exact absurd (B6) (by rw [t4]; nofun)
     have H := H.back (M1 := diskM a O0 T0 U0) (W1 := [⟨stepS, 143, .slice T0 O0.steps.length U0, O0.steps⟩]) H'
     have H := H.perms (M' := ((P1, .cells #[.P a 0, .string (⟨#[107]⟩ : ByteArray), .slice v1 P0.length x1, .slice d1 y0.length e1, .I o2, .string (⟨#[]⟩ : ByteArray), .slice none (([] : List (BitVec 8)).length) 0, .bool true] 41 (0, 0)) :: (K0, .cells #[.P a 0, .string (⟨#[106]⟩ : ByteArray), .slice L0 B0.length M0, .slice C0 t0.length D0, .I o1, .string (⟨#[]⟩ : ByteArray), .slice none (([] : List (BitVec 8)).length) 0, .bool true] 41 (0, 0)) :: (k0, .cells #[.slice Y f.length Z, .slice o d.length r, .slice a0 f.length b0, .slice c0 r0.length d0, .slice s k.length t, .bool false, .slice none (([] : List (BitVec 8)).length) 0] 50 (0, 0)) :: (O, .cells #[.P a 0, .string (⟨#[107]⟩ : ByteArray), .slice U f.length V, .slice u d.length y, .I s0, .string M, .slice W σ2z.length X, .bool T] 41 (0, 0)) :: (j0, .cells #[.slice l0 j.length m0, .slice E e.length J, .slice n0 j.length o0, .slice p0 u0.length q0, .slice K z.length L, .bool false, .slice none (([] : List (BitVec 8)).length) 0] 50 (0, 0)) :: (N, .cells #[.P a 0, .string (⟨#[106]⟩ : ByteArray), .slice f0 j.length g0, .slice A e.length C, .I v0, .string Q, .slice h0 σ1z.length i0, .bool e0] 41 (0, 0)) :: (diskM a p2 e2 f2))) (W' := [⟨SB, 23, .slice d1 y0.length e1, y0⟩, ⟨stepS, 143, .slice e2 p2.steps.length f2, p2.steps⟩, ⟨SB, 23, .slice C0 t0.length D0, t0⟩, ⟨SB, 23, .slice o d.length r, d⟩, ⟨SB, 23, .slice s k.length t, k⟩, ⟨SB, 23, .slice u d.length y, d⟩, ⟨SB, 23, .slice E e.length J, e⟩, ⟨SB, 23, .slice K z.length L, z⟩, ⟨SB, 23, .slice A e.length C, e⟩]) ((List.perm_append_comm (l₁ := ([(K0, .cells #[.P a 0, .string (⟨#[106]⟩ : ByteArray), .slice L0 B0.length M0, .slice C0 t0.length D0, .I o1, .string (⟨#[]⟩ : ByteArray), .slice none (([] : List (BitVec 8)).length) 0, .bool true] 41 (0, 0)), (k0, .cells #[.slice Y f.length Z, .slice o d.length r, .slice a0 f.length b0, .slice c0 r0.length d0, .slice s k.length t, .bool false, .slice none (([] : List (BitVec 8)).length) 0] 50 (0, 0)), (O, .cells #[.P a 0, .string (⟨#[107]⟩ : ByteArray), .slice U f.length V, .slice u d.length y, .I s0, .string M, .slice W σ2z.length X, .bool T] 41 (0, 0)), (j0, .cells #[.slice l0 j.length m0, .slice E e.length J, .slice n0 j.length o0, .slice p0 u0.length q0, .slice K z.length L, .bool false, .slice none (([] : List (BitVec 8)).length) 0] 50 (0, 0)), (N, .cells #[.P a 0, .string (⟨#[106]⟩ : ByteArray), .slice f0 j.length g0, .slice A e.length C, .I v0, .string Q, .slice h0 σ1z.length i0, .bool e0] 41 (0, 0))] : Heap)) (l₂ := diskM a p2 e2 f2)).cons _) (List.Perm.refl _)
     have H : Hp w S [] _ [_, _, _, _, _, _, _, _, _] [Rp SB [.slice v1 P0.length x1] P0, _, _, _, _, _, _, _, _, _, _, _, _, _, _, _, _, _, _, _, _, _, _, _, _, _, _, _, _, _, _, _] _ := H
     have t7 := A6.arm.trans t4
     refine uF 5 ?_
     refine uR 1 [.c [12, 0], .c [13]] ?_
     refine qG (sq 0 26) ?_
     refine uP 9 ?_
     have H := H.frontM 1 rfl
     refine uKS (jbase_spec O1.bl ((H.lend (M1 := [(K0, .cells #[.P a 0, .string (⟨#[106]⟩ : ByteArray), .slice L0 B0.length M0, .slice C0 t0.length D0, .I o1, .string (⟨#[]⟩ : ByteArray), .slice none (([] : List (BitVec 8)).length) 0, .bool true] 41 (0, 0))]) (W1 := [])).pick [2] rfl)) ?_
     rintro _ _ ⟨s2, t2, rfl, H'⟩
     have H := H.back (M1 := [(K0, .cells #[.P a 0, .string (⟨#[106]⟩ : ByteArray), .slice L0 B0.length M0, .slice C0 t0.length D0, .I o1, .string (⟨#[]⟩ : ByteArray), .slice none (([] : List (BitVec 8)).length) 0, .bool true] 41 (0, 0))]) (W1 := []) H'
     have H : Hp w S [] _ [⟨Sb, 5, .slice s2 B0.length t2, B0⟩, _, _, _, _, _, _, _, _, _] [_, _, _, _, _, _, _, _, _, _, _, _, _, _, _, _, _, _, _, _, _, _, _, _, _, _, _, _, _, _, _, _] _ := H
     refine uP 1 ?_
     have H := H.frontW 3 rfl
     refine uKS (jrecs_spec (Nat.le_trans O1.rl (by omega)) O1.rb ((H.lend (M1 := [(K0, .cells #[.P a 0, .string (⟨#[106]⟩ : ByteArray), .slice L0 B0.length M0, .slice C0 t0.length D0, .I o1, .string (⟨#[]⟩ : ByteArray), .slice none (([] : List (BitVec 8)).length) 0, .bool true] 41 (0, 0))]) (W1 := [⟨SB, 23, .slice C0 t0.length D0, t0⟩])).pick [] rfl)) ?_
     rintro _ _ ⟨S5, T5, rfl, H'⟩
     have H := H.back (M1 := [(K0, .cells #[.P a 0, .string (⟨#[106]⟩ : ByteArray), .slice L0 B0.length M0, .slice C0 t0.length D0, .I o1, .string (⟨#[]⟩ : ByteArray), .slice none (([] : List (BitVec 8)).length) 0, .bool true] 41 (0, 0))]) (W1 := [⟨SB, 23, .slice C0 t0.length D0, t0⟩]) H'
     have H : Hp w S [] _ [⟨SB, 23, .slice S5 t0.length T5, t0⟩, _, _, _, _, _, _, _, _, _, _] [_, _, _, _, _, _, _, _, _, _, _, _, _, _, _, _, _, _, _, _, _, _, _, _, _, _, _, _, _, _, _, _] _ := H
     have H : Hp w S [] _ [_, _, _, _, _, _, _, _, _, _] [Rp SB [.slice s2 B0.length t2] B0, _, _, _, _, _, _, _, _, _, _, _, _, _, _, _, _, _, _, _, _, _, _, _, _, _, _, _, _, _, _, _, _] _ := H.freezeW 2 rfl
     have H : Hp w S [] _ [_, _, _, _, _, _, _, _, _] [Rp (Shape.slice SB) [.slice S5 t0.length T5] t0, _, _, _, _, _, _, _, _, _, _, _, _, _, _, _, _, _, _, _, _, _, _, _, _, _, _, _, _, _, _, _, _, _] _ := H.freezeW 0 rfl
     have H := H.frontM 4 rfl
     have H := H.frontW 7 rfl
     have H := H.frontW 7 rfl
     refine uKS (bk_found (by omega) (by omega) (QC.may f5 q2) (by have := E0.rl; have := congrArg List.length q2; rw [List.length_append] at this; omega) (Nat.le_trans (QC.len f5) (Nat.le_trans E0.rl (by omega))) ((H.lend (M1 := [(j0, .cells #[.slice l0 j.length m0, .slice E e.length J, .slice n0 j.length o0, .slice p0 u0.length q0, .slice K z.length L, .bool false, .slice none (([] : List (BitVec 8)).length) 0] 50 (0, 0))]) (W1 := [⟨SB, 23, .slice E e.length J, e⟩, ⟨SB, 23, .slice K z.length L, z⟩])).pick [12, 13, 3, 15, 1, 0] rfl)) ?_
     rintro _ _ ⟨rfl, h4, i4, P4, Q4, H'⟩
     have H := H.back (M1 := [(j0, .cells #[.slice l0 j.length m0, .slice E e.length J, .slice n0 j.length o0, .slice p0 u0.length q0, .slice K z.length L, .bool false, .slice none (([] : List (BitVec 8)).length) 0] 50 (0, 0))]) (W1 := [⟨SB, 23, .slice E e.length J, e⟩, ⟨SB, 23, .slice K z.length L, z⟩]) H'
     have H : Hp w S [] ((j0, .cells #[.slice s2 B0.length t2, .slice h4 t0.length i4, .slice s2 B0.length t2, .slice P4 t0.length Q4, .slice none (([] : List (List (BitVec 8))).length) 0, .bool false, .slice none (([] : List (BitVec 8)).length) 0] 50 (0, 0)) :: (K0, .cells #[.P a 0, .string (⟨#[106]⟩ : ByteArray), .slice L0 B0.length M0, .slice C0 t0.length D0, .I o1, .string (⟨#[]⟩ : ByteArray), .slice none (([] : List (BitVec 8)).length) 0, .bool true] 41 (0, 0)) :: (P1, .cells #[.P a 0, .string (⟨#[107]⟩ : ByteArray), .slice v1 P0.length x1, .slice d1 y0.length e1, .I o2, .string (⟨#[]⟩ : ByteArray), .slice none (([] : List (BitVec 8)).length) 0, .bool true] 41 (0, 0)) :: (k0, .cells #[.slice Y f.length Z, .slice o d.length r, .slice a0 f.length b0, .slice c0 r0.length d0, .slice s k.length t, .bool false, .slice none (([] : List (BitVec 8)).length) 0] 50 (0, 0)) :: (O, .cells #[.P a 0, .string (⟨#[107]⟩ : ByteArray), .slice U f.length V, .slice u d.length y, .I s0, .string M, .slice W σ2z.length X, .bool T] 41 (0, 0)) :: (N, .cells #[.P a 0, .string (⟨#[106]⟩ : ByteArray), .slice f0 j.length g0, .slice A e.length C, .I v0, .string Q, .slice h0 σ1z.length i0, .bool e0] 41 (0, 0)) :: (diskM a p2 e2 f2)) [⟨SB, 23, .slice h4 t0.length i4, t0⟩, _, _, _, _, _, _, _, _] [_, _, _, Rp (Shape.slice SB) [.slice P4 t0.length Q4] t0, _, _, _, _, _, _, _, _, _, _, _, _, _, _, _, _, _, _, _, _, _, _, _, _, _, _, _, _, _, _, _, _, _, _] _ := H
     refine uP 4 ?_
     have H := H.frontM 2 rfl
     refine uKS (jbase_spec g4.bl ((H.lend (M1 := [(P1, .cells #[.P a 0, .string (⟨#[107]⟩ : ByteArray), .slice v1 P0.length x1, .slice d1 y0.length e1, .I o2, .string (⟨#[]⟩ : ByteArray), .slice none (([] : List (BitVec 8)).length) 0, .bool true] 41 (0, 0))]) (W1 := [])).pick [6] rfl)) ?_
     rintro _ _ ⟨j4, k4, rfl, H'⟩
     have H := H.back (M1 := [(P1, .cells #[.P a 0, .string (⟨#[107]⟩ : ByteArray), .slice v1 P0.length x1, .slice d1 y0.length e1, .I o2, .string (⟨#[]⟩ : ByteArray), .slice none (([] : List (BitVec 8)).length) 0, .bool true] 41 (0, 0))]) (W1 := []) H'
     have H : Hp w S [] _ [⟨Sb, 5, .slice j4 P0.length k4, P0⟩, _, _, _, _, _, _, _, _, _] [_, _, _, _, _, _, _, _, _, _, _, _, _, _, _, _, _, _, _, _, _, _, _, _, _, _, _, _, _, _, _, _, _, _, _, _, _, _] _ := H
     refine uP 1 ?_
     have H := H.frontW 4 rfl
     refine uKS (jrecs_spec (Nat.le_trans g4.rl (by omega)) g4.rb ((H.lend (M1 := [(P1, .cells #[.P a 0, .string (⟨#[107]⟩ : ByteArray), .slice v1 P0.length x1, .slice d1 y0.length e1, .I o2, .string (⟨#[]⟩ : ByteArray), .slice none (([] : List (BitVec 8)).length) 0, .bool true] 41 (0, 0))]) (W1 := [⟨SB, 23, .slice d1 y0.length e1, y0⟩])).pick [] rfl)) ?_
     rintro _ _ ⟨U5, V5, rfl, H'⟩
     have H := H.back (M1 := [(P1, .cells #[.P a 0, .string (⟨#[107]⟩ : ByteArray), .slice v1 P0.length x1, .slice d1 y0.length e1, .I o2, .string (⟨#[]⟩ : ByteArray), .slice none (([] : List (BitVec 8)).length) 0, .bool true] 41 (0, 0))]) (W1 := [⟨SB, 23, .slice d1 y0.length e1, y0⟩]) H'
     have H : Hp w S [] _ [⟨SB, 23, .slice U5 y0.length V5, y0⟩, _, _, _, _, _, _, _, _, _, _] [_, _, _, _, _, _, _, _, _, _, _, _, _, _, _, _, _, _, _, _, _, _, _, _, _, _, _, _, _, _, _, _, _, _, _, _, _, _] _ := H
     have H : Hp w S [] _ [_, _, _, _, _, _, _, _, _, _] [Rp SB [.slice j4 P0.length k4] P0, _, _, _, _, _, _, _, _, _, _, _, _, _, _, _, _, _, _, _, _, _, _, _, _, _, _, _, _, _, _, _, _, _, _, _, _, _, _] _ := H.freezeW 2 rfl
     have H : Hp w S [] _ [_, _, _, _, _, _, _, _, _] [Rp (Shape.slice SB) [.slice U5 y0.length V5] y0, _, _, _, _, _, _, _, _, _, _, _, _, _, _, _, _, _, _, _, _, _, _, _, _, _, _, _, _, _, _, _, _, _, _, _, _, _, _, _] _ := H.freezeW 0 rfl
     have H := H.frontM 3 rfl
     have H := H.frontW 6 rfl
     have H := H.frontW 6 rfl
     refine uKS (bk_found (by omega) (by omega) (QC.may hq375 Q1) (by have := G0.rl; have := congrArg List.length Q1; rw [List.length_append] at this; omega) (Nat.le_trans (QC.len hq375) (Nat.le_trans G0.rl (by omega))) ((H.lend (M1 := [(k0, .cells #[.slice Y f.length Z, .slice o d.length r, .slice a0 f.length b0, .slice c0 r0.length d0, .slice s k.length t, .bool false, .slice none (([] : List (BitVec 8)).length) 0] 50 (0, 0))]) (W1 := [⟨SB, 23, .slice o d.length r, d⟩, ⟨SB, 23, .slice s k.length t, k⟩])).pick [12, 13, 4, 15, 1, 0] rfl)) ?_
     rintro _ _ ⟨rfl, i5, j5, W5, X5, H'⟩
     have H := H.back (M1 := [(k0, .cells #[.slice Y f.length Z, .slice o d.length r, .slice a0 f.length b0, .slice c0 r0.length d0, .slice s k.length t, .bool false, .slice none (([] : List (BitVec 8)).length) 0] 50 (0, 0))]) (W1 := [⟨SB, 23, .slice o d.length r, d⟩, ⟨SB, 23, .slice s k.length t, k⟩]) H'
     have H : Hp w S [] ((k0, .cells #[.slice j4 P0.length k4, .slice i5 y0.length j5, .slice j4 P0.length k4, .slice W5 y0.length X5, .slice none (([] : List (List (BitVec 8))).length) 0, .bool false, .slice none (([] : List (BitVec 8)).length) 0] 50 (0, 0)) :: (P1, .cells #[.P a 0, .string (⟨#[107]⟩ : ByteArray), .slice v1 P0.length x1, .slice d1 y0.length e1, .I o2, .string (⟨#[]⟩ : ByteArray), .slice none (([] : List (BitVec 8)).length) 0, .bool true] 41 (0, 0)) :: (j0, .cells #[.slice s2 B0.length t2, .slice h4 t0.length i4, .slice s2 B0.length t2, .slice P4 t0.length Q4, .slice none (([] : List (List (BitVec 8))).length) 0, .bool false, .slice none (([] : List (BitVec 8)).length) 0] 50 (0, 0)) :: (K0, .cells #[.P a 0, .string (⟨#[106]⟩ : ByteArray), .slice L0 B0.length M0, .slice C0 t0.length D0, .I o1, .string (⟨#[]⟩ : ByteArray), .slice none (([] : List (BitVec 8)).length) 0, .bool true] 41 (0, 0)) :: (O, .cells #[.P a 0, .string (⟨#[107]⟩ : ByteArray), .slice U f.length V, .slice u d.length y, .I s0, .string M, .slice W σ2z.length X, .bool T] 41 (0, 0)) :: (N, .cells #[.P a 0, .string (⟨#[106]⟩ : ByteArray), .slice f0 j.length g0, .slice A e.length C, .I v0, .string Q, .slice h0 σ1z.length i0, .bool e0] 41 (0, 0)) :: (diskM a p2 e2 f2)) [⟨SB, 23, .slice i5 y0.length j5, y0⟩, _, _, _, _, _, _, _, _] [_, _, _, Rp (Shape.slice SB) [.slice W5 y0.length X5] y0, _, _, _, _, _, _, _, _, _, _, _, _, _, _, _, _, _, _, _, _, _, _, _, _, _, _, _, _, _, _, _, _, _, _, _, _, _, _, _, _] _ := H
     refine uP 2 ?_
     refine uK (heads_spec (S := fun _ => True) (H.viewF 31 rfl)) ?_
     rintro _ _ C6 rfl
     have H := H.ext C6
     refine uF 2 ?_
     refine qT (.bool true) Tryz.func6 ?_
     exact ⟨_, rfl, H.done, rfl⟩
end Go.Proofs.YtdnibpclkhenmaaGreatDoor
