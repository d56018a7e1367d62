import Derived.Test.YtdnibpclkhenmaaGreatDoorSJG
import Derived.Test.YtdnibpclkhenmaaGreatDoorSJE
namespace Go.Proofs.YtdnibpclkhenmaaGreatDoor
open Go.BX
set_option maxHeartbeats 2000000 in
theorem jcheck_spec {S : Nat → Prop} {w : World} {O : List Nat} {jb db g : Nat} {nm seg : ByteArray} {sy : Bool} {B σ : List (BitVec 8)} {R0 R : List (List (BitVec 8))} {ab ar as_ : Option Addr} {cb cr cs n : Nat} {D0 : DiskD} {sa0 : Option Addr} {sk0 : Nat} {b : List (BitVec 8)} {ax : Option Addr} {cx : Nat} (hp : PlainB nm) (hd : DI D0) (ha : Al D0 (n + 300000)) (hJ : JL D0 nm B R0 R g seg σ sy) (hg : g < 1000000) (hb : b.length ≤ 3000000) (hroom : D0.now.length < 256) (H0 : Hp w S O ((jb, .cells #[.P db 0, .string nm, .slice ab B.length cb, .slice ar R.length cr, .I g, .string seg, .slice as_ σ.length cs, .bool sy] 41 (0, 0)) :: diskM db D0 sa0 sk0) [⟨SB, 23, .slice ar R.length cr, R⟩, ⟨stepS, 143, .slice sa0 D0.steps.length sk0, D0.steps⟩] [Rp SB [.slice ab B.length cb] B, Rp SB [.slice as_ σ.length cs] σ, Fz jQ, Rp SB [.slice ax b.length cx] b] w) :
 Calls Tryz.prog 15 #[.P jb 0, .slice ax b.length cx] w (Ret fun v w' => (v = .I 0 ∧ ∃ (ab' : Option Addr) (cb' : Nat) (D' : DiskD) (sa' : Option Addr) (sk' : Nat), JL D' nm b [] [] (g + 1) ⟨#[]⟩ [] true ∧ DI D' ∧ Al D' n ∧ Stp nm D0 D' ∧ Cp 1 D0 D' ∧ Hp w S O ((jb, .cells #[.P db 0, .string nm, .slice ab' b.length cb', .slice none (([] : List (List (BitVec 8))).length) 0, .I ((g + 1 : Nat) : Int), .string (⟨#[]⟩ : ByteArray), .slice none (([] : List (BitVec 8)).length) 0, .bool true] 41 (0, 0)) :: diskM db D' sa' sk') [⟨SB, 23, .slice none (([] : List (List (BitVec 8))).length) 0, ([] : List (List (BitVec 8)))⟩, diskW D' sa' sk'] [Rp SB [.slice ab' b.length cb'] b, Rp SB [.slice none (([] : List (BitVec 8)).length) 0] ([] : List (BitVec 8))] w') ∨ (∃ (y4 y5 y6 y7 : Value) (D' : DiskD) (sa' : Option Addr) (sk' : Nat), v = .I 70 ∧ Dd D0 D' nm (g + 1) (fun B' lo hi => (B' = B ∧ R0 <+: lo ∧ hi <+: R) ∨ (B' = b ∧ hi = [])) ∧ Hp w S O ((jb, .cells #[.P db 0, .string nm, .slice ab B.length cb, .slice ar R.length cr, y4, y5, y6, y7] 41 (0, 0)) :: diskM db D' sa' sk') [⟨SB, 23, .slice ar R.length cr, R⟩, diskW D' sa' sk'] [Rp SB [.slice ab B.length cb] B] w')) := by
 obtain ⟨V, cur, hL, hB, hR0, hR, hseg, hst, hy1, hy2⟩ := hJ
 refine qS (fn := Tryz.f15) (n := 64) (σ := [(0, .P jb 0), (1, .slice ax b.length cx)]) Tryz.func15 ?_
 have H := H0
 refine qR 4 [.c [1, 0, 0], .c [1, 0, 1], .c [2]] [(0, .P jb 0), (1, .slice ax b.length cx)] ?_
 refine qG (sq 0 3) ?_
 refine qP 1 (sq 1 3) [(0, .P jb 0), (1, .slice ax b.length cx), (10, .P jb 0)] ?_
 have H := H.frontW 1 (W' := [⟨stepS, 143, .slice sa0 D0.steps.length sk0, D0.steps⟩, ⟨SB, 23, .slice ar R.length cr, R⟩]) rfl
 have H := H.perms (M' := ((jb, .cells #[.P db 0, .string nm, .slice ab B.length cb, .slice ar R.length cr, .I g, .string seg, .slice as_ σ.length cs, .bool sy] 41 (0, 0)) :: diskM db D0 sa0 sk0) ++ []) (W' := [⟨stepS, 143, .slice sa0 D0.steps.length sk0, D0.steps⟩, ⟨SB, 23, .slice ar R.length cr, R⟩]) ((List.perm_append_comm (l₁ := diskM db D0 sa0 sk0) (l₂ := ([] : Heap))).cons _) (List.Perm.refl _)
 refine RW.callS (d := some 11) (r := (sq 2 3)) (g := 54) (args := #[.P jb 0]) (by as_aux_lemma => kernel_rfl) (state_go ha.dead ((H.lend (M1 := ((jb, .cells #[.P db 0, .string nm, .slice ab B.length cb, .slice ar R.length cr, .I g, .string seg, .slice as_ σ.length cs, .bool sy] 41 (0, 0)) :: diskM db D0 sa0 sk0)) (W1 := [⟨stepS, 143, .slice sa0 D0.steps.length sk0, D0.steps⟩])).pick [] rfl)) ?_
 rintro _ w1 ⟨rfl, H'⟩
 have H := H.back (M1 := ((jb, .cells #[.P db 0, .string nm, .slice ab B.length cb, .slice ar R.length cr, .I g, .string seg, .slice as_ σ.length cs, .bool sy] 41 (0, 0)) :: diskM db D0 sa0 sk0)) (W1 := [⟨stepS, 143, .slice sa0 D0.steps.length sk0, D0.steps⟩]) H'
 have H := H.perms (M' := ((jb, .cells #[.P db 0, .string nm, .slice ab B.length cb, .slice ar R.length cr, .I g, .string seg, .slice as_ σ.length cs, .bool sy] 41 (0, 0)) :: (diskM db D0 sa0 sk0))) (W' := [⟨stepS, 143, .slice sa0 D0.steps.length sk0, D0.steps⟩, ⟨SB, 23, .slice ar R.length cr, R⟩]) ((List.perm_append_comm (l₁ := ([] : Heap)) (l₂ := diskM db D0 sa0 sk0)).cons _) (List.Perm.refl _)
 have H : Hp w S O ((jb, .cells #[.P db 0, .string nm, .slice ab B.length cb, .slice ar R.length cr, .I g, .string seg, .slice as_ σ.length cs, .bool sy] 41 (0, 0)) :: (diskM db D0 sa0 sk0)) [⟨stepS, 143, .slice sa0 D0.steps.length sk0, D0.steps⟩, ⟨SB, 23, .slice ar R.length cr, R⟩] [Rp SB [.slice ab B.length cb] B, Rp SB [.slice as_ σ.length cs] σ, Fz jQ, Rp SB [.slice ax b.length cx] b] _ := H
 refine qF 1 [(0, .P jb 0), (1, .slice ax b.length cx), (5, .I 0)] ?_
 refine qR 7 [.c [2, 0, 1], .c [3]] [(0, .P jb 0), (1, .slice ax b.length cx), (17, .bool (decide ((((b.length : Nat) : Int) : Int) > 4194304)))] ?_
 refine qD ((((b.length : Nat) : Int) : Int) > 4194304) (fun h2 => ?_) (fun h2 => ?_)
 ·
  omega
 ·
  refine qR 3 [.c [3, 0, 0], .c [3, 0, 1], .c [4]] [(0, .P jb 0), (1, .slice ax b.length cx)] ?_
  refine qG (sq 0 3) ?_
  refine qP 1 (sq 1 3) [(0, .P jb 0), (1, .slice ax b.length cx), (18, .P jb 0)] ?_
  have H := H.perms (M' := ((jb, .cells #[.P db 0, .string nm, .slice ab B.length cb, .slice ar R.length cr, .I g, .string seg, .slice as_ σ.length cs, .bool sy] 41 (0, 0)) :: diskM db D0 sa0 sk0) ++ []) (W' := [⟨stepS, 143, .slice sa0 D0.steps.length sk0, D0.steps⟩, ⟨SB, 23, .slice ar R.length cr, R⟩]) ((List.perm_append_comm (l₁ := diskM db D0 sa0 sk0) (l₂ := ([] : Heap))).cons _) (List.Perm.refl _)
  refine RW.callS (d := some 19) (r := (sq 2 3)) (g := 54) (args := #[.P jb 0]) (by as_aux_lemma => kernel_rfl) (state_go ha.dead ((H.lend (M1 := ((jb, .cells #[.P db 0, .string nm, .slice ab B.length cb, .slice ar R.length cr, .I g, .string seg, .slice as_ σ.length cs, .bool sy] 41 (0, 0)) :: diskM db D0 sa0 sk0)) (W1 := [⟨stepS, 143, .slice sa0 D0.steps.length sk0, D0.steps⟩])).pick [] rfl)) ?_
  rintro _ w3 ⟨rfl, H'⟩
  have H := H.back (M1 := ((jb, .cells #[.P db 0, .string nm, .slice ab B.length cb, .slice ar R.length cr, .I g, .string seg, .slice as_ σ.length cs, .bool sy] 41 (0, 0)) :: diskM db D0 sa0 sk0)) (W1 := [⟨stepS, 143, .slice sa0 D0.steps.length sk0, D0.steps⟩]) H'
  have H := H.perms (M' := ((jb, .cells #[.P db 0, .string nm, .slice ab B.length cb, .slice ar R.length cr, .I g, .string seg, .slice as_ σ.length cs, .bool sy] 41 (0, 0)) :: (diskM db D0 sa0 sk0))) (W' := [⟨stepS, 143, .slice sa0 D0.steps.length sk0, D0.steps⟩, ⟨SB, 23, .slice ar R.length cr, R⟩]) ((List.perm_append_comm (l₁ := ([] : Heap)) (l₂ := diskM db D0 sa0 sk0)).cons _) (List.Perm.refl _)
  have H : Hp w S O ((jb, .cells #[.P db 0, .string nm, .slice ab B.length cb, .slice ar R.length cr, .I g, .string seg, .slice as_ σ.length cs, .bool sy] 41 (0, 0)) :: (diskM db D0 sa0 sk0)) [⟨stepS, 143, .slice sa0 D0.steps.length sk0, D0.steps⟩, ⟨SB, 23, .slice ar R.length cr, R⟩] [Rp SB [.slice ab B.length cb] B, Rp SB [.slice as_ σ.length cs] σ, Fz jQ, Rp SB [.slice ax b.length cx] b] _ := H
  refine qF 1 [(0, .P jb 0), (1, .slice ax b.length cx), (6, .I 0)] ?_
  refine qR 5 [.c [4, 0], .c [5]] [(0, .P jb 0), (1, .slice ax b.length cx)] ?_
  refine qG (sq 0 6) ?_
  refine qP 3 (sq 3 6) [(0, .P jb 0), (1, .slice ax b.length cx), (25, .P jb 4)] ?_
  refine qL .seq 26 (sq 4 6) 3 jb 4 4 (.I g) (H.cells 0 rfl) ?_
  refine qI .seq 27 (sq 5 6) ((g : Int) + 1) ?_
  refine qF 1 [(0, .P jb 0), (1, .slice ax b.length cx), (7, .I ((g : Int) + 1))] ?_
  refine qR 2 [.c [5, 0, 0], .c [5, 0, 1], .c [6]] [(0, .P jb 0), (1, .slice ax b.length cx), (7, .I ((g : Int) + 1))] ?_
  refine qG (sq 0 5) ?_
  refine qP 3 (sq 3 5) [(0, .P jb 0), (1, .slice ax b.length cx), (7, .I ((g : Int) + 1)), (28, .P jb 0), (29, .slice ax b.length cx), (30, .I ((g : Int) + 1))] ?_
  have H := H.perms (M' := ((jb, .cells #[.P db 0, .string nm, .slice ab B.length cb, .slice ar R.length cr, .I g, .string seg, .slice as_ σ.length cs, .bool sy] 41 (0, 0)) :: diskM db D0 sa0 sk0) ++ []) (W' := [⟨stepS, 143, .slice sa0 D0.steps.length sk0, D0.steps⟩, ⟨SB, 23, .slice ar R.length cr, R⟩]) ((List.perm_append_comm (l₁ := diskM db D0 sa0 sk0) (l₂ := ([] : Heap))).cons _) (List.Perm.refl _)
  refine RW.callS (d := some 31) (r := (sq 4 5)) (g := 55) (args := #[.P jb 0, .slice ax b.length cx, .I ((g : Int) + 1)]) (by as_aux_lemma => kernel_rfl) (turned_spec (b := b) (n := n) hp hd (ha.mono (by omega)) hL hg hb hroom ((H.lend (M1 := ((jb, .cells #[.P db 0, .string nm, .slice ab B.length cb, .slice ar R.length cr, .I g, .string seg, .slice as_ σ.length cs, .bool sy] 41 (0, 0)) :: diskM db D0 sa0 sk0)) (W1 := [⟨stepS, 143, .slice sa0 D0.steps.length sk0, D0.steps⟩])).pick [3, 2] rfl)) ?_
  rintro _ w4 (⟨rfl, D5, sa6, sk7, ⟨p9, hL10⟩, hD11, hA12, hS13, hC14, H'⟩ | ⟨eb8, rfl, D5, sa6, sk7, hQ15, H'⟩)
  ·
   have H := H.back (M1 := ((jb, .cells #[.P db 0, .string nm, .slice ab B.length cb, .slice ar R.length cr, .I g, .string seg, .slice as_ σ.length cs, .bool sy] 41 (0, 0)) :: diskM db D0 sa0 sk0)) (W1 := [⟨stepS, 143, .slice sa0 D0.steps.length sk0, D0.steps⟩]) H'
   have H := H.perms (M' := ((jb, .cells #[.P db 0, .string nm, .slice ab B.length cb, .slice ar R.length cr, .I g, .string seg, .slice as_ σ.length cs, .bool sy] 41 (0, 0)) :: (diskM db D5 sa6 sk7))) (W' := [⟨stepS, 143, .slice sa6 D5.steps.length sk7, D5.steps⟩, ⟨SB, 23, .slice ar R.length cr, R⟩]) ((List.perm_append_comm (l₁ := ([] : Heap)) (l₂ := diskM db D5 sa6 sk7)).cons _) (List.Perm.refl _)
   have H : Hp w S O ((jb, .cells #[.P db 0, .string nm, .slice ab B.length cb, .slice ar R.length cr, .I g, .string seg, .slice as_ σ.length cs, .bool sy] 41 (0, 0)) :: (diskM db D5 sa6 sk7)) [⟨stepS, 143, .slice sa6 D5.steps.length sk7, D5.steps⟩, ⟨SB, 23, .slice ar R.length cr, R⟩] [Rp SB [.slice ab B.length cb] B, Rp SB [.slice as_ σ.length cs] σ, Fz jQ, Rp SB [.slice ax b.length cx] b] _ := H
   have hnl9 : D5.now.length ≤ 256 := by have := Cp.now hC14 hd hD11; omega
   refine qF 1 [(0, .P jb 0), (1, .slice ax b.length cx), (7, .I ((g : Int) + 1)), (8, .nilIface)] ?_
   refine qR 6 [.c [6, 0, 0], .c [6, 0, 1], .c [7]] [(0, .P jb 0), (1, .slice ax b.length cx), (7, .I ((g : Int) + 1))] ?_
   refine qG (sq 0 4) ?_
   refine qP 2 (sq 2 4) [(0, .P jb 0), (1, .slice ax b.length cx), (7, .I ((g : Int) + 1)), (36, .P jb 0), (37, .I ((g : Int) + 1))] ?_
   have H := H.perms (M' := ((jb, .cells #[.P db 0, .string nm, .slice ab B.length cb, .slice ar R.length cr, .I g, .string seg, .slice as_ σ.length cs, .bool sy] 41 (0, 0)) :: diskM db D5 sa6 sk7) ++ []) (W' := [⟨stepS, 143, .slice sa6 D5.steps.length sk7, D5.steps⟩, ⟨SB, 23, .slice ar R.length cr, R⟩]) ((List.perm_append_comm (l₁ := diskM db D5 sa6 sk7) (l₂ := ([] : Heap))).cons _) (List.Perm.refl _)
   refine RW.callS (d := some 38) (r := (sq 3 4)) (g := 56) (args := #[.P jb 0, .I ((g : Int) + 1)]) (by as_aux_lemma => kernel_rfl) (jdrop_spec (Dz := D0) (V := ⟨g + 1, p9, b, []⟩) (g := g + 1) (n := n) hp (hA12.rdy hD11) hnl9 (fun ns h9 => DrS.start hD11 (hA12.mono (by omega)) hL10 hS13 hC14 h9) ((H.lend (M1 := ((jb, .cells #[.P db 0, .string nm, .slice ab B.length cb, .slice ar R.length cr, .I g, .string seg, .slice as_ σ.length cs, .bool sy] 41 (0, 0)) :: diskM db D5 sa6 sk7)) (W1 := [⟨stepS, 143, .slice sa6 D5.steps.length sk7, D5.steps⟩])).pick [] rfl)) ?_
   rintro _ w16 (⟨rfl, D17, sa18, sk19, hP21, H'⟩ | ⟨eb20, rfl, D17, sa18, sk19, hQ22, H'⟩)
   ·
    have H := H.back (M1 := ((jb, .cells #[.P db 0, .string nm, .slice ab B.length cb, .slice ar R.length cr, .I g, .string seg, .slice as_ σ.length cs, .bool sy] 41 (0, 0)) :: diskM db D5 sa6 sk7)) (W1 := [⟨stepS, 143, .slice sa6 D5.steps.length sk7, D5.steps⟩]) H'
    have H := H.perms (M' := ((jb, .cells #[.P db 0, .string nm, .slice ab B.length cb, .slice ar R.length cr, .I g, .string seg, .slice as_ σ.length cs, .bool sy] 41 (0, 0)) :: (diskM db D17 sa18 sk19))) (W' := [⟨stepS, 143, .slice sa18 D17.steps.length sk19, D17.steps⟩, ⟨SB, 23, .slice ar R.length cr, R⟩]) ((List.perm_append_comm (l₁ := ([] : Heap)) (l₂ := diskM db D17 sa18 sk19)).cons _) (List.Perm.refl _)
    have H : Hp w S O ((jb, .cells #[.P db 0, .string nm, .slice ab B.length cb, .slice ar R.length cr, .I g, .string seg, .slice as_ σ.length cs, .bool sy] 41 (0, 0)) :: (diskM db D17 sa18 sk19)) [⟨stepS, 143, .slice sa18 D17.steps.length sk19, D17.steps⟩, ⟨SB, 23, .slice ar R.length cr, R⟩] [Rp SB [.slice ab B.length cb] B, Rp SB [.slice as_ σ.length cs] σ, Fz jQ, Rp SB [.slice ax b.length cx] b] _ := H
    refine qF 1 [(0, .P jb 0), (1, .slice ax b.length cx), (7, .I ((g : Int) + 1)), (9, .nilIface)] ?_
    refine qR 5 [.c [7, 0], .c [8]] [(0, .P jb 0), (1, .slice ax b.length cx), (7, .I ((g : Int) + 1))] ?_
    refine qG (sq 0 17) ?_
    refine qP 7 (sq 7 17) [(0, .P jb 0), (1, .slice ax b.length cx), (44, .P jb 0), (45, .P jb 0), (46, .P jb 0), (47, .I ((g : Int) + 1)), (49, .P jb 4)] ?_
    refine qW 3 jb 4 (sq 8 17) (.I ((g : Int) + 1)) ((jb, .cells #[.P db 0, .string nm, .slice ab B.length cb, .slice ar R.length cr, .I ((g : Int) + 1), .string seg, .slice as_ σ.length cs, .bool sy] 41 (0, 0)) :: (diskM db D17 sa18 sk19)) H 0 rfl rfl ?_
    intro w23 H
    refine qP 2 (sq 10 17) [(0, .P jb 0), (1, .slice ax b.length cx), (45, .P jb 0), (46, .P jb 0), (51, .P jb 5)] ?_
    refine qW 9 jb 5 (sq 11 17) (.string (⟨#[]⟩ : ByteArray)) ((jb, .cells #[.P db 0, .string nm, .slice ab B.length cb, .slice ar R.length cr, .I ((g : Int) + 1), .string (⟨#[]⟩ : ByteArray), .slice as_ σ.length cs, .bool sy] 41 (0, 0)) :: (diskM db D17 sa18 sk19)) H 0 rfl rfl ?_
    intro w24 H
    refine qP 2 (sq 13 17) [(0, .P jb 0), (1, .slice ax b.length cx), (46, .P jb 0), (53, .P jb 6)] ?_
    refine qW 23 jb 6 (sq 14 17) (.slice none 0 0) ((jb, .cells #[.P db 0, .string nm, .slice ab B.length cb, .slice ar R.length cr, .I ((g : Int) + 1), .string (⟨#[]⟩ : ByteArray), .slice none 0 0, .bool sy] 41 (0, 0)) :: (diskM db D17 sa18 sk19)) H 0 rfl rfl ?_
    intro w25 H
    refine qP 2 (sq 16 17) [(0, .P jb 0), (1, .slice ax b.length cx), (55, .P jb 7)] ?_
    refine qW 4 jb 7 (sq 17 17) (.bool true) ((jb, .cells #[.P db 0, .string nm, .slice ab B.length cb, .slice ar R.length cr, .I ((g : Int) + 1), .string (⟨#[]⟩ : ByteArray), .slice none 0 0, .bool true] 41 (0, 0)) :: (diskM db D17 sa18 sk19)) H 0 rfl rfl ?_
    intro w26 H
    refine qF 0 [(0, .P jb 0), (1, .slice ax b.length cx)] ?_
    refine qR 1 [.c [8, 0], .c [9]] [(0, .P jb 0), (1, .slice ax b.length cx)] ?_
    refine qG (sq 0 10) ?_
    refine qP 3 (sq 3 10) [(56, .P jb 0), (57, .P jb 0), (58, .slice ax b.length cx)] ?_
    have H := H.ownNil Sb 5
    have H : Hp w S O ((jb, .cells #[.P db 0, .string nm, .slice ab B.length cb, .slice ar R.length cr, .I ((g : Int) + 1), .string (⟨#[]⟩ : ByteArray), .slice none 0 0, .bool true] 41 (0, 0)) :: (diskM db D17 sa18 sk19)) [⟨Sb, 5, .slice none 0 0, []⟩, ⟨stepS, 143, .slice sa18 D17.steps.length sk19, D17.steps⟩, ⟨SB, 23, .slice ar R.length cr, R⟩] [Rp SB [.slice ab B.length cb] B, Rp SB [.slice as_ σ.length cs] σ, Fz jQ, Rp SB [.slice ax b.length cx] b] _ := H
    refine RW.appendW (d := some 59) (r := (sq 4 10)) (T := 23) (ty := 23) (e := 5) (m := 1) (by_ := 1) (v := .slice none 0 0) (a2 := ax) (l2 := b.length) (c2 := cx) (zs := b) (by as_aux_lemma => kernel_rfl) (by as_aux_lemma => kernel_rfl) rfl H 0 rfl 3 rfl (rfl) (by omega) ?_
    intro a27 c28 w30 H hc29
    have H : Hp w S O ((jb, .cells #[.P db 0, .string nm, .slice ab B.length cb, .slice ar R.length cr, .I ((g : Int) + 1), .string (⟨#[]⟩ : ByteArray), .slice none 0 0, .bool true] 41 (0, 0)) :: (diskM db D17 sa18 sk19)) [⟨Sb, 5, .slice a27 b.length c28, b⟩, ⟨stepS, 143, .slice sa18 D17.steps.length sk19, D17.steps⟩, ⟨SB, 23, .slice ar R.length cr, R⟩] [Rp SB [.slice ab B.length cb] B, Rp SB [.slice as_ σ.length cs] σ, Fz jQ, Rp SB [.slice ax b.length cx] b] _ := H
    refine qP 2 (sq 6 10) [(57, .P jb 0), (59, .slice a27 b.length c28), (61, .P jb 2)] ?_
    refine qW 23 jb 2 (sq 7 10) (.slice a27 b.length c28) ((jb, .cells #[.P db 0, .string nm, .slice a27 b.length c28, .slice ar R.length cr, .I ((g : Int) + 1), .string (⟨#[]⟩ : ByteArray), .slice none 0 0, .bool true] 41 (0, 0)) :: (diskM db D17 sa18 sk19)) H 0 rfl rfl ?_
    intro w31 H
    refine qP 2 (sq 9 10) [(63, .P jb 3)] ?_
    refine qW 22 jb 3 (sq 10 10) (.slice none 0 0) ((jb, .cells #[.P db 0, .string nm, .slice a27 b.length c28, .slice none 0 0, .I ((g : Int) + 1), .string (⟨#[]⟩ : ByteArray), .slice none 0 0, .bool true] 41 (0, 0)) :: (diskM db D17 sa18 sk19)) H 0 rfl rfl ?_
    intro w32 H
    refine qF 0 [] ?_
    refine qR 2 [.c [10]] [(4, .I 0)] ?_
    refine qT (.I 0) Tryz.func15 ?_
    have H : Hp w S O ((jb, .cells #[.P db 0, .string nm, .slice a27 b.length c28, .slice none 0 0, .I ((g : Int) + 1), .string (⟨#[]⟩ : ByteArray), .slice none 0 0, .bool true] 41 (0, 0)) :: (diskM db D17 sa18 sk19)) [⟨stepS, 143, .slice sa18 D17.steps.length sk19, D17.steps⟩, ⟨SB, 23, .slice ar R.length cr, R⟩] [Rp SB [.slice a27 b.length c28] b, Rp SB [.slice ab B.length cb] B, Rp SB [.slice as_ σ.length cs] σ, Fz jQ, Rp SB [.slice ax b.length cx] b] _ := H.freezeW 0 rfl
    have H := H.ownNil SB 23
    have H : Hp w S O ((jb, .cells #[.P db 0, .string nm, .slice a27 b.length c28, .slice none 0 0, .I ((g : Int) + 1), .string (⟨#[]⟩ : ByteArray), .slice none 0 0, .bool true] 41 (0, 0)) :: (diskM db D17 sa18 sk19)) [⟨SB, 23, .slice none 0 0, ([] : List (List (BitVec 8)))⟩, ⟨stepS, 143, .slice sa18 D17.steps.length sk19, D17.steps⟩, ⟨SB, 23, .slice ar R.length cr, R⟩] [Rp SB [.slice a27 b.length c28] b, Rp SB [.slice ab B.length cb] B, Rp SB [.slice as_ σ.length cs] σ, Fz jQ, Rp SB [.slice ax b.length cx] b] _ := H
    have H := H.add (F := Rp SB [.slice none 0 0] ([] : List (BitVec 8))) Shape.slice_nil
    have H := H.pick [1, 0] rfl
    have H := H.drop (M' := ((jb, .cells #[.P db 0, .string nm, .slice a27 b.length c28, .slice none 0 0, .I ((g : Int) + 1), .string (⟨#[]⟩ : ByteArray), .slice none 0 0, .bool true] 41 (0, 0)) :: (diskM db D17 sa18 sk19))) (W' := [⟨SB, 23, .slice none 0 0, ([] : List (List (BitVec 8)))⟩, ⟨stepS, 143, .slice sa18 D17.steps.length sk19, D17.steps⟩]) (by repeat (first | exact List.Sublist.refl _ | exact List.nil_sublist _ | apply List.Sublist.cons_cons | apply List.Sublist.cons)) (by repeat (first | exact List.Sublist.refl _ | exact List.nil_sublist _ | apply List.Sublist.cons_cons | apply List.Sublist.cons))
    have hd9 := hP21
    exact ⟨_, rfl, .inl ⟨rfl, _, _, D17, sa18, sk19, JL.fresh (DrS.done hp hd9), hd9.di, hd9.al.mono (Nat.le_add_right _ _), hd9.stp, hd9.cp, H⟩⟩
   ·
    have H := H.back (M1 := ((jb, .cells #[.P db 0, .string nm, .slice ab B.length cb, .slice ar R.length cr, .I g, .string seg, .slice as_ σ.length cs, .bool sy] 41 (0, 0)) :: diskM db D5 sa6 sk7)) (W1 := [⟨stepS, 143, .slice sa6 D5.steps.length sk7, D5.steps⟩]) H'
    have H := H.perms (M' := ((eb20, .cells #[.I 70] 204 (0, 0)) :: (jb, .cells #[.P db 0, .string nm, .slice ab B.length cb, .slice ar R.length cr, .I g, .string seg, .slice as_ σ.length cs, .bool sy] 41 (0, 0)) :: (diskM db D17 sa18 sk19))) (W' := [⟨stepS, 143, .slice sa18 D17.steps.length sk19, D17.steps⟩, ⟨SB, 23, .slice ar R.length cr, R⟩]) (((List.perm_append_comm (l₁ := ([] : Heap)) (l₂ := diskM db D17 sa18 sk19)).cons _).cons _) (List.Perm.refl _)
    have H : Hp w S O ((eb20, .cells #[.I 70] 204 (0, 0)) :: (jb, .cells #[.P db 0, .string nm, .slice ab B.length cb, .slice ar R.length cr, .I g, .string seg, .slice as_ σ.length cs, .bool sy] 41 (0, 0)) :: (diskM db D17 sa18 sk19)) [⟨stepS, 143, .slice sa18 D17.steps.length sk19, D17.steps⟩, ⟨SB, 23, .slice ar R.length cr, R⟩] [Rp SB [.slice ab B.length cb] B, Rp SB [.slice as_ σ.length cs] σ, Fz jQ, Rp SB [.slice ax b.length cx] b] _ := H
    refine qF 1 [(0, .P jb 0), (1, .slice ax b.length cx), (7, .I ((g : Int) + 1)), (9, .iface 200 (.P eb20 0))] ?_
    refine qR 4 [.c [6, 0, 2, 0, 0], .c [6, 0, 2, 0, 1], .c [7]] [(9, .iface 200 (.P eb20 0))] ?_
    refine qG (sq 0 3) ?_
    refine qP 1 (sq 1 3) [(41, .iface 200 (.P eb20 0))] ?_
    refine RW.callS (d := some 42) (r := (sq 2 3)) (g := 53) (args := #[.iface 200 (.P eb20 0)]) (by as_aux_lemma => kernel_rfl) (jnumber_spec ((H.lend (M1 := [(eb20, .cells #[.I 70] 204 (0, 0))]) (W1 := [])).pick [2] rfl)) ?_
    rintro _ w33 ⟨rfl, H'⟩
    have H := H.back (M1 := [(eb20, .cells #[.I 70] 204 (0, 0))]) (W1 := []) H'
    have H : Hp w S O ((eb20, .cells #[.I 70] 204 (0, 0)) :: (jb, .cells #[.P db 0, .string nm, .slice ab B.length cb, .slice ar R.length cr, .I g, .string seg, .slice as_ σ.length cs, .bool sy] 41 (0, 0)) :: (diskM db D17 sa18 sk19)) [⟨stepS, 143, .slice sa18 D17.steps.length sk19, D17.steps⟩, ⟨SB, 23, .slice ar R.length cr, R⟩] [Rp SB [.slice ab B.length cb] B, Rp SB [.slice as_ σ.length cs] σ, Fz jQ, Rp SB [.slice ax b.length cx] b] _ := H
    refine qF 1 [(4, .I 70)] ?_
    refine qT (.I 70) Tryz.func15 ?_
    have H := H.pick [0] rfl
    have H := H.frontW 1 (W' := [⟨SB, 23, .slice ar R.length cr, R⟩, ⟨stepS, 143, .slice sa18 D17.steps.length sk19, D17.steps⟩]) rfl
    have H := H.drop (M' := ((jb, .cells #[.P db 0, .string nm, .slice ab B.length cb, .slice ar R.length cr, .I g, .string seg, .slice as_ σ.length cs, .bool sy] 41 (0, 0)) :: (diskM db D17 sa18 sk19))) (W' := [⟨SB, 23, .slice ar R.length cr, R⟩, ⟨stepS, 143, .slice sa18 D17.steps.length sk19, D17.steps⟩]) (by repeat (first | exact List.Sublist.refl _ | exact List.nil_sublist _ | apply List.Sublist.cons_cons | apply List.Sublist.cons)) (by repeat (first | exact List.Sublist.refl _ | exact List.nil_sublist _ | apply List.Sublist.cons_cons | apply List.Sublist.cons))
    exact ⟨_, rfl, .inr ⟨_, _, _, _, D17, sa18, sk19, rfl, (hQ22).mono (Nat.le_refl _) fun B lo hi h9 => .inr ⟨h9.1, List.prefix_nil.1 h9.2.2⟩, H⟩⟩
  ·
   have H := H.back (M1 := ((jb, .cells #[.P db 0, .string nm, .slice ab B.length cb, .slice ar R.length cr, .I g, .string seg, .slice as_ σ.length cs, .bool sy] 41 (0, 0)) :: diskM db D0 sa0 sk0)) (W1 := [⟨stepS, 143, .slice sa0 D0.steps.length sk0, D0.steps⟩]) H'
   have H := H.perms (M' := ((eb8, .cells #[.I 70] 204 (0, 0)) :: (jb, .cells #[.P db 0, .string nm, .slice ab B.length cb, .slice ar R.length cr, .I g, .string seg, .slice as_ σ.length cs, .bool sy] 41 (0, 0)) :: (diskM db D5 sa6 sk7))) (W' := [⟨stepS, 143, .slice sa6 D5.steps.length sk7, D5.steps⟩, ⟨SB, 23, .slice ar R.length cr, R⟩]) (((List.perm_append_comm (l₁ := ([] : Heap)) (l₂ := diskM db D5 sa6 sk7)).cons _).cons _) (List.Perm.refl _)
   have H : Hp w S O ((eb8, .cells #[.I 70] 204 (0, 0)) :: (jb, .cells #[.P db 0, .string nm, .slice ab B.length cb, .slice ar R.length cr, .I g, .string seg, .slice as_ σ.length cs, .bool sy] 41 (0, 0)) :: (diskM db D5 sa6 sk7)) [⟨stepS, 143, .slice sa6 D5.steps.length sk7, D5.steps⟩, ⟨SB, 23, .slice ar R.length cr, R⟩] [Rp SB [.slice ab B.length cb] B, Rp SB [.slice as_ σ.length cs] σ, Fz jQ, Rp SB [.slice ax b.length cx] b] _ := H
   refine qF 1 [(0, .P jb 0), (1, .slice ax b.length cx), (7, .I ((g : Int) + 1)), (8, .iface 200 (.P eb8 0))] ?_
   refine qR 4 [.c [5, 0, 2, 0, 0], .c [5, 0, 2, 0, 1], .c [6]] [(8, .iface 200 (.P eb8 0))] ?_
   refine qG (sq 0 3) ?_
   refine qP 1 (sq 1 3) [(34, .iface 200 (.P eb8 0))] ?_
   refine RW.callS (d := some 35) (r := (sq 2 3)) (g := 53) (args := #[.iface 200 (.P eb8 0)]) (by as_aux_lemma => kernel_rfl) (jnumber_spec ((H.lend (M1 := [(eb8, .cells #[.I 70] 204 (0, 0))]) (W1 := [])).pick [2] rfl)) ?_
   rintro _ w34 ⟨rfl, H'⟩
   have H := H.back (M1 := [(eb8, .cells #[.I 70] 204 (0, 0))]) (W1 := []) H'
   have H : Hp w S O ((eb8, .cells #[.I 70] 204 (0, 0)) :: (jb, .cells #[.P db 0, .string nm, .slice ab B.length cb, .slice ar R.length cr, .I g, .string seg, .slice as_ σ.length cs, .bool sy] 41 (0, 0)) :: (diskM db D5 sa6 sk7)) [⟨stepS, 143, .slice sa6 D5.steps.length sk7, D5.steps⟩, ⟨SB, 23, .slice ar R.length cr, R⟩] [Rp SB [.slice ab B.length cb] B, Rp SB [.slice as_ σ.length cs] σ, Fz jQ, Rp SB [.slice ax b.length cx] b] _ := H
   refine qF 1 [(4, .I 70)] ?_
   refine qT (.I 70) Tryz.func15 ?_
   have H := H.pick [0] rfl
   have H := H.frontW 1 (W' := [⟨SB, 23, .slice ar R.length cr, R⟩, ⟨stepS, 143, .slice sa6 D5.steps.length sk7, D5.steps⟩]) rfl
   have H := H.drop (M' := ((jb, .cells #[.P db 0, .string nm, .slice ab B.length cb, .slice ar R.length cr, .I g, .string seg, .slice as_ σ.length cs, .bool sy] 41 (0, 0)) :: (diskM db D5 sa6 sk7))) (W' := [⟨SB, 23, .slice ar R.length cr, R⟩, ⟨stepS, 143, .slice sa6 D5.steps.length sk7, D5.steps⟩]) (by repeat (first | exact List.Sublist.refl _ | exact List.nil_sublist _ | apply List.Sublist.cons_cons | apply List.Sublist.cons)) (by repeat (first | exact List.Sublist.refl _ | exact List.nil_sublist _ | apply List.Sublist.cons_cons | apply List.Sublist.cons))
   exact ⟨_, rfl, .inr ⟨_, _, _, _, D5, sa6, sk7, rfl, (hQ15).mono (Nat.le_refl _) fun _ _ _ h9 => by rw [← hB, ← hR0, ← hR]; exact h9, H⟩⟩
end Go.Proofs.YtdnibpclkhenmaaGreatDoor
