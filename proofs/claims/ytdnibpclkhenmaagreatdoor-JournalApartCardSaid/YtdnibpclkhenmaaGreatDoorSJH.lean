import Derived.Test.YtdnibpclkhenmaaGreatDoorSBxA
import Derived.Test.YtdnibpclkhenmaaGreatDoorSJG
import Derived.Test.YtdnibpclkhenmaaGreatDoorSJE
namespace Go.Proofs.YtdnibpclkhenmaaGreatDoor
open Go.BX
set_option maxHeartbeats 2000000 in
theorem jcheck_spec {S : Nat → Prop} {w : World} {O : List Nat} {jb db g : Nat} {nm seg : ByteArray} {sy : Bool} {B σ : List (BitVec 8)} {R0 R : List (List (BitVec 8))} {ab ar as_ : Option Addr} {cb cr cs n q : Nat} {D0 : DiskD} {sa0 : Option Addr} {sk0 : Nat} {b : List (BitVec 8)} {ax : Option Addr} {cx : Nat} (hp : PlainB nm) (hd : DI D0) (ha : Al D0 (n + 300000)) (hJ : JL D0 nm B R0 R g seg σ sy q) (hg : g < 1000000) (hb : b.length ≤ 3000000) (hroom : D0.now.length < 256) (H0 : Hp w S O ((jb, .cells #[.P db 0, .string nm, .slice ab B.length cb, .slice ar R.length cr, .I g, .string seg, .slice as_ σ.length cs, .bool sy] 41 (0, 0)) :: diskM db D0 sa0 sk0) [⟨SB, 23, .slice ar R.length cr, R⟩, ⟨stepS, 143, .slice sa0 D0.steps.length sk0, D0.steps⟩] [Rp SB [.slice ab B.length cb] B, Rp SB [.slice as_ σ.length cs] σ, Fz jQ, Rp SB [.slice ax b.length cx] b] w) :
 Calls Tryz.prog 15 #[.P jb 0, .slice ax b.length cx] w (Ret fun v w' => (v = .I 0 ∧ ∃ (ab' : Option Addr) (cb' : Nat) (D' : DiskD) (sa' : Option Addr) (sk' : Nat), JL D' nm b [] [] (g + 1) ⟨#[]⟩ [] true 0 ∧ DI D' ∧ Al D' n ∧ Stp nm D0 D' ∧ Cp 1 D0 D' ∧ Hp w S O ((jb, .cells #[.P db 0, .string nm, .slice ab' b.length cb', .slice none (([] : List (List (BitVec 8))).length) 0, .I ((g + 1 : Nat) : Int), .string (⟨#[]⟩ : ByteArray), .slice none (([] : List (BitVec 8)).length) 0, .bool true] 41 (0, 0)) :: diskM db D' sa' sk') [⟨SB, 23, .slice none (([] : List (List (BitVec 8))).length) 0, ([] : List (List (BitVec 8)))⟩, diskW D' sa' sk'] [Rp SB [.slice ab' b.length cb'] b, Rp SB [.slice none (([] : List (BitVec 8)).length) 0] ([] : List (BitVec 8))] w') ∨ (∃ (y4 y5 y6 y7 : Value) (D' : DiskD) (sa' : Option Addr) (sk' : Nat), v = .I 70 ∧ Dd D0 D' nm (g + 1) (fun B' lo hi => (B' = B ∧ R0 <+: lo ∧ hi <+: R) ∨ (B' = b ∧ hi = [])) ∧ Hp w S O ((jb, .cells #[.P db 0, .string nm, .slice ab B.length cb, .slice ar R.length cr, y4, y5, y6, y7] 41 (0, 0)) :: diskM db D' sa' sk') [⟨SB, 23, .slice ar R.length cr, R⟩, diskW D' sa' sk'] [Rp SB [.slice ab B.length cb] B] w')) := by
 obtain ⟨V, cur, hL, hB, D, hR, hseg, hst, _, _, hVq⟩ := hJ
 refine uS1 Tryz.func15 ?_
 have H := H0
 refine uR 4 [.c [1, 0, 0], .c [1, 0, 1], .c [2]] ?_
 refine qG (sq 0 3) ?_
 refine uP 1 ?_
 have H := H.frontW 1 rfl
 have H := H.perms (M' := ((jb, .cells #[.P db 0, .string nm, .slice ab B.length cb, .slice ar R.length cr, .I g, .string seg, .slice as_ σ.length cs, .bool sy] 41 (0, 0)) :: diskM db D0 sa0 sk0) ++ []) (W' := [⟨stepS, 143, .slice sa0 D0.steps.length sk0, D0.steps⟩, ⟨SB, 23, .slice ar R.length cr, R⟩]) ((List.perm_append_comm (l₁ := diskM db D0 sa0 sk0) (l₂ := ([] : Heap))).cons _) (List.Perm.refl _)
 refine uKS (state_go ha.dead ((H.lend (M1 := ((jb, .cells #[.P db 0, .string nm, .slice ab B.length cb, .slice ar R.length cr, .I g, .string seg, .slice as_ σ.length cs, .bool sy] 41 (0, 0)) :: diskM db D0 sa0 sk0)) (W1 := [⟨stepS, 143, .slice sa0 D0.steps.length sk0, D0.steps⟩])).pick [] rfl)) ?_
 rintro _ _ ⟨rfl, H'⟩
 have H := H.back (M1 := ((jb, .cells #[.P db 0, .string nm, .slice ab B.length cb, .slice ar R.length cr, .I g, .string seg, .slice as_ σ.length cs, .bool sy] 41 (0, 0)) :: diskM db D0 sa0 sk0)) (W1 := [⟨stepS, 143, .slice sa0 D0.steps.length sk0, D0.steps⟩]) H'
 have H := H.perms (M' := ((jb, .cells #[.P db 0, .string nm, .slice ab B.length cb, .slice ar R.length cr, .I g, .string seg, .slice as_ σ.length cs, .bool sy] 41 (0, 0)) :: (diskM db D0 sa0 sk0))) (W' := [⟨stepS, 143, .slice sa0 D0.steps.length sk0, D0.steps⟩, ⟨SB, 23, .slice ar R.length cr, R⟩]) ((List.perm_append_comm (l₁ := ([] : Heap)) (l₂ := diskM db D0 sa0 sk0)).cons _) (List.Perm.refl _)
 have H : Hp w S O _ [_, _] [_, _, _, _] _ := H
 refine uF 1 ?_
 refine uR 7 [.c [2, 0, 1], .c [3]] ?_
 refine qD ((((b.length : Nat) : Int) : Int) > 4194304) (fun E => ?_) (fun E => ?_)
 ·
  omega
 ·
  refine uR 3 [.c [3, 0, 0], .c [3, 0, 1], .c [4]] ?_
  refine qG (sq 0 3) ?_
  refine uP 1 ?_
  have H := H.perms (M' := ((jb, .cells #[.P db 0, .string nm, .slice ab B.length cb, .slice ar R.length cr, .I g, .string seg, .slice as_ σ.length cs, .bool sy] 41 (0, 0)) :: diskM db D0 sa0 sk0) ++ []) (W' := [⟨stepS, 143, .slice sa0 D0.steps.length sk0, D0.steps⟩, ⟨SB, 23, .slice ar R.length cr, R⟩]) ((List.perm_append_comm (l₁ := diskM db D0 sa0 sk0) (l₂ := ([] : Heap))).cons _) (List.Perm.refl _)
  refine uKS (state_go ha.dead ((H.lend (M1 := ((jb, .cells #[.P db 0, .string nm, .slice ab B.length cb, .slice ar R.length cr, .I g, .string seg, .slice as_ σ.length cs, .bool sy] 41 (0, 0)) :: diskM db D0 sa0 sk0)) (W1 := [⟨stepS, 143, .slice sa0 D0.steps.length sk0, D0.steps⟩])).pick [] rfl)) ?_
  rintro _ _ ⟨rfl, H'⟩
  have H := H.back (M1 := ((jb, .cells #[.P db 0, .string nm, .slice ab B.length cb, .slice ar R.length cr, .I g, .string seg, .slice as_ σ.length cs, .bool sy] 41 (0, 0)) :: diskM db D0 sa0 sk0)) (W1 := [⟨stepS, 143, .slice sa0 D0.steps.length sk0, D0.steps⟩]) H'
  have H := H.perms (M' := ((jb, .cells #[.P db 0, .string nm, .slice ab B.length cb, .slice ar R.length cr, .I g, .string seg, .slice as_ σ.length cs, .bool sy] 41 (0, 0)) :: (diskM db D0 sa0 sk0))) (W' := [⟨stepS, 143, .slice sa0 D0.steps.length sk0, D0.steps⟩, ⟨SB, 23, .slice ar R.length cr, R⟩]) ((List.perm_append_comm (l₁ := ([] : Heap)) (l₂ := diskM db D0 sa0 sk0)).cons _) (List.Perm.refl _)
  have H : Hp w S O _ [_, _] [_, _, _, _] _ := H
  refine uF 1 ?_
  refine uR 5 [.c [4, 0], .c [5]] ?_
  refine qG (sq 0 6) ?_
  refine uP 3 ?_
  refine uV 3 4 (H.cells 0 rfl) ?_
  refine uI ((g : Int) + 1) ?_
  refine uF 1 ?_
  refine qR 2 [.c [5, 0, 0], .c [5, 0, 1], .c [6]] [(0, .P jb 0), (1, .slice ax b.length cx), (7, .I ((g : Int) + 1))] ?_
  refine qG (sq 0 5) ?_
  refine uP 3 ?_
  have H := H.perms (M' := ((jb, .cells #[.P db 0, .string nm, .slice ab B.length cb, .slice ar R.length cr, .I g, .string seg, .slice as_ σ.length cs, .bool sy] 41 (0, 0)) :: diskM db D0 sa0 sk0) ++ []) (W' := [⟨stepS, 143, .slice sa0 D0.steps.length sk0, D0.steps⟩, ⟨SB, 23, .slice ar R.length cr, R⟩]) ((List.perm_append_comm (l₁ := diskM db D0 sa0 sk0) (l₂ := ([] : Heap))).cons _) (List.Perm.refl _)
  refine uKS (turned_spec (b := b) (n := n) hp hd (ha.mono (by omega)) hL hg hb hroom ((H.lend (M1 := ((jb, .cells #[.P db 0, .string nm, .slice ab B.length cb, .slice ar R.length cr, .I g, .string seg, .slice as_ σ.length cs, .bool sy] 41 (0, 0)) :: diskM db D0 sa0 sk0)) (W1 := [⟨stepS, 143, .slice sa0 D0.steps.length sk0, D0.steps⟩])).pick [3, 2] rfl)) ?_
  rintro _ _ (⟨rfl, i, f, h, ⟨G, u⟩, m, r, x, s, H'⟩ | ⟨t, rfl, i, f, h, y, H'⟩)
  ·
   have H := H.back (M1 := ((jb, .cells #[.P db 0, .string nm, .slice ab B.length cb, .slice ar R.length cr, .I g, .string seg, .slice as_ σ.length cs, .bool sy] 41 (0, 0)) :: diskM db D0 sa0 sk0)) (W1 := [⟨stepS, 143, .slice sa0 D0.steps.length sk0, D0.steps⟩]) H'
   have H := H.perms (M' := ((jb, .cells #[.P db 0, .string nm, .slice ab B.length cb, .slice ar R.length cr, .I g, .string seg, .slice as_ σ.length cs, .bool sy] 41 (0, 0)) :: (diskM db i f h))) (W' := [⟨stepS, 143, .slice f i.steps.length h, i.steps⟩, ⟨SB, 23, .slice ar R.length cr, R⟩]) ((List.perm_append_comm (l₁ := ([] : Heap)) (l₂ := diskM db i f h)).cons _) (List.Perm.refl _)
   have H : Hp w S O _ [_, _] [_, _, _, _] _ := H
   have z : i.now.length ≤ 256 := by have := Cp.now s hd m; omega
   refine uF 1 ?_
   refine uR 6 [.c [6, 0, 0], .c [6, 0, 1], .c [7]] ?_
   refine qG (sq 0 4) ?_
   refine uP 2 ?_
   have H := H.perms (M' := ((jb, .cells #[.P db 0, .string nm, .slice ab B.length cb, .slice ar R.length cr, .I g, .string seg, .slice as_ σ.length cs, .bool sy] 41 (0, 0)) :: diskM db i f h) ++ []) (W' := [⟨stepS, 143, .slice f i.steps.length h, i.steps⟩, ⟨SB, 23, .slice ar R.length cr, R⟩]) ((List.perm_append_comm (l₁ := diskM db i f h) (l₂ := ([] : Heap))).cons _) (List.Perm.refl _)
   refine uKS (jdrop_spec (Dz := D0) (V := ⟨g + 1, G, b, []⟩) (g := g + 1) (n := n) hp (r.rdy m) z (fun ns p => DrS.start m (r.mono (by omega)) u x s p) ((H.lend (M1 := ((jb, .cells #[.P db 0, .string nm, .slice ab B.length cb, .slice ar R.length cr, .I g, .string seg, .slice as_ σ.length cs, .bool sy] 41 (0, 0)) :: diskM db i f h)) (W1 := [⟨stepS, 143, .slice f i.steps.length h, i.steps⟩])).pick [] rfl)) ?_
   rintro _ _ (⟨rfl, e, a, d, A, H'⟩ | ⟨o, rfl, e, a, d, C, H'⟩)
   ·
    have H := H.back (M1 := ((jb, .cells #[.P db 0, .string nm, .slice ab B.length cb, .slice ar R.length cr, .I g, .string seg, .slice as_ σ.length cs, .bool sy] 41 (0, 0)) :: diskM db i f h)) (W1 := [⟨stepS, 143, .slice f i.steps.length h, i.steps⟩]) H'
    have H := H.perms (M' := ((jb, .cells #[.P db 0, .string nm, .slice ab B.length cb, .slice ar R.length cr, .I g, .string seg, .slice as_ σ.length cs, .bool sy] 41 (0, 0)) :: (diskM db e a d))) (W' := [⟨stepS, 143, .slice a e.steps.length d, e.steps⟩, ⟨SB, 23, .slice ar R.length cr, R⟩]) ((List.perm_append_comm (l₁ := ([] : Heap)) (l₂ := diskM db e a d)).cons _) (List.Perm.refl _)
    have H : Hp w S O _ [_, _] [_, _, _, _] _ := H
    refine uF 1 ?_
    refine uR 5 [.c [7, 0], .c [8]] ?_
    refine qG (sq 0 17) ?_
    refine uP 7 ?_
    refine qW 3 jb 4 (sq 8 17) (.I ((g : Int) + 1)) ((jb, .cells #[.P db 0, .string nm, .slice ab B.length cb, .slice ar R.length cr, .I ((g : Int) + 1), .string seg, .slice as_ σ.length cs, .bool sy] 41 (0, 0)) :: (diskM db e a d)) H 0 rfl rfl ?_
    intro _ H
    refine uP 2 ?_
    refine qW 9 jb 5 (sq 11 17) (.string (⟨#[]⟩ : ByteArray)) ((jb, .cells #[.P db 0, .string nm, .slice ab B.length cb, .slice ar R.length cr, .I ((g : Int) + 1), .string (⟨#[]⟩ : ByteArray), .slice as_ σ.length cs, .bool sy] 41 (0, 0)) :: (diskM db e a d)) H 0 rfl rfl ?_
    intro _ H
    refine uP 2 ?_
    refine qW 23 jb 6 (sq 14 17) (.slice none 0 0) ((jb, .cells #[.P db 0, .string nm, .slice ab B.length cb, .slice ar R.length cr, .I ((g : Int) + 1), .string (⟨#[]⟩ : ByteArray), .slice none 0 0, .bool sy] 41 (0, 0)) :: (diskM db e a d)) H 0 rfl rfl ?_
    intro _ H
    refine uP 2 ?_
    refine qW 4 jb 7 (sq 17 17) (.bool true) ((jb, .cells #[.P db 0, .string nm, .slice ab B.length cb, .slice ar R.length cr, .I ((g : Int) + 1), .string (⟨#[]⟩ : ByteArray), .slice none 0 0, .bool true] 41 (0, 0)) :: (diskM db e a d)) H 0 rfl rfl ?_
    intro _ H
    refine qF 0 [(0, .P jb 0), (1, .slice ax b.length cx)] ?_
    refine uR 1 [.c [8, 0], .c [9]] ?_
    refine qG (sq 0 10) ?_
    refine uP 3 ?_
    have H := H.ownNil Sb 5
    have H : Hp w S O _ [⟨Sb, 5, .slice none 0 0, []⟩, _, _] [_, _, _, _] _ := H
    refine uA 23 23 1 b H 0 rfl 3 rfl (rfl) (by omega) ?_
    intro j k _ H _
    have H : Hp w S O _ [⟨Sb, 5, .slice j b.length k, b⟩, _, _] [_, _, _, _] _ := H
    refine uP 2 ?_
    refine qW 23 jb 2 (sq 7 10) (.slice j b.length k) ((jb, .cells #[.P db 0, .string nm, .slice j b.length k, .slice ar R.length cr, .I ((g : Int) + 1), .string (⟨#[]⟩ : ByteArray), .slice none 0 0, .bool true] 41 (0, 0)) :: (diskM db e a d)) H 0 rfl rfl ?_
    intro _ H
    refine uP 2 ?_
    refine qW 22 jb 3 (sq 10 10) (.slice none 0 0) ((jb, .cells #[.P db 0, .string nm, .slice j b.length k, .slice none 0 0, .I ((g : Int) + 1), .string (⟨#[]⟩ : ByteArray), .slice none 0 0, .bool true] 41 (0, 0)) :: (diskM db e a d)) H 0 rfl rfl ?_
    intro _ H
    refine uF 0 ?_
    refine uR 2 [.c [10]] ?_
    refine qT (.I 0) Tryz.func15 ?_
    have H : Hp w S O _ [_, _] [Rp SB [.slice j b.length k] b, _, _, _, _] _ := H.freezeW 0 rfl
    have H := H.ownNil SB 23
    have H : Hp w S O _ [⟨SB, 23, .slice none 0 0, ([] : List (List (BitVec 8)))⟩, _, _] [_, _, _, _, _] _ := H
    have H := H.add (F := Rp SB [.slice none 0 0] ([] : List (BitVec 8))) Shape.slice_nil
    have H := H.pick [1, 0] rfl
    have H := H.drop (M' := ((jb, .cells #[.P db 0, .string nm, .slice j b.length k, .slice none 0 0, .I ((g : Int) + 1), .string (⟨#[]⟩ : ByteArray), .slice none 0 0, .bool true] 41 (0, 0)) :: (diskM db e a d))) (W' := [⟨SB, 23, .slice none 0 0, ([] : List (List (BitVec 8)))⟩, ⟨stepS, 143, .slice a e.steps.length d, e.steps⟩]) (by repeat (first | exact List.Sublist.refl _ | exact List.nil_sublist _ | apply List.Sublist.cons_cons | apply List.Sublist.cons)) (by repeat (first | exact List.Sublist.refl _ | exact List.nil_sublist _ | apply List.Sublist.cons_cons | apply List.Sublist.cons))
    have l := A
    exact ⟨_, rfl, .inl ⟨rfl, _, _, e, a, d, JL.fresh (DrS.done hp l), l.di, l.al.mono (Nat.le_add_right _ _), l.stp, l.cp, H⟩⟩
   ·
    have H := H.back (M1 := ((jb, .cells #[.P db 0, .string nm, .slice ab B.length cb, .slice ar R.length cr, .I g, .string seg, .slice as_ σ.length cs, .bool sy] 41 (0, 0)) :: diskM db i f h)) (W1 := [⟨stepS, 143, .slice f i.steps.length h, i.steps⟩]) H'
    have H := H.perms (M' := ((o, .cells #[.I 70] 204 (0, 0)) :: (jb, .cells #[.P db 0, .string nm, .slice ab B.length cb, .slice ar R.length cr, .I g, .string seg, .slice as_ σ.length cs, .bool sy] 41 (0, 0)) :: (diskM db e a d))) (W' := [⟨stepS, 143, .slice a e.steps.length d, e.steps⟩, ⟨SB, 23, .slice ar R.length cr, R⟩]) (((List.perm_append_comm (l₁ := ([] : Heap)) (l₂ := diskM db e a d)).cons _).cons _) (List.Perm.refl _)
    have H : Hp w S O _ [_, _] [_, _, _, _] _ := H
    refine uF 1 ?_
    refine uR 4 [.c [6, 0, 2, 0, 0], .c [6, 0, 2, 0, 1], .c [7]] ?_
    refine qG (sq 0 3) ?_
    refine uP 1 ?_
    refine uKS (jnumber_spec ((H.lend (M1 := [(o, .cells #[.I 70] 204 (0, 0))]) (W1 := [])).pick [2] rfl)) ?_
    rintro _ _ ⟨rfl, H'⟩
    have H := H.back (M1 := [(o, .cells #[.I 70] 204 (0, 0))]) (W1 := []) H'
    have H : Hp w S O _ [_, _] [_, _, _, _] _ := H
    refine uF 1 ?_
    refine qT (.I 70) Tryz.func15 ?_
    have H := H.pick [0] rfl
    have H := H.frontW 1 rfl
    have H := H.drop (M' := ((jb, .cells #[.P db 0, .string nm, .slice ab B.length cb, .slice ar R.length cr, .I g, .string seg, .slice as_ σ.length cs, .bool sy] 41 (0, 0)) :: (diskM db e a d))) (W' := [⟨SB, 23, .slice ar R.length cr, R⟩, ⟨stepS, 143, .slice a e.steps.length d, e.steps⟩]) (by repeat (first | exact List.Sublist.refl _ | exact List.nil_sublist _ | apply List.Sublist.cons_cons | apply List.Sublist.cons)) (by repeat (first | exact List.Sublist.refl _ | exact List.nil_sublist _ | apply List.Sublist.cons_cons | apply List.Sublist.cons))
    exact ⟨_, rfl, .inr ⟨_, _, _, _, e, a, d, rfl, (C).mono (Nat.le_refl _) fun B lo hi p => .inr ⟨p.1, List.prefix_nil.1 p.2.2⟩, H⟩⟩
  ·
   have H := H.back (M1 := ((jb, .cells #[.P db 0, .string nm, .slice ab B.length cb, .slice ar R.length cr, .I g, .string seg, .slice as_ σ.length cs, .bool sy] 41 (0, 0)) :: diskM db D0 sa0 sk0)) (W1 := [⟨stepS, 143, .slice sa0 D0.steps.length sk0, D0.steps⟩]) H'
   have H := H.perms (M' := ((t, .cells #[.I 70] 204 (0, 0)) :: (jb, .cells #[.P db 0, .string nm, .slice ab B.length cb, .slice ar R.length cr, .I g, .string seg, .slice as_ σ.length cs, .bool sy] 41 (0, 0)) :: (diskM db i f h))) (W' := [⟨stepS, 143, .slice f i.steps.length h, i.steps⟩, ⟨SB, 23, .slice ar R.length cr, R⟩]) (((List.perm_append_comm (l₁ := ([] : Heap)) (l₂ := diskM db i f h)).cons _).cons _) (List.Perm.refl _)
   have H : Hp w S O _ [_, _] [_, _, _, _] _ := H
   refine uF 1 ?_
   refine uR 4 [.c [5, 0, 2, 0, 0], .c [5, 0, 2, 0, 1], .c [6]] ?_
   refine qG (sq 0 3) ?_
   refine uP 1 ?_
   refine uKS (jnumber_spec ((H.lend (M1 := [(t, .cells #[.I 70] 204 (0, 0))]) (W1 := [])).pick [2] rfl)) ?_
   rintro _ _ ⟨rfl, H'⟩
   have H := H.back (M1 := [(t, .cells #[.I 70] 204 (0, 0))]) (W1 := []) H'
   have H : Hp w S O _ [_, _] [_, _, _, _] _ := H
   refine uF 1 ?_
   refine qT (.I 70) Tryz.func15 ?_
   have H := H.pick [0] rfl
   have H := H.frontW 1 rfl
   have H := H.drop (M' := ((jb, .cells #[.P db 0, .string nm, .slice ab B.length cb, .slice ar R.length cr, .I g, .string seg, .slice as_ σ.length cs, .bool sy] 41 (0, 0)) :: (diskM db i f h))) (W' := [⟨SB, 23, .slice ar R.length cr, R⟩, ⟨stepS, 143, .slice f i.steps.length h, i.steps⟩]) (by repeat (first | exact List.Sublist.refl _ | exact List.nil_sublist _ | apply List.Sublist.cons_cons | apply List.Sublist.cons)) (by repeat (first | exact List.Sublist.refl _ | exact List.nil_sublist _ | apply List.Sublist.cons_cons | apply List.Sublist.cons))
   exact ⟨_, rfl, .inr ⟨_, _, _, _, i, f, h, rfl, (y).mono (Nat.le_refl _) fun _ _ _ p => by rw [← hB, ← D, ← hR]; exact p, H⟩⟩
end Go.Proofs.YtdnibpclkhenmaaGreatDoor
