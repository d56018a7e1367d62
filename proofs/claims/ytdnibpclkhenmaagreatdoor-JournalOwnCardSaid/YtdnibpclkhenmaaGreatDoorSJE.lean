import Derived.Test.YtdnibpclkhenmaaGreatDoorSBxA
import Derived.Test.YtdnibpclkhenmaaGreatDoorSJD
namespace Go.Proofs.YtdnibpclkhenmaaGreatDoor
open Go.BX
set_option maxHeartbeats 1000000 in
theorem jsync_spec {S : Nat → Prop} {w : World} {O : List Nat} {jb db g : Nat} {nm seg : ByteArray} {sy : Bool} {B σ : List (BitVec 8)} {R0 R : List (List (BitVec 8))} {ab ar as_ : Option Addr} {cb cr cs n q : Nat} {D0 : DiskD} {sa0 : Option Addr} {sk0 : Nat} (hp : PlainB nm) (hd : DI D0) (ha : Al D0 (n + 300000)) (hJ : JL D0 nm B R0 R g seg σ sy q) (H0 : Hp w S O ((jb, .cells #[.P db 0, .string nm, .slice ab B.length cb, .slice ar R.length cr, .I g, .string seg, .slice as_ σ.length cs, .bool sy] 41 (0, 0)) :: diskM db D0 sa0 sk0) [⟨SB, 23, .slice ar R.length cr, R⟩, ⟨stepS, 143, .slice sa0 D0.steps.length sk0, D0.steps⟩] [Rp SB [.slice ab B.length cb] B, Rp SB [.slice as_ σ.length cs] σ, Fz jQ] w) :
 Calls Tryz.prog 20 #[.P jb 0] w (Ret fun v w' => (v = .I 0 ∧ ∃ (D' : DiskD) (sa' : Option Addr) (sk' : Nat), JL D' nm B R R g seg σ true q ∧ DI D' ∧ Al D' n ∧ Stp nm D0 D' ∧ Cp 1 D0 D' ∧ Hp w S O ((jb, .cells #[.P db 0, .string nm, .slice ab B.length cb, .slice ar R.length cr, .I g, .string seg, .slice as_ σ.length cs, .bool true] 41 (0, 0)) :: diskM db D' sa' sk') [⟨SB, 23, .slice ar R.length cr, R⟩, diskW D' sa' sk'] [Rp SB [.slice ab B.length cb] B, Rp SB [.slice as_ σ.length cs] σ] w') ∨ (∃ (y4 y5 y6 y7 : Value) (D' : DiskD) (sa' : Option Addr) (sk' : Nat), v = .I 70 ∧ Dd D0 D' nm g (fun B' lo hi => B' = B ∧ R0 <+: lo ∧ hi <+: R) ∧ Hp w S O ((jb, .cells #[.P db 0, .string nm, .slice ab B.length cb, .slice ar R.length cr, y4, y5, y6, y7] 41 (0, 0)) :: diskM db D' sa' sk') [⟨SB, 23, .slice ar R.length cr, R⟩, diskW D' sa' sk'] [Rp SB [.slice ab B.length cb] B] w')) := by
 obtain ⟨V, cur, hL, hB, j, hR, hseg, hst, k, l, hVq⟩ := hJ
 refine uS1 Tryz.func20 ?_
 have H := H0
 refine uR 4 [.c [1, 0, 0], .c [1, 0, 1], .c [2]] ?_
 refine qG (sq 0 3) ?_
 refine uP 1 ?_
 have H := H.frontW 1 rfl
 have H := H.perms (M' := ((jb, .cells #[.P db 0, .string nm, .slice ab B.length cb, .slice ar R.length cr, .I g, .string seg, .slice as_ σ.length cs, .bool sy] 41 (0, 0)) :: diskM db D0 sa0 sk0) ++ []) (W' := [⟨stepS, 143, .slice sa0 D0.steps.length sk0, D0.steps⟩, ⟨SB, 23, .slice ar R.length cr, R⟩]) ((List.perm_append_comm (l₁ := diskM db D0 sa0 sk0) (l₂ := ([] : Heap))).cons _) (List.Perm.refl _)
 refine uKS (state_go ha.dead ((H.lend (M1 := ((jb, .cells #[.P db 0, .string nm, .slice ab B.length cb, .slice ar R.length cr, .I g, .string seg, .slice as_ σ.length cs, .bool sy] 41 (0, 0)) :: diskM db D0 sa0 sk0)) (W1 := [⟨stepS, 143, .slice sa0 D0.steps.length sk0, D0.steps⟩])).pick [] rfl)) ?_
 rintro _ s ⟨rfl, H'⟩
 have H := H.back (M1 := ((jb, .cells #[.P db 0, .string nm, .slice ab B.length cb, .slice ar R.length cr, .I g, .string seg, .slice as_ σ.length cs, .bool sy] 41 (0, 0)) :: diskM db D0 sa0 sk0)) (W1 := [⟨stepS, 143, .slice sa0 D0.steps.length sk0, D0.steps⟩]) H'
 have H := H.perms (M' := ((jb, .cells #[.P db 0, .string nm, .slice ab B.length cb, .slice ar R.length cr, .I g, .string seg, .slice as_ σ.length cs, .bool sy] 41 (0, 0)) :: (diskM db D0 sa0 sk0))) (W' := [⟨stepS, 143, .slice sa0 D0.steps.length sk0, D0.steps⟩, ⟨SB, 23, .slice ar R.length cr, R⟩]) ((List.perm_append_comm (l₁ := ([] : Heap)) (l₂ := diskM db D0 sa0 sk0)).cons _) (List.Perm.refl _)
 have H : Hp w S O _ [_, _] [_, _, _] _ := H
 refine uF 1 ?_
 refine uR 1 [.c [1, 0, 1, 0], .c [1, 0, 2], .c [2]] ?_
 refine qG (sq 0 8) ?_
 refine uP 6 ?_
 refine uV 4 7 (H.cells 0 rfl) ?_
 refine uF 1 ?_
 refine qC sy (fun m => ?_) (fun m => ?_)
 ·
  refine uR 2 [.c [1, 0, 2, 0, 1], .c [2]] ?_
  refine qT (.I 0) Tryz.func20 ?_
  have H := H.pick [0, 1] rfl
  have H := H.frontW 1 rfl
  have hsy : sy = true := by simpa using m
  subst hsy
  exact ⟨_, rfl, .inl ⟨rfl, D0, sa0, sk0, ⟨V, cur, hL, hB, by rw [k rfl]; exact hR, hR, hseg, hst, k, l, hVq⟩, hd, ha.mono (Nat.le_add_right n 300000), Stp.refl _ _, Cp.refl _ _, H⟩⟩
 ·
  obtain ⟨c, hc⟩ : ∃ c, cur = some c := Option.ne_none_iff_exists'.1 (l (by simpa using m))
  have i : seg = sN nm g := by rw [hseg, hc]; rfl
  have t : LJ D0 nm V (some c) g := hc ▸ hL
  subst i
  rw [hc] at j hR hst hseg
  refine uR 2 [.c [2, 0], .c [3]] ?_
  refine WK.draw1 8 (qs [0, 1, 2, 3, 4, 5, 6, 7]) [(0, .qui), (1, .qui), (2, .qui), (3, .qui), (4, .qui), (5, .qui), (6, .qui), (7, .qui), (8, .seq), (9, .seq)] Tryz_mixed (by as_aux_lemma => kernel_rfl) (by as_aux_lemma => kernel_rfl) (by as_aux_lemma => kernel_rfl) ?_
  have H := H.draw
  generalize ({ s with drawn := s.drawn + 1 } : World) = E at H ⊢
  refine uP 3 ?_
  refine uV 24 0 (H.cells 0 rfl) ?_
  refine uP 3 ?_
  refine uV 9 5 (H.cells 0 rfl) ?_
  have H := H.perms (M' := diskM db D0 sa0 sk0 ++ [(jb, .cells #[.P db 0, .string nm, .slice ab B.length cb, .slice ar R.length cr, .I g, .string (sN nm g), .slice as_ σ.length cs, .bool sy] 41 (0, 0))]) (W' := [⟨stepS, 143, .slice sa0 D0.steps.length sk0, D0.steps⟩, ⟨SB, 23, .slice ar R.length cr, R⟩]) (List.perm_append_comm (l₁ := diskM db D0 sa0 sk0) (l₂ := ([(jb, .cells #[.P db 0, .string nm, .slice ab B.length cb, .slice ar R.length cr, .I g, .string (sN nm g), .slice as_ σ.length cs, .bool sy] 41 (0, 0))] : Heap))) (List.Perm.refl _)
  refine RW.callS (d := some 24) (r := [(9, .seq)]) (g := 60) (args := #[.P db 0, .string (sN nm g)]) (by as_aux_lemma => kernel_rfl) (dSync (ha.rdy hd).di.ok (ha.rdy hd).st (ha.rdy hd).dead (ha.rdy hd).hl ((H.lend (M1 := diskM db D0 sa0 sk0) (W1 := [⟨stepS, 143, .slice sa0 D0.steps.length sk0, D0.steps⟩])).pick [] rfl)) ?_
  rintro _ _ ⟨f, a, b, ⟨C, rfl, h⟩, H'⟩
  have H := H.back (M1 := diskM db D0 sa0 sk0) (W1 := [⟨stepS, 143, .slice sa0 D0.steps.length sk0, D0.steps⟩]) H'
  have H := H.perms (M' := ((jb, .cells #[.P db 0, .string nm, .slice ab B.length cb, .slice ar R.length cr, .I g, .string (sN nm g), .slice as_ σ.length cs, .bool sy] 41 (0, 0)) :: (diskM db f a b))) (W' := [⟨stepS, 143, .slice a f.steps.length b, f.steps⟩, ⟨SB, 23, .slice ar R.length cr, R⟩]) ((List.perm_append_comm (l₁ := diskM db f a b) (l₂ := ([(jb, .cells #[.P db 0, .string nm, .slice ab B.length cb, .slice ar R.length cr, .I g, .string (sN nm g), .slice as_ σ.length cs, .bool sy] 41 (0, 0))] : Heap))).symm) (List.Perm.refl _)
  have H : Hp w S O _ [_, _] [_, _, _] _ := H
  have h : SyncR D0 (sN nm g) C f := h
  rcases syncJ hd hp (ha.mono (Nat.le_add_right n 300000)) t h with ⟨rfl, o⟩ | ⟨rfl, p⟩
  ·
   refine uF 1 ?_
   refine uR 1 [.c [3, 0], .c [4]] ?_
   refine qG (sq 0 6) ?_
   refine uP 5 ?_
   refine qW 4 jb 7 (sq 6 6) (.bool false) ((jb, .cells #[.P db 0, .string nm, .slice ab B.length cb, .slice ar R.length cr, .I g, .string (sN nm g), .slice as_ σ.length cs, .bool false] 41 (0, 0)) :: (diskM db f a b)) H 0 rfl rfl ?_
   intro _ H
   refine uF 0 ?_
   refine uR 2 [.c [5]] ?_
   refine qT (.I 70) Tryz.func20 ?_
   have H := H.pick [0] rfl
   have H := H.frontW 1 rfl
   exact ⟨_, rfl, .inr ⟨_, _, _, _, f, a, b, rfl, (o).mono (Nat.le_refl _) fun _ _ _ D => by rw [← hB, ← j, ← hR]; exact D, H⟩⟩
  ·
   refine uF 1 ?_
   refine uR 1 [.c [3, 0], .c [4]] ?_
   refine qG (sq 0 6) ?_
   refine uP 5 ?_
   refine qW 4 jb 7 (sq 6 6) (.bool true) ((jb, .cells #[.P db 0, .string nm, .slice ab B.length cb, .slice ar R.length cr, .I g, .string (sN nm g), .slice as_ σ.length cs, .bool true] 41 (0, 0)) :: (diskM db f a b)) H 0 rfl rfl ?_
   intro _ H
   refine uF 0 ?_
   refine uR 2 [.c [5]] ?_
   refine qT (.I 0) Tryz.func20 ?_
   have H := H.pick [0, 1] rfl
   have H := H.frontW 1 rfl
   obtain ⟨u, x, y, z, A⟩ := p
   exact ⟨_, rfl, .inl ⟨rfl, f, a, b, ⟨V, _, A, hB, hR, hR, hseg, hst, fun _ => rfl, fun e => (by cases e), hVq⟩, u, x, y, z, H⟩⟩
end Go.Proofs.YtdnibpclkhenmaaGreatDoor
