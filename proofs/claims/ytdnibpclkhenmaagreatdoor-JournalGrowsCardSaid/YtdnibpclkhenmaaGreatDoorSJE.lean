import Derived.Test.YtdnibpclkhenmaaGreatDoorSJD
namespace Go.Proofs.YtdnibpclkhenmaaGreatDoor
open Go.BX
set_option maxHeartbeats 1000000 in
theorem jsync_spec {S : Nat → Prop} {w : World} {O : List Nat} {jb db g : Nat} {nm seg : ByteArray} {sy : Bool} {B σ : List (BitVec 8)} {R0 R : List (List (BitVec 8))} {ab ar as_ : Option Addr} {cb cr cs n : Nat} {D0 : DiskD} {sa0 : Option Addr} {sk0 : Nat} (hp : PlainB nm) (hd : DI D0) (ha : Al D0 (n + 300000)) (hJ : JL D0 nm B R0 R g seg σ sy) (H0 : Hp w S O ((jb, .cells #[.P db 0, .string nm, .slice ab B.length cb, .slice ar R.length cr, .I g, .string seg, .slice as_ σ.length cs, .bool sy] 41 (0, 0)) :: diskM db D0 sa0 sk0) [⟨SB, 23, .slice ar R.length cr, R⟩, ⟨stepS, 143, .slice sa0 D0.steps.length sk0, D0.steps⟩] [Rp SB [.slice ab B.length cb] B, Rp SB [.slice as_ σ.length cs] σ, Fz jQ] w) :
 Calls Tryz.prog 20 #[.P jb 0] w (Ret fun v w' => (v = .I 0 ∧ ∃ (D' : DiskD) (sa' : Option Addr) (sk' : Nat), JL D' nm B R R g seg σ true ∧ DI D' ∧ Al D' n ∧ Stp nm D0 D' ∧ Cp 1 D0 D' ∧ Hp w S O ((jb, .cells #[.P db 0, .string nm, .slice ab B.length cb, .slice ar R.length cr, .I g, .string seg, .slice as_ σ.length cs, .bool true] 41 (0, 0)) :: diskM db D' sa' sk') [⟨SB, 23, .slice ar R.length cr, R⟩, diskW D' sa' sk'] [Rp SB [.slice ab B.length cb] B, Rp SB [.slice as_ σ.length cs] σ] w') ∨ (∃ (y4 y5 y6 y7 : Value) (D' : DiskD) (sa' : Option Addr) (sk' : Nat), v = .I 70 ∧ Dd D0 D' nm g (fun B' lo hi => B' = B ∧ R0 <+: lo ∧ hi <+: R) ∧ Hp w S O ((jb, .cells #[.P db 0, .string nm, .slice ab B.length cb, .slice ar R.length cr, y4, y5, y6, y7] 41 (0, 0)) :: diskM db D' sa' sk') [⟨SB, 23, .slice ar R.length cr, R⟩, diskW D' sa' sk'] [Rp SB [.slice ab B.length cb] B] w')) := by
 obtain ⟨V, cur, hL, hB, hR0, hR, hseg, hst, hy1, hy2⟩ := hJ
 refine qS (fn := Tryz.f20) (n := 31) (σ := [(0, .P jb 0)]) Tryz.func20 ?_
 have H := H0
 refine qR 4 [.c [1, 0, 0], .c [1, 0, 1], .c [2]] [(0, .P jb 0)] ?_
 refine qG (sq 0 3) ?_
 refine qP 1 (sq 1 3) [(0, .P jb 0), (5, .P jb 0)] ?_
 have H := H.frontW 1 (W' := [⟨stepS, 143, .slice sa0 D0.steps.length sk0, D0.steps⟩, ⟨SB, 23, .slice ar R.length cr, R⟩]) rfl
 have H := H.perms (M' := ((jb, .cells #[.P db 0, .string nm, .slice ab B.length cb, .slice ar R.length cr, .I g, .string seg, .slice as_ σ.length cs, .bool sy] 41 (0, 0)) :: diskM db D0 sa0 sk0) ++ []) (W' := [⟨stepS, 143, .slice sa0 D0.steps.length sk0, D0.steps⟩, ⟨SB, 23, .slice ar R.length cr, R⟩]) ((List.perm_append_comm (l₁ := diskM db D0 sa0 sk0) (l₂ := ([] : Heap))).cons _) (List.Perm.refl _)
 refine RW.callS (d := some 6) (r := (sq 2 3)) (g := 54) (args := #[.P jb 0]) (by as_aux_lemma => kernel_rfl) (state_go ha.dead ((H.lend (M1 := ((jb, .cells #[.P db 0, .string nm, .slice ab B.length cb, .slice ar R.length cr, .I g, .string seg, .slice as_ σ.length cs, .bool sy] 41 (0, 0)) :: diskM db D0 sa0 sk0)) (W1 := [⟨stepS, 143, .slice sa0 D0.steps.length sk0, D0.steps⟩])).pick [] rfl)) ?_
 rintro _ w1 ⟨rfl, H'⟩
 have H := H.back (M1 := ((jb, .cells #[.P db 0, .string nm, .slice ab B.length cb, .slice ar R.length cr, .I g, .string seg, .slice as_ σ.length cs, .bool sy] 41 (0, 0)) :: diskM db D0 sa0 sk0)) (W1 := [⟨stepS, 143, .slice sa0 D0.steps.length sk0, D0.steps⟩]) H'
 have H := H.perms (M' := ((jb, .cells #[.P db 0, .string nm, .slice ab B.length cb, .slice ar R.length cr, .I g, .string seg, .slice as_ σ.length cs, .bool sy] 41 (0, 0)) :: (diskM db D0 sa0 sk0))) (W' := [⟨stepS, 143, .slice sa0 D0.steps.length sk0, D0.steps⟩, ⟨SB, 23, .slice ar R.length cr, R⟩]) ((List.perm_append_comm (l₁ := ([] : Heap)) (l₂ := diskM db D0 sa0 sk0)).cons _) (List.Perm.refl _)
 have H : Hp w S O ((jb, .cells #[.P db 0, .string nm, .slice ab B.length cb, .slice ar R.length cr, .I g, .string seg, .slice as_ σ.length cs, .bool sy] 41 (0, 0)) :: (diskM db D0 sa0 sk0)) [⟨stepS, 143, .slice sa0 D0.steps.length sk0, D0.steps⟩, ⟨SB, 23, .slice ar R.length cr, R⟩] [Rp SB [.slice ab B.length cb] B, Rp SB [.slice as_ σ.length cs] σ, Fz jQ] _ := H
 refine qF 1 [(0, .P jb 0), (3, .I 0)] ?_
 refine qR 1 [.c [1, 0, 1, 0], .c [1, 0, 2], .c [2]] [(0, .P jb 0), (3, .I 0)] ?_
 refine qG (sq 0 8) ?_
 refine qP 6 (sq 6 8) [(0, .P jb 0), (3, .I 0), (9, .bool false), (12, .P jb 7)] ?_
 refine qL .seq 13 (sq 7 8) 4 jb 7 7 (.bool sy) (H.cells 0 rfl) ?_
 refine qF 1 [(0, .P jb 0), (3, .I 0), (14, .bool sy)] ?_
 refine qC sy (fun h2 => ?_) (fun h2 => ?_)
 ·
  refine qR 2 [.c [1, 0, 2, 0, 1], .c [2]] [(2, .I 0)] ?_
  refine qT (.I 0) Tryz.func20 ?_
  have H := H.pick [0, 1] rfl
  have H := H.frontW 1 (W' := [⟨SB, 23, .slice ar R.length cr, R⟩, ⟨stepS, 143, .slice sa0 D0.steps.length sk0, D0.steps⟩]) rfl
  have hsy : sy = true := by simpa using h2
  subst hsy
  exact ⟨_, rfl, .inl ⟨rfl, D0, sa0, sk0, ⟨V, cur, hL, hB, by rw [hy1 rfl]; exact hR, hR, hseg, hst, hy1, hy2⟩, hd, ha.mono (Nat.le_add_right n 300000), Stp.refl _ _, Cp.refl _ _, H⟩⟩
 ·
  obtain ⟨c, hc⟩ : ∃ c, cur = some c := Option.ne_none_iff_exists'.1 (hy2 (by simpa using h2))
  have hseg9 : seg = sN nm g := by rw [hseg, hc]; rfl
  have hL9 : LJ D0 nm V (some c) g := hc ▸ hL
  subst hseg9
  rw [hc] at hR0 hR hst hseg
  refine qR 2 [.c [2, 0], .c [3]] [(0, .P jb 0)] ?_
  refine WK.draw1 8 (qs [0, 1, 2, 3, 4, 5, 6, 7]) [(0, .qui), (1, .qui), (2, .qui), (3, .qui), (4, .qui), (5, .qui), (6, .qui), (7, .qui), (8, .seq), (9, .seq)] Tryz_mixed (by as_aux_lemma => kernel_rfl) (by as_aux_lemma => kernel_rfl) (by as_aux_lemma => kernel_rfl) ?_
  have H := H.draw
  generalize ({ w1 with drawn := w1.drawn + 1 } : World) = w3 at H ⊢
  refine qP 3 [(3, .qui), (4, .qui), (5, .qui), (6, .qui), (7, .qui), (8, .seq), (9, .seq)] [(0, .P jb 0), (18, .P jb 0)] ?_
  refine qL .qui 19 [(4, .qui), (5, .qui), (6, .qui), (7, .qui), (8, .seq), (9, .seq)] 24 jb 0 0 (.P db 0) (H.cells 0 rfl) ?_
  refine qP 3 [(7, .qui), (8, .seq), (9, .seq)] [(0, .P jb 0), (19, .P db 0), (22, .P jb 5)] ?_
  refine qL .qui 23 [(8, .seq), (9, .seq)] 9 jb 5 5 (.string (sN nm g)) (H.cells 0 rfl) ?_
  have H := H.perms (M' := diskM db D0 sa0 sk0 ++ [(jb, .cells #[.P db 0, .string nm, .slice ab B.length cb, .slice ar R.length cr, .I g, .string (sN nm g), .slice as_ σ.length cs, .bool sy] 41 (0, 0))]) (W' := [⟨stepS, 143, .slice sa0 D0.steps.length sk0, D0.steps⟩, ⟨SB, 23, .slice ar R.length cr, R⟩]) (List.perm_append_comm (l₁ := diskM db D0 sa0 sk0) (l₂ := ([(jb, .cells #[.P db 0, .string nm, .slice ab B.length cb, .slice ar R.length cr, .I g, .string (sN nm g), .slice as_ σ.length cs, .bool sy] 41 (0, 0))] : Heap))) (List.Perm.refl _)
  refine RW.callS (d := some 24) (r := [(9, .seq)]) (g := 60) (args := #[.P db 0, .string (sN nm g)]) (by as_aux_lemma => kernel_rfl) (dSync (ha.rdy hd).di.ok (ha.rdy hd).st (ha.rdy hd).dead (ha.rdy hd).hl ((H.lend (M1 := diskM db D0 sa0 sk0) (W1 := [⟨stepS, 143, .slice sa0 D0.steps.length sk0, D0.steps⟩])).pick [] rfl)) ?_
  rintro _ w4 ⟨D5, sa6, sk7, ⟨e8, rfl, hR9⟩, H'⟩
  have H := H.back (M1 := diskM db D0 sa0 sk0) (W1 := [⟨stepS, 143, .slice sa0 D0.steps.length sk0, D0.steps⟩]) H'
  have H := H.perms (M' := ((jb, .cells #[.P db 0, .string nm, .slice ab B.length cb, .slice ar R.length cr, .I g, .string (sN nm g), .slice as_ σ.length cs, .bool sy] 41 (0, 0)) :: (diskM db D5 sa6 sk7))) (W' := [⟨stepS, 143, .slice sa6 D5.steps.length sk7, D5.steps⟩, ⟨SB, 23, .slice ar R.length cr, R⟩]) ((List.perm_append_comm (l₁ := diskM db D5 sa6 sk7) (l₂ := ([(jb, .cells #[.P db 0, .string nm, .slice ab B.length cb, .slice ar R.length cr, .I g, .string (sN nm g), .slice as_ σ.length cs, .bool sy] 41 (0, 0))] : Heap))).symm) (List.Perm.refl _)
  have H : Hp w S O ((jb, .cells #[.P db 0, .string nm, .slice ab B.length cb, .slice ar R.length cr, .I g, .string (sN nm g), .slice as_ σ.length cs, .bool sy] 41 (0, 0)) :: (diskM db D5 sa6 sk7)) [⟨stepS, 143, .slice sa6 D5.steps.length sk7, D5.steps⟩, ⟨SB, 23, .slice ar R.length cr, R⟩] [Rp SB [.slice ab B.length cb] B, Rp SB [.slice as_ σ.length cs] σ, Fz jQ] _ := H
  have hR9 : SyncR D0 (sN nm g) e8 D5 := hR9
  rcases syncJ hd hp (ha.mono (Nat.le_add_right n 300000)) hL9 hR9 with ⟨rfl, hB11⟩ | ⟨rfl, hA10⟩
  ·
   refine qF 1 [(0, .P jb 0), (4, .I 70)] ?_
   refine qR 1 [.c [3, 0], .c [4]] [(0, .P jb 0), (4, .I 70)] ?_
   refine qG (sq 0 6) ?_
   refine qP 5 (sq 5 6) [(4, .I 70), (27, .bool false), (29, .P jb 7)] ?_
   refine qW 4 jb 7 (sq 6 6) (.bool false) ((jb, .cells #[.P db 0, .string nm, .slice ab B.length cb, .slice ar R.length cr, .I g, .string (sN nm g), .slice as_ σ.length cs, .bool false] 41 (0, 0)) :: (diskM db D5 sa6 sk7)) H 0 rfl rfl ?_
   intro w12 H
   refine qF 0 [(4, .I 70)] ?_
   refine qR 2 [.c [5]] [(2, .I 70)] ?_
   refine qT (.I 70) Tryz.func20 ?_
   have H := H.pick [0] rfl
   have H := H.frontW 1 (W' := [⟨SB, 23, .slice ar R.length cr, R⟩, ⟨stepS, 143, .slice sa6 D5.steps.length sk7, D5.steps⟩]) rfl
   exact ⟨_, rfl, .inr ⟨_, _, _, _, D5, sa6, sk7, rfl, (hB11).mono (Nat.le_refl _) fun _ _ _ h9 => by rw [← hB, ← hR0, ← hR]; exact h9, H⟩⟩
  ·
   refine qF 1 [(0, .P jb 0), (4, .I 0)] ?_
   refine qR 1 [.c [3, 0], .c [4]] [(0, .P jb 0), (4, .I 0)] ?_
   refine qG (sq 0 6) ?_
   refine qP 5 (sq 5 6) [(4, .I 0), (27, .bool true), (29, .P jb 7)] ?_
   refine qW 4 jb 7 (sq 6 6) (.bool true) ((jb, .cells #[.P db 0, .string nm, .slice ab B.length cb, .slice ar R.length cr, .I g, .string (sN nm g), .slice as_ σ.length cs, .bool true] 41 (0, 0)) :: (diskM db D5 sa6 sk7)) H 0 rfl rfl ?_
   intro w13 H
   refine qF 0 [(4, .I 0)] ?_
   refine qR 2 [.c [5]] [(2, .I 0)] ?_
   refine qT (.I 0) Tryz.func20 ?_
   have H := H.pick [0, 1] rfl
   have H := H.frontW 1 (W' := [⟨SB, 23, .slice ar R.length cr, R⟩, ⟨stepS, 143, .slice sa6 D5.steps.length sk7, D5.steps⟩]) rfl
   obtain ⟨hq1, hq2, hq3, hq5, hq4⟩ := hA10
   exact ⟨_, rfl, .inl ⟨rfl, D5, sa6, sk7, ⟨V, _, hq4, hB, hR, hR, hseg, hst, fun _ => rfl, fun e => (by cases e)⟩, hq1, hq2, hq3, hq5, H⟩⟩
end Go.Proofs.YtdnibpclkhenmaaGreatDoor
