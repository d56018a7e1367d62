import Derived.Test.YtdnibpclkhenmaaGreatDoorSJD
import Derived.Test.YtdnibpclkhenmaaGreatDoorSBxB
namespace Go.Proofs.YtdnibpclkhenmaaGreatDoor
open Go.BX
set_option maxHeartbeats 2000000 in
theorem jappend_spec {S : Nat → Prop} {w : World} {O : List Nat} {jb db g : Nat} {nm seg : ByteArray} {sy : Bool} {B σ : List (BitVec 8)} {R0 R : List (List (BitVec 8))} {ab ar as_ : Option Addr} {cb cr cs n : Nat} {D0 : DiskD} {sa0 : Option Addr} {sk0 : Nat} {r : List (BitVec 8)} {ax : Option Addr} {cx : Nat} (hp : PlainB nm) (hd : DI D0) (ha : Al D0 (n + 300000)) (hJ : JL D0 nm B R0 R g seg σ sy) (hg : g < 1000000) (hr : r.length ≤ 4194304) (hσ : σ.length + r.length ≤ 3900000) (hRl : R.length ≤ 65536) (hroom : D0.now.length < 256) (H0 : Hp w S O ((jb, .cells #[.P db 0, .string nm, .slice ab B.length cb, .slice ar R.length cr, .I g, .string seg, .slice as_ σ.length cs, .bool sy] 41 (0, 0)) :: diskM db D0 sa0 sk0) [⟨SB, 23, .slice ar R.length cr, R⟩, ⟨stepS, 143, .slice sa0 D0.steps.length sk0, D0.steps⟩] [Rp SB [.slice ab B.length cb] B, Rp SB [.slice as_ σ.length cs] σ, Fz jQ, Rp SB [.slice ax r.length cx] r] w) :
 Calls Tryz.prog 16 #[.P jb 0, .slice ax r.length cx] w (Ret fun v w' => (v = .I 0 ∧ ∃ (g' : Nat) (seg' : ByteArray) (ar' : Option Addr) (cr' : Nat) (as' : Option Addr) (cs' : Nat) (D' : DiskD) (sa' : Option Addr) (sk' : Nat), JL D' nm B R0 (R ++ [r]) g' seg' (σ ++ frameF r) false ∧ g' ≤ g + 1 ∧ DI D' ∧ Al D' n ∧ Stp nm D0 D' ∧ Cp 1 D0 D' ∧ Dry D0 D' ∧ Hp w S O ((jb, .cells #[.P db 0, .string nm, .slice ab B.length cb, .slice ar' (R ++ [r]).length cr', .I g', .string seg', .slice as' (σ ++ frameF r).length cs', .bool false] 41 (0, 0)) :: diskM db D' sa' sk') [⟨SB, 23, .slice ar' (R ++ [r]).length cr', (R ++ [r])⟩, diskW D' sa' sk'] [Rp SB [.slice ab B.length cb] B, Rp SB [.slice as' (σ ++ frameF r).length cs'] (σ ++ frameF r)] w') ∨ (∃ (y4 y5 y6 y7 : Value) (D' : DiskD) (sa' : Option Addr) (sk' : Nat), v = .I 70 ∧ Dd D0 D' nm (g + 1) (fun B' lo hi => B' = B ∧ R0 <+: lo ∧ hi <+: R ++ [r]) ∧ Hp w S O ((jb, .cells #[.P db 0, .string nm, .slice ab B.length cb, .slice ar R.length cr, y4, y5, y6, y7] 41 (0, 0)) :: diskM db D' sa' sk') [⟨SB, 23, .slice ar R.length cr, R⟩, diskW D' sa' sk'] [Rp SB [.slice ab B.length cb] B] w')) := by
 obtain ⟨V, cur, hL, hB, hR0, hR, hseg, hst, hy1, hy2⟩ := hJ
 have hg1 : 1 ≤ gO g cur ∧ gO g cur ≤ 1000000 := by
  cases cur with
  | none => exact ⟨Nat.succ_pos _, hg⟩
  | some c => exact ⟨hL.lv.segN.2.2, Nat.le_of_lt hg⟩
 have hfr : framesF (hiO cur ++ [r]) = σ ++ frameF r := by rw [hst, framesF_app, framesF_one]
 have hfl9 : (σ ++ frameF r).length = σ.length + (r.length + 12) := by rw [List.length_append, frame_len]
 have hW9 := apP (n := n) hp hL hg hr (by rw [hfr, hfl9]; omega) hroom
 rw [hfr] at hW9
 have hS9 : ApS D0 nm V cur g r n (σ.length / 63) D0 := by rw [hst]; exact ApS.start hd (ha.mono (by omega)) hL hr
 have hx9 := (fform_s hp hg1.1 hg1.2).size.1
 refine qS (fn := Tryz.f16) (n := 103) (σ := [(0, .P jb 0), (1, .slice ax r.length cx)]) Tryz.func16 ?_
 have H := H0
 refine qR 4 [.c [1, 0, 0], .c [1, 0, 1], .c [2]] [(0, .P jb 0), (1, .slice ax r.length cx)] ?_
 refine qG (sq 0 3) ?_
 refine qP 1 (sq 1 3) [(0, .P jb 0), (1, .slice ax r.length cx), (12, .P jb 0)] ?_
 have H := H.frontW 1 (W' := [⟨stepS, 143, .slice sa0 D0.steps.length sk0, D0.steps⟩, ⟨SB, 23, .slice ar R.length cr, R⟩]) rfl
 have H := H.perms (M' := ((jb, .cells #[.P db 0, .string nm, .slice ab B.length cb, .slice ar R.length cr, .I g, .string seg, .slice as_ σ.length cs, .bool sy] 41 (0, 0)) :: diskM db D0 sa0 sk0) ++ []) (W' := [⟨stepS, 143, .slice sa0 D0.steps.length sk0, D0.steps⟩, ⟨SB, 23, .slice ar R.length cr, R⟩]) ((List.perm_append_comm (l₁ := diskM db D0 sa0 sk0) (l₂ := ([] : Heap))).cons _) (List.Perm.refl _)
 refine RW.callS (d := some 13) (r := (sq 2 3)) (g := 54) (args := #[.P jb 0]) (by as_aux_lemma => kernel_rfl) (state_go ha.dead ((H.lend (M1 := ((jb, .cells #[.P db 0, .string nm, .slice ab B.length cb, .slice ar R.length cr, .I g, .string seg, .slice as_ σ.length cs, .bool sy] 41 (0, 0)) :: diskM db D0 sa0 sk0)) (W1 := [⟨stepS, 143, .slice sa0 D0.steps.length sk0, D0.steps⟩])).pick [] rfl)) ?_
 rintro _ w1 ⟨rfl, H'⟩
 have H := H.back (M1 := ((jb, .cells #[.P db 0, .string nm, .slice ab B.length cb, .slice ar R.length cr, .I g, .string seg, .slice as_ σ.length cs, .bool sy] 41 (0, 0)) :: diskM db D0 sa0 sk0)) (W1 := [⟨stepS, 143, .slice sa0 D0.steps.length sk0, D0.steps⟩]) H'
 have H := H.perms (M' := ((jb, .cells #[.P db 0, .string nm, .slice ab B.length cb, .slice ar R.length cr, .I g, .string seg, .slice as_ σ.length cs, .bool sy] 41 (0, 0)) :: (diskM db D0 sa0 sk0))) (W' := [⟨stepS, 143, .slice sa0 D0.steps.length sk0, D0.steps⟩, ⟨SB, 23, .slice ar R.length cr, R⟩]) ((List.perm_append_comm (l₁ := ([] : Heap)) (l₂ := diskM db D0 sa0 sk0)).cons _) (List.Perm.refl _)
 have H : Hp w S O ((jb, .cells #[.P db 0, .string nm, .slice ab B.length cb, .slice ar R.length cr, .I g, .string seg, .slice as_ σ.length cs, .bool sy] 41 (0, 0)) :: (diskM db D0 sa0 sk0)) [⟨stepS, 143, .slice sa0 D0.steps.length sk0, D0.steps⟩, ⟨SB, 23, .slice ar R.length cr, R⟩] [Rp SB [.slice ab B.length cb] B, Rp SB [.slice as_ σ.length cs] σ, Fz jQ, Rp SB [.slice ax r.length cx] r] _ := H
 refine qF 1 [(0, .P jb 0), (1, .slice ax r.length cx), (5, .I 0)] ?_
 refine qR 6 [.c [2, 0, 0], .c [2, 0, 1], .c [3]] [(0, .P jb 0), (1, .slice ax r.length cx)] ?_
 refine qG (sq 0 11) ?_
 refine qP 4 (sq 4 11) [(0, .P jb 0), (1, .slice ax r.length cx), (20, .bool (decide ((((r.length : Nat) : Int) : Int) > 4194304)))] ?_
 refine tD (fun b_ => [(0, .P jb 0), (1, .slice ax r.length cx), (20, .bool b_)]) ((((r.length : Nat) : Int) : Int) > 4194304) (fun h2 => ?_) (fun h2 => ?_)
 ·
  omega
 ·
  refine qP 3 (sq 7 11) [(0, .P jb 0), (1, .slice ax r.length cx), (20, .bool false), (23, .P jb 3)] ?_
  refine qL .seq 24 (sq 8 11) 22 jb 3 3 (.slice ar R.length cr) (H.cells 0 rfl) ?_
  refine qF 3 [(0, .P jb 0), (1, .slice ax r.length cx), (27, .bool (decide ((((R.length : Nat) : Int) : Int) > 65536)))] ?_
  refine qD ((((R.length : Nat) : Int) : Int) > 65536) (fun h3 => ?_) (fun h3 => ?_)
  ·
   omega
  ·
   refine qR 3 [.c [3, 0, 0], .c [3, 0, 1], .c [4]] [(0, .P jb 0), (1, .slice ax r.length cx)] ?_
   refine qG (sq 0 3) ?_
   refine qP 1 (sq 1 3) [(0, .P jb 0), (1, .slice ax r.length cx), (28, .P jb 0)] ?_
   have H := H.perms (M' := ((jb, .cells #[.P db 0, .string nm, .slice ab B.length cb, .slice ar R.length cr, .I g, .string seg, .slice as_ σ.length cs, .bool sy] 41 (0, 0)) :: diskM db D0 sa0 sk0) ++ []) (W' := [⟨stepS, 143, .slice sa0 D0.steps.length sk0, D0.steps⟩, ⟨SB, 23, .slice ar R.length cr, R⟩]) ((List.perm_append_comm (l₁ := diskM db D0 sa0 sk0) (l₂ := ([] : Heap))).cons _) (List.Perm.refl _)
   refine RW.callS (d := some 29) (r := (sq 2 3)) (g := 54) (args := #[.P jb 0]) (by as_aux_lemma => kernel_rfl) (state_go ha.dead ((H.lend (M1 := ((jb, .cells #[.P db 0, .string nm, .slice ab B.length cb, .slice ar R.length cr, .I g, .string seg, .slice as_ σ.length cs, .bool sy] 41 (0, 0)) :: diskM db D0 sa0 sk0)) (W1 := [⟨stepS, 143, .slice sa0 D0.steps.length sk0, D0.steps⟩])).pick [] rfl)) ?_
   rintro _ w4 ⟨rfl, H'⟩
   have H := H.back (M1 := ((jb, .cells #[.P db 0, .string nm, .slice ab B.length cb, .slice ar R.length cr, .I g, .string seg, .slice as_ σ.length cs, .bool sy] 41 (0, 0)) :: diskM db D0 sa0 sk0)) (W1 := [⟨stepS, 143, .slice sa0 D0.steps.length sk0, D0.steps⟩]) H'
   have H := H.perms (M' := ((jb, .cells #[.P db 0, .string nm, .slice ab B.length cb, .slice ar R.length cr, .I g, .string seg, .slice as_ σ.length cs, .bool sy] 41 (0, 0)) :: (diskM db D0 sa0 sk0))) (W' := [⟨stepS, 143, .slice sa0 D0.steps.length sk0, D0.steps⟩, ⟨SB, 23, .slice ar R.length cr, R⟩]) ((List.perm_append_comm (l₁ := ([] : Heap)) (l₂ := diskM db D0 sa0 sk0)).cons _) (List.Perm.refl _)
   have H : Hp w S O ((jb, .cells #[.P db 0, .string nm, .slice ab B.length cb, .slice ar R.length cr, .I g, .string seg, .slice as_ σ.length cs, .bool sy] 41 (0, 0)) :: (diskM db D0 sa0 sk0)) [⟨stepS, 143, .slice sa0 D0.steps.length sk0, D0.steps⟩, ⟨SB, 23, .slice ar R.length cr, R⟩] [Rp SB [.slice ab B.length cb] B, Rp SB [.slice as_ σ.length cs] σ, Fz jQ, Rp SB [.slice ax r.length cx] r] _ := H
   refine qF 1 [(0, .P jb 0), (1, .slice ax r.length cx), (6, .I 0)] ?_
   refine qR 5 [.c [4, 0], .c [5]] [(0, .P jb 0), (1, .slice ax r.length cx)] ?_
   refine qG (sq 0 7) ?_
   refine qP 1 (sq 1 7) [(0, .P jb 0), (1, .slice ax r.length cx), (34, .slice ax r.length cx)] ?_
   refine qK .seq (some 35) (sq 2 7) 57 #[.slice ax r.length cx] (frame_spec (xs := r) (H.rp 3 rfl) (by omega)) ?_
   rintro _ w5 - ⟨a6, c7, rfl, H'⟩
   have H := H.back (M1 := []) (W1 := []) H'
   have H : Hp w S O ((jb, .cells #[.P db 0, .string nm, .slice ab B.length cb, .slice ar R.length cr, .I g, .string seg, .slice as_ σ.length cs, .bool sy] 41 (0, 0)) :: (diskM db D0 sa0 sk0)) [⟨Sb, 5, .slice a6 (frameF r).length c7, (frameF r)⟩, ⟨stepS, 143, .slice sa0 D0.steps.length sk0, D0.steps⟩, ⟨SB, 23, .slice ar R.length cr, R⟩] [Rp SB [.slice ab B.length cb] B, Rp SB [.slice as_ σ.length cs] σ, Fz jQ, Rp SB [.slice ax r.length cx] r] _ := H
   refine qF 5 [(0, .P jb 0), (1, .slice ax r.length cx), (7, .slice a6 (frameF r).length c7)] ?_
   refine qR 2 [.c [5, 0, 0], .c [5, 0, 1], .c [6]] [(0, .P jb 0), (1, .slice ax r.length cx), (7, .slice a6 (frameF r).length c7)] ?_
   refine qG (sq 0 5) ?_
   refine qP 3 (sq 3 5) [(0, .P jb 0), (1, .slice ax r.length cx), (7, .slice a6 (frameF r).length c7), (40, .P jb 5)] ?_
   refine qL .seq 41 (sq 4 5) 9 jb 5 5 (.string seg) (H.cells 0 rfl) ?_
   refine qF 1 [(0, .P jb 0), (1, .slice ax r.length cx), (7, .slice a6 (frameF r).length c7), (42, .bool (seg.toList == (⟨#[]⟩ : ByteArray).toList))] ?_
   refine WK.joinV (α := Nat) (fun x_ w_ => match x_ with | u9 => Hp w S O ((jb, .cells #[.P db 0, .string nm, .slice ab B.length cb, .slice ar R.length cr, .I ((gO g cur : Nat) : Int), .string (sN nm (gO g cur)), .slice as_ σ.length cs, .bool sy] 41 (0, 0)) :: (diskM db D0 sa0 sk0)) [⟨Sb, 5, .slice a6 (frameF r).length c7, (frameF r)⟩, ⟨stepS, 143, .slice sa0 D0.steps.length sk0, D0.steps⟩, ⟨SB, 23, .slice ar R.length cr, R⟩] [Rp SB [.slice ab B.length cb] B, Rp SB [.slice as_ σ.length cs] σ, Fz jQ, Rp SB [.slice ax r.length cx] r] w_ ∧ True) (fun x_ => match x_ with | u9 => [(0, .P jb 0), (1, .slice ax r.length cx), (7, .slice a6 (frameF r).length c7)]) [Cq Tryz.prog 16 [6]] (fun hJ8 => ?_) ?_
   ·
    refine qE seg.toList ((⟨#[]⟩ : ByteArray).toList) (fun h10 => ?_) (fun h10 => ?_)
    ·
     have hcur : cur = none := by
      cases hc : cur with
      | none => rfl
      | some c => rw [hseg, hc] at h10; exact absurd h10 (sN_ne nm g)
     refine qR 1 [.c [5, 0, 1, 0, 0], .c [5, 0, 1, 0, 1], .c [6]] [(0, .P jb 0), (1, .slice ax r.length cx), (7, .slice a6 (frameF r).length c7)] ?_
     refine qG (sq 0 8) ?_
     refine qP 3 (sq 3 8) [(0, .P jb 0), (1, .slice ax r.length cx), (7, .slice a6 (frameF r).length c7), (43, .P jb 0), (45, .P jb 4)] ?_
     refine qL .seq 46 (sq 4 8) 3 jb 4 4 (.I g) (H.cells 0 rfl) ?_
     refine qI .seq 47 (sq 5 8) ((g : Int) + 1) ?_
     refine qP 2 (sq 7 8) [(0, .P jb 0), (1, .slice ax r.length cx), (7, .slice a6 (frameF r).length c7), (47, .I ((g : Int) + 1)), (49, .P jb 4)] ?_
     refine qW 3 jb 4 (sq 8 8) (.I ((g : Int) + 1)) ((jb, .cells #[.P db 0, .string nm, .slice ab B.length cb, .slice ar R.length cr, .I ((g : Int) + 1), .string seg, .slice as_ σ.length cs, .bool sy] 41 (0, 0)) :: (diskM db D0 sa0 sk0)) H 0 rfl rfl ?_
     intro w11 H
     refine qF 0 [(0, .P jb 0), (1, .slice ax r.length cx), (7, .slice a6 (frameF r).length c7)] ?_
     refine qG (sq 0 10) ?_
     refine qP 5 (sq 5 10) [(0, .P jb 0), (1, .slice ax r.length cx), (7, .slice a6 (frameF r).length c7), (50, .P jb 0), (51, .P jb 0), (54, .P jb 4)] ?_
     refine qL .seq 55 (sq 6 10) 3 jb 4 4 (.I ((g : Int) + 1)) (H.cells 0 rfl) ?_
     have hq14 := H.viewF 2 rfl
     refine qK .seq (some 56) (sq 7 10) 58 #[.P jb 0, .string (⟨#[115]⟩ : ByteArray), .I ((g : Int) + 1)] (jfile_spec (S := fun _ => True) (kd := kS) (n := g + 1) (H.viewM 0 rfl (by simp)) hq14 (by omega) hp (.inl rfl)) ?_
     rintro _ w12 hE13 rfl
     have H := H.ext hE13
     refine qP 2 (sq 9 10) [(0, .P jb 0), (1, .slice ax r.length cx), (7, .slice a6 (frameF r).length c7), (56, .string (sN nm (g + 1))), (58, .P jb 5)] ?_
     refine qW 9 jb 5 (sq 10 10) (.string (sN nm (g + 1))) ((jb, .cells #[.P db 0, .string nm, .slice ab B.length cb, .slice ar R.length cr, .I ((g : Int) + 1), .string (sN nm (g + 1)), .slice as_ σ.length cs, .bool sy] 41 (0, 0)) :: (diskM db D0 sa0 sk0)) H 0 rfl rfl ?_
     intro w15 H
     refine qF 0 [(0, .P jb 0), (1, .slice ax r.length cx), (7, .slice a6 (frameF r).length c7)] ?_
     have H : Hp w S O ((jb, .cells #[.P db 0, .string nm, .slice ab B.length cb, .slice ar R.length cr, .I ((gO g cur : Nat) : Int), .string (sN nm (gO g cur)), .slice as_ σ.length cs, .bool sy] 41 (0, 0)) :: (diskM db D0 sa0 sk0)) [⟨Sb, 5, .slice a6 (frameF r).length c7, (frameF r)⟩, ⟨stepS, 143, .slice sa0 D0.steps.length sk0, D0.steps⟩, ⟨SB, 23, .slice ar R.length cr, R⟩] [Rp SB [.slice ab B.length cb] B, Rp SB [.slice as_ σ.length cs] σ, Fz jQ, Rp SB [.slice ax r.length cx] r] w15 := by rw [hcur]; exact H
     exact hJ8 (0) _ ⟨H, trivial⟩
    ·
     obtain ⟨c, hcur⟩ : ∃ c, cur = some c := by
      cases hc : cur with
      | none => exact absurd (by rw [hseg, hc]; rfl) h10
      | some c => exact ⟨c, rfl⟩
     refine qR 1 [.c [6]] [(0, .P jb 0), (1, .slice ax r.length cx), (7, .slice a6 (frameF r).length c7)] ?_
     have H : Hp w S O ((jb, .cells #[.P db 0, .string nm, .slice ab B.length cb, .slice ar R.length cr, .I ((gO g cur : Nat) : Int), .string (sN nm (gO g cur)), .slice as_ σ.length cs, .bool sy] 41 (0, 0)) :: (diskM db D0 sa0 sk0)) [⟨Sb, 5, .slice a6 (frameF r).length c7, (frameF r)⟩, ⟨stepS, 143, .slice sa0 D0.steps.length sk0, D0.steps⟩, ⟨SB, 23, .slice ar R.length cr, R⟩] [Rp SB [.slice ab B.length cb] B, Rp SB [.slice as_ σ.length cs] σ, Fz jQ, Rp SB [.slice ax r.length cx] r] w5 := by rw [hcur]; rw [hseg, hcur] at H; exact H
     exact hJ8 (0) _ ⟨H, trivial⟩
   ·
    rintro u9 w9 ⟨H, -⟩
    refine qR 1 [.c [6, 0], .c [7]] [(0, .P jb 0), (1, .slice ax r.length cx), (7, .slice a6 (frameF r).length c7)] ?_
    refine qG (sq 0 6) ?_
    refine qP 3 (sq 3 6) [(0, .P jb 0), (1, .slice ax r.length cx), (7, .slice a6 (frameF r).length c7), (61, .P jb 6)] ?_
    refine qL .seq 62 (sq 4 6) 23 jb 6 6 (.slice as_ σ.length cs) (H.cells 0 rfl) ?_
    refine qF 2 [(0, .P jb 0), (1, .slice ax r.length cx), (7, .slice a6 (frameF r).length c7), (9, .I ((σ.length : Nat) : Int))] ?_
    refine qR 1 [.c [7, 0], .c [8]] [(0, .P jb 0), (1, .slice ax r.length cx), (7, .slice a6 (frameF r).length c7), (9, .I ((σ.length : Nat) : Int))] ?_
    refine qG (sq 0 10) ?_
    refine qP 3 (sq 3 10) [(0, .P jb 0), (1, .slice ax r.length cx), (7, .slice a6 (frameF r).length c7), (9, .I ((σ.length : Nat) : Int)), (66, .P jb 6)] ?_
    refine qL .seq 67 (sq 4 10) 23 jb 6 6 (.slice as_ σ.length cs) (H.cells 0 rfl) ?_
    refine qP 2 (sq 6 10) [(0, .P jb 0), (1, .slice ax r.length cx), (7, .slice a6 (frameF r).length c7), (9, .I ((σ.length : Nat) : Int)), (67, .slice as_ σ.length cs), (68, .I ((σ.length : Nat) : Int)), (69, .I ((σ.length : Nat) : Int))] ?_
    refine RW.clip (κ := .seq) (d := some 70) (r := (sq 7 10)) (T := 23) (e := 5) (sh := Sb) (a := as_) (len := σ.length) (cap := cs) (k1 := .i64) (t1 := ((σ.length : Nat) : Int)) (k2 := .i64) (t2 := ((σ.length : Nat) : Int)) (by as_aux_lemma => kernel_rfl) (by as_aux_lemma => kernel_rfl) H 1 rfl (by omega) (by omega) ?_
    intro H
    refine qP 1 (sq 8 10) [(0, .P jb 0), (1, .slice ax r.length cx), (9, .I ((σ.length : Nat) : Int)), (70, .slice as_ σ.length σ.length), (71, .slice a6 (frameF r).length c7)] ?_
    have H : Hp w S O ((jb, .cells #[.P db 0, .string nm, .slice ab B.length cb, .slice ar R.length cr, .I ((gO g cur : Nat) : Int), .string (sN nm (gO g cur)), .slice as_ σ.length cs, .bool sy] 41 (0, 0)) :: (diskM db D0 sa0 sk0)) [⟨stepS, 143, .slice sa0 D0.steps.length sk0, D0.steps⟩, ⟨SB, 23, .slice ar R.length cr, R⟩] [Rp SB [.slice a6 (frameF r).length c7] (frameF r), Rp SB [.slice as_ σ.length σ.length] σ, Rp SB [.slice ab B.length cb] B, Rp SB [.slice as_ σ.length cs] σ, Fz jQ, Rp SB [.slice ax r.length cx] r] _ := H.freezeW 0 rfl
    refine RW.appendC (κ := .seq) (d := some 72) (r := (sq 9 10)) (T := 23) (ty := 23) (e := 5) (m := 1) (by_ := 1) (a1 := as_) (l1 := σ.length) (a2 := a6) (l2 := (frameF r).length) (c2 := c7) (zs := (σ ++ (frameF r))) (by as_aux_lemma => kernel_rfl) (nofun) (by as_aux_lemma => kernel_rfl) rfl H 1 rfl 0 rfl (by rw [frame_len]; omega) (rfl) (by rw [hfl9]; omega) ?_
    intro a16 c17 w18 H
    refine qF 1 [(0, .P jb 0), (1, .slice ax r.length cx), (9, .I ((σ.length : Nat) : Int)), (10, .slice a16 ((σ ++ (frameF r)).length) c17)] ?_
    refine qR 2 [.c [8, 0, 0], .c [8, 0, 1], .c [9]] [(0, .P jb 0), (1, .slice ax r.length cx), (9, .I ((σ.length : Nat) : Int)), (10, .slice a16 ((σ ++ (frameF r)).length) c17)] ?_
    refine qG (sq 0 9) ?_
    refine qP 4 (sq 4 9) [(0, .P jb 0), (1, .slice ax r.length cx), (9, .I ((σ.length : Nat) : Int)), (10, .slice a16 ((σ ++ (frameF r)).length) c17), (73, .P jb 0), (76, .P jb 5)] ?_
    refine qL .seq 77 (sq 5 9) 9 jb 5 5 (.string (sN nm (gO g cur))) (H.cells 0 rfl) ?_
    refine qP 2 (sq 7 9) [(0, .P jb 0), (1, .slice ax r.length cx), (10, .slice a16 ((σ ++ (frameF r)).length) c17), (73, .P jb 0), (77, .string (sN nm (gO g cur))), (78, .slice a16 ((σ ++ (frameF r)).length) c17), (79, .I ((σ.length : Nat) : Int))] ?_
    have H := H.perms (M' := ((jb, .cells #[.P db 0, .string nm, .slice ab B.length cb, .slice ar R.length cr, .I ((gO g cur : Nat) : Int), .string (sN nm (gO g cur)), .slice as_ σ.length cs, .bool sy] 41 (0, 0)) :: diskM db D0 sa0 sk0) ++ []) (W' := [⟨stepS, 143, .slice sa0 D0.steps.length sk0, D0.steps⟩, ⟨SB, 23, .slice ar R.length cr, R⟩]) ((List.perm_append_comm (l₁ := diskM db D0 sa0 sk0) (l₂ := ([] : Heap))).cons _) (List.Perm.refl _)
    refine RW.callS (d := some 80) (r := (sq 8 9)) (g := 59) (args := #[.P jb 0, .string (sN nm (gO g cur)), .slice a16 ((σ ++ (frameF r)).length) c17, .I ((σ.length : Nat) : Int)]) (by as_aux_lemma => kernel_rfl) (jwrite_spec (τ := (σ ++ (frameF r))) (fr := σ.length) hW9 hS9 rfl (by rw [hfl9]; omega) (by rw [hfl9]; omega) hx9 ((H.lend (M1 := ((jb, .cells #[.P db 0, .string nm, .slice ab B.length cb, .slice ar R.length cr, .I ((gO g cur : Nat) : Int), .string (sN nm (gO g cur)), .slice as_ σ.length cs, .bool sy] 41 (0, 0)) :: diskM db D0 sa0 sk0)) (W1 := [⟨stepS, 143, .slice sa0 D0.steps.length sk0, D0.steps⟩])).pick [0] rfl)) ?_
    rintro _ w19 (⟨i24, hl25, hi26, rfl, D20, sa21, sk22, hP27, H'⟩ | ⟨eb23, rfl, D20, sa21, sk22, hQ28, H'⟩)
    ·
     have H := H.back (M1 := ((jb, .cells #[.P db 0, .string nm, .slice ab B.length cb, .slice ar R.length cr, .I ((gO g cur : Nat) : Int), .string (sN nm (gO g cur)), .slice as_ σ.length cs, .bool sy] 41 (0, 0)) :: diskM db D0 sa0 sk0)) (W1 := [⟨stepS, 143, .slice sa0 D0.steps.length sk0, D0.steps⟩]) H'
     have H := H.perms (M' := ((jb, .cells #[.P db 0, .string nm, .slice ab B.length cb, .slice ar R.length cr, .I ((gO g cur : Nat) : Int), .string (sN nm (gO g cur)), .slice as_ σ.length cs, .bool sy] 41 (0, 0)) :: (diskM db D20 sa21 sk22))) (W' := [⟨stepS, 143, .slice sa21 D20.steps.length sk22, D20.steps⟩, ⟨SB, 23, .slice ar R.length cr, R⟩]) ((List.perm_append_comm (l₁ := ([] : Heap)) (l₂ := diskM db D20 sa21 sk22)).cons _) (List.Perm.refl _)
     have H : Hp w S O ((jb, .cells #[.P db 0, .string nm, .slice ab B.length cb, .slice ar R.length cr, .I ((gO g cur : Nat) : Int), .string (sN nm (gO g cur)), .slice as_ σ.length cs, .bool sy] 41 (0, 0)) :: (diskM db D20 sa21 sk22)) [⟨stepS, 143, .slice sa21 D20.steps.length sk22, D20.steps⟩, ⟨SB, 23, .slice ar R.length cr, R⟩] [Rp SB [.slice a16 ((σ ++ (frameF r)).length) c17] (σ ++ (frameF r)), Rp SB [.slice a6 (frameF r).length c7] (frameF r), Rp SB [.slice as_ σ.length σ.length] σ, Rp SB [.slice ab B.length cb] B, Rp SB [.slice as_ σ.length cs] σ, Fz jQ, Rp SB [.slice ax r.length cx] r] _ := H
     obtain ⟨cc9, hc1, hc2, hJ9⟩ := hP27.done (by rw [hfr]; exact hl25) (by rw [hfr, hfl9]; omega)
     refine qF 1 [(0, .P jb 0), (1, .slice ax r.length cx), (10, .slice a16 ((σ ++ (frameF r)).length) c17), (11, .nilIface)] ?_
     refine qR 5 [.c [9, 0], .c [10]] [(0, .P jb 0), (1, .slice ax r.length cx), (10, .slice a16 ((σ ++ (frameF r)).length) c17)] ?_
     refine qG (sq 0 9) ?_
     refine qP 5 (sq 5 9) [(0, .P jb 0), (1, .slice ax r.length cx), (86, .P jb 0), (87, .slice a16 ((σ ++ (frameF r)).length) c17), (89, .P jb 6)] ?_
     refine qW 23 jb 6 (sq 6 9) (.slice a16 ((σ ++ (frameF r)).length) c17) ((jb, .cells #[.P db 0, .string nm, .slice ab B.length cb, .slice ar R.length cr, .I ((gO g cur : Nat) : Int), .string (sN nm (gO g cur)), .slice a16 ((σ ++ (frameF r)).length) c17, .bool sy] 41 (0, 0)) :: (diskM db D20 sa21 sk22)) H 0 rfl rfl ?_
     intro w29 H
     refine qP 2 (sq 8 9) [(0, .P jb 0), (1, .slice ax r.length cx), (91, .P jb 7)] ?_
     refine qW 4 jb 7 (sq 9 9) (.bool false) ((jb, .cells #[.P db 0, .string nm, .slice ab B.length cb, .slice ar R.length cr, .I ((gO g cur : Nat) : Int), .string (sN nm (gO g cur)), .slice a16 ((σ ++ (frameF r)).length) c17, .bool false] 41 (0, 0)) :: (diskM db D20 sa21 sk22)) H 0 rfl rfl ?_
     intro w30 H
     refine qF 0 [(0, .P jb 0), (1, .slice ax r.length cx)] ?_
     refine qR 1 [.c [10, 0], .c [11]] [(0, .P jb 0), (1, .slice ax r.length cx)] ?_
     refine WK.drawP1 8 [0, 1, 2, 3, 5] [(97, .slice ax r.length cx), (95, .P jb 3), (94, .P jb 0), (93, .P jb 0), (92, .P jb 0), (0, .P jb 0), (1, .slice ax r.length cx)] [(4, .qui), (6, .chn), (7, .chn)] [(4, .qui), (6, .chn), (7, .chn), (8, .seq), (9, .seq), (10, .seq), (11, .seq)] Tryz_mixed (by as_aux_lemma => kernel_rfl) (by as_aux_lemma => kernel_rfl) (by as_aux_lemma => kernel_rfl) (by as_aux_lemma => kernel_rfl) ?_
     have H := H.draw
     generalize ({ w30 with drawn := w30.drawn + 1 } : World) = w31 at H ⊢
     refine qL .qui 96 [(6, .chn), (7, .chn), (8, .seq), (9, .seq), (10, .seq), (11, .seq)] 22 jb 3 3 (.slice ar R.length cr) (H.cells 0 rfl) ?_
     refine RW.appendN (κ := .chn) (d := some 98) (r := [(7, .chn), (8, .seq), (9, .seq), (10, .seq), (11, .seq)]) (T := 23) (ty := 23) (e := 5) (m := 1) (by_ := 1) (a0 := none) (a2 := ax) (l2 := r.length) (c2 := cx) (by as_aux_lemma => kernel_rfl) (nofun) (.inl rfl) (by as_aux_lemma => kernel_rfl) rfl H 6 rfl (by omega) ?_
     intro a32 c33 w34 H
     refine RW.new (κ := .chn) (d := some 99) (r := [(8, .seq), (9, .seq), (10, .seq), (11, .seq)]) (o := .cells #[.slice a32 r.length c33] 23 (0, 0)) (v := fun b => .slice (some ⟨b, 0, none⟩) 1 1) (fun b => by as_aux_lemma => kernel_rfl) (nofun) H ?_
     intro b35 w36 H
     have H := H.freeze 0 rfl SB ([r] : List (List (BitVec 8))) 1 (by simp [maxLen]) (by first | exact Nat.le_refl _ | simp) (EsP.cons (c := [.slice a32 r.length c33]) (H.rp 0 rfl) EsP.nil)
     have H : Hp w S O ((jb, .cells #[.P db 0, .string nm, .slice ab B.length cb, .slice ar R.length cr, .I ((gO g cur : Nat) : Int), .string (sN nm (gO g cur)), .slice a16 ((σ ++ (frameF r)).length) c17, .bool false] 41 (0, 0)) :: (diskM db D20 sa21 sk22)) [⟨stepS, 143, .slice sa21 D20.steps.length sk22, D20.steps⟩, ⟨SB, 23, .slice ar R.length cr, R⟩] [Rp (Shape.slice SB) [.slice (some ⟨b35, 0, none⟩) 1 1] ([r] : List (List (BitVec 8))), Rp SB [.slice a32 r.length c33] r, Rp SB [.slice a16 ((σ ++ (frameF r)).length) c17] (σ ++ (frameF r)), Rp SB [.slice a6 (frameF r).length c7] (frameF r), Rp SB [.slice as_ σ.length σ.length] σ, Rp SB [.slice ab B.length cb] B, Rp SB [.slice as_ σ.length cs] σ, Fz jQ, Rp SB [.slice ax r.length cx] r] _ := H
     refine RW.appendW (d := some 100) (r := [(9, .seq), (10, .seq), (11, .seq)]) (T := 22) (ty := 22) (e := 23) (m := 1) (by_ := 24) (v := .slice ar R.length cr) (a2 := (some ⟨b35, 0, none⟩)) (l2 := 1) (c2 := 1) (zs := R ++ ([r] : List (List (BitVec 8)))) (by as_aux_lemma => kernel_rfl) (by as_aux_lemma => kernel_rfl) rfl H 1 rfl 0 rfl (rfl) (by rw [List.length_append]; simp only [List.length_cons, List.length_nil]; omega) ?_
     intro a37 c38 w40 H hc39
     have H : Hp w S O ((jb, .cells #[.P db 0, .string nm, .slice ab B.length cb, .slice ar R.length cr, .I ((gO g cur : Nat) : Int), .string (sN nm (gO g cur)), .slice a16 ((σ ++ (frameF r)).length) c17, .bool false] 41 (0, 0)) :: (diskM db D20 sa21 sk22)) [⟨stepS, 143, .slice sa21 D20.steps.length sk22, D20.steps⟩, ⟨SB, 23, .slice a37 ((R ++ ([r] : List (List (BitVec 8)))).length) c38, R ++ ([r] : List (List (BitVec 8)))⟩] [Rp (Shape.slice SB) [.slice (some ⟨b35, 0, none⟩) 1 1] ([r] : List (List (BitVec 8))), Rp SB [.slice a32 r.length c33] r, Rp SB [.slice a16 ((σ ++ (frameF r)).length) c17] (σ ++ (frameF r)), Rp SB [.slice a6 (frameF r).length c7] (frameF r), Rp SB [.slice as_ σ.length σ.length] σ, Rp SB [.slice ab B.length cb] B, Rp SB [.slice as_ σ.length cs] σ, Fz jQ, Rp SB [.slice ax r.length cx] r] _ := H
     refine qP 2 [(11, .seq)] [(100, .slice a37 ((R ++ ([r] : List (List (BitVec 8)))).length) c38), (102, .P jb 3)] ?_
     refine qW 22 jb 3 [] (.slice a37 ((R ++ ([r] : List (List (BitVec 8)))).length) c38) ((jb, .cells #[.P db 0, .string nm, .slice ab B.length cb, .slice a37 ((R ++ ([r] : List (List (BitVec 8)))).length) c38, .I ((gO g cur : Nat) : Int), .string (sN nm (gO g cur)), .slice a16 ((σ ++ (frameF r)).length) c17, .bool false] 41 (0, 0)) :: (diskM db D20 sa21 sk22)) H 0 rfl rfl ?_
     intro w41 H
     refine qF 0 [] ?_
     refine qR 2 [.c [12]] [(4, .I 0)] ?_
     refine qT (.I 0) Tryz.func16 ?_
     have H := H.pick [5, 2] rfl
     have H := H.frontW 1 (W' := [⟨SB, 23, .slice a37 ((R ++ ([r] : List (List (BitVec 8)))).length) c38, R ++ ([r] : List (List (BitVec 8)))⟩, ⟨stepS, 143, .slice sa21 D20.steps.length sk22, D20.steps⟩]) rfl
     have hJL := JL.app hc1 hc2 hJ9
     rw [hB, hR0, hR, hfr] at hJL
     exact ⟨_, rfl, .inl ⟨rfl, _, _, _, _, _, _, D20, sa21, sk22, hJL, gO_le g cur, (hP27).di, (hP27).al.mono (by omega), (hP27).stp, (hP27).cp, (hP27).dry, H⟩⟩
    ·
     have H := H.back (M1 := ((jb, .cells #[.P db 0, .string nm, .slice ab B.length cb, .slice ar R.length cr, .I ((gO g cur : Nat) : Int), .string (sN nm (gO g cur)), .slice as_ σ.length cs, .bool sy] 41 (0, 0)) :: diskM db D0 sa0 sk0)) (W1 := [⟨stepS, 143, .slice sa0 D0.steps.length sk0, D0.steps⟩]) H'
     have H := H.perms (M' := ((eb23, .cells #[.I 70] 204 (0, 0)) :: (jb, .cells #[.P db 0, .string nm, .slice ab B.length cb, .slice ar R.length cr, .I ((gO g cur : Nat) : Int), .string (sN nm (gO g cur)), .slice as_ σ.length cs, .bool sy] 41 (0, 0)) :: (diskM db D20 sa21 sk22))) (W' := [⟨stepS, 143, .slice sa21 D20.steps.length sk22, D20.steps⟩, ⟨SB, 23, .slice ar R.length cr, R⟩]) (((List.perm_append_comm (l₁ := ([] : Heap)) (l₂ := diskM db D20 sa21 sk22)).cons _).cons _) (List.Perm.refl _)
     have H : Hp w S O ((eb23, .cells #[.I 70] 204 (0, 0)) :: (jb, .cells #[.P db 0, .string nm, .slice ab B.length cb, .slice ar R.length cr, .I ((gO g cur : Nat) : Int), .string (sN nm (gO g cur)), .slice as_ σ.length cs, .bool sy] 41 (0, 0)) :: (diskM db D20 sa21 sk22)) [⟨stepS, 143, .slice sa21 D20.steps.length sk22, D20.steps⟩, ⟨SB, 23, .slice ar R.length cr, R⟩] [Rp SB [.slice a16 ((σ ++ (frameF r)).length) c17] (σ ++ (frameF r)), Rp SB [.slice a6 (frameF r).length c7] (frameF r), Rp SB [.slice as_ σ.length σ.length] σ, Rp SB [.slice ab B.length cb] B, Rp SB [.slice as_ σ.length cs] σ, Fz jQ, Rp SB [.slice ax r.length cx] r] _ := H
     refine qF 1 [(0, .P jb 0), (1, .slice ax r.length cx), (10, .slice a16 ((σ ++ (frameF r)).length) c17), (11, .iface 200 (.P eb23 0))] ?_
     refine qR 4 [.c [8, 0, 2, 0, 0], .c [8, 0, 2, 0, 1], .c [9]] [(11, .iface 200 (.P eb23 0))] ?_
     refine qG (sq 0 3) ?_
     refine qP 1 (sq 1 3) [(83, .iface 200 (.P eb23 0))] ?_
     refine RW.callS (d := some 84) (r := (sq 2 3)) (g := 53) (args := #[.iface 200 (.P eb23 0)]) (by as_aux_lemma => kernel_rfl) (jnumber_spec ((H.lend (M1 := [(eb23, .cells #[.I 70] 204 (0, 0))]) (W1 := [])).pick [5] rfl)) ?_
     rintro _ w42 ⟨rfl, H'⟩
     have H := H.back (M1 := [(eb23, .cells #[.I 70] 204 (0, 0))]) (W1 := []) H'
     have H : Hp w S O ((eb23, .cells #[.I 70] 204 (0, 0)) :: (jb, .cells #[.P db 0, .string nm, .slice ab B.length cb, .slice ar R.length cr, .I ((gO g cur : Nat) : Int), .string (sN nm (gO g cur)), .slice as_ σ.length cs, .bool sy] 41 (0, 0)) :: (diskM db D20 sa21 sk22)) [⟨stepS, 143, .slice sa21 D20.steps.length sk22, D20.steps⟩, ⟨SB, 23, .slice ar R.length cr, R⟩] [Rp SB [.slice a16 ((σ ++ (frameF r)).length) c17] (σ ++ (frameF r)), Rp SB [.slice a6 (frameF r).length c7] (frameF r), Rp SB [.slice as_ σ.length σ.length] σ, Rp SB [.slice ab B.length cb] B, Rp SB [.slice as_ σ.length cs] σ, Fz jQ, Rp SB [.slice ax r.length cx] r] _ := H
     refine qF 1 [(4, .I 70)] ?_
     refine qT (.I 70) Tryz.func16 ?_
     have H := H.pick [3] rfl
     have H := H.frontW 1 (W' := [⟨SB, 23, .slice ar R.length cr, R⟩, ⟨stepS, 143, .slice sa21 D20.steps.length sk22, D20.steps⟩]) rfl
     have H := H.drop (M' := ((jb, .cells #[.P db 0, .string nm, .slice ab B.length cb, .slice ar R.length cr, .I ((gO g cur : Nat) : Int), .string (sN nm (gO g cur)), .slice as_ σ.length cs, .bool sy] 41 (0, 0)) :: (diskM db D20 sa21 sk22))) (W' := [⟨SB, 23, .slice ar R.length cr, R⟩, ⟨stepS, 143, .slice sa21 D20.steps.length sk22, D20.steps⟩]) (by repeat (first | exact List.Sublist.refl _ | exact List.nil_sublist _ | apply List.Sublist.cons_cons | apply List.Sublist.cons)) (by repeat (first | exact List.Sublist.refl _ | exact List.nil_sublist _ | apply List.Sublist.cons_cons | apply List.Sublist.cons))
     exact ⟨_, rfl, .inr ⟨_, _, _, _, D20, sa21, sk22, rfl, (hQ28).mono (gO_le g cur) fun _ _ _ h9 => by rw [← hB, ← hR0, ← hR, List.append_assoc]; exact h9, H⟩⟩
end Go.Proofs.YtdnibpclkhenmaaGreatDoor
