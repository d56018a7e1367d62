import Derived.Test.YtdnibpclkhenmaaGreatDoorSBxA
import Derived.Test.YtdnibpclkhenmaaGreatDoorSJD
import Derived.Test.YtdnibpclkhenmaaGreatDoorSBxB
namespace Go.Proofs.YtdnibpclkhenmaaGreatDoor
open Go.BX
set_option maxHeartbeats 2000000 in
theorem jappend_spec {S : Nat → Prop} {w : World} {O : List Nat} {jb db g : Nat} {nm seg : ByteArray} {sy : Bool} {B σ : List (BitVec 8)} {R0 R : List (List (BitVec 8))} {ab ar as_ : Option Addr} {cb cr cs n q : Nat} {D0 : DiskD} {sa0 : Option Addr} {sk0 : Nat} {r : List (BitVec 8)} {ax : Option Addr} {cx : Nat} (hp : PlainB nm) (hd : DI D0) (ha : Al D0 (n + 300000)) (hJ : JL D0 nm B R0 R g seg σ sy q) (hg : g < 1000000) (hr : r.length ≤ 4194304) (hσ : σ.length + r.length ≤ 3900000) (hRl : R.length ≤ 65536) (hroom : D0.now.length < 256) (H0 : Hp w S O ((jb, .cells #[.P db 0, .string nm, .slice ab B.length cb, .slice ar R.length cr, .I g, .string seg, .slice as_ σ.length cs, .bool sy] 41 (0, 0)) :: diskM db D0 sa0 sk0) [⟨SB, 23, .slice ar R.length cr, R⟩, ⟨stepS, 143, .slice sa0 D0.steps.length sk0, D0.steps⟩] [Rp SB [.slice ab B.length cb] B, Rp SB [.slice as_ σ.length cs] σ, Fz jQ, Rp SB [.slice ax r.length cx] r] w) :
 Calls Tryz.prog 16 #[.P jb 0, .slice ax r.length cx] w (Ret fun v w' => (v = .I 0 ∧ ∃ (g' : Nat) (seg' : ByteArray) (ar' : Option Addr) (cr' : Nat) (as' : Option Addr) (cs' : Nat) (D' : DiskD) (sa' : Option Addr) (sk' : Nat), JL D' nm B R0 (R ++ [r]) g' seg' (σ ++ frameF r) false q ∧ g' ≤ g + 1 ∧ DI D' ∧ Al D' n ∧ Stp nm D0 D' ∧ Cp 1 D0 D' ∧ Dry D0 D' ∧ Hp w S O ((jb, .cells #[.P db 0, .string nm, .slice ab B.length cb, .slice ar' (R ++ [r]).length cr', .I g', .string seg', .slice as' (σ ++ frameF r).length cs', .bool false] 41 (0, 0)) :: diskM db D' sa' sk') [⟨SB, 23, .slice ar' (R ++ [r]).length cr', (R ++ [r])⟩, diskW D' sa' sk'] [Rp SB [.slice ab B.length cb] B, Rp SB [.slice as' (σ ++ frameF r).length cs'] (σ ++ frameF r)] w') ∨ (∃ (y4 y5 y6 y7 : Value) (D' : DiskD) (sa' : Option Addr) (sk' : Nat), v = .I 70 ∧ Dd D0 D' nm (g + 1) (fun B' lo hi => B' = B ∧ R0 <+: lo ∧ hi <+: R ++ [r]) ∧ Hp w S O ((jb, .cells #[.P db 0, .string nm, .slice ab B.length cb, .slice ar R.length cr, y4, y5, y6, y7] 41 (0, 0)) :: diskM db D' sa' sk') [⟨SB, 23, .slice ar R.length cr, R⟩, diskW D' sa' sk'] [Rp SB [.slice ab B.length cb] B] w')) := by
 obtain ⟨V, cur, hL, hB, D, hR, hseg, hst, _, _, hVq⟩ := hJ
 have E : 1 ≤ gO g cur ∧ gO g cur ≤ 1000000 := by
  cases cur with
  | none => exact ⟨Nat.succ_pos _, hg⟩
  | some c => exact ⟨hL.lv.segN.2.2, Nat.le_of_lt hg⟩
 have hfr : framesF (hiO cur ++ [r]) = σ ++ frameF r := by rw [hst, framesF_app, framesF_one]
 have k : (σ ++ frameF r).length = σ.length + (r.length + 12) := by rw [List.length_append, frame_len]
 have F := apP (n := n) hp hL hg hr (by rw [hfr, k]; omega) hroom
 rw [hfr] at F
 have Q : ApS D0 nm V cur g r n (σ.length / 63) D0 := by rw [hst]; exact ApS.start hd (ha.mono (by omega)) hL hr
 have U := (fform_s hp E.1 E.2).size.1
 refine uS1 Tryz.func16 ?_
 have H := H0
 refine uR 4 [.c [1, 0, 0], .c [1, 0, 1], .c [2]] ?_
 refine qG (sq 0 3) ?_
 refine uP 1 ?_
 have H := H.frontW 1 rfl
 have H := H.perms (M' := ((jb, .cells #[.P db 0, .string nm, .slice ab B.length cb, .slice ar R.length cr, .I g, .string seg, .slice as_ σ.length cs, .bool sy] 41 (0, 0)) :: diskM db D0 sa0 sk0) ++ []) (W' := [⟨stepS, 143, .slice sa0 D0.steps.length sk0, D0.steps⟩, ⟨SB, 23, .slice ar R.length cr, R⟩]) ((List.perm_append_comm (l₁ := diskM db D0 sa0 sk0) (l₂ := ([] : Heap))).cons _) (List.Perm.refl _)
 refine uKS (state_go ha.dead ((H.lend (M1 := ((jb, .cells #[.P db 0, .string nm, .slice ab B.length cb, .slice ar R.length cr, .I g, .string seg, .slice as_ σ.length cs, .bool sy] 41 (0, 0)) :: diskM db D0 sa0 sk0)) (W1 := [⟨stepS, 143, .slice sa0 D0.steps.length sk0, D0.steps⟩])).pick [] rfl)) ?_
 rintro _ _ ⟨rfl, H'⟩
 have H := H.back (M1 := ((jb, .cells #[.P db 0, .string nm, .slice ab B.length cb, .slice ar R.length cr, .I g, .string seg, .slice as_ σ.length cs, .bool sy] 41 (0, 0)) :: diskM db D0 sa0 sk0)) (W1 := [⟨stepS, 143, .slice sa0 D0.steps.length sk0, D0.steps⟩]) H'
 have H := H.perms (M' := ((jb, .cells #[.P db 0, .string nm, .slice ab B.length cb, .slice ar R.length cr, .I g, .string seg, .slice as_ σ.length cs, .bool sy] 41 (0, 0)) :: (diskM db D0 sa0 sk0))) (W' := [⟨stepS, 143, .slice sa0 D0.steps.length sk0, D0.steps⟩, ⟨SB, 23, .slice ar R.length cr, R⟩]) ((List.perm_append_comm (l₁ := ([] : Heap)) (l₂ := diskM db D0 sa0 sk0)).cons _) (List.Perm.refl _)
 have H : Hp w S O _ [_, _] [_, _, _, _] _ := H
 refine uF 1 ?_
 refine uR 6 [.c [2, 0, 0], .c [2, 0, 1], .c [3]] ?_
 refine qG (sq 0 11) ?_
 refine uP 4 ?_
 refine uD 20 ((((r.length : Nat) : Int) : Int) > 4194304) (fun h2 => ?_) (fun h2 => ?_)
 ·
  omega
 ·
  refine uP 3 ?_
  refine uV 22 3 (H.cells 0 rfl) ?_
  refine uF 3 ?_
  refine qD ((((R.length : Nat) : Int) : Int) > 65536) (fun h3 => ?_) (fun h3 => ?_)
  ·
   omega
  ·
   refine uR 3 [.c [3, 0, 0], .c [3, 0, 1], .c [4]] ?_
   refine qG (sq 0 3) ?_
   refine uP 1 ?_
   have H := H.perms (M' := ((jb, .cells #[.P db 0, .string nm, .slice ab B.length cb, .slice ar R.length cr, .I g, .string seg, .slice as_ σ.length cs, .bool sy] 41 (0, 0)) :: diskM db D0 sa0 sk0) ++ []) (W' := [⟨stepS, 143, .slice sa0 D0.steps.length sk0, D0.steps⟩, ⟨SB, 23, .slice ar R.length cr, R⟩]) ((List.perm_append_comm (l₁ := diskM db D0 sa0 sk0) (l₂ := ([] : Heap))).cons _) (List.Perm.refl _)
   refine uKS (state_go ha.dead ((H.lend (M1 := ((jb, .cells #[.P db 0, .string nm, .slice ab B.length cb, .slice ar R.length cr, .I g, .string seg, .slice as_ σ.length cs, .bool sy] 41 (0, 0)) :: diskM db D0 sa0 sk0)) (W1 := [⟨stepS, 143, .slice sa0 D0.steps.length sk0, D0.steps⟩])).pick [] rfl)) ?_
   rintro _ _ ⟨rfl, H'⟩
   have H := H.back (M1 := ((jb, .cells #[.P db 0, .string nm, .slice ab B.length cb, .slice ar R.length cr, .I g, .string seg, .slice as_ σ.length cs, .bool sy] 41 (0, 0)) :: diskM db D0 sa0 sk0)) (W1 := [⟨stepS, 143, .slice sa0 D0.steps.length sk0, D0.steps⟩]) H'
   have H := H.perms (M' := ((jb, .cells #[.P db 0, .string nm, .slice ab B.length cb, .slice ar R.length cr, .I g, .string seg, .slice as_ σ.length cs, .bool sy] 41 (0, 0)) :: (diskM db D0 sa0 sk0))) (W' := [⟨stepS, 143, .slice sa0 D0.steps.length sk0, D0.steps⟩, ⟨SB, 23, .slice ar R.length cr, R⟩]) ((List.perm_append_comm (l₁ := ([] : Heap)) (l₂ := diskM db D0 sa0 sk0)).cons _) (List.Perm.refl _)
   have H : Hp w S O _ [_, _] [_, _, _, _] _ := H
   refine uF 1 ?_
   refine qR 5 [.c [4, 0], .c [5]] [(0, .P jb 0), (1, .slice ax r.length cx)] ?_
   refine qG (sq 0 7) ?_
   refine uP 1 ?_
   refine uK (frame_spec (xs := r) (H.rp 3 rfl) (by omega)) ?_
   rintro _ w5 - ⟨l, p, rfl, H'⟩
   have H := H.back (M1 := []) (W1 := []) H'
   have H : Hp w S O _ [⟨Sb, 5, .slice l (frameF r).length p, (frameF r)⟩, _, _] [_, _, _, _] _ := H
   refine uF 5 ?_
   refine uR 2 [.c [5, 0, 0], .c [5, 0, 1], .c [6]] ?_
   refine qG (sq 0 5) ?_
   refine uP 3 ?_
   refine uV 9 5 (H.cells 0 rfl) ?_
   refine uF 1 ?_
   refine WK.joinV (α := Nat) (fun x_ w_ => match x_ with | W => Hp w S O ((jb, .cells #[.P db 0, .string nm, .slice ab B.length cb, .slice ar R.length cr, .I ((gO g cur : Nat) : Int), .string (sN nm (gO g cur)), .slice as_ σ.length cs, .bool sy] 41 (0, 0)) :: (diskM db D0 sa0 sk0)) [⟨Sb, 5, .slice l (frameF r).length p, (frameF r)⟩, ⟨stepS, 143, .slice sa0 D0.steps.length sk0, D0.steps⟩, ⟨SB, 23, .slice ar R.length cr, R⟩] [Rp SB [.slice ab B.length cb] B, Rp SB [.slice as_ σ.length cs] σ, Fz jQ, Rp SB [.slice ax r.length cx] r] w_ ∧ True) (fun x_ => match x_ with | W => [(0, .P jb 0), (1, .slice ax r.length cx), (7, .slice l (frameF r).length p)]) [Cq Tryz.prog 16 [6]] (fun G => ?_) ?_
   ·
    refine qE seg.toList ((⟨#[]⟩ : ByteArray).toList) (fun x => ?_) (fun x => ?_)
    ·
     have hcur : cur = none := by
      cases hc : cur with
      | none => rfl
      | some c => rw [hseg, hc] at x; exact absurd x (sN_ne nm g)
     refine uR 1 [.c [5, 0, 1, 0, 0], .c [5, 0, 1, 0, 1], .c [6]] ?_
     refine qG (sq 0 8) ?_
     refine uP 3 ?_
     refine uV 3 4 (H.cells 0 rfl) ?_
     refine uI ((g : Int) + 1) ?_
     refine uP 2 ?_
     refine qW 3 jb 4 (sq 8 8) (.I ((g : Int) + 1)) ((jb, .cells #[.P db 0, .string nm, .slice ab B.length cb, .slice ar R.length cr, .I ((g : Int) + 1), .string seg, .slice as_ σ.length cs, .bool sy] 41 (0, 0)) :: (diskM db D0 sa0 sk0)) H 0 rfl rfl ?_
     intro _ H
     refine uF 0 ?_
     refine qG (sq 0 10) ?_
     refine uP 5 ?_
     refine uV 3 4 (H.cells 0 rfl) ?_
     have K := H.viewF 2 rfl
     refine uK (jfile_spec (S := fun _ => True) (kd := kS) (n := g + 1) (H.viewM 0 rfl (by simp)) K (by omega) hp (.inl rfl)) ?_
     rintro _ _ L rfl
     have H := H.ext L
     refine qP 2 (sq 9 10) [(0, .P jb 0), (1, .slice ax r.length cx), (7, .slice l (frameF r).length p), (56, .string (sN nm (g + 1))), (58, .P jb 5)] ?_
     refine qW 9 jb 5 (sq 10 10) (.string (sN nm (g + 1))) ((jb, .cells #[.P db 0, .string nm, .slice ab B.length cb, .slice ar R.length cr, .I ((g : Int) + 1), .string (sN nm (g + 1)), .slice as_ σ.length cs, .bool sy] 41 (0, 0)) :: (diskM db D0 sa0 sk0)) H 0 rfl rfl ?_
     intro X H
     refine uF 0 ?_
     have H : Hp w S O ((jb, .cells #[.P db 0, .string nm, .slice ab B.length cb, .slice ar R.length cr, .I ((gO g cur : Nat) : Int), .string (sN nm (gO g cur)), .slice as_ σ.length cs, .bool sy] 41 (0, 0)) :: (diskM db D0 sa0 sk0)) [⟨Sb, 5, .slice l (frameF r).length p, (frameF r)⟩, ⟨stepS, 143, .slice sa0 D0.steps.length sk0, D0.steps⟩, ⟨SB, 23, .slice ar R.length cr, R⟩] [Rp SB [.slice ab B.length cb] B, Rp SB [.slice as_ σ.length cs] σ, Fz jQ, Rp SB [.slice ax r.length cx] r] X := by rw [hcur]; exact H
     exact uB (G (0) _ ⟨H, trivial⟩)
    ·
     obtain ⟨c, hcur⟩ : ∃ c, cur = some c := by
      cases hc : cur with
      | none => exact absurd (by rw [hseg, hc]; rfl) x
      | some c => exact ⟨c, rfl⟩
     refine uR 1 [.c [6]] ?_
     have H : Hp w S O ((jb, .cells #[.P db 0, .string nm, .slice ab B.length cb, .slice ar R.length cr, .I ((gO g cur : Nat) : Int), .string (sN nm (gO g cur)), .slice as_ σ.length cs, .bool sy] 41 (0, 0)) :: (diskM db D0 sa0 sk0)) [⟨Sb, 5, .slice l (frameF r).length p, (frameF r)⟩, ⟨stepS, 143, .slice sa0 D0.steps.length sk0, D0.steps⟩, ⟨SB, 23, .slice ar R.length cr, R⟩] [Rp SB [.slice ab B.length cb] B, Rp SB [.slice as_ σ.length cs] σ, Fz jQ, Rp SB [.slice ax r.length cx] r] w5 := by rw [hcur]; rw [hseg, hcur] at H; exact H
     exact uB (G (0) _ ⟨H, trivial⟩)
   ·
    rintro W _ ⟨H, -⟩
    refine uR 1 [.c [6, 0], .c [7]] ?_
    refine qG (sq 0 6) ?_
    refine uP 3 ?_
    refine uV 23 6 (H.cells 0 rfl) ?_
    refine uF 2 ?_
    refine uR 1 [.c [7, 0], .c [8]] ?_
    refine qG (sq 0 10) ?_
    refine uP 3 ?_
    refine uV 23 6 (H.cells 0 rfl) ?_
    refine qP 2 (sq 6 10) [(0, .P jb 0), (1, .slice ax r.length cx), (7, .slice l (frameF r).length p), (9, .I ((σ.length : Nat) : Int)), (67, .slice as_ σ.length cs), (68, .I ((σ.length : Nat) : Int)), (69, .I ((σ.length : Nat) : Int))] ?_
    refine RW.clip (κ := .seq) (d := some 70) (r := (sq 7 10)) (T := 23) (e := 5) (sh := Sb) (a := as_) (len := σ.length) (cap := cs) (k1 := .i64) (t1 := ((σ.length : Nat) : Int)) (k2 := .i64) (t2 := ((σ.length : Nat) : Int)) (by as_aux_lemma => kernel_rfl) (by as_aux_lemma => kernel_rfl) H 1 rfl (by omega) (by omega) ?_
    intro H
    refine uP 1 ?_
    have H : Hp w S O _ [_, _] [Rp SB [.slice l (frameF r).length p] (frameF r), Rp SB [.slice as_ σ.length σ.length] σ, _, _, _, _] _ := H.freezeW 0 rfl
    refine RW.appendC (κ := .seq) (d := some 72) (r := (sq 9 10)) (T := 23) (ty := 23) (e := 5) (m := 1) (by_ := 1) (a1 := as_) (l1 := σ.length) (a2 := l) (l2 := (frameF r).length) (c2 := p) (zs := (σ ++ (frameF r))) (by as_aux_lemma => kernel_rfl) (nofun) (by as_aux_lemma => kernel_rfl) rfl H 1 rfl 0 rfl (by rw [frame_len]; omega) (rfl) (by rw [k]; omega) ?_
    intro s t _ H
    refine uF 1 ?_
    refine uR 2 [.c [8, 0, 0], .c [8, 0, 1], .c [9]] ?_
    refine qG (sq 0 9) ?_
    refine uP 4 ?_
    refine uV 9 5 (H.cells 0 rfl) ?_
    refine uP 2 ?_
    have H := H.perms (M' := ((jb, .cells #[.P db 0, .string nm, .slice ab B.length cb, .slice ar R.length cr, .I ((gO g cur : Nat) : Int), .string (sN nm (gO g cur)), .slice as_ σ.length cs, .bool sy] 41 (0, 0)) :: diskM db D0 sa0 sk0) ++ []) (W' := [⟨stepS, 143, .slice sa0 D0.steps.length sk0, D0.steps⟩, ⟨SB, 23, .slice ar R.length cr, R⟩]) ((List.perm_append_comm (l₁ := diskM db D0 sa0 sk0) (l₂ := ([] : Heap))).cons _) (List.Perm.refl _)
    refine uKS (jwrite_spec (τ := (σ ++ (frameF r))) (fr := σ.length) F Q rfl (by rw [k]; omega) (by rw [k]; omega) U ((H.lend (M1 := ((jb, .cells #[.P db 0, .string nm, .slice ab B.length cb, .slice ar R.length cr, .I ((gO g cur : Nat) : Int), .string (sN nm (gO g cur)), .slice as_ σ.length cs, .bool sy] 41 (0, 0)) :: diskM db D0 sa0 sk0)) (W1 := [⟨stepS, 143, .slice sa0 D0.steps.length sk0, D0.steps⟩])).pick [0] rfl)) ?_
    rintro _ _ (⟨_, M, _, rfl, i, f, h, j, H'⟩ | ⟨u, rfl, i, f, h, N, H'⟩)
    ·
     have H := H.back (M1 := ((jb, .cells #[.P db 0, .string nm, .slice ab B.length cb, .slice ar R.length cr, .I ((gO g cur : Nat) : Int), .string (sN nm (gO g cur)), .slice as_ σ.length cs, .bool sy] 41 (0, 0)) :: diskM db D0 sa0 sk0)) (W1 := [⟨stepS, 143, .slice sa0 D0.steps.length sk0, D0.steps⟩]) H'
     have H := H.perms (M' := ((jb, .cells #[.P db 0, .string nm, .slice ab B.length cb, .slice ar R.length cr, .I ((gO g cur : Nat) : Int), .string (sN nm (gO g cur)), .slice as_ σ.length cs, .bool sy] 41 (0, 0)) :: (diskM db i f h))) (W' := [⟨stepS, 143, .slice f i.steps.length h, i.steps⟩, ⟨SB, 23, .slice ar R.length cr, R⟩]) ((List.perm_append_comm (l₁ := ([] : Heap)) (l₂ := diskM db i f h)).cons _) (List.Perm.refl _)
     have H : Hp w S O _ [_, _] [Rp SB [.slice s ((σ ++ (frameF r)).length) t] (σ ++ (frameF r)), _, _, _, _, _, _] _ := H
     obtain ⟨_, Y, Z, b0⟩ := j.done (by rw [hfr]; exact M) (by rw [hfr, k]; omega)
     refine uF 1 ?_
     refine uR 5 [.c [9, 0], .c [10]] ?_
     refine qG (sq 0 9) ?_
     refine uP 5 ?_
     refine qW 23 jb 6 (sq 6 9) (.slice s ((σ ++ (frameF r)).length) t) ((jb, .cells #[.P db 0, .string nm, .slice ab B.length cb, .slice ar R.length cr, .I ((gO g cur : Nat) : Int), .string (sN nm (gO g cur)), .slice s ((σ ++ (frameF r)).length) t, .bool sy] 41 (0, 0)) :: (diskM db i f h)) H 0 rfl rfl ?_
     intro _ H
     refine uP 2 ?_
     refine qW 4 jb 7 (sq 9 9) (.bool false) ((jb, .cells #[.P db 0, .string nm, .slice ab B.length cb, .slice ar R.length cr, .I ((gO g cur : Nat) : Int), .string (sN nm (gO g cur)), .slice s ((σ ++ (frameF r)).length) t, .bool false] 41 (0, 0)) :: (diskM db i f h)) H 0 rfl rfl ?_
     intro J H
     refine uF 0 ?_
     refine qR 1 [.c [10, 0], .c [11]] [(0, .P jb 0), (1, .slice ax r.length cx)] ?_
     refine WK.drawP1 8 [0, 1, 2, 3, 5] [(97, .slice ax r.length cx), (95, .P jb 3), (94, .P jb 0), (93, .P jb 0), (92, .P jb 0), (0, .P jb 0), (1, .slice ax r.length cx)] [(4, .qui), (6, .chn), (7, .chn)] [(4, .qui), (6, .chn), (7, .chn), (8, .seq), (9, .seq), (10, .seq), (11, .seq)] Tryz_mixed (by as_aux_lemma => kernel_rfl) (by as_aux_lemma => kernel_rfl) (by as_aux_lemma => kernel_rfl) (by as_aux_lemma => kernel_rfl) ?_
     have H := H.draw
     generalize ({ J with drawn := J.drawn + 1 } : World) = d0 at H ⊢
     refine uV 22 3 (H.cells 0 rfl) ?_
     refine RW.appendN (κ := .chn) (d := some 98) (r := [(7, .chn), (8, .seq), (9, .seq), (10, .seq), (11, .seq)]) (T := 23) (ty := 23) (e := 5) (m := 1) (by_ := 1) (a0 := none) (a2 := ax) (l2 := r.length) (c2 := cx) (by as_aux_lemma => kernel_rfl) (nofun) (.inl rfl) (by as_aux_lemma => kernel_rfl) rfl H 6 rfl (by omega) ?_
     intro y z _ H
     refine RW.new (κ := .chn) (d := some 99) (r := [(8, .seq), (9, .seq), (10, .seq), (11, .seq)]) (o := .cells #[.slice y r.length z] 23 (0, 0)) (v := fun b => .slice (some ⟨b, 0, none⟩) 1 1) (fun b => by as_aux_lemma => kernel_rfl) (nofun) H ?_
     intro c0 _ H
     have H := H.freeze 0 rfl SB ([r] : List (List (BitVec 8))) 1 (by simp [maxLen]) (by first | exact Nat.le_refl _ | simp) (EsP.cons (c := [.slice y r.length z]) (H.rp 0 rfl) EsP.nil)
     have H : Hp w S O _ [_, _] [Rp (Shape.slice SB) [.slice (some ⟨c0, 0, none⟩) 1 1] ([r] : List (List (BitVec 8))), Rp SB [.slice y r.length z] r, _, _, _, _, _, _, _] _ := H
     refine uA 22 22 24 (R ++ ([r] : List (List (BitVec 8)))) H 1 rfl 0 rfl (rfl) (by rw [List.length_append]; simp only [List.length_cons, List.length_nil]; omega) ?_
     intro A C _ H _
     have H : Hp w S O _ [_, ⟨SB, 23, .slice A ((R ++ ([r] : List (List (BitVec 8)))).length) C, R ++ ([r] : List (List (BitVec 8)))⟩] [_, _, _, _, _, _, _, _, _] _ := H
     refine uP 2 ?_
     refine qW 22 jb 3 [] (.slice A ((R ++ ([r] : List (List (BitVec 8)))).length) C) ((jb, .cells #[.P db 0, .string nm, .slice ab B.length cb, .slice A ((R ++ ([r] : List (List (BitVec 8)))).length) C, .I ((gO g cur : Nat) : Int), .string (sN nm (gO g cur)), .slice s ((σ ++ (frameF r)).length) t, .bool false] 41 (0, 0)) :: (diskM db i f h)) H 0 rfl rfl ?_
     intro _ H
     refine uF 0 ?_
     refine uR 2 [.c [12]] ?_
     refine qT (.I 0) Tryz.func16 ?_
     have H := H.pick [5, 2] rfl
     have H := H.frontW 1 rfl
     have hJL := JL.app hVq Y Z b0
     rw [hB, D, hR, hfr] at hJL
     exact ⟨_, rfl, .inl ⟨rfl, _, _, _, _, _, _, i, f, h, hJL, gO_le g cur, (j).di, (j).al.mono (by omega), (j).stp, (j).cp, (j).dry, H⟩⟩
    ·
     have H := H.back (M1 := ((jb, .cells #[.P db 0, .string nm, .slice ab B.length cb, .slice ar R.length cr, .I ((gO g cur : Nat) : Int), .string (sN nm (gO g cur)), .slice as_ σ.length cs, .bool sy] 41 (0, 0)) :: diskM db D0 sa0 sk0)) (W1 := [⟨stepS, 143, .slice sa0 D0.steps.length sk0, D0.steps⟩]) H'
     have H := H.perms (M' := ((u, .cells #[.I 70] 204 (0, 0)) :: (jb, .cells #[.P db 0, .string nm, .slice ab B.length cb, .slice ar R.length cr, .I ((gO g cur : Nat) : Int), .string (sN nm (gO g cur)), .slice as_ σ.length cs, .bool sy] 41 (0, 0)) :: (diskM db i f h))) (W' := [⟨stepS, 143, .slice f i.steps.length h, i.steps⟩, ⟨SB, 23, .slice ar R.length cr, R⟩]) (((List.perm_append_comm (l₁ := ([] : Heap)) (l₂ := diskM db i f h)).cons _).cons _) (List.Perm.refl _)
     have H : Hp w S O _ [_, _] [_, _, _, _, _, _, _] _ := H
     refine uF 1 ?_
     refine uR 4 [.c [8, 0, 2, 0, 0], .c [8, 0, 2, 0, 1], .c [9]] ?_
     refine qG (sq 0 3) ?_
     refine uP 1 ?_
     refine uKS (jnumber_spec ((H.lend (M1 := [(u, .cells #[.I 70] 204 (0, 0))]) (W1 := [])).pick [5] rfl)) ?_
     rintro _ _ ⟨rfl, H'⟩
     have H := H.back (M1 := [(u, .cells #[.I 70] 204 (0, 0))]) (W1 := []) H'
     have H : Hp w S O _ [_, _] [_, _, _, _, _, _, _] _ := H
     refine uF 1 ?_
     refine qT (.I 70) Tryz.func16 ?_
     have H := H.pick [3] rfl
     have H := H.frontW 1 rfl
     have H := H.drop (M' := ((jb, .cells #[.P db 0, .string nm, .slice ab B.length cb, .slice ar R.length cr, .I ((gO g cur : Nat) : Int), .string (sN nm (gO g cur)), .slice as_ σ.length cs, .bool sy] 41 (0, 0)) :: (diskM db i f h))) (W' := [⟨SB, 23, .slice ar R.length cr, R⟩, ⟨stepS, 143, .slice f i.steps.length h, i.steps⟩]) (by repeat (first | exact List.Sublist.refl _ | exact List.nil_sublist _ | apply List.Sublist.cons_cons | apply List.Sublist.cons)) (by repeat (first | exact List.Sublist.refl _ | exact List.nil_sublist _ | apply List.Sublist.cons_cons | apply List.Sublist.cons))
     exact ⟨_, rfl, .inr ⟨_, _, _, _, i, f, h, rfl, (N).mono (gO_le g cur) fun _ _ _ h9 => by rw [← hB, ← D, ← hR, List.append_assoc]; exact h9, H⟩⟩
end Go.Proofs.YtdnibpclkhenmaaGreatDoor
