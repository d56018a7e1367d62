import Derived.Test.YtdnibpclkhenmaaGreatDoorSBxA
import Derived.Test.YtdnibpclkhenmaaGreatDoorSJD
namespace Go.Proofs.YtdnibpclkhenmaaGreatDoor
open Go.BX
set_option maxHeartbeats 2000000 in
theorem turned_spec {S : Nat → Prop} {w : World} {O : List Nat} {jb db : Nat} {nm : ByteArray} {x2 x3 x4 x5 x6 x7 : Value} {D0 : DiskD} {sa0 : Option Addr} {sk0 : Nat} {V : VV} {cur : Option Sg} {g n : Nat} {b : List (BitVec 8)} {ax : Option Addr} {cx : Nat} (hp : PlainB nm) (hd : DI D0) (ha : Al D0 (n + 250000)) (hL : LJ D0 nm V cur g) (hg : g < 1000000) (hb : b.length ≤ 3000000) (hroom : D0.now.length < 256) (H0 : Hp w S O ((jb, .cells #[.P db 0, .string nm, x2, x3, x4, x5, x6, x7] 41 (0, 0)) :: diskM db D0 sa0 sk0) [⟨stepS, 143, .slice sa0 D0.steps.length sk0, D0.steps⟩] [Rp SB [.slice ax b.length cx] b, Fz jQ] w) :
 Calls Tryz.prog 55 #[.P jb 0, .slice ax b.length cx, .I ((g : Int) + 1)] w (Ret fun v w' => (v = .nilIface ∧ ∃ (D' : DiskD) (sa' : Option Addr) (sk' : Nat), (∃ p, LV D' nm ⟨g + 1, p, b, []⟩ none (g + 1)) ∧ DI D' ∧ Al D' (n + 1000) ∧ Stp nm D0 D' ∧ Cp 1 D0 D' ∧ Hp w S O ((jb, .cells #[.P db 0, .string nm, x2, x3, x4, x5, x6, x7] 41 (0, 0)) :: diskM db D' sa' sk') [diskW D' sa' sk'] [] w') ∨ (∃ eb : Nat, v = .iface 200 (.P eb 0) ∧ ∃ (D' : DiskD) (sa' : Option Addr) (sk' : Nat), Dd D0 D' nm (g + 1) (fun B lo hi => (PJ V cur B lo hi ∨ (B = b ∧ hi = []))) ∧ Hp w S O ((eb, .cells #[.I 70] 204 (0, 0)) :: (jb, .cells #[.P db 0, .string nm, x2, x3, x4, x5, x6, x7] 41 (0, 0)) :: diskM db D' sa' sk') [diskW D' sa' sk'] [] w')) := by
 have L := (FForm.temp hp).size.1
 have a0 := (fform_c hp (Nat.succ_pos g) hg).size.1
 have M := hL.noT hp
 have n0 : nm.size ≤ 16 := hp.1
 have o0 : ({ data := #[46, 116] } : ByteArray).size = 2 := rfl
 rw [← nm_now hd.ok] at M
 have b0 := tpP (n := n + 1001) hp hL hb hroom
 have c0 := TpS.start (n := n + 1001) (b := b) hd (ha.mono (by omega)) hL
 refine uS1 Tryz.func55 ?_
 have H := H0
 refine uR 3 [.c [1, 0], .c [2]] ?_
 refine WK.drawH1 [] (.leaf [(0, .qui), (1, .qui), (2, .qui), (3, .qui), (4, .qui), (5, .qui), (6, .qui), (7, .seq), (8, .qui), (9, .qui)]) Tryz_mixed (by as_aux_lemma => kernel_rfl) (by as_aux_lemma => kernel_rfl) ?_
 intro w1 N
 have H := H.draw
 rw [← N] at H
 clear N
 have hS := Chg.refl w1 []
 refine RG.leaf' [(0, .qui), (1, .qui), (2, .qui), (3, .qui), (4, .qui), (5, .qui), (6, .qui), (7, .seq), (8, .qui), (9, .qui)] (by as_aux_lemma => kernel_rfl) ?_
 refine uHP hS 3 ?_
 refine uHV 9 1 hS (H.cells 0 rfl) nq0 ?_
 refine RH.readS (d := some 21) (r := [(5, .qui), (6, .qui), (7, .seq), (8, .qui), (9, .qui)]) (s := semV (Op.stringOp .add nm (⟨#[46, 116]⟩ : ByteArray))) (v := .string (nm ++ (⟨#[46, 116]⟩ : ByteArray))) (by as_aux_lemma => kernel_rfl) hS (fun w' _ => semV_run (run_string_add_sum w' _ _ (by omega))) ?_
 refine uHP hS 2 ?_
 have Hr := H
 refine RH.chn hS ?_
 have d0 := H.viewF 1 rfl
 refine uK (jfile_spec (S := fun _ => True) (kd := kC) (n := g + 1) (H.viewM 0 rfl (by simp)) d0 (by omega) hp (.inr rfl)) ?_
 rintro _ _ e0 rfl
 have H := H.ext e0
 intro hS
 refine uHF hS 2 ?_
 refine uR 1 [.c [2, 0], .c [3]] ?_
 refine qG (sq 0 7) ?_
 refine uP 1 ?_
 refine uK (frame_spec (xs := b) (H.rp 0 rfl) (by omega)) ?_
 rintro _ _ - ⟨G, J, rfl, H'⟩
 have H := H.back (M1 := []) (W1 := []) H'
 have H : Hp w S O ((jb, .cells #[.P db 0, .string nm, x2, x3, x4, x5, x6, x7] 41 (0, 0)) :: (diskM db D0 sa0 sk0)) [⟨Sb, 5, .slice G (frameF b).length J, (frameF b)⟩, _] [_, _] _ := H
 refine uF 5 ?_
 refine uR 2 [.c [3, 0, 0], .c [3, 0, 1], .c [4]] ?_
 refine qG (sq 0 11) ?_
 refine uP 3 ?_
 refine uV 24 0 (H.cells 0 rfl) ?_
 refine uP 1 ?_
 have H := H.frontW 1 rfl
 have H := H.perms (M' := diskM db D0 sa0 sk0 ++ [(jb, .cells #[.P db 0, .string nm, x2, x3, x4, x5, x6, x7] 41 (0, 0))]) (W' := [⟨stepS, 143, .slice sa0 D0.steps.length sk0, D0.steps⟩, ⟨Sb, 5, .slice G (frameF b).length J, (frameF b)⟩]) (List.perm_append_comm (l₁ := diskM db D0 sa0 sk0) (l₂ := ([(jb, .cells #[.P db 0, .string nm, x2, x3, x4, x5, x6, x7] 41 (0, 0))] : Heap))) (List.Perm.refl _)
 refine uKS ((dSizeNo hd.ok ha.dead M) ((H.lend (M1 := diskM db D0 sa0 sk0) (W1 := [⟨stepS, 143, .slice sa0 D0.steps.length sk0, D0.steps⟩])).pick [] rfl)) ?_
 rintro _ _ ⟨rfl, H'⟩
 have H := H.back (M1 := diskM db D0 sa0 sk0) (W1 := [⟨stepS, 143, .slice sa0 D0.steps.length sk0, D0.steps⟩]) H'
 have H := H.perms (M' := ((jb, .cells #[.P db 0, .string nm, x2, x3, x4, x5, x6, x7] 41 (0, 0)) :: (diskM db D0 sa0 sk0))) (W' := [⟨stepS, 143, .slice sa0 D0.steps.length sk0, D0.steps⟩, ⟨Sb, 5, .slice G (frameF b).length J, (frameF b)⟩]) ((List.perm_append_comm (l₁ := diskM db D0 sa0 sk0) (l₂ := ([(jb, .cells #[.P db 0, .string nm, x2, x3, x4, x5, x6, x7] 41 (0, 0))] : Heap))).symm) (List.Perm.refl _)
 have H : Hp w S O _ [_, _] [_, _] _ := H
 refine qF 5 [(0, .P jb 0), (7, .string (nm ++ (⟨#[46, 116]⟩ : ByteArray))), (8, .string (cN nm (g + 1))), (9, .slice G (frameF b).length J), (12, .I 71)] ?_
 refine uR 6 [.c [4, 0, 0], .c [4, 0, 1], .c [5]] ?_
 refine qG (sq 0 5) ?_
 refine uP 3 ?_
 have H : Hp w S O _ [_] [Rp SB [.slice G (frameF b).length J] (frameF b), _, _] _ := H.freezeW 1 rfl
 have H := H.perms (M' := ((jb, .cells #[.P db 0, .string nm, x2, x3, x4, x5, x6, x7] 41 (0, 0)) :: diskM db D0 sa0 sk0) ++ []) (W' := [⟨stepS, 143, .slice sa0 D0.steps.length sk0, D0.steps⟩]) ((List.perm_append_comm (l₁ := diskM db D0 sa0 sk0) (l₂ := ([] : Heap))).cons _) (List.Perm.refl _)
 refine uKS (jwrite_spec (τ := (frameF b)) (fr := 0) b0 c0 rfl (Nat.zero_le _) (by rw [frame_len]; omega) L ((H.lend (M1 := ((jb, .cells #[.P db 0, .string nm, x2, x3, x4, x5, x6, x7] 41 (0, 0)) :: diskM db D0 sa0 sk0)) (W1 := [⟨stepS, 143, .slice sa0 D0.steps.length sk0, D0.steps⟩])).pick [0] rfl)) ?_
 rintro _ _ (⟨_, Q, _, rfl, a, h, i, R, H'⟩ | ⟨y, rfl, a, h, i, T, H'⟩)
 ·
  have H := H.back (M1 := ((jb, .cells #[.P db 0, .string nm, x2, x3, x4, x5, x6, x7] 41 (0, 0)) :: diskM db D0 sa0 sk0)) (W1 := [⟨stepS, 143, .slice sa0 D0.steps.length sk0, D0.steps⟩]) H'
  have H := H.perms (M' := ((jb, .cells #[.P db 0, .string nm, x2, x3, x4, x5, x6, x7] 41 (0, 0)) :: (diskM db a h i))) (W' := [⟨stepS, 143, .slice h a.steps.length i, a.steps⟩]) ((List.perm_append_comm (l₁ := ([] : Heap)) (l₂ := diskM db a h i)).cons _) (List.Perm.refl _)
  have H : Hp w S O _ [_] [_, _, _] _ := H
  have hTd := TpS.done R Q hb (by omega)
  refine uF 1 ?_
  refine uR 6 [.c [5, 0, 0], .c [5, 0, 1], .c [6]] ?_
  refine qG (sq 0 7) ?_
  refine uP 3 ?_
  refine uV 24 0 (H.cells 0 rfl) ?_
  refine uP 1 ?_
  have H := H.perms (M' := diskM db a h i ++ [(jb, .cells #[.P db 0, .string nm, x2, x3, x4, x5, x6, x7] 41 (0, 0))]) (W' := [⟨stepS, 143, .slice h a.steps.length i, a.steps⟩]) (List.perm_append_comm (l₁ := diskM db a h i) (l₂ := ([(jb, .cells #[.P db 0, .string nm, x2, x3, x4, x5, x6, x7] 41 (0, 0))] : Heap))) (List.Perm.refl _)
  refine RW.callS (d := some 63) (r := (sq 6 7)) (g := 60) (args := #[.P db 0, .string (nm ++ (⟨#[46, 116]⟩ : ByteArray))]) (by as_aux_lemma => kernel_rfl) (dSync (hTd.al.rdy hTd.di).di.ok (hTd.al.rdy hTd.di).st (hTd.al.rdy hTd.di).dead (hTd.al.rdy hTd.di).hl ((H.lend (M1 := diskM db a h i) (W1 := [⟨stepS, 143, .slice h a.steps.length i, a.steps⟩])).pick [] rfl)) ?_
  rintro _ _ ⟨e, j, k, ⟨f0, rfl, z⟩, H'⟩
  have H := H.back (M1 := diskM db a h i) (W1 := [⟨stepS, 143, .slice h a.steps.length i, a.steps⟩]) H'
  have H := H.perms (M' := ((jb, .cells #[.P db 0, .string nm, x2, x3, x4, x5, x6, x7] 41 (0, 0)) :: (diskM db e j k))) (W' := [⟨stepS, 143, .slice j e.steps.length k, e.steps⟩]) ((List.perm_append_comm (l₁ := diskM db e j k) (l₂ := ([(jb, .cells #[.P db 0, .string nm, x2, x3, x4, x5, x6, x7] 41 (0, 0))] : Heap))).symm) (List.Perm.refl _)
  have H : Hp w S O _ [_] [_, _, _] _ := H
  have z : SyncR a (nm ++ (⟨#[46, 116]⟩ : ByteArray)) f0 e := z
  rcases hTd.sync hp z with ⟨rfl, U⟩ | ⟨rfl, o⟩
  ·
   refine uF 1 ?_
   refine uR 4 [.c [5, 0, 2, 0, 0], .c [5, 0, 2, 0, 1], .c [6]] ?_
   refine qG (sq 0 3) ?_
   refine uP 1 ?_
   refine uK (told_spec (S := Av S w O (idsOf ((jb, .cells #[.P db 0, .string nm, x2, x3, x4, x5, x6, x7] 41 (0, 0)) :: (diskM db e j k)) [⟨stepS, 143, .slice j e.steps.length k, e.steps⟩]))) ?_
   rintro _ _ - ⟨A, rfl, H'⟩
   have H := H.back (M1 := []) (W1 := []) H'
   have H : Hp w S O ((A, .cells #[.I 70] 204 (0, 0)) :: (jb, .cells #[.P db 0, .string nm, x2, x3, x4, x5, x6, x7] 41 (0, 0)) :: (diskM db e j k)) [_] [_, _, _] _ := H
   refine uF 1 ?_
   refine qT (.iface 200 (.P A 0)) Tryz.func55 ?_
   have H := H.pick [] rfl
   exact ⟨_, rfl, .inr ⟨A, rfl, e, j, k, (U).mono (Nat.le_succ g) fun _ _ _ K => .inl K, H⟩⟩
  ·
   refine uF 1 ?_
   refine uR 6 [.c [6, 0, 0], .c [6, 0, 1], .c [7]] ?_
   refine qG (sq 0 8) ?_
   refine uP 3 ?_
   refine uV 24 0 (H.cells 0 rfl) ?_
   refine uP 2 ?_
   have H := H.perms (M' := diskM db e j k ++ [(jb, .cells #[.P db 0, .string nm, x2, x3, x4, x5, x6, x7] 41 (0, 0))]) (W' := [⟨stepS, 143, .slice j e.steps.length k, e.steps⟩]) (List.perm_append_comm (l₁ := diskM db e j k) (l₂ := ([(jb, .cells #[.P db 0, .string nm, x2, x3, x4, x5, x6, x7] 41 (0, 0))] : Heap))) (List.Perm.refl _)
   refine uKS (dRename (o.al.rdy o.di).di.ok (o.al.rdy o.di).st (o.al.rdy o.di).dead (by unfold maxLen; exact Nat.le_trans L (by decide)) (by unfold maxLen; exact Nat.le_trans a0 (by decide)) (o.al.rdy o.di).hl ((H.lend (M1 := diskM db e j k) (W1 := [⟨stepS, 143, .slice j e.steps.length k, e.steps⟩])).pick [] rfl)) ?_
   rintro _ _ ⟨f, l, m, ⟨g0, rfl, C⟩, H'⟩
   have H := H.back (M1 := diskM db e j k) (W1 := [⟨stepS, 143, .slice j e.steps.length k, e.steps⟩]) H'
   have H := H.perms (M' := ((jb, .cells #[.P db 0, .string nm, x2, x3, x4, x5, x6, x7] 41 (0, 0)) :: (diskM db f l m))) (W' := [⟨stepS, 143, .slice l f.steps.length m, f.steps⟩]) ((List.perm_append_comm (l₁ := diskM db f l m) (l₂ := ([(jb, .cells #[.P db 0, .string nm, x2, x3, x4, x5, x6, x7] 41 (0, 0))] : Heap))).symm) (List.Perm.refl _)
   have H : Hp w S O _ [_] [_, _, _] _ := H
   have C : RenameR e (nm ++ (⟨#[46, 116]⟩ : ByteArray)) (cN nm (g + 1)) g0 f := C
   rcases TpD.rn hp hg hb o C with ⟨rfl, W⟩ | ⟨rfl, q⟩
   ·
    refine uF 1 ?_
    refine uR 4 [.c [6, 0, 2, 0, 0], .c [6, 0, 2, 0, 1], .c [7]] ?_
    refine qG (sq 0 3) ?_
    refine qP 1 (sq 1 3) [(77, .I 70)] ?_
    refine uK (told_spec (S := Av S w O (idsOf ((jb, .cells #[.P db 0, .string nm, x2, x3, x4, x5, x6, x7] 41 (0, 0)) :: (diskM db f l m)) [⟨stepS, 143, .slice l f.steps.length m, f.steps⟩]))) ?_
    rintro _ _ - ⟨D, rfl, H'⟩
    have H := H.back (M1 := []) (W1 := []) H'
    have H : Hp w S O ((D, .cells #[.I 70] 204 (0, 0)) :: (jb, .cells #[.P db 0, .string nm, x2, x3, x4, x5, x6, x7] 41 (0, 0)) :: (diskM db f l m)) [_] [_, _, _] _ := H
    refine uF 1 ?_
    refine qT (.iface 200 (.P D 0)) Tryz.func55 ?_
    have H := H.pick [] rfl
    exact ⟨_, rfl, .inr ⟨D, rfl, f, l, m, (W).mono (Nat.le_succ g) fun _ _ _ K => .inl K, H⟩⟩
   ·
    refine uF 1 ?_
    refine uR 5 [.c [7, 0], .c [8]] ?_
    refine qG (sq 0 8) ?_
    refine uP 3 ?_
    refine uV 24 0 (H.cells 0 rfl) ?_
    refine uP 1 ?_
    have H := H.perms (M' := diskM db f l m ++ [(jb, .cells #[.P db 0, .string nm, x2, x3, x4, x5, x6, x7] 41 (0, 0))]) (W' := [⟨stepS, 143, .slice l f.steps.length m, f.steps⟩]) (List.perm_append_comm (l₁ := diskM db f l m) (l₂ := ([(jb, .cells #[.P db 0, .string nm, x2, x3, x4, x5, x6, x7] 41 (0, 0))] : Heap))) (List.Perm.refl _)
    refine RW.callS (d := some 84) (r := (sq 6 8)) (g := 60) (args := #[.P db 0, .string (cN nm (g + 1))]) (by as_aux_lemma => kernel_rfl) (dSync (q.al.rdy q.di).di.ok (q.al.rdy q.di).st (q.al.rdy q.di).dead (q.al.rdy q.di).hl ((H.lend (M1 := diskM db f l m) (W1 := [⟨stepS, 143, .slice l f.steps.length m, f.steps⟩])).pick [] rfl)) ?_
    rintro _ _ ⟨t, u, x, ⟨h0, rfl, E⟩, H'⟩
    have H := H.back (M1 := diskM db f l m) (W1 := [⟨stepS, 143, .slice l f.steps.length m, f.steps⟩]) H'
    have H := H.perms (M' := ((jb, .cells #[.P db 0, .string nm, x2, x3, x4, x5, x6, x7] 41 (0, 0)) :: (diskM db t u x))) (W' := [⟨stepS, 143, .slice u t.steps.length x, t.steps⟩]) ((List.perm_append_comm (l₁ := diskM db t u x) (l₂ := ([(jb, .cells #[.P db 0, .string nm, x2, x3, x4, x5, x6, x7] 41 (0, 0))] : Heap))).symm) (List.Perm.refl _)
    have H : Hp w S O _ [_] [_, _, _] _ := H
    have E : SyncR f (cN nm (g + 1)) h0 t := E
    rcases CkS.sync q E with ⟨rfl, X⟩ | ⟨rfl, Y⟩
    ·
     refine uK (told_spec (S := Av S w O (idsOf ((jb, .cells #[.P db 0, .string nm, x2, x3, x4, x5, x6, x7] 41 (0, 0)) :: (diskM db t u x)) [⟨stepS, 143, .slice u t.steps.length x, t.steps⟩]))) ?_
     rintro _ _ - ⟨F, rfl, H'⟩
     have H := H.back (M1 := []) (W1 := []) H'
     have H : Hp w S O ((F, .cells #[.I 70] 204 (0, 0)) :: (jb, .cells #[.P db 0, .string nm, x2, x3, x4, x5, x6, x7] 41 (0, 0)) :: (diskM db t u x)) [_] [_, _, _] _ := H
     refine uF 1 ?_
     refine qT (.iface 200 (.P F 0)) Tryz.func55 ?_
     have H := H.pick [] rfl
     exact ⟨_, rfl, .inr ⟨F, rfl, t, u, x, X, H⟩⟩
    ·
     refine uK (told_zero (S := fun _ => True)) ?_
     rintro _ _ Z rfl
     have H := H.ext Z
     refine uF 1 ?_
     refine qT .nilIface Tryz.func55 ?_
     have H := H.pick [] rfl
     obtain ⟨i0, j0, k0, l0, m0⟩ := Y
     exact ⟨_, rfl, .inl ⟨rfl, t, u, x, m0, i0, j0, k0, l0, H⟩⟩
 ·
  have H := H.back (M1 := ((jb, .cells #[.P db 0, .string nm, x2, x3, x4, x5, x6, x7] 41 (0, 0)) :: diskM db D0 sa0 sk0)) (W1 := [⟨stepS, 143, .slice sa0 D0.steps.length sk0, D0.steps⟩]) H'
  have H := H.perms (M' := ((y, .cells #[.I 70] 204 (0, 0)) :: (jb, .cells #[.P db 0, .string nm, x2, x3, x4, x5, x6, x7] 41 (0, 0)) :: (diskM db a h i))) (W' := [⟨stepS, 143, .slice h a.steps.length i, a.steps⟩]) (((List.perm_append_comm (l₁ := ([] : Heap)) (l₂ := diskM db a h i)).cons _).cons _) (List.Perm.refl _)
  have H : Hp w S O _ [_] [_, _, _] _ := H
  refine uF 1 ?_
  refine uR 5 [.c [4, 0, 2, 0, 1], .c [5]] ?_
  refine qT (.iface 200 (.P y 0)) Tryz.func55 ?_
  have H := H.pick [] rfl
  exact ⟨_, rfl, .inr ⟨y, rfl, a, h, i, (T).mono (Nat.le_succ g) fun _ _ _ K => .inl K, H⟩⟩
end Go.Proofs.YtdnibpclkhenmaaGreatDoor
