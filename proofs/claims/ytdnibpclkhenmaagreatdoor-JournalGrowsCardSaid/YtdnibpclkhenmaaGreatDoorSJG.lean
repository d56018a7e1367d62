import Derived.Test.YtdnibpclkhenmaaGreatDoorSJD
import Derived.Test.YtdnibpclkhenmaaGreatDoorSBxB
namespace Go.Proofs.YtdnibpclkhenmaaGreatDoor
open Go.BX
set_option maxHeartbeats 2000000 in
theorem turned_spec {S : Nat → Prop} {w : World} {O : List Nat} {jb db : Nat} {nm : ByteArray} {x2 x3 x4 x5 x6 x7 : Value} {D0 : DiskD} {sa0 : Option Addr} {sk0 : Nat} {V : VV} {cur : Option Sg} {g n : Nat} {b : List (BitVec 8)} {ax : Option Addr} {cx : Nat} (hp : PlainB nm) (hd : DI D0) (ha : Al D0 (n + 250000)) (hL : LJ D0 nm V cur g) (hg : g < 1000000) (hb : b.length ≤ 3000000) (hroom : D0.now.length < 256) (H0 : Hp w S O ((jb, .cells #[.P db 0, .string nm, x2, x3, x4, x5, x6, x7] 41 (0, 0)) :: diskM db D0 sa0 sk0) [⟨stepS, 143, .slice sa0 D0.steps.length sk0, D0.steps⟩] [Rp SB [.slice ax b.length cx] b, Fz jQ] w) :
 Calls Tryz.prog 55 #[.P jb 0, .slice ax b.length cx, .I ((g : Int) + 1)] w (Ret fun v w' => (v = .nilIface ∧ ∃ (D' : DiskD) (sa' : Option Addr) (sk' : Nat), (∃ p, LV D' nm ⟨g + 1, p, b, []⟩ none (g + 1)) ∧ DI D' ∧ Al D' (n + 1000) ∧ Stp nm D0 D' ∧ Cp 1 D0 D' ∧ Hp w S O ((jb, .cells #[.P db 0, .string nm, x2, x3, x4, x5, x6, x7] 41 (0, 0)) :: diskM db D' sa' sk') [diskW D' sa' sk'] [] w') ∨ (∃ eb : Nat, v = .iface 200 (.P eb 0) ∧ ∃ (D' : DiskD) (sa' : Option Addr) (sk' : Nat), Dd D0 D' nm (g + 1) (fun B lo hi => (PJ V cur B lo hi ∨ (B = b ∧ hi = []))) ∧ Hp w S O ((eb, .cells #[.I 70] 204 (0, 0)) :: (jb, .cells #[.P db 0, .string nm, x2, x3, x4, x5, x6, x7] 41 (0, 0)) :: diskM db D' sa' sk') [diskW D' sa' sk'] [] w')) := by
 have hx9 := (FForm.temp hp).size.1
 have hy9 := (fform_c hp (Nat.succ_pos g) hg).size.1
 have hz9 := hL.noT hp
 have hs1 : nm.size ≤ 16 := hp.1
 have hs3 : ({ data := #[46, 116] } : ByteArray).size = 2 := rfl
 rw [← nm_now hd.ok] at hz9
 have hW9 := tpP (n := n + 1001) hp hL hb hroom
 have hS9 := TpS.start (n := n + 1001) (b := b) hd (ha.mono (by omega)) hL
 refine qS (fn := Tryz.f55) (n := 86) (σ := [(0, .P jb 0), (1, .slice ax b.length cx), (2, .I ((g : Int) + 1))]) Tryz.func55 ?_
 have H := H0
 refine qR 3 [.c [1, 0], .c [2]] [(0, .P jb 0), (1, .slice ax b.length cx), (2, .I ((g : Int) + 1))] ?_
 refine WK.drawH1 [] (.leaf [(0, .qui), (1, .qui), (2, .qui), (3, .qui), (4, .qui), (5, .qui), (6, .qui), (7, .seq), (8, .qui), (9, .qui)]) Tryz_mixed (by as_aux_lemma => kernel_rfl) (by as_aux_lemma => kernel_rfl) ?_
 intro w1 hw2
 have H := H.draw
 rw [← hw2] at H
 clear hw2
 have hS := Chg.refl w1 []
 refine RG.leaf' [(0, .qui), (1, .qui), (2, .qui), (3, .qui), (4, .qui), (5, .qui), (6, .qui), (7, .seq), (8, .qui), (9, .qui)] (by as_aux_lemma => kernel_rfl) ?_
 refine qHP hS 3 [(3, .qui), (4, .qui), (5, .qui), (6, .qui), (7, .seq), (8, .qui), (9, .qui)] [(0, .P jb 0), (1, .slice ax b.length cx), (2, .I ((g : Int) + 1)), (19, .P jb 1)] ?_
 refine RH.load (d := some 20) (r := [(4, .qui), (5, .qui), (6, .qui), (7, .seq), (8, .qui), (9, .qui)]) (T := 9) (b := jb) (o' := 1) (k := 1) (v := .string nm) (by as_aux_lemma => kernel_rfl) hS (H.cells 0 rfl) (by simp) (by simp) rfl (by as_aux_lemma => kernel_rfl) ?_
 refine RH.readS (d := some 21) (r := [(5, .qui), (6, .qui), (7, .seq), (8, .qui), (9, .qui)]) (s := semV (Op.stringOp .add nm (⟨#[46, 116]⟩ : ByteArray))) (v := .string (nm ++ (⟨#[46, 116]⟩ : ByteArray))) (by as_aux_lemma => kernel_rfl) hS (fun w' _ => semV_run (run_string_add_sum w' _ _ (by omega))) ?_
 refine qHP hS 2 [(7, .seq), (8, .qui), (9, .qui)] [(0, .P jb 0), (1, .slice ax b.length cx), (21, .string (nm ++ (⟨#[46, 116]⟩ : ByteArray))), (22, .P jb 0), (23, .I ((g : Int) + 1))] ?_
 have Hr := H
 refine RH.chn hS ?_
 have hq6 := H.viewF 1 rfl
 refine qK .chn (some 24) [] 58 #[.P jb 0, .string (⟨#[99]⟩ : ByteArray), .I ((g : Int) + 1)] (jfile_spec (S := fun _ => True) (kd := kC) (n := g + 1) (H.viewM 0 rfl (by simp)) hq6 (by omega) hp (.inr rfl)) ?_
 rintro _ w4 hE5 rfl
 have H := H.ext hE5
 intro hS
 refine RH.fin hS 2 [0, 1, 7, 8] [(0, .P jb 0), (1, .slice ax b.length cx), (7, .string (nm ++ (⟨#[46, 116]⟩ : ByteArray))), (8, .string (cN nm (g + 1)))] (by as_aux_lemma => kernel_rfl) ?_
 refine qR 1 [.c [2, 0], .c [3]] [(0, .P jb 0), (1, .slice ax b.length cx), (7, .string (nm ++ (⟨#[46, 116]⟩ : ByteArray))), (8, .string (cN nm (g + 1)))] ?_
 refine qG (sq 0 7) ?_
 refine qP 1 (sq 1 7) [(0, .P jb 0), (7, .string (nm ++ (⟨#[46, 116]⟩ : ByteArray))), (8, .string (cN nm (g + 1))), (26, .slice ax b.length cx)] ?_
 refine qK .seq (some 27) (sq 2 7) 57 #[.slice ax b.length cx] (frame_spec (xs := b) (H.rp 0 rfl) (by omega)) ?_
 rintro _ w7 - ⟨a8, c9, rfl, H'⟩
 have H := H.back (M1 := []) (W1 := []) H'
 have H : Hp w S O ((jb, .cells #[.P db 0, .string nm, x2, x3, x4, x5, x6, x7] 41 (0, 0)) :: (diskM db D0 sa0 sk0)) [⟨Sb, 5, .slice a8 (frameF b).length c9, (frameF b)⟩, ⟨stepS, 143, .slice sa0 D0.steps.length sk0, D0.steps⟩] [Rp SB [.slice ax b.length cx] b, Fz jQ] _ := H
 refine qF 5 [(0, .P jb 0), (7, .string (nm ++ (⟨#[46, 116]⟩ : ByteArray))), (8, .string (cN nm (g + 1))), (9, .slice a8 (frameF b).length c9)] ?_
 refine qR 2 [.c [3, 0, 0], .c [3, 0, 1], .c [4]] [(0, .P jb 0), (7, .string (nm ++ (⟨#[46, 116]⟩ : ByteArray))), (8, .string (cN nm (g + 1))), (9, .slice a8 (frameF b).length c9)] ?_
 refine qG (sq 0 11) ?_
 refine qP 3 (sq 3 11) [(0, .P jb 0), (7, .string (nm ++ (⟨#[46, 116]⟩ : ByteArray))), (8, .string (cN nm (g + 1))), (9, .slice a8 (frameF b).length c9), (33, .P jb 0)] ?_
 refine qL .seq 34 (sq 4 11) 24 jb 0 0 (.P db 0) (H.cells 0 rfl) ?_
 refine qP 1 (sq 5 11) [(0, .P jb 0), (7, .string (nm ++ (⟨#[46, 116]⟩ : ByteArray))), (8, .string (cN nm (g + 1))), (9, .slice a8 (frameF b).length c9), (34, .P db 0), (35, .string (nm ++ (⟨#[46, 116]⟩ : ByteArray)))] ?_
 have H := H.frontW 1 (W' := [⟨stepS, 143, .slice sa0 D0.steps.length sk0, D0.steps⟩, ⟨Sb, 5, .slice a8 (frameF b).length c9, (frameF b)⟩]) rfl
 have H := H.perms (M' := diskM db D0 sa0 sk0 ++ [(jb, .cells #[.P db 0, .string nm, x2, x3, x4, x5, x6, x7] 41 (0, 0))]) (W' := [⟨stepS, 143, .slice sa0 D0.steps.length sk0, D0.steps⟩, ⟨Sb, 5, .slice a8 (frameF b).length c9, (frameF b)⟩]) (List.perm_append_comm (l₁ := diskM db D0 sa0 sk0) (l₂ := ([(jb, .cells #[.P db 0, .string nm, x2, x3, x4, x5, x6, x7] 41 (0, 0))] : Heap))) (List.Perm.refl _)
 refine RW.callS (d := some 36) (r := (sq 6 11)) (g := 49) (args := #[.P db 0, .string (nm ++ (⟨#[46, 116]⟩ : ByteArray))]) (by as_aux_lemma => kernel_rfl) ((dSizeNo hd.ok ha.dead hz9) ((H.lend (M1 := diskM db D0 sa0 sk0) (W1 := [⟨stepS, 143, .slice sa0 D0.steps.length sk0, D0.steps⟩])).pick [] rfl)) ?_
 rintro _ w10 ⟨rfl, H'⟩
 have H := H.back (M1 := diskM db D0 sa0 sk0) (W1 := [⟨stepS, 143, .slice sa0 D0.steps.length sk0, D0.steps⟩]) H'
 have H := H.perms (M' := ((jb, .cells #[.P db 0, .string nm, x2, x3, x4, x5, x6, x7] 41 (0, 0)) :: (diskM db D0 sa0 sk0))) (W' := [⟨stepS, 143, .slice sa0 D0.steps.length sk0, D0.steps⟩, ⟨Sb, 5, .slice a8 (frameF b).length c9, (frameF b)⟩]) ((List.perm_append_comm (l₁ := diskM db D0 sa0 sk0) (l₂ := ([(jb, .cells #[.P db 0, .string nm, x2, x3, x4, x5, x6, x7] 41 (0, 0))] : Heap))).symm) (List.Perm.refl _)
 have H : Hp w S O ((jb, .cells #[.P db 0, .string nm, x2, x3, x4, x5, x6, x7] 41 (0, 0)) :: (diskM db D0 sa0 sk0)) [⟨stepS, 143, .slice sa0 D0.steps.length sk0, D0.steps⟩, ⟨Sb, 5, .slice a8 (frameF b).length c9, (frameF b)⟩] [Rp SB [.slice ax b.length cx] b, Fz jQ] _ := H
 refine qF 5 [(0, .P jb 0), (7, .string (nm ++ (⟨#[46, 116]⟩ : ByteArray))), (8, .string (cN nm (g + 1))), (9, .slice a8 (frameF b).length c9), (12, .I 71)] ?_
 refine qR 6 [.c [4, 0, 0], .c [4, 0, 1], .c [5]] [(0, .P jb 0), (7, .string (nm ++ (⟨#[46, 116]⟩ : ByteArray))), (8, .string (cN nm (g + 1))), (9, .slice a8 (frameF b).length c9)] ?_
 refine qG (sq 0 5) ?_
 refine qP 3 (sq 3 5) [(0, .P jb 0), (7, .string (nm ++ (⟨#[46, 116]⟩ : ByteArray))), (8, .string (cN nm (g + 1))), (51, .P jb 0), (52, .string (nm ++ (⟨#[46, 116]⟩ : ByteArray))), (53, .slice a8 (frameF b).length c9)] ?_
 have H : Hp w S O ((jb, .cells #[.P db 0, .string nm, x2, x3, x4, x5, x6, x7] 41 (0, 0)) :: (diskM db D0 sa0 sk0)) [⟨stepS, 143, .slice sa0 D0.steps.length sk0, D0.steps⟩] [Rp SB [.slice a8 (frameF b).length c9] (frameF b), Rp SB [.slice ax b.length cx] b, Fz jQ] _ := H.freezeW 1 rfl
 have H := H.perms (M' := ((jb, .cells #[.P db 0, .string nm, x2, x3, x4, x5, x6, x7] 41 (0, 0)) :: diskM db D0 sa0 sk0) ++ []) (W' := [⟨stepS, 143, .slice sa0 D0.steps.length sk0, D0.steps⟩]) ((List.perm_append_comm (l₁ := diskM db D0 sa0 sk0) (l₂ := ([] : Heap))).cons _) (List.Perm.refl _)
 refine RW.callS (d := some 54) (r := (sq 4 5)) (g := 59) (args := #[.P jb 0, .string (nm ++ (⟨#[46, 116]⟩ : ByteArray)), .slice a8 (frameF b).length c9, .I 0]) (by as_aux_lemma => kernel_rfl) (jwrite_spec (τ := (frameF b)) (fr := 0) hW9 hS9 rfl (Nat.zero_le _) (by rw [frame_len]; omega) hx9 ((H.lend (M1 := ((jb, .cells #[.P db 0, .string nm, x2, x3, x4, x5, x6, x7] 41 (0, 0)) :: diskM db D0 sa0 sk0)) (W1 := [⟨stepS, 143, .slice sa0 D0.steps.length sk0, D0.steps⟩])).pick [0] rfl)) ?_
 rintro _ w11 (⟨i16, hl17, hi18, rfl, D12, sa13, sk14, hP19, H'⟩ | ⟨eb15, rfl, D12, sa13, sk14, hQ20, H'⟩)
 ·
  have H := H.back (M1 := ((jb, .cells #[.P db 0, .string nm, x2, x3, x4, x5, x6, x7] 41 (0, 0)) :: diskM db D0 sa0 sk0)) (W1 := [⟨stepS, 143, .slice sa0 D0.steps.length sk0, D0.steps⟩]) H'
  have H := H.perms (M' := ((jb, .cells #[.P db 0, .string nm, x2, x3, x4, x5, x6, x7] 41 (0, 0)) :: (diskM db D12 sa13 sk14))) (W' := [⟨stepS, 143, .slice sa13 D12.steps.length sk14, D12.steps⟩]) ((List.perm_append_comm (l₁ := ([] : Heap)) (l₂ := diskM db D12 sa13 sk14)).cons _) (List.Perm.refl _)
  have H : Hp w S O ((jb, .cells #[.P db 0, .string nm, x2, x3, x4, x5, x6, x7] 41 (0, 0)) :: (diskM db D12 sa13 sk14)) [⟨stepS, 143, .slice sa13 D12.steps.length sk14, D12.steps⟩] [Rp SB [.slice a8 (frameF b).length c9] (frameF b), Rp SB [.slice ax b.length cx] b, Fz jQ] _ := H
  have hTd := TpS.done hP19 hl17 hb (by omega)
  refine qF 1 [(0, .P jb 0), (7, .string (nm ++ (⟨#[46, 116]⟩ : ByteArray))), (8, .string (cN nm (g + 1))), (14, .nilIface)] ?_
  refine qR 6 [.c [5, 0, 0], .c [5, 0, 1], .c [6]] [(0, .P jb 0), (7, .string (nm ++ (⟨#[46, 116]⟩ : ByteArray))), (8, .string (cN nm (g + 1)))] ?_
  refine qG (sq 0 7) ?_
  refine qP 3 (sq 3 7) [(0, .P jb 0), (7, .string (nm ++ (⟨#[46, 116]⟩ : ByteArray))), (8, .string (cN nm (g + 1))), (60, .P jb 0)] ?_
  refine qL .seq 61 (sq 4 7) 24 jb 0 0 (.P db 0) (H.cells 0 rfl) ?_
  refine qP 1 (sq 5 7) [(0, .P jb 0), (7, .string (nm ++ (⟨#[46, 116]⟩ : ByteArray))), (8, .string (cN nm (g + 1))), (61, .P db 0), (62, .string (nm ++ (⟨#[46, 116]⟩ : ByteArray)))] ?_
  have H := H.perms (M' := diskM db D12 sa13 sk14 ++ [(jb, .cells #[.P db 0, .string nm, x2, x3, x4, x5, x6, x7] 41 (0, 0))]) (W' := [⟨stepS, 143, .slice sa13 D12.steps.length sk14, D12.steps⟩]) (List.perm_append_comm (l₁ := diskM db D12 sa13 sk14) (l₂ := ([(jb, .cells #[.P db 0, .string nm, x2, x3, x4, x5, x6, x7] 41 (0, 0))] : Heap))) (List.Perm.refl _)
  refine RW.callS (d := some 63) (r := (sq 6 7)) (g := 60) (args := #[.P db 0, .string (nm ++ (⟨#[46, 116]⟩ : ByteArray))]) (by as_aux_lemma => kernel_rfl) (dSync (hTd.al.rdy hTd.di).di.ok (hTd.al.rdy hTd.di).st (hTd.al.rdy hTd.di).dead (hTd.al.rdy hTd.di).hl ((H.lend (M1 := diskM db D12 sa13 sk14) (W1 := [⟨stepS, 143, .slice sa13 D12.steps.length sk14, D12.steps⟩])).pick [] rfl)) ?_
  rintro _ w21 ⟨D22, sa23, sk24, ⟨e25, rfl, hR26⟩, H'⟩
  have H := H.back (M1 := diskM db D12 sa13 sk14) (W1 := [⟨stepS, 143, .slice sa13 D12.steps.length sk14, D12.steps⟩]) H'
  have H := H.perms (M' := ((jb, .cells #[.P db 0, .string nm, x2, x3, x4, x5, x6, x7] 41 (0, 0)) :: (diskM db D22 sa23 sk24))) (W' := [⟨stepS, 143, .slice sa23 D22.steps.length sk24, D22.steps⟩]) ((List.perm_append_comm (l₁ := diskM db D22 sa23 sk24) (l₂ := ([(jb, .cells #[.P db 0, .string nm, x2, x3, x4, x5, x6, x7] 41 (0, 0))] : Heap))).symm) (List.Perm.refl _)
  have H : Hp w S O ((jb, .cells #[.P db 0, .string nm, x2, x3, x4, x5, x6, x7] 41 (0, 0)) :: (diskM db D22 sa23 sk24)) [⟨stepS, 143, .slice sa23 D22.steps.length sk24, D22.steps⟩] [Rp SB [.slice a8 (frameF b).length c9] (frameF b), Rp SB [.slice ax b.length cx] b, Fz jQ] _ := H
  have hR26 : SyncR D12 (nm ++ (⟨#[46, 116]⟩ : ByteArray)) e25 D22 := hR26
  rcases hTd.sync hp hR26 with ⟨rfl, hB28⟩ | ⟨rfl, hA27⟩
  ·
   refine qF 1 [(0, .P jb 0), (7, .string (nm ++ (⟨#[46, 116]⟩ : ByteArray))), (8, .string (cN nm (g + 1))), (15, .I 70)] ?_
   refine qR 4 [.c [5, 0, 2, 0, 0], .c [5, 0, 2, 0, 1], .c [6]] [(15, .I 70)] ?_
   refine qG (sq 0 3) ?_
   refine qP 1 (sq 1 3) [(66, .I 70)] ?_
   refine qK .seq (some 67) (sq 2 3) 110 #[.I 70] (told_spec (S := Av S w O (idsOf ((jb, .cells #[.P db 0, .string nm, x2, x3, x4, x5, x6, x7] 41 (0, 0)) :: (diskM db D22 sa23 sk24)) [⟨stepS, 143, .slice sa23 D22.steps.length sk24, D22.steps⟩]))) ?_
   rintro _ w29 - ⟨eb30, rfl, H'⟩
   have H := H.back (M1 := []) (W1 := []) H'
   have H : Hp w S O ((eb30, .cells #[.I 70] 204 (0, 0)) :: (jb, .cells #[.P db 0, .string nm, x2, x3, x4, x5, x6, x7] 41 (0, 0)) :: (diskM db D22 sa23 sk24)) [⟨stepS, 143, .slice sa23 D22.steps.length sk24, D22.steps⟩] [Rp SB [.slice a8 (frameF b).length c9] (frameF b), Rp SB [.slice ax b.length cx] b, Fz jQ] _ := H
   refine qF 1 [(6, .iface 200 (.P eb30 0))] ?_
   refine qT (.iface 200 (.P eb30 0)) Tryz.func55 ?_
   have H := H.pick [] rfl
   exact ⟨_, rfl, .inr ⟨eb30, rfl, D22, sa23, sk24, (hB28).mono (Nat.le_succ g) fun _ _ _ h9 => .inl h9, H⟩⟩
  ·
   refine qF 1 [(0, .P jb 0), (7, .string (nm ++ (⟨#[46, 116]⟩ : ByteArray))), (8, .string (cN nm (g + 1))), (15, .I 0)] ?_
   refine qR 6 [.c [6, 0, 0], .c [6, 0, 1], .c [7]] [(0, .P jb 0), (7, .string (nm ++ (⟨#[46, 116]⟩ : ByteArray))), (8, .string (cN nm (g + 1)))] ?_
   refine qG (sq 0 8) ?_
   refine qP 3 (sq 3 8) [(0, .P jb 0), (7, .string (nm ++ (⟨#[46, 116]⟩ : ByteArray))), (8, .string (cN nm (g + 1))), (70, .P jb 0)] ?_
   refine qL .seq 71 (sq 4 8) 24 jb 0 0 (.P db 0) (H.cells 0 rfl) ?_
   refine qP 2 (sq 6 8) [(0, .P jb 0), (8, .string (cN nm (g + 1))), (71, .P db 0), (72, .string (nm ++ (⟨#[46, 116]⟩ : ByteArray))), (73, .string (cN nm (g + 1)))] ?_
   have H := H.perms (M' := diskM db D22 sa23 sk24 ++ [(jb, .cells #[.P db 0, .string nm, x2, x3, x4, x5, x6, x7] 41 (0, 0))]) (W' := [⟨stepS, 143, .slice sa23 D22.steps.length sk24, D22.steps⟩]) (List.perm_append_comm (l₁ := diskM db D22 sa23 sk24) (l₂ := ([(jb, .cells #[.P db 0, .string nm, x2, x3, x4, x5, x6, x7] 41 (0, 0))] : Heap))) (List.Perm.refl _)
   refine RW.callS (d := some 74) (r := (sq 7 8)) (g := 114) (args := #[.P db 0, .string (nm ++ (⟨#[46, 116]⟩ : ByteArray)), .string (cN nm (g + 1))]) (by as_aux_lemma => kernel_rfl) (dRename (hA27.al.rdy hA27.di).di.ok (hA27.al.rdy hA27.di).st (hA27.al.rdy hA27.di).dead (by unfold maxLen; exact Nat.le_trans hx9 (by decide)) (by unfold maxLen; exact Nat.le_trans hy9 (by decide)) (hA27.al.rdy hA27.di).hl ((H.lend (M1 := diskM db D22 sa23 sk24) (W1 := [⟨stepS, 143, .slice sa23 D22.steps.length sk24, D22.steps⟩])).pick [] rfl)) ?_
   rintro _ w31 ⟨D32, sa33, sk34, ⟨e35, rfl, hR36⟩, H'⟩
   have H := H.back (M1 := diskM db D22 sa23 sk24) (W1 := [⟨stepS, 143, .slice sa23 D22.steps.length sk24, D22.steps⟩]) H'
   have H := H.perms (M' := ((jb, .cells #[.P db 0, .string nm, x2, x3, x4, x5, x6, x7] 41 (0, 0)) :: (diskM db D32 sa33 sk34))) (W' := [⟨stepS, 143, .slice sa33 D32.steps.length sk34, D32.steps⟩]) ((List.perm_append_comm (l₁ := diskM db D32 sa33 sk34) (l₂ := ([(jb, .cells #[.P db 0, .string nm, x2, x3, x4, x5, x6, x7] 41 (0, 0))] : Heap))).symm) (List.Perm.refl _)
   have H : Hp w S O ((jb, .cells #[.P db 0, .string nm, x2, x3, x4, x5, x6, x7] 41 (0, 0)) :: (diskM db D32 sa33 sk34)) [⟨stepS, 143, .slice sa33 D32.steps.length sk34, D32.steps⟩] [Rp SB [.slice a8 (frameF b).length c9] (frameF b), Rp SB [.slice ax b.length cx] b, Fz jQ] _ := H
   have hR36 : RenameR D22 (nm ++ (⟨#[46, 116]⟩ : ByteArray)) (cN nm (g + 1)) e35 D32 := hR36
   rcases TpD.rn hp hg hb hA27 hR36 with ⟨rfl, hB38⟩ | ⟨rfl, hA37⟩
   ·
    refine qF 1 [(0, .P jb 0), (8, .string (cN nm (g + 1))), (16, .I 70)] ?_
    refine qR 4 [.c [6, 0, 2, 0, 0], .c [6, 0, 2, 0, 1], .c [7]] [(16, .I 70)] ?_
    refine qG (sq 0 3) ?_
    refine qP 1 (sq 1 3) [(77, .I 70)] ?_
    refine qK .seq (some 78) (sq 2 3) 110 #[.I 70] (told_spec (S := Av S w O (idsOf ((jb, .cells #[.P db 0, .string nm, x2, x3, x4, x5, x6, x7] 41 (0, 0)) :: (diskM db D32 sa33 sk34)) [⟨stepS, 143, .slice sa33 D32.steps.length sk34, D32.steps⟩]))) ?_
    rintro _ w39 - ⟨eb40, rfl, H'⟩
    have H := H.back (M1 := []) (W1 := []) H'
    have H : Hp w S O ((eb40, .cells #[.I 70] 204 (0, 0)) :: (jb, .cells #[.P db 0, .string nm, x2, x3, x4, x5, x6, x7] 41 (0, 0)) :: (diskM db D32 sa33 sk34)) [⟨stepS, 143, .slice sa33 D32.steps.length sk34, D32.steps⟩] [Rp SB [.slice a8 (frameF b).length c9] (frameF b), Rp SB [.slice ax b.length cx] b, Fz jQ] _ := H
    refine qF 1 [(6, .iface 200 (.P eb40 0))] ?_
    refine qT (.iface 200 (.P eb40 0)) Tryz.func55 ?_
    have H := H.pick [] rfl
    exact ⟨_, rfl, .inr ⟨eb40, rfl, D32, sa33, sk34, (hB38).mono (Nat.le_succ g) fun _ _ _ h9 => .inl h9, H⟩⟩
   ·
    refine qF 1 [(0, .P jb 0), (8, .string (cN nm (g + 1))), (16, .I 0)] ?_
    refine qR 5 [.c [7, 0], .c [8]] [(0, .P jb 0), (8, .string (cN nm (g + 1)))] ?_
    refine qG (sq 0 8) ?_
    refine qP 3 (sq 3 8) [(8, .string (cN nm (g + 1))), (81, .P jb 0)] ?_
    refine qL .seq 82 (sq 4 8) 24 jb 0 0 (.P db 0) (H.cells 0 rfl) ?_
    refine qP 1 (sq 5 8) [(82, .P db 0), (83, .string (cN nm (g + 1)))] ?_
    have H := H.perms (M' := diskM db D32 sa33 sk34 ++ [(jb, .cells #[.P db 0, .string nm, x2, x3, x4, x5, x6, x7] 41 (0, 0))]) (W' := [⟨stepS, 143, .slice sa33 D32.steps.length sk34, D32.steps⟩]) (List.perm_append_comm (l₁ := diskM db D32 sa33 sk34) (l₂ := ([(jb, .cells #[.P db 0, .string nm, x2, x3, x4, x5, x6, x7] 41 (0, 0))] : Heap))) (List.Perm.refl _)
    refine RW.callS (d := some 84) (r := (sq 6 8)) (g := 60) (args := #[.P db 0, .string (cN nm (g + 1))]) (by as_aux_lemma => kernel_rfl) (dSync (hA37.al.rdy hA37.di).di.ok (hA37.al.rdy hA37.di).st (hA37.al.rdy hA37.di).dead (hA37.al.rdy hA37.di).hl ((H.lend (M1 := diskM db D32 sa33 sk34) (W1 := [⟨stepS, 143, .slice sa33 D32.steps.length sk34, D32.steps⟩])).pick [] rfl)) ?_
    rintro _ w41 ⟨D42, sa43, sk44, ⟨e45, rfl, hR46⟩, H'⟩
    have H := H.back (M1 := diskM db D32 sa33 sk34) (W1 := [⟨stepS, 143, .slice sa33 D32.steps.length sk34, D32.steps⟩]) H'
    have H := H.perms (M' := ((jb, .cells #[.P db 0, .string nm, x2, x3, x4, x5, x6, x7] 41 (0, 0)) :: (diskM db D42 sa43 sk44))) (W' := [⟨stepS, 143, .slice sa43 D42.steps.length sk44, D42.steps⟩]) ((List.perm_append_comm (l₁ := diskM db D42 sa43 sk44) (l₂ := ([(jb, .cells #[.P db 0, .string nm, x2, x3, x4, x5, x6, x7] 41 (0, 0))] : Heap))).symm) (List.Perm.refl _)
    have H : Hp w S O ((jb, .cells #[.P db 0, .string nm, x2, x3, x4, x5, x6, x7] 41 (0, 0)) :: (diskM db D42 sa43 sk44)) [⟨stepS, 143, .slice sa43 D42.steps.length sk44, D42.steps⟩] [Rp SB [.slice a8 (frameF b).length c9] (frameF b), Rp SB [.slice ax b.length cx] b, Fz jQ] _ := H
    have hR46 : SyncR D32 (cN nm (g + 1)) e45 D42 := hR46
    rcases CkS.sync hA37 hR46 with ⟨rfl, hB48⟩ | ⟨rfl, hA47⟩
    ·
     refine qK .seq (some 85) (sq 7 8) 110 #[.I 70] (told_spec (S := Av S w O (idsOf ((jb, .cells #[.P db 0, .string nm, x2, x3, x4, x5, x6, x7] 41 (0, 0)) :: (diskM db D42 sa43 sk44)) [⟨stepS, 143, .slice sa43 D42.steps.length sk44, D42.steps⟩]))) ?_
     rintro _ w49 - ⟨eb50, rfl, H'⟩
     have H := H.back (M1 := []) (W1 := []) H'
     have H : Hp w S O ((eb50, .cells #[.I 70] 204 (0, 0)) :: (jb, .cells #[.P db 0, .string nm, x2, x3, x4, x5, x6, x7] 41 (0, 0)) :: (diskM db D42 sa43 sk44)) [⟨stepS, 143, .slice sa43 D42.steps.length sk44, D42.steps⟩] [Rp SB [.slice a8 (frameF b).length c9] (frameF b), Rp SB [.slice ax b.length cx] b, Fz jQ] _ := H
     refine qF 1 [(6, .iface 200 (.P eb50 0))] ?_
     refine qT (.iface 200 (.P eb50 0)) Tryz.func55 ?_
     have H := H.pick [] rfl
     exact ⟨_, rfl, .inr ⟨eb50, rfl, D42, sa43, sk44, hB48, H⟩⟩
    ·
     refine qK .seq (some 85) (sq 7 8) 110 #[.I 0] (told_zero (S := fun _ => True)) ?_
     rintro _ w51 hE52 rfl
     have H := H.ext hE52
     refine qF 1 [(6, .nilIface)] ?_
     refine qT .nilIface Tryz.func55 ?_
     have H := H.pick [] rfl
     obtain ⟨hq1, hq2, hq3, hq4, hq5⟩ := hA47
     exact ⟨_, rfl, .inl ⟨rfl, D42, sa43, sk44, hq5, hq1, hq2, hq3, hq4, H⟩⟩
 ·
  have H := H.back (M1 := ((jb, .cells #[.P db 0, .string nm, x2, x3, x4, x5, x6, x7] 41 (0, 0)) :: diskM db D0 sa0 sk0)) (W1 := [⟨stepS, 143, .slice sa0 D0.steps.length sk0, D0.steps⟩]) H'
  have H := H.perms (M' := ((eb15, .cells #[.I 70] 204 (0, 0)) :: (jb, .cells #[.P db 0, .string nm, x2, x3, x4, x5, x6, x7] 41 (0, 0)) :: (diskM db D12 sa13 sk14))) (W' := [⟨stepS, 143, .slice sa13 D12.steps.length sk14, D12.steps⟩]) (((List.perm_append_comm (l₁ := ([] : Heap)) (l₂ := diskM db D12 sa13 sk14)).cons _).cons _) (List.Perm.refl _)
  have H : Hp w S O ((eb15, .cells #[.I 70] 204 (0, 0)) :: (jb, .cells #[.P db 0, .string nm, x2, x3, x4, x5, x6, x7] 41 (0, 0)) :: (diskM db D12 sa13 sk14)) [⟨stepS, 143, .slice sa13 D12.steps.length sk14, D12.steps⟩] [Rp SB [.slice a8 (frameF b).length c9] (frameF b), Rp SB [.slice ax b.length cx] b, Fz jQ] _ := H
  refine qF 1 [(0, .P jb 0), (7, .string (nm ++ (⟨#[46, 116]⟩ : ByteArray))), (8, .string (cN nm (g + 1))), (14, .iface 200 (.P eb15 0))] ?_
  refine qR 5 [.c [4, 0, 2, 0, 1], .c [5]] [(6, .iface 200 (.P eb15 0))] ?_
  refine qT (.iface 200 (.P eb15 0)) Tryz.func55 ?_
  have H := H.pick [] rfl
  exact ⟨_, rfl, .inr ⟨eb15, rfl, D12, sa13, sk14, (hQ20).mono (Nat.le_succ g) fun _ _ _ h9 => .inl h9, H⟩⟩
end Go.Proofs.YtdnibpclkhenmaaGreatDoor
