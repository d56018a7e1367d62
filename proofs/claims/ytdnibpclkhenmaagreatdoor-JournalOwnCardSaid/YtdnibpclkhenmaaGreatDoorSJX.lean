import Derived.Test.YtdnibpclkhenmaaGreatDoorSBxA
import Derived.Test.YtdnibpclkhenmaaGreatDoorSJH
import Derived.Test.YtdnibpclkhenmaaGreatDoorSJF
import Derived.Test.YtdnibpclkhenmaaGreatDoorSJP
import Derived.Test.YtdnibpclkhenmaaGreatDoorSBxB
namespace Go.Proofs.YtdnibpclkhenmaaGreatDoor
open Go.BX
theorem Hp.neWW {w0 w : World} {S : Nat → Prop} {O : List Nat} {M : Heap} {W : List OwnS} {G : List Fact} (H : Hp w0 S O M W G w) {α β : Type} {sh : Shape α} {sh' : Shape β} {T T' : TypeId} {b b' l l' c c' : Nat} {xs : List α} {ys : List β} (i : Nat) (hi : W[i]? = some ⟨sh, T, .slice (some ⟨b, 0, none⟩) l c, xs⟩) (j : Nat) (hj : W[j]? = some ⟨sh', T', .slice (some ⟨b', 0, none⟩) l' c', ys⟩) (hij : i ≠ j) : b ≠ b' := by
 intro e
 subst e
 have a : (W.flatMap (·.blk)).Nodup := (List.nodup_append.1 H.nodup).2.1
 have key : ∀ {W : List OwnS} {i j : Nat}, (W.flatMap (·.blk)).Nodup → i < j → W[i]? = some ⟨sh, T, .slice (some ⟨b, 0, none⟩) l c, xs⟩ → (∃ o, W[j]? = some o ∧ b ∈ o.blk) → False := by
  intro W
  induction W with
  | nil => intro i j _ _ h; simp at h
  | cons o W ih =>
   intro i j hn hlt a d
   rw [List.flatMap_cons] at hn
   obtain ⟨m, f, g⟩ := List.nodup_append.1 hn
   cases j with
   | zero => omega
   | succ j =>
    obtain ⟨p, hp, hb⟩ := d
    rw [List.getElem?_cons_succ] at hp
    cases i with
    | zero =>
     obtain rfl : o = _ := by simpa using a
     exact g b (by simp [OwnS.blk]) b (List.mem_flatMap.2 ⟨p, List.mem_of_getElem? hp, hb⟩) rfl
    | succ i => exact ih (i := i) (j := j) f (Nat.lt_of_succ_lt_succ hlt) (by simpa using a) ⟨p, hp, hb⟩
 have k : ∀ {W : List OwnS} {i j : Nat}, (W.flatMap (·.blk)).Nodup → i < j → W[i]? = some ⟨sh', T', .slice (some ⟨b, 0, none⟩) l' c', ys⟩ → (∃ o, W[j]? = some o ∧ b ∈ o.blk) → False := by
  intro W
  induction W with
  | nil => intro i j _ _ h; simp at h
  | cons o W ih =>
   intro i j hn hlt a d
   rw [List.flatMap_cons] at hn
   obtain ⟨m, f, g⟩ := List.nodup_append.1 hn
   cases j with
   | zero => omega
   | succ j =>
    obtain ⟨p, hp, hb⟩ := d
    rw [List.getElem?_cons_succ] at hp
    cases i with
    | zero =>
     obtain rfl : o = _ := by simpa using a
     exact g b (by simp [OwnS.blk]) b (List.mem_flatMap.2 ⟨p, List.mem_of_getElem? hp, hb⟩) rfl
    | succ i => exact ih (i := i) (j := j) f (Nat.lt_of_succ_lt_succ hlt) (by simpa using a) ⟨p, hp, hb⟩
 rcases Nat.lt_or_gt_of_ne hij with h | h
 · exact key a h hi ⟨_, hj, by simp [OwnS.blk]⟩
 · exact k a h hj ⟨_, hi, by simp [OwnS.blk]⟩
theorem Hp.reS {w0 w : World} {S S2 : Nat → Prop} {O : List Nat} {T : TypeId} {v : Value} {xs : List (BitVec 8)} (H : Hp w0 S2 O [] [⟨Sb, T, v, xs⟩] [] w) : Hp w0 S O [] [⟨Sb, T, v, xs⟩] [] w :=
 ⟨H.below, H.own, fun o ho => ⟨by
  obtain ⟨cs, h1, h2, h3⟩ := (H.slc o ho).1
  obtain rfl := List.mem_singleton.1 ho
  exact ⟨cs, h1, h2, h3⟩, (H.slc o ho).2⟩, H.nodup, fun F hF => by cases hF⟩
set_option maxHeartbeats 2000000 in
theorem turned_own {S : Nat → Prop} {w : World} {O : List Nat} {jb db : Nat} {nm : ByteArray} {x2 x3 x4 x5 x6 x7 : Value} {D0 : DiskD} {sa0 : Option Addr} {sk0 : Nat} {V : VV} {cur : Option Sg} {g n : Nat} {b : List (BitVec 8)} {ax : Option Addr} {cx : Nat} (hp : PlainB nm) (hd : DI D0) (ha : Al D0 (n + 250000)) (hL : LJ D0 nm V cur g) (hg : g < 1000000) (hb : b.length ≤ 3000000) (hroom : D0.now.length < 256) (H0 : Hp w S O ((jb, .cells #[.P db 0, .string nm, x2, x3, x4, x5, x6, x7] 41 (0, 0)) :: diskM db D0 sa0 sk0) [⟨Sb, 5, .slice ax b.length cx, b⟩, ⟨stepS, 143, .slice sa0 D0.steps.length sk0, D0.steps⟩] [Fz jQ] w) :
 Calls Tryz.prog 55 #[.P jb 0, .slice ax b.length cx, .I ((g : Int) + 1)] w (Ret fun v w' => (v = .nilIface ∧ ∃ (D' : DiskD) (sa' : Option Addr) (sk' : Nat), (∃ p, LV D' nm ⟨g + 1, p, b, []⟩ none (g + 1)) ∧ DI D' ∧ Al D' (n + 1000) ∧ Stp nm D0 D' ∧ Cp 1 D0 D' ∧ Hp w S O ((jb, .cells #[.P db 0, .string nm, x2, x3, x4, x5, x6, x7] 41 (0, 0)) :: diskM db D' sa' sk') [⟨Sb, 5, .slice ax b.length cx, b⟩, diskW D' sa' sk'] [] w') ∨ (∃ eb : Nat, v = .iface 200 (.P eb 0) ∧ ∃ (D' : DiskD) (sa' : Option Addr) (sk' : Nat), Dd D0 D' nm (g + 1) (fun B lo hi => (PJ V cur B lo hi ∨ (B = b ∧ hi = []))) ∧ Hp w S O ((eb, .cells #[.I 70] 204 (0, 0)) :: (jb, .cells #[.P db 0, .string nm, x2, x3, x4, x5, x6, x7] 41 (0, 0)) :: diskM db D' sa' sk') [⟨Sb, 5, .slice ax b.length cx, b⟩, diskW D' sa' sk'] [] w')) := by
 have L := (FForm.temp hp).size.1
 have a0 := (fform_c hp (Nat.succ_pos g) hg).size.1
 have M := hL.noT hp
 have n0 : nm.size ≤ 16 := hp.1
 have o0 : ({ data := #[46, 116] } : ByteArray).size = 2 := rfl
 rw [← nm_now hd.ok] at M
 have b0 := tpP (n := n + 1001) hp hL hb hroom
 have c0 := TpS.start (n := n + 1001) (b := b) hd (ha.mono (by omega)) hL
 refine uS1 Tryz.func55 ?_
 have H := H0
 refine uR 3 [.c [1, 0], .c [2]] ?_
 refine WK.drawH1 [] (.leaf [(0, .qui), (1, .qui), (2, .qui), (3, .qui), (4, .qui), (5, .qui), (6, .qui), (7, .seq), (8, .qui), (9, .qui)]) Tryz_mixed (by as_aux_lemma => kernel_rfl) (by as_aux_lemma => kernel_rfl) ?_
 intro w1 N
 have H := H.draw
 rw [← N] at H
 clear N
 have hS := Chg.refl w1 []
 refine RG.leaf' [(0, .qui), (1, .qui), (2, .qui), (3, .qui), (4, .qui), (5, .qui), (6, .qui), (7, .seq), (8, .qui), (9, .qui)] (by as_aux_lemma => kernel_rfl) ?_
 refine uHP hS 3 ?_
 refine uHV 9 1 hS (H.cells 0 rfl) nq0 ?_
 refine RH.readS (d := some 21) (r := [(5, .qui), (6, .qui), (7, .seq), (8, .qui), (9, .qui)]) (s := semV (Op.stringOp .add nm (⟨#[46, 116]⟩ : ByteArray))) (v := .string (nm ++ (⟨#[46, 116]⟩ : ByteArray))) (by as_aux_lemma => kernel_rfl) hS (fun w' _ => semV_run (run_string_add_sum w' _ _ (by omega))) ?_
 refine uHP hS 2 ?_
 have Hr := H
 refine RH.chn hS ?_
 have d0 := H.viewF 0 rfl
 refine uK (jfile_spec (S := fun _ => True) (kd := kC) (n := g + 1) (H.viewM 0 rfl (by simp)) d0 (by omega) hp (.inr rfl)) ?_
 rintro _ _ e0 rfl
 have H := H.ext e0
 intro hS
 refine uHF hS 2 ?_
 refine uR 1 [.c [2, 0], .c [3]] ?_
 refine qG (sq 0 7) ?_
 refine uP 1 ?_
 refine uK (frame_spec (S := fun _ => True) (xs := b) (H.view 0 rfl) (by omega)) ?_
 rintro _ _ - ⟨G, J, rfl, H'⟩
 have H := H.back (M1 := []) (W1 := []) (Hp.reS H')
 have H : Hp w S O ((jb, .cells #[.P db 0, .string nm, x2, x3, x4, x5, x6, x7] 41 (0, 0)) :: (diskM db D0 sa0 sk0)) [⟨Sb, 5, .slice G (frameF b).length J, (frameF b)⟩, _, _] [_] _ := H
 refine uF 5 ?_
 refine uR 2 [.c [3, 0, 0], .c [3, 0, 1], .c [4]] ?_
 refine qG (sq 0 11) ?_
 refine uP 3 ?_
 refine uV 24 0 (H.cells 0 rfl) ?_
 refine uP 1 ?_
 have H := H.frontW 2 rfl
 have H := H.perms (M' := diskM db D0 sa0 sk0 ++ [(jb, .cells #[.P db 0, .string nm, x2, x3, x4, x5, x6, x7] 41 (0, 0))]) (W' := [⟨stepS, 143, .slice sa0 D0.steps.length sk0, D0.steps⟩, ⟨Sb, 5, .slice G (frameF b).length J, (frameF b)⟩, ⟨Sb, 5, .slice ax b.length cx, b⟩]) (List.perm_append_comm (l₁ := diskM db D0 sa0 sk0) (l₂ := ([(jb, .cells #[.P db 0, .string nm, x2, x3, x4, x5, x6, x7] 41 (0, 0))] : Heap))) (List.Perm.refl _)
 refine uKS ((dSizeNo hd.ok ha.dead M) ((H.lend (M1 := diskM db D0 sa0 sk0) (W1 := [⟨stepS, 143, .slice sa0 D0.steps.length sk0, D0.steps⟩])).pick [] rfl)) ?_
 rintro _ _ ⟨rfl, H'⟩
 have H := H.back (M1 := diskM db D0 sa0 sk0) (W1 := [⟨stepS, 143, .slice sa0 D0.steps.length sk0, D0.steps⟩]) H'
 have H := H.perms (M' := ((jb, .cells #[.P db 0, .string nm, x2, x3, x4, x5, x6, x7] 41 (0, 0)) :: (diskM db D0 sa0 sk0))) (W' := [⟨stepS, 143, .slice sa0 D0.steps.length sk0, D0.steps⟩, ⟨Sb, 5, .slice G (frameF b).length J, (frameF b)⟩, ⟨Sb, 5, .slice ax b.length cx, b⟩]) ((List.perm_append_comm (l₁ := diskM db D0 sa0 sk0) (l₂ := ([(jb, .cells #[.P db 0, .string nm, x2, x3, x4, x5, x6, x7] 41 (0, 0))] : Heap))).symm) (List.Perm.refl _)
 have H : Hp w S O _ [_, _, _] [_] _ := H
 refine qF 5 [(0, .P jb 0), (7, .string (nm ++ (⟨#[46, 116]⟩ : ByteArray))), (8, .string (cN nm (g + 1))), (9, .slice G (frameF b).length J), (12, .I 71)] ?_
 refine uR 6 [.c [4, 0, 0], .c [4, 0, 1], .c [5]] ?_
 refine qG (sq 0 5) ?_
 refine uP 3 ?_
 have H : Hp w S O _ [_, _] [Rp SB [.slice G (frameF b).length J] (frameF b), _] _ := H.freezeW 1 rfl
 have H := H.perms (M' := ((jb, .cells #[.P db 0, .string nm, x2, x3, x4, x5, x6, x7] 41 (0, 0)) :: diskM db D0 sa0 sk0) ++ []) (W' := [⟨stepS, 143, .slice sa0 D0.steps.length sk0, D0.steps⟩, ⟨Sb, 5, .slice ax b.length cx, b⟩]) ((List.perm_append_comm (l₁ := diskM db D0 sa0 sk0) (l₂ := ([] : Heap))).cons _) (List.Perm.refl _)
 refine uKS (jwrite_spec (τ := (frameF b)) (fr := 0) b0 c0 rfl (Nat.zero_le _) (by rw [frame_len]; omega) L ((H.lend (M1 := ((jb, .cells #[.P db 0, .string nm, x2, x3, x4, x5, x6, x7] 41 (0, 0)) :: diskM db D0 sa0 sk0)) (W1 := [⟨stepS, 143, .slice sa0 D0.steps.length sk0, D0.steps⟩])).pick [0] rfl)) ?_
 rintro _ _ (⟨_, Q, _, rfl, a, h, i, R, H'⟩ | ⟨y, rfl, a, h, i, T, H'⟩)
 ·
  have H := H.back (M1 := ((jb, .cells #[.P db 0, .string nm, x2, x3, x4, x5, x6, x7] 41 (0, 0)) :: diskM db D0 sa0 sk0)) (W1 := [⟨stepS, 143, .slice sa0 D0.steps.length sk0, D0.steps⟩]) H'
  have H := H.perms (M' := ((jb, .cells #[.P db 0, .string nm, x2, x3, x4, x5, x6, x7] 41 (0, 0)) :: (diskM db a h i))) (W' := [⟨stepS, 143, .slice h a.steps.length i, a.steps⟩, ⟨Sb, 5, .slice ax b.length cx, b⟩]) ((List.perm_append_comm (l₁ := ([] : Heap)) (l₂ := diskM db a h i)).cons _) (List.Perm.refl _)
  have H : Hp w S O _ [_, _] [_, _] _ := H
  have hTd := TpS.done R Q hb (by omega)
  refine uF 1 ?_
  refine uR 6 [.c [5, 0, 0], .c [5, 0, 1], .c [6]] ?_
  refine qG (sq 0 7) ?_
  refine uP 3 ?_
  refine uV 24 0 (H.cells 0 rfl) ?_
  refine uP 1 ?_
  have H := H.perms (M' := diskM db a h i ++ [(jb, .cells #[.P db 0, .string nm, x2, x3, x4, x5, x6, x7] 41 (0, 0))]) (W' := [⟨stepS, 143, .slice h a.steps.length i, a.steps⟩, ⟨Sb, 5, .slice ax b.length cx, b⟩]) (List.perm_append_comm (l₁ := diskM db a h i) (l₂ := ([(jb, .cells #[.P db 0, .string nm, x2, x3, x4, x5, x6, x7] 41 (0, 0))] : Heap))) (List.Perm.refl _)
  refine RW.callS (d := some 63) (r := (sq 6 7)) (g := 60) (args := #[.P db 0, .string (nm ++ (⟨#[46, 116]⟩ : ByteArray))]) (by as_aux_lemma => kernel_rfl) (dSync (hTd.al.rdy hTd.di).di.ok (hTd.al.rdy hTd.di).st (hTd.al.rdy hTd.di).dead (hTd.al.rdy hTd.di).hl ((H.lend (M1 := diskM db a h i) (W1 := [⟨stepS, 143, .slice h a.steps.length i, a.steps⟩])).pick [] rfl)) ?_
  rintro _ _ ⟨e, j, k, ⟨f0, rfl, z⟩, H'⟩
  have H := H.back (M1 := diskM db a h i) (W1 := [⟨stepS, 143, .slice h a.steps.length i, a.steps⟩]) H'
  have H := H.perms (M' := ((jb, .cells #[.P db 0, .string nm, x2, x3, x4, x5, x6, x7] 41 (0, 0)) :: (diskM db e j k))) (W' := [⟨stepS, 143, .slice j e.steps.length k, e.steps⟩, ⟨Sb, 5, .slice ax b.length cx, b⟩]) ((List.perm_append_comm (l₁ := diskM db e j k) (l₂ := ([(jb, .cells #[.P db 0, .string nm, x2, x3, x4, x5, x6, x7] 41 (0, 0))] : Heap))).symm) (List.Perm.refl _)
  have H : Hp w S O _ [_, _] [_, _] _ := H
  have z : SyncR a (nm ++ (⟨#[46, 116]⟩ : ByteArray)) f0 e := z
  rcases hTd.sync hp z with ⟨rfl, U⟩ | ⟨rfl, o⟩
  ·
   refine uF 1 ?_
   refine uR 4 [.c [5, 0, 2, 0, 0], .c [5, 0, 2, 0, 1], .c [6]] ?_
   refine qG (sq 0 3) ?_
   refine uP 1 ?_
   refine uK (told_spec (S := Av S w O (idsOf ((jb, .cells #[.P db 0, .string nm, x2, x3, x4, x5, x6, x7] 41 (0, 0)) :: (diskM db e j k)) [⟨stepS, 143, .slice j e.steps.length k, e.steps⟩, ⟨Sb, 5, .slice ax b.length cx, b⟩]))) ?_
   rintro _ _ - ⟨A, rfl, H'⟩
   have H := H.back (M1 := []) (W1 := []) H'
   have H : Hp w S O ((A, .cells #[.I 70] 204 (0, 0)) :: (jb, .cells #[.P db 0, .string nm, x2, x3, x4, x5, x6, x7] 41 (0, 0)) :: (diskM db e j k)) [_, _] [_, _] _ := H
   refine uF 1 ?_
   refine qT (.iface 200 (.P A 0)) Tryz.func55 ?_
   have H := H.pick [] rfl
   have H := H.frontW 1 rfl
   exact ⟨_, rfl, .inr ⟨A, rfl, e, j, k, (U).mono (Nat.le_succ g) fun _ _ _ K => .inl K, H⟩⟩
  ·
   refine uF 1 ?_
   refine uR 6 [.c [6, 0, 0], .c [6, 0, 1], .c [7]] ?_
   refine qG (sq 0 8) ?_
   refine uP 3 ?_
   refine uV 24 0 (H.cells 0 rfl) ?_
   refine uP 2 ?_
   have H := H.perms (M' := diskM db e j k ++ [(jb, .cells #[.P db 0, .string nm, x2, x3, x4, x5, x6, x7] 41 (0, 0))]) (W' := [⟨stepS, 143, .slice j e.steps.length k, e.steps⟩, ⟨Sb, 5, .slice ax b.length cx, b⟩]) (List.perm_append_comm (l₁ := diskM db e j k) (l₂ := ([(jb, .cells #[.P db 0, .string nm, x2, x3, x4, x5, x6, x7] 41 (0, 0))] : Heap))) (List.Perm.refl _)
   refine uKS (dRename (o.al.rdy o.di).di.ok (o.al.rdy o.di).st (o.al.rdy o.di).dead (by unfold maxLen; exact Nat.le_trans L (by decide)) (by unfold maxLen; exact Nat.le_trans a0 (by decide)) (o.al.rdy o.di).hl ((H.lend (M1 := diskM db e j k) (W1 := [⟨stepS, 143, .slice j e.steps.length k, e.steps⟩])).pick [] rfl)) ?_
   rintro _ _ ⟨f, l, m, ⟨g0, rfl, C⟩, H'⟩
   have H := H.back (M1 := diskM db e j k) (W1 := [⟨stepS, 143, .slice j e.steps.length k, e.steps⟩]) H'
   have H := H.perms (M' := ((jb, .cells #[.P db 0, .string nm, x2, x3, x4, x5, x6, x7] 41 (0, 0)) :: (diskM db f l m))) (W' := [⟨stepS, 143, .slice l f.steps.length m, f.steps⟩, ⟨Sb, 5, .slice ax b.length cx, b⟩]) ((List.perm_append_comm (l₁ := diskM db f l m) (l₂ := ([(jb, .cells #[.P db 0, .string nm, x2, x3, x4, x5, x6, x7] 41 (0, 0))] : Heap))).symm) (List.Perm.refl _)
   have H : Hp w S O _ [_, _] [_, _] _ := H
   have C : RenameR e (nm ++ (⟨#[46, 116]⟩ : ByteArray)) (cN nm (g + 1)) g0 f := C
   rcases TpD.rn hp hg hb o C with ⟨rfl, W⟩ | ⟨rfl, q⟩
   ·
    refine uF 1 ?_
    refine uR 4 [.c [6, 0, 2, 0, 0], .c [6, 0, 2, 0, 1], .c [7]] ?_
    refine qG (sq 0 3) ?_
    refine qP 1 (sq 1 3) [(77, .I 70)] ?_
    refine uK (told_spec (S := Av S w O (idsOf ((jb, .cells #[.P db 0, .string nm, x2, x3, x4, x5, x6, x7] 41 (0, 0)) :: (diskM db f l m)) [⟨stepS, 143, .slice l f.steps.length m, f.steps⟩, ⟨Sb, 5, .slice ax b.length cx, b⟩]))) ?_
    rintro _ _ - ⟨D, rfl, H'⟩
    have H := H.back (M1 := []) (W1 := []) H'
    have H : Hp w S O ((D, .cells #[.I 70] 204 (0, 0)) :: (jb, .cells #[.P db 0, .string nm, x2, x3, x4, x5, x6, x7] 41 (0, 0)) :: (diskM db f l m)) [_, _] [_, _] _ := H
    refine uF 1 ?_
    refine qT (.iface 200 (.P D 0)) Tryz.func55 ?_
    have H := H.pick [] rfl
    have H := H.frontW 1 rfl
    exact ⟨_, rfl, .inr ⟨D, rfl, f, l, m, (W).mono (Nat.le_succ g) fun _ _ _ K => .inl K, H⟩⟩
   ·
    refine uF 1 ?_
    refine uR 5 [.c [7, 0], .c [8]] ?_
    refine qG (sq 0 8) ?_
    refine uP 3 ?_
    refine uV 24 0 (H.cells 0 rfl) ?_
    refine uP 1 ?_
    have H := H.perms (M' := diskM db f l m ++ [(jb, .cells #[.P db 0, .string nm, x2, x3, x4, x5, x6, x7] 41 (0, 0))]) (W' := [⟨stepS, 143, .slice l f.steps.length m, f.steps⟩, ⟨Sb, 5, .slice ax b.length cx, b⟩]) (List.perm_append_comm (l₁ := diskM db f l m) (l₂ := ([(jb, .cells #[.P db 0, .string nm, x2, x3, x4, x5, x6, x7] 41 (0, 0))] : Heap))) (List.Perm.refl _)
    refine RW.callS (d := some 84) (r := (sq 6 8)) (g := 60) (args := #[.P db 0, .string (cN nm (g + 1))]) (by as_aux_lemma => kernel_rfl) (dSync (q.al.rdy q.di).di.ok (q.al.rdy q.di).st (q.al.rdy q.di).dead (q.al.rdy q.di).hl ((H.lend (M1 := diskM db f l m) (W1 := [⟨stepS, 143, .slice l f.steps.length m, f.steps⟩])).pick [] rfl)) ?_
    rintro _ _ ⟨t, u, x, ⟨h0, rfl, E⟩, H'⟩
    have H := H.back (M1 := diskM db f l m) (W1 := [⟨stepS, 143, .slice l f.steps.length m, f.steps⟩]) H'
    have H := H.perms (M' := ((jb, .cells #[.P db 0, .string nm, x2, x3, x4, x5, x6, x7] 41 (0, 0)) :: (diskM db t u x))) (W' := [⟨stepS, 143, .slice u t.steps.length x, t.steps⟩, ⟨Sb, 5, .slice ax b.length cx, b⟩]) ((List.perm_append_comm (l₁ := diskM db t u x) (l₂ := ([(jb, .cells #[.P db 0, .string nm, x2, x3, x4, x5, x6, x7] 41 (0, 0))] : Heap))).symm) (List.Perm.refl _)
    have H : Hp w S O _ [_, _] [_, _] _ := H
    have E : SyncR f (cN nm (g + 1)) h0 t := E
    rcases CkS.sync q E with ⟨rfl, X⟩ | ⟨rfl, Y⟩
    ·
     refine uK (told_spec (S := Av S w O (idsOf ((jb, .cells #[.P db 0, .string nm, x2, x3, x4, x5, x6, x7] 41 (0, 0)) :: (diskM db t u x)) [⟨stepS, 143, .slice u t.steps.length x, t.steps⟩, ⟨Sb, 5, .slice ax b.length cx, b⟩]))) ?_
     rintro _ _ - ⟨F, rfl, H'⟩
     have H := H.back (M1 := []) (W1 := []) H'
     have H : Hp w S O ((F, .cells #[.I 70] 204 (0, 0)) :: (jb, .cells #[.P db 0, .string nm, x2, x3, x4, x5, x6, x7] 41 (0, 0)) :: (diskM db t u x)) [_, _] [_, _] _ := H
     refine uF 1 ?_
     refine qT (.iface 200 (.P F 0)) Tryz.func55 ?_
     have H := H.pick [] rfl
     have H := H.frontW 1 rfl
     exact ⟨_, rfl, .inr ⟨F, rfl, t, u, x, X, H⟩⟩
    ·
     refine uK (told_zero (S := fun _ => True)) ?_
     rintro _ _ Z rfl
     have H := H.ext Z
     refine uF 1 ?_
     refine qT .nilIface Tryz.func55 ?_
     have H := H.pick [] rfl
     have H := H.frontW 1 rfl
     obtain ⟨i0, j0, k0, l0, m0⟩ := Y
     exact ⟨_, rfl, .inl ⟨rfl, t, u, x, m0, i0, j0, k0, l0, H⟩⟩
 ·
  have H := H.back (M1 := ((jb, .cells #[.P db 0, .string nm, x2, x3, x4, x5, x6, x7] 41 (0, 0)) :: diskM db D0 sa0 sk0)) (W1 := [⟨stepS, 143, .slice sa0 D0.steps.length sk0, D0.steps⟩]) H'
  have H := H.perms (M' := ((y, .cells #[.I 70] 204 (0, 0)) :: (jb, .cells #[.P db 0, .string nm, x2, x3, x4, x5, x6, x7] 41 (0, 0)) :: (diskM db a h i))) (W' := [⟨stepS, 143, .slice h a.steps.length i, a.steps⟩, ⟨Sb, 5, .slice ax b.length cx, b⟩]) (((List.perm_append_comm (l₁ := ([] : Heap)) (l₂ := diskM db a h i)).cons _).cons _) (List.Perm.refl _)
  have H : Hp w S O _ [_, _] [_, _] _ := H
  refine uF 1 ?_
  refine uR 5 [.c [4, 0, 2, 0, 1], .c [5]] ?_
  refine qT (.iface 200 (.P y 0)) Tryz.func55 ?_
  have H := H.pick [] rfl
  have H := H.frontW 1 rfl
  exact ⟨_, rfl, .inr ⟨y, rfl, a, h, i, (T).mono (Nat.le_succ g) fun _ _ _ K => .inl K, H⟩⟩
set_option maxHeartbeats 2000000 in
theorem jcheck_own {S : Nat → Prop} {w : World} {O : List Nat} {jb db g : Nat} {nm seg : ByteArray} {sy : Bool} {B σ : List (BitVec 8)} {R0 R : List (List (BitVec 8))} {ab ar as_ : Option Addr} {cb cr cs n q : Nat} {D0 : DiskD} {sa0 : Option Addr} {sk0 : Nat} {b : List (BitVec 8)} {ax : Option Addr} {cx : Nat} (hp : PlainB nm) (hd : DI D0) (ha : Al D0 (n + 300000)) (hJ : JL D0 nm B R0 R g seg σ sy q) (hg : g < 1000000) (hb : b.length ≤ 3000000) (hroom : D0.now.length < 256) (H0 : Hp w S O ((jb, .cells #[.P db 0, .string nm, .slice ab B.length cb, .slice ar R.length cr, .I g, .string seg, .slice as_ σ.length cs, .bool sy] 41 (0, 0)) :: diskM db D0 sa0 sk0) [⟨SB, 23, .slice ar R.length cr, R⟩, ⟨Sb, 5, .slice ax b.length cx, b⟩, ⟨stepS, 143, .slice sa0 D0.steps.length sk0, D0.steps⟩] [Rp SB [.slice ab B.length cb] B, Rp SB [.slice as_ σ.length cs] σ, Fz jQ] w) :
 Calls Tryz.prog 15 #[.P jb 0, .slice ax b.length cx] w (Ret fun v w' => (v = .I 0 ∧ ∃ (ab' : Option Addr) (cb' : Nat) (D' : DiskD) (sa' : Option Addr) (sk' : Nat), JL D' nm b [] [] (g + 1) ⟨#[]⟩ [] true 0 ∧ DI D' ∧ Al D' n ∧ Stp nm D0 D' ∧ Cp 1 D0 D' ∧ Hp w S O ((jb, .cells #[.P db 0, .string nm, .slice ab' b.length cb', .slice none (([] : List (List (BitVec 8))).length) 0, .I ((g + 1 : Nat) : Int), .string (⟨#[]⟩ : ByteArray), .slice none (([] : List (BitVec 8)).length) 0, .bool true] 41 (0, 0)) :: diskM db D' sa' sk') [⟨SB, 23, .slice none (([] : List (List (BitVec 8))).length) 0, ([] : List (List (BitVec 8)))⟩, ⟨Sb, 5, .slice ax b.length cx, b⟩, diskW D' sa' sk'] [Rp SB [.slice ab' b.length cb'] b, Rp SB [.slice none (([] : List (BitVec 8)).length) 0] ([] : List (BitVec 8))] w') ∨ (∃ (y4 y5 y6 y7 : Value) (D' : DiskD) (sa' : Option Addr) (sk' : Nat), v = .I 70 ∧ Dd D0 D' nm (g + 1) (fun B' lo hi => (B' = B ∧ R0 <+: lo ∧ hi <+: R) ∨ (B' = b ∧ hi = [])) ∧ Hp w S O ((jb, .cells #[.P db 0, .string nm, .slice ab B.length cb, .slice ar R.length cr, y4, y5, y6, y7] 41 (0, 0)) :: diskM db D' sa' sk') [⟨SB, 23, .slice ar R.length cr, R⟩, ⟨Sb, 5, .slice ax b.length cx, b⟩, diskW D' sa' sk'] [Rp SB [.slice ab B.length cb] B] w')) := by
 obtain ⟨V, cur, hL, hB, K, hR, hseg, hst, _, _, hVq⟩ := hJ
 refine uS1 Tryz.func15 ?_
 have H := H0
 refine uR 4 [.c [1, 0, 0], .c [1, 0, 1], .c [2]] ?_
 refine qG (sq 0 3) ?_
 refine uP 1 ?_
 have H := H.frontW 2 rfl
 have H := H.perms (M' := ((jb, .cells #[.P db 0, .string nm, .slice ab B.length cb, .slice ar R.length cr, .I g, .string seg, .slice as_ σ.length cs, .bool sy] 41 (0, 0)) :: diskM db D0 sa0 sk0) ++ []) (W' := [⟨stepS, 143, .slice sa0 D0.steps.length sk0, D0.steps⟩, ⟨SB, 23, .slice ar R.length cr, R⟩, ⟨Sb, 5, .slice ax b.length cx, b⟩]) ((List.perm_append_comm (l₁ := diskM db D0 sa0 sk0) (l₂ := ([] : Heap))).cons _) (List.Perm.refl _)
 refine uKS (state_go ha.dead ((H.lend (M1 := ((jb, .cells #[.P db 0, .string nm, .slice ab B.length cb, .slice ar R.length cr, .I g, .string seg, .slice as_ σ.length cs, .bool sy] 41 (0, 0)) :: diskM db D0 sa0 sk0)) (W1 := [⟨stepS, 143, .slice sa0 D0.steps.length sk0, D0.steps⟩])).pick [] rfl)) ?_
 rintro _ _ ⟨rfl, H'⟩
 have H := H.back (M1 := ((jb, .cells #[.P db 0, .string nm, .slice ab B.length cb, .slice ar R.length cr, .I g, .string seg, .slice as_ σ.length cs, .bool sy] 41 (0, 0)) :: diskM db D0 sa0 sk0)) (W1 := [⟨stepS, 143, .slice sa0 D0.steps.length sk0, D0.steps⟩]) H'
 have H := H.perms (M' := ((jb, .cells #[.P db 0, .string nm, .slice ab B.length cb, .slice ar R.length cr, .I g, .string seg, .slice as_ σ.length cs, .bool sy] 41 (0, 0)) :: (diskM db D0 sa0 sk0))) (W' := [⟨stepS, 143, .slice sa0 D0.steps.length sk0, D0.steps⟩, ⟨SB, 23, .slice ar R.length cr, R⟩, ⟨Sb, 5, .slice ax b.length cx, b⟩]) ((List.perm_append_comm (l₁ := ([] : Heap)) (l₂ := diskM db D0 sa0 sk0)).cons _) (List.Perm.refl _)
 have H : Hp w S O _ [_, _, _] [_, _, _] _ := H
 refine uF 1 ?_
 refine uR 7 [.c [2, 0, 1], .c [3]] ?_
 refine qD ((((b.length : Nat) : Int) : Int) > 4194304) (fun L => ?_) (fun L => ?_)
 ·
  omega
 ·
  refine uR 3 [.c [3, 0, 0], .c [3, 0, 1], .c [4]] ?_
  refine qG (sq 0 3) ?_
  refine uP 1 ?_
  have H := H.perms (M' := ((jb, .cells #[.P db 0, .string nm, .slice ab B.length cb, .slice ar R.length cr, .I g, .string seg, .slice as_ σ.length cs, .bool sy] 41 (0, 0)) :: diskM db D0 sa0 sk0) ++ []) (W' := [⟨stepS, 143, .slice sa0 D0.steps.length sk0, D0.steps⟩, ⟨SB, 23, .slice ar R.length cr, R⟩, ⟨Sb, 5, .slice ax b.length cx, b⟩]) ((List.perm_append_comm (l₁ := diskM db D0 sa0 sk0) (l₂ := ([] : Heap))).cons _) (List.Perm.refl _)
  refine uKS (state_go ha.dead ((H.lend (M1 := ((jb, .cells #[.P db 0, .string nm, .slice ab B.length cb, .slice ar R.length cr, .I g, .string seg, .slice as_ σ.length cs, .bool sy] 41 (0, 0)) :: diskM db D0 sa0 sk0)) (W1 := [⟨stepS, 143, .slice sa0 D0.steps.length sk0, D0.steps⟩])).pick [] rfl)) ?_
  rintro _ _ ⟨rfl, H'⟩
  have H := H.back (M1 := ((jb, .cells #[.P db 0, .string nm, .slice ab B.length cb, .slice ar R.length cr, .I g, .string seg, .slice as_ σ.length cs, .bool sy] 41 (0, 0)) :: diskM db D0 sa0 sk0)) (W1 := [⟨stepS, 143, .slice sa0 D0.steps.length sk0, D0.steps⟩]) H'
  have H := H.perms (M' := ((jb, .cells #[.P db 0, .string nm, .slice ab B.length cb, .slice ar R.length cr, .I g, .string seg, .slice as_ σ.length cs, .bool sy] 41 (0, 0)) :: (diskM db D0 sa0 sk0))) (W' := [⟨stepS, 143, .slice sa0 D0.steps.length sk0, D0.steps⟩, ⟨SB, 23, .slice ar R.length cr, R⟩, ⟨Sb, 5, .slice ax b.length cx, b⟩]) ((List.perm_append_comm (l₁ := ([] : Heap)) (l₂ := diskM db D0 sa0 sk0)).cons _) (List.Perm.refl _)
  have H : Hp w S O _ [_, _, _] [_, _, _] _ := H
  refine uF 1 ?_
  refine uR 5 [.c [4, 0], .c [5]] ?_
  refine qG (sq 0 6) ?_
  refine uP 3 ?_
  refine uV 3 4 (H.cells 0 rfl) ?_
  refine uI ((g : Int) + 1) ?_
  refine uF 1 ?_
  refine qR 2 [.c [5, 0, 0], .c [5, 0, 1], .c [6]] [(0, .P jb 0), (1, .slice ax b.length cx), (7, .I ((g : Int) + 1))] ?_
  refine qG (sq 0 5) ?_
  refine uP 3 ?_
  have H := H.frontW 2 rfl
  have H := H.perms (M' := ((jb, .cells #[.P db 0, .string nm, .slice ab B.length cb, .slice ar R.length cr, .I g, .string seg, .slice as_ σ.length cs, .bool sy] 41 (0, 0)) :: diskM db D0 sa0 sk0) ++ []) (W' := [⟨Sb, 5, .slice ax b.length cx, b⟩, ⟨stepS, 143, .slice sa0 D0.steps.length sk0, D0.steps⟩, ⟨SB, 23, .slice ar R.length cr, R⟩]) ((List.perm_append_comm (l₁ := diskM db D0 sa0 sk0) (l₂ := ([] : Heap))).cons _) (List.Perm.refl _)
  refine uKS (turned_own (b := b) (n := n) hp hd (ha.mono (by omega)) hL hg hb hroom ((H.lend (M1 := ((jb, .cells #[.P db 0, .string nm, .slice ab B.length cb, .slice ar R.length cr, .I g, .string seg, .slice as_ σ.length cs, .bool sy] 41 (0, 0)) :: diskM db D0 sa0 sk0)) (W1 := [⟨Sb, 5, .slice ax b.length cx, b⟩, ⟨stepS, 143, .slice sa0 D0.steps.length sk0, D0.steps⟩])).pick [2] rfl)) ?_
  rintro _ _ (⟨rfl, k, i, j, ⟨M, A⟩, s, x, C, y, H'⟩ | ⟨z, rfl, k, i, j, D, H'⟩)
  ·
   have H := H.back (M1 := ((jb, .cells #[.P db 0, .string nm, .slice ab B.length cb, .slice ar R.length cr, .I g, .string seg, .slice as_ σ.length cs, .bool sy] 41 (0, 0)) :: diskM db D0 sa0 sk0)) (W1 := [⟨Sb, 5, .slice ax b.length cx, b⟩, ⟨stepS, 143, .slice sa0 D0.steps.length sk0, D0.steps⟩]) H'
   have H := H.perms (M' := ((jb, .cells #[.P db 0, .string nm, .slice ab B.length cb, .slice ar R.length cr, .I g, .string seg, .slice as_ σ.length cs, .bool sy] 41 (0, 0)) :: (diskM db k i j))) (W' := [⟨Sb, 5, .slice ax b.length cx, b⟩, ⟨stepS, 143, .slice i k.steps.length j, k.steps⟩, ⟨SB, 23, .slice ar R.length cr, R⟩]) ((List.perm_append_comm (l₁ := ([] : Heap)) (l₂ := diskM db k i j)).cons _) (List.Perm.refl _)
   have H : Hp w S O _ [_, _, _] [_, _, _] _ := H
   have E : k.now.length ≤ 256 := by have := Cp.now y hd s; omega
   refine uF 1 ?_
   refine uR 6 [.c [6, 0, 0], .c [6, 0, 1], .c [7]] ?_
   refine qG (sq 0 4) ?_
   refine uP 2 ?_
   have H := H.frontW 1 rfl
   have H := H.perms (M' := ((jb, .cells #[.P db 0, .string nm, .slice ab B.length cb, .slice ar R.length cr, .I g, .string seg, .slice as_ σ.length cs, .bool sy] 41 (0, 0)) :: diskM db k i j) ++ []) (W' := [⟨stepS, 143, .slice i k.steps.length j, k.steps⟩, ⟨Sb, 5, .slice ax b.length cx, b⟩, ⟨SB, 23, .slice ar R.length cr, R⟩]) ((List.perm_append_comm (l₁ := diskM db k i j) (l₂ := ([] : Heap))).cons _) (List.Perm.refl _)
   refine uKS (jdrop_spec (Dz := D0) (V := ⟨g + 1, M, b, []⟩) (g := g + 1) (n := n) hp (x.rdy s) E (fun ns u => DrS.start s (x.mono (by omega)) A C y u) ((H.lend (M1 := ((jb, .cells #[.P db 0, .string nm, .slice ab B.length cb, .slice ar R.length cr, .I g, .string seg, .slice as_ σ.length cs, .bool sy] 41 (0, 0)) :: diskM db k i j)) (W1 := [⟨stepS, 143, .slice i k.steps.length j, k.steps⟩])).pick [] rfl)) ?_
   rintro _ _ (⟨rfl, h, a, f, G, H'⟩ | ⟨t, rfl, h, a, f, J, H'⟩)
   ·
    have H := H.back (M1 := ((jb, .cells #[.P db 0, .string nm, .slice ab B.length cb, .slice ar R.length cr, .I g, .string seg, .slice as_ σ.length cs, .bool sy] 41 (0, 0)) :: diskM db k i j)) (W1 := [⟨stepS, 143, .slice i k.steps.length j, k.steps⟩]) H'
    have H := H.perms (M' := ((jb, .cells #[.P db 0, .string nm, .slice ab B.length cb, .slice ar R.length cr, .I g, .string seg, .slice as_ σ.length cs, .bool sy] 41 (0, 0)) :: (diskM db h a f))) (W' := [⟨stepS, 143, .slice a h.steps.length f, h.steps⟩, ⟨Sb, 5, .slice ax b.length cx, b⟩, ⟨SB, 23, .slice ar R.length cr, R⟩]) ((List.perm_append_comm (l₁ := ([] : Heap)) (l₂ := diskM db h a f)).cons _) (List.Perm.refl _)
    have H : Hp w S O _ [_, _, _] [_, _, _] _ := H
    refine uF 1 ?_
    refine uR 5 [.c [7, 0], .c [8]] ?_
    refine qG (sq 0 17) ?_
    refine uP 7 ?_
    refine qW 3 jb 4 (sq 8 17) (.I ((g : Int) + 1)) ((jb, .cells #[.P db 0, .string nm, .slice ab B.length cb, .slice ar R.length cr, .I ((g : Int) + 1), .string seg, .slice as_ σ.length cs, .bool sy] 41 (0, 0)) :: (diskM db h a f)) H 0 rfl rfl ?_
    intro _ H
    refine uP 2 ?_
    refine qW 9 jb 5 (sq 11 17) (.string (⟨#[]⟩ : ByteArray)) ((jb, .cells #[.P db 0, .string nm, .slice ab B.length cb, .slice ar R.length cr, .I ((g : Int) + 1), .string (⟨#[]⟩ : ByteArray), .slice as_ σ.length cs, .bool sy] 41 (0, 0)) :: (diskM db h a f)) H 0 rfl rfl ?_
    intro _ H
    refine uP 2 ?_
    refine qW 23 jb 6 (sq 14 17) (.slice none 0 0) ((jb, .cells #[.P db 0, .string nm, .slice ab B.length cb, .slice ar R.length cr, .I ((g : Int) + 1), .string (⟨#[]⟩ : ByteArray), .slice none 0 0, .bool sy] 41 (0, 0)) :: (diskM db h a f)) H 0 rfl rfl ?_
    intro _ H
    refine uP 2 ?_
    refine qW 4 jb 7 (sq 17 17) (.bool true) ((jb, .cells #[.P db 0, .string nm, .slice ab B.length cb, .slice ar R.length cr, .I ((g : Int) + 1), .string (⟨#[]⟩ : ByteArray), .slice none 0 0, .bool true] 41 (0, 0)) :: (diskM db h a f)) H 0 rfl rfl ?_
    intro _ H
    refine qF 0 [(0, .P jb 0), (1, .slice ax b.length cx)] ?_
    refine uR 1 [.c [8, 0], .c [9]] ?_
    refine qG (sq 0 10) ?_
    refine uP 3 ?_
    have H := H.frontW 1 rfl
    refine RW.appendO (κ := .seq) (d := some 59) (r := (sq 4 10)) (T := 23) (ty := 23) (e := 5) (m := 1) (by_ := 1) (a0 := none) (a2 := ax) (l2 := b.length) (c2 := cx) (by as_aux_lemma => kernel_rfl) (nofun) (.inl rfl) (by as_aux_lemma => kernel_rfl) rfl H (by omega) ?_
    intro l o _ H
    have H : Hp w S O _ [_, _, _] [Rp SB [.slice l b.length o] b, _, _, _] _ := H
    refine uP 2 ?_
    refine qW 23 jb 2 (sq 7 10) (.slice l b.length o) ((jb, .cells #[.P db 0, .string nm, .slice l b.length o, .slice ar R.length cr, .I ((g : Int) + 1), .string (⟨#[]⟩ : ByteArray), .slice none 0 0, .bool true] 41 (0, 0)) :: (diskM db h a f)) H 0 rfl rfl ?_
    intro _ H
    refine uP 2 ?_
    refine qW 22 jb 3 (sq 10 10) (.slice none 0 0) ((jb, .cells #[.P db 0, .string nm, .slice l b.length o, .slice none 0 0, .I ((g : Int) + 1), .string (⟨#[]⟩ : ByteArray), .slice none 0 0, .bool true] 41 (0, 0)) :: (diskM db h a f)) H 0 rfl rfl ?_
    intro _ H
    refine uF 0 ?_
    refine uR 2 [.c [10]] ?_
    refine qT (.I 0) Tryz.func15 ?_
    have H := H.ownNil SB 23
    have H : Hp w S O _ [⟨SB, 23, .slice none 0 0, ([] : List (List (BitVec 8)))⟩, _, _, _] [_, _, _, _] _ := H
    have H := H.add (F := Rp SB [.slice none 0 0] ([] : List (BitVec 8))) Shape.slice_nil
    have H := H.pick [1, 0] rfl
    have H := H.drop (M' := ((jb, .cells #[.P db 0, .string nm, .slice l b.length o, .slice none 0 0, .I ((g : Int) + 1), .string (⟨#[]⟩ : ByteArray), .slice none 0 0, .bool true] 41 (0, 0)) :: (diskM db h a f))) (W' := [⟨SB, 23, .slice none 0 0, ([] : List (List (BitVec 8)))⟩, ⟨Sb, 5, .slice ax b.length cx, b⟩, ⟨stepS, 143, .slice a h.steps.length f, h.steps⟩]) (by repeat (first | exact List.Sublist.refl _ | exact List.nil_sublist _ | apply List.Sublist.cons_cons | apply List.Sublist.cons)) (by repeat (first | exact List.Sublist.refl _ | exact List.nil_sublist _ | apply List.Sublist.cons_cons | apply List.Sublist.cons))
    have p := G
    exact ⟨_, rfl, .inl ⟨rfl, _, _, h, a, f, JL.fresh (DrS.done hp p), p.di, p.al.mono (Nat.le_add_right _ _), p.stp, p.cp, H⟩⟩
   ·
    have H := H.back (M1 := ((jb, .cells #[.P db 0, .string nm, .slice ab B.length cb, .slice ar R.length cr, .I g, .string seg, .slice as_ σ.length cs, .bool sy] 41 (0, 0)) :: diskM db k i j)) (W1 := [⟨stepS, 143, .slice i k.steps.length j, k.steps⟩]) H'
    have H := H.perms (M' := ((t, .cells #[.I 70] 204 (0, 0)) :: (jb, .cells #[.P db 0, .string nm, .slice ab B.length cb, .slice ar R.length cr, .I g, .string seg, .slice as_ σ.length cs, .bool sy] 41 (0, 0)) :: (diskM db h a f))) (W' := [⟨stepS, 143, .slice a h.steps.length f, h.steps⟩, ⟨Sb, 5, .slice ax b.length cx, b⟩, ⟨SB, 23, .slice ar R.length cr, R⟩]) (((List.perm_append_comm (l₁ := ([] : Heap)) (l₂ := diskM db h a f)).cons _).cons _) (List.Perm.refl _)
    have H : Hp w S O _ [_, _, _] [_, _, _] _ := H
    refine uF 1 ?_
    refine uR 4 [.c [6, 0, 2, 0, 0], .c [6, 0, 2, 0, 1], .c [7]] ?_
    refine qG (sq 0 3) ?_
    refine uP 1 ?_
    refine uKS (jnumber_spec ((H.lend (M1 := [(t, .cells #[.I 70] 204 (0, 0))]) (W1 := [])).pick [2] rfl)) ?_
    rintro _ _ ⟨rfl, H'⟩
    have H := H.back (M1 := [(t, .cells #[.I 70] 204 (0, 0))]) (W1 := []) H'
    have H : Hp w S O _ [_, _, _] [_, _, _] _ := H
    refine uF 1 ?_
    refine qT (.I 70) Tryz.func15 ?_
    have H := H.pick [0] rfl
    have H := H.frontW 1 rfl
    have H := H.frontW 2 rfl
    have H := H.drop (M' := ((jb, .cells #[.P db 0, .string nm, .slice ab B.length cb, .slice ar R.length cr, .I g, .string seg, .slice as_ σ.length cs, .bool sy] 41 (0, 0)) :: (diskM db h a f))) (W' := [⟨SB, 23, .slice ar R.length cr, R⟩, ⟨Sb, 5, .slice ax b.length cx, b⟩, ⟨stepS, 143, .slice a h.steps.length f, h.steps⟩]) (by repeat (first | exact List.Sublist.refl _ | exact List.nil_sublist _ | apply List.Sublist.cons_cons | apply List.Sublist.cons)) (by repeat (first | exact List.Sublist.refl _ | exact List.nil_sublist _ | apply List.Sublist.cons_cons | apply List.Sublist.cons))
    exact ⟨_, rfl, .inr ⟨_, _, _, _, h, a, f, rfl, (J).mono (Nat.le_refl _) fun B lo hi u => .inr ⟨u.1, List.prefix_nil.1 u.2.2⟩, H⟩⟩
  ·
   have H := H.back (M1 := ((jb, .cells #[.P db 0, .string nm, .slice ab B.length cb, .slice ar R.length cr, .I g, .string seg, .slice as_ σ.length cs, .bool sy] 41 (0, 0)) :: diskM db D0 sa0 sk0)) (W1 := [⟨Sb, 5, .slice ax b.length cx, b⟩, ⟨stepS, 143, .slice sa0 D0.steps.length sk0, D0.steps⟩]) H'
   have H := H.perms (M' := ((z, .cells #[.I 70] 204 (0, 0)) :: (jb, .cells #[.P db 0, .string nm, .slice ab B.length cb, .slice ar R.length cr, .I g, .string seg, .slice as_ σ.length cs, .bool sy] 41 (0, 0)) :: (diskM db k i j))) (W' := [⟨Sb, 5, .slice ax b.length cx, b⟩, ⟨stepS, 143, .slice i k.steps.length j, k.steps⟩, ⟨SB, 23, .slice ar R.length cr, R⟩]) (((List.perm_append_comm (l₁ := ([] : Heap)) (l₂ := diskM db k i j)).cons _).cons _) (List.Perm.refl _)
   have H : Hp w S O _ [_, _, _] [_, _, _] _ := H
   refine uF 1 ?_
   refine uR 4 [.c [5, 0, 2, 0, 0], .c [5, 0, 2, 0, 1], .c [6]] ?_
   refine qG (sq 0 3) ?_
   refine uP 1 ?_
   refine uKS (jnumber_spec ((H.lend (M1 := [(z, .cells #[.I 70] 204 (0, 0))]) (W1 := [])).pick [2] rfl)) ?_
   rintro _ _ ⟨rfl, H'⟩
   have H := H.back (M1 := [(z, .cells #[.I 70] 204 (0, 0))]) (W1 := []) H'
   have H : Hp w S O _ [_, _, _] [_, _, _] _ := H
   refine uF 1 ?_
   refine qT (.I 70) Tryz.func15 ?_
   have H := H.pick [0] rfl
   have H := H.frontW 1 rfl
   have H := H.frontW 1 rfl
   have H := H.frontW 2 rfl
   have H := H.drop (M' := ((jb, .cells #[.P db 0, .string nm, .slice ab B.length cb, .slice ar R.length cr, .I g, .string seg, .slice as_ σ.length cs, .bool sy] 41 (0, 0)) :: (diskM db k i j))) (W' := [⟨SB, 23, .slice ar R.length cr, R⟩, ⟨Sb, 5, .slice ax b.length cx, b⟩, ⟨stepS, 143, .slice i k.steps.length j, k.steps⟩]) (by repeat (first | exact List.Sublist.refl _ | exact List.nil_sublist _ | apply List.Sublist.cons_cons | apply List.Sublist.cons)) (by repeat (first | exact List.Sublist.refl _ | exact List.nil_sublist _ | apply List.Sublist.cons_cons | apply List.Sublist.cons))
   exact ⟨_, rfl, .inr ⟨_, _, _, _, k, i, j, rfl, (D).mono (Nat.le_refl _) fun _ _ _ u => by rw [← hB, ← K, ← hR]; exact u, H⟩⟩
set_option maxHeartbeats 2000000 in
theorem jappend_own {S : Nat → Prop} {w : World} {O : List Nat} {jb db g : Nat} {nm seg : ByteArray} {sy : Bool} {B σ : List (BitVec 8)} {R0 R : List (List (BitVec 8))} {ab ar as_ : Option Addr} {cb cr cs n q : Nat} {D0 : DiskD} {sa0 : Option Addr} {sk0 : Nat} {r : List (BitVec 8)} {ax : Option Addr} {cx : Nat} (hp : PlainB nm) (hd : DI D0) (ha : Al D0 (n + 300000)) (hJ : JL D0 nm B R0 R g seg σ sy q) (hg : g < 1000000) (hr : r.length ≤ 4194304) (hσ : σ.length + r.length ≤ 3900000) (hRl : R.length ≤ 65536) (hroom : D0.now.length < 256) (H0 : Hp w S O ((jb, .cells #[.P db 0, .string nm, .slice ab B.length cb, .slice ar R.length cr, .I g, .string seg, .slice as_ σ.length cs, .bool sy] 41 (0, 0)) :: diskM db D0 sa0 sk0) [⟨SB, 23, .slice ar R.length cr, R⟩, ⟨Sb, 5, .slice ax r.length cx, r⟩, ⟨stepS, 143, .slice sa0 D0.steps.length sk0, D0.steps⟩] [Rp SB [.slice ab B.length cb] B, Rp SB [.slice as_ σ.length cs] σ, Fz jQ] w) :
 Calls Tryz.prog 16 #[.P jb 0, .slice ax r.length cx] w (Ret fun v w' => (v = .I 0 ∧ ∃ (g' : Nat) (seg' : ByteArray) (ar' : Option Addr) (cr' : Nat) (as' : Option Addr) (cs' : Nat) (D' : DiskD) (sa' : Option Addr) (sk' : Nat), JL D' nm B R0 (R ++ [r]) g' seg' (σ ++ frameF r) false q ∧ g' ≤ g + 1 ∧ DI D' ∧ Al D' n ∧ Stp nm D0 D' ∧ Cp 1 D0 D' ∧ Dry D0 D' ∧ Hp w S O ((jb, .cells #[.P db 0, .string nm, .slice ab B.length cb, .slice ar' (R ++ [r]).length cr', .I g', .string seg', .slice as' (σ ++ frameF r).length cs', .bool false] 41 (0, 0)) :: diskM db D' sa' sk') [⟨SB, 23, .slice ar' (R ++ [r]).length cr', (R ++ [r])⟩, ⟨Sb, 5, .slice ax r.length cx, r⟩, diskW D' sa' sk'] [Rp SB [.slice ab B.length cb] B, Rp SB [.slice as' (σ ++ frameF r).length cs'] (σ ++ frameF r)] w') ∨ (∃ (y4 y5 y6 y7 : Value) (D' : DiskD) (sa' : Option Addr) (sk' : Nat), v = .I 70 ∧ Dd D0 D' nm (g + 1) (fun B' lo hi => B' = B ∧ R0 <+: lo ∧ hi <+: R ++ [r]) ∧ Hp w S O ((jb, .cells #[.P db 0, .string nm, .slice ab B.length cb, .slice ar R.length cr, y4, y5, y6, y7] 41 (0, 0)) :: diskM db D' sa' sk') [⟨SB, 23, .slice ar R.length cr, R⟩, ⟨Sb, 5, .slice ax r.length cx, r⟩, diskW D' sa' sk'] [Rp SB [.slice ab B.length cb] B] w')) := by
 obtain ⟨V, cur, hL, hB, D, hR, hseg, hst, _, _, hVq⟩ := hJ
 have E : 1 ≤ gO g cur ∧ gO g cur ≤ 1000000 := by
  cases cur with
  | none => exact ⟨Nat.succ_pos _, hg⟩
  | some c => exact ⟨hL.lv.segN.2.2, Nat.le_of_lt hg⟩
 have hfr : framesF (hiO cur ++ [r]) = σ ++ frameF r := by rw [hst, framesF_app, framesF_one]
 have k : (σ ++ frameF r).length = σ.length + (r.length + 12) := by rw [List.length_append, frame_len]
 have F := apP (n := n) hp hL hg hr (by rw [hfr, k]; omega) hroom
 rw [hfr] at F
 have Q : ApS D0 nm V cur g r n (σ.length / 63) D0 := by rw [hst]; exact ApS.start hd (ha.mono (by omega)) hL hr
 have U := (fform_s hp E.1 E.2).size.1
 refine uS1 Tryz.func16 ?_
 have H := H0
 refine uR 4 [.c [1, 0, 0], .c [1, 0, 1], .c [2]] ?_
 refine qG (sq 0 3) ?_
 refine uP 1 ?_
 have H := H.frontW 2 rfl
 have H := H.perms (M' := ((jb, .cells #[.P db 0, .string nm, .slice ab B.length cb, .slice ar R.length cr, .I g, .string seg, .slice as_ σ.length cs, .bool sy] 41 (0, 0)) :: diskM db D0 sa0 sk0) ++ []) (W' := [⟨stepS, 143, .slice sa0 D0.steps.length sk0, D0.steps⟩, ⟨SB, 23, .slice ar R.length cr, R⟩, ⟨Sb, 5, .slice ax r.length cx, r⟩]) ((List.perm_append_comm (l₁ := diskM db D0 sa0 sk0) (l₂ := ([] : Heap))).cons _) (List.Perm.refl _)
 refine uKS (state_go ha.dead ((H.lend (M1 := ((jb, .cells #[.P db 0, .string nm, .slice ab B.length cb, .slice ar R.length cr, .I g, .string seg, .slice as_ σ.length cs, .bool sy] 41 (0, 0)) :: diskM db D0 sa0 sk0)) (W1 := [⟨stepS, 143, .slice sa0 D0.steps.length sk0, D0.steps⟩])).pick [] rfl)) ?_
 rintro _ _ ⟨rfl, H'⟩
 have H := H.back (M1 := ((jb, .cells #[.P db 0, .string nm, .slice ab B.length cb, .slice ar R.length cr, .I g, .string seg, .slice as_ σ.length cs, .bool sy] 41 (0, 0)) :: diskM db D0 sa0 sk0)) (W1 := [⟨stepS, 143, .slice sa0 D0.steps.length sk0, D0.steps⟩]) H'
 have H := H.perms (M' := ((jb, .cells #[.P db 0, .string nm, .slice ab B.length cb, .slice ar R.length cr, .I g, .string seg, .slice as_ σ.length cs, .bool sy] 41 (0, 0)) :: (diskM db D0 sa0 sk0))) (W' := [⟨stepS, 143, .slice sa0 D0.steps.length sk0, D0.steps⟩, ⟨SB, 23, .slice ar R.length cr, R⟩, ⟨Sb, 5, .slice ax r.length cx, r⟩]) ((List.perm_append_comm (l₁ := ([] : Heap)) (l₂ := diskM db D0 sa0 sk0)).cons _) (List.Perm.refl _)
 have H : Hp w S O _ [_, _, _] [_, _, _] _ := H
 refine uF 1 ?_
 refine uR 6 [.c [2, 0, 0], .c [2, 0, 1], .c [3]] ?_
 refine qG (sq 0 11) ?_
 refine uP 4 ?_
 refine uD 20 ((((r.length : Nat) : Int) : Int) > 4194304) (fun h2 => ?_) (fun h2 => ?_)
 ·
  omega
 ·
  refine uP 3 ?_
  refine uV 22 3 (H.cells 0 rfl) ?_
  refine uF 3 ?_
  refine qD ((((R.length : Nat) : Int) : Int) > 65536) (fun h3 => ?_) (fun h3 => ?_)
  ·
   omega
  ·
   refine uR 3 [.c [3, 0, 0], .c [3, 0, 1], .c [4]] ?_
   refine qG (sq 0 3) ?_
   refine uP 1 ?_
   have H := H.perms (M' := ((jb, .cells #[.P db 0, .string nm, .slice ab B.length cb, .slice ar R.length cr, .I g, .string seg, .slice as_ σ.length cs, .bool sy] 41 (0, 0)) :: diskM db D0 sa0 sk0) ++ []) (W' := [⟨stepS, 143, .slice sa0 D0.steps.length sk0, D0.steps⟩, ⟨SB, 23, .slice ar R.length cr, R⟩, ⟨Sb, 5, .slice ax r.length cx, r⟩]) ((List.perm_append_comm (l₁ := diskM db D0 sa0 sk0) (l₂ := ([] : Heap))).cons _) (List.Perm.refl _)
   refine uKS (state_go ha.dead ((H.lend (M1 := ((jb, .cells #[.P db 0, .string nm, .slice ab B.length cb, .slice ar R.length cr, .I g, .string seg, .slice as_ σ.length cs, .bool sy] 41 (0, 0)) :: diskM db D0 sa0 sk0)) (W1 := [⟨stepS, 143, .slice sa0 D0.steps.length sk0, D0.steps⟩])).pick [] rfl)) ?_
   rintro _ _ ⟨rfl, H'⟩
   have H := H.back (M1 := ((jb, .cells #[.P db 0, .string nm, .slice ab B.length cb, .slice ar R.length cr, .I g, .string seg, .slice as_ σ.length cs, .bool sy] 41 (0, 0)) :: diskM db D0 sa0 sk0)) (W1 := [⟨stepS, 143, .slice sa0 D0.steps.length sk0, D0.steps⟩]) H'
   have H := H.perms (M' := ((jb, .cells #[.P db 0, .string nm, .slice ab B.length cb, .slice ar R.length cr, .I g, .string seg, .slice as_ σ.length cs, .bool sy] 41 (0, 0)) :: (diskM db D0 sa0 sk0))) (W' := [⟨stepS, 143, .slice sa0 D0.steps.length sk0, D0.steps⟩, ⟨SB, 23, .slice ar R.length cr, R⟩, ⟨Sb, 5, .slice ax r.length cx, r⟩]) ((List.perm_append_comm (l₁ := ([] : Heap)) (l₂ := diskM db D0 sa0 sk0)).cons _) (List.Perm.refl _)
   have H : Hp w S O _ [_, _, _] [_, _, _] _ := H
   refine uF 1 ?_
   refine qR 5 [.c [4, 0], .c [5]] [(0, .P jb 0), (1, .slice ax r.length cx)] ?_
   refine qG (sq 0 7) ?_
   refine uP 1 ?_
   refine uK (frame_spec (S := fun _ => True) (xs := r) (H.view 2 rfl) (by omega)) ?_
   rintro _ w5 - ⟨l, p, rfl, H'⟩
   have H := H.back (M1 := []) (W1 := []) (Hp.reS H')
   have H : Hp w S O _ [⟨Sb, 5, .slice l (frameF r).length p, (frameF r)⟩, _, _, _] [_, _, _] _ := H
   refine uF 5 ?_
   refine uR 2 [.c [5, 0, 0], .c [5, 0, 1], .c [6]] ?_
   refine qG (sq 0 5) ?_
   refine uP 3 ?_
   refine uV 9 5 (H.cells 0 rfl) ?_
   refine uF 1 ?_
   refine WK.joinV (α := Nat) (fun x_ w_ => match x_ with | W => Hp w S O ((jb, .cells #[.P db 0, .string nm, .slice ab B.length cb, .slice ar R.length cr, .I ((gO g cur : Nat) : Int), .string (sN nm (gO g cur)), .slice as_ σ.length cs, .bool sy] 41 (0, 0)) :: (diskM db D0 sa0 sk0)) [⟨Sb, 5, .slice l (frameF r).length p, (frameF r)⟩, ⟨stepS, 143, .slice sa0 D0.steps.length sk0, D0.steps⟩, ⟨SB, 23, .slice ar R.length cr, R⟩, ⟨Sb, 5, .slice ax r.length cx, r⟩] [Rp SB [.slice ab B.length cb] B, Rp SB [.slice as_ σ.length cs] σ, Fz jQ] w_ ∧ True) (fun x_ => match x_ with | W => [(0, .P jb 0), (1, .slice ax r.length cx), (7, .slice l (frameF r).length p)]) [Cq Tryz.prog 16 [6]] (fun G => ?_) ?_
   ·
    refine qE seg.toList ((⟨#[]⟩ : ByteArray).toList) (fun x => ?_) (fun x => ?_)
    ·
     have hcur : cur = none := by
      cases hc : cur with
      | none => rfl
      | some c => rw [hseg, hc] at x; exact absurd x (sN_ne nm g)
     refine uR 1 [.c [5, 0, 1, 0, 0], .c [5, 0, 1, 0, 1], .c [6]] ?_
     refine qG (sq 0 8) ?_
     refine uP 3 ?_
     refine uV 3 4 (H.cells 0 rfl) ?_
     refine uI ((g : Int) + 1) ?_
     refine uP 2 ?_
     refine qW 3 jb 4 (sq 8 8) (.I ((g : Int) + 1)) ((jb, .cells #[.P db 0, .string nm, .slice ab B.length cb, .slice ar R.length cr, .I ((g : Int) + 1), .string seg, .slice as_ σ.length cs, .bool sy] 41 (0, 0)) :: (diskM db D0 sa0 sk0)) H 0 rfl rfl ?_
     intro _ H
     refine uF 0 ?_
     refine qG (sq 0 10) ?_
     refine uP 5 ?_
     refine uV 3 4 (H.cells 0 rfl) ?_
     have K := H.viewF 2 rfl
     refine uK (jfile_spec (S := fun _ => True) (kd := kS) (n := g + 1) (H.viewM 0 rfl (by simp)) K (by omega) hp (.inl rfl)) ?_
     rintro _ _ L rfl
     have H := H.ext L
     refine qP 2 (sq 9 10) [(0, .P jb 0), (1, .slice ax r.length cx), (7, .slice l (frameF r).length p), (56, .string (sN nm (g + 1))), (58, .P jb 5)] ?_
     refine qW 9 jb 5 (sq 10 10) (.string (sN nm (g + 1))) ((jb, .cells #[.P db 0, .string nm, .slice ab B.length cb, .slice ar R.length cr, .I ((g : Int) + 1), .string (sN nm (g + 1)), .slice as_ σ.length cs, .bool sy] 41 (0, 0)) :: (diskM db D0 sa0 sk0)) H 0 rfl rfl ?_
     intro X H
     refine uF 0 ?_
     have H : Hp w S O ((jb, .cells #[.P db 0, .string nm, .slice ab B.length cb, .slice ar R.length cr, .I ((gO g cur : Nat) : Int), .string (sN nm (gO g cur)), .slice as_ σ.length cs, .bool sy] 41 (0, 0)) :: (diskM db D0 sa0 sk0)) [⟨Sb, 5, .slice l (frameF r).length p, (frameF r)⟩, ⟨stepS, 143, .slice sa0 D0.steps.length sk0, D0.steps⟩, ⟨SB, 23, .slice ar R.length cr, R⟩, ⟨Sb, 5, .slice ax r.length cx, r⟩] [Rp SB [.slice ab B.length cb] B, Rp SB [.slice as_ σ.length cs] σ, Fz jQ] X := by rw [hcur]; exact H
     exact uB (G (0) _ ⟨H, trivial⟩)
    ·
     obtain ⟨c, hcur⟩ : ∃ c, cur = some c := by
      cases hc : cur with
      | none => exact absurd (by rw [hseg, hc]; rfl) x
      | some c => exact ⟨c, rfl⟩
     refine uR 1 [.c [6]] ?_
     have H : Hp w S O ((jb, .cells #[.P db 0, .string nm, .slice ab B.length cb, .slice ar R.length cr, .I ((gO g cur : Nat) : Int), .string (sN nm (gO g cur)), .slice as_ σ.length cs, .bool sy] 41 (0, 0)) :: (diskM db D0 sa0 sk0)) [⟨Sb, 5, .slice l (frameF r).length p, (frameF r)⟩, ⟨stepS, 143, .slice sa0 D0.steps.length sk0, D0.steps⟩, ⟨SB, 23, .slice ar R.length cr, R⟩, ⟨Sb, 5, .slice ax r.length cx, r⟩] [Rp SB [.slice ab B.length cb] B, Rp SB [.slice as_ σ.length cs] σ, Fz jQ] w5 := by rw [hcur]; rw [hseg, hcur] at H; exact H
     exact uB (G (0) _ ⟨H, trivial⟩)
   ·
    rintro W _ ⟨H, -⟩
    refine uR 1 [.c [6, 0], .c [7]] ?_
    refine qG (sq 0 6) ?_
    refine uP 3 ?_
    refine uV 23 6 (H.cells 0 rfl) ?_
    refine uF 2 ?_
    refine uR 1 [.c [7, 0], .c [8]] ?_
    refine qG (sq 0 10) ?_
    refine uP 3 ?_
    refine uV 23 6 (H.cells 0 rfl) ?_
    refine qP 2 (sq 6 10) [(0, .P jb 0), (1, .slice ax r.length cx), (7, .slice l (frameF r).length p), (9, .I ((σ.length : Nat) : Int)), (67, .slice as_ σ.length cs), (68, .I ((σ.length : Nat) : Int)), (69, .I ((σ.length : Nat) : Int))] ?_
    refine RW.clip (κ := .seq) (d := some 70) (r := (sq 7 10)) (T := 23) (e := 5) (sh := Sb) (a := as_) (len := σ.length) (cap := cs) (k1 := .i64) (t1 := ((σ.length : Nat) : Int)) (k2 := .i64) (t2 := ((σ.length : Nat) : Int)) (by as_aux_lemma => kernel_rfl) (by as_aux_lemma => kernel_rfl) H 1 rfl (by omega) (by omega) ?_
    intro H
    refine uP 1 ?_
    have H : Hp w S O _ [_, _, _] [Rp SB [.slice l (frameF r).length p] (frameF r), Rp SB [.slice as_ σ.length σ.length] σ, _, _, _] _ := H.freezeW 0 rfl
    refine RW.appendC (κ := .seq) (d := some 72) (r := (sq 9 10)) (T := 23) (ty := 23) (e := 5) (m := 1) (by_ := 1) (a1 := as_) (l1 := σ.length) (a2 := l) (l2 := (frameF r).length) (c2 := p) (zs := (σ ++ (frameF r))) (by as_aux_lemma => kernel_rfl) (nofun) (by as_aux_lemma => kernel_rfl) rfl H 1 rfl 0 rfl (by rw [frame_len]; omega) (rfl) (by rw [k]; omega) ?_
    intro s t _ H
    refine uF 1 ?_
    refine uR 2 [.c [8, 0, 0], .c [8, 0, 1], .c [9]] ?_
    refine qG (sq 0 9) ?_
    refine uP 4 ?_
    refine uV 9 5 (H.cells 0 rfl) ?_
    refine uP 2 ?_
    have H := H.perms (M' := ((jb, .cells #[.P db 0, .string nm, .slice ab B.length cb, .slice ar R.length cr, .I ((gO g cur : Nat) : Int), .string (sN nm (gO g cur)), .slice as_ σ.length cs, .bool sy] 41 (0, 0)) :: diskM db D0 sa0 sk0) ++ []) (W' := [⟨stepS, 143, .slice sa0 D0.steps.length sk0, D0.steps⟩, ⟨SB, 23, .slice ar R.length cr, R⟩, ⟨Sb, 5, .slice ax r.length cx, r⟩]) ((List.perm_append_comm (l₁ := diskM db D0 sa0 sk0) (l₂ := ([] : Heap))).cons _) (List.Perm.refl _)
    refine uKS (jwrite_spec (τ := (σ ++ (frameF r))) (fr := σ.length) F Q rfl (by rw [k]; omega) (by rw [k]; omega) U ((H.lend (M1 := ((jb, .cells #[.P db 0, .string nm, .slice ab B.length cb, .slice ar R.length cr, .I ((gO g cur : Nat) : Int), .string (sN nm (gO g cur)), .slice as_ σ.length cs, .bool sy] 41 (0, 0)) :: diskM db D0 sa0 sk0)) (W1 := [⟨stepS, 143, .slice sa0 D0.steps.length sk0, D0.steps⟩])).pick [0] rfl)) ?_
    rintro _ _ (⟨_, M, _, rfl, i, f, h, j, H'⟩ | ⟨u, rfl, i, f, h, N, H'⟩)
    ·
     have H := H.back (M1 := ((jb, .cells #[.P db 0, .string nm, .slice ab B.length cb, .slice ar R.length cr, .I ((gO g cur : Nat) : Int), .string (sN nm (gO g cur)), .slice as_ σ.length cs, .bool sy] 41 (0, 0)) :: diskM db D0 sa0 sk0)) (W1 := [⟨stepS, 143, .slice sa0 D0.steps.length sk0, D0.steps⟩]) H'
     have H := H.perms (M' := ((jb, .cells #[.P db 0, .string nm, .slice ab B.length cb, .slice ar R.length cr, .I ((gO g cur : Nat) : Int), .string (sN nm (gO g cur)), .slice as_ σ.length cs, .bool sy] 41 (0, 0)) :: (diskM db i f h))) (W' := [⟨stepS, 143, .slice f i.steps.length h, i.steps⟩, ⟨SB, 23, .slice ar R.length cr, R⟩, ⟨Sb, 5, .slice ax r.length cx, r⟩]) ((List.perm_append_comm (l₁ := ([] : Heap)) (l₂ := diskM db i f h)).cons _) (List.Perm.refl _)
     have H : Hp w S O _ [_, _, _] [Rp SB [.slice s ((σ ++ (frameF r)).length) t] (σ ++ (frameF r)), _, _, _, _, _] _ := H
     obtain ⟨_, Y, Z, b0⟩ := j.done (by rw [hfr]; exact M) (by rw [hfr, k]; omega)
     refine uF 1 ?_
     refine uR 5 [.c [9, 0], .c [10]] ?_
     refine qG (sq 0 9) ?_
     refine uP 5 ?_
     refine qW 23 jb 6 (sq 6 9) (.slice s ((σ ++ (frameF r)).length) t) ((jb, .cells #[.P db 0, .string nm, .slice ab B.length cb, .slice ar R.length cr, .I ((gO g cur : Nat) : Int), .string (sN nm (gO g cur)), .slice s ((σ ++ (frameF r)).length) t, .bool sy] 41 (0, 0)) :: (diskM db i f h)) H 0 rfl rfl ?_
     intro _ H
     refine uP 2 ?_
     refine qW 4 jb 7 (sq 9 9) (.bool false) ((jb, .cells #[.P db 0, .string nm, .slice ab B.length cb, .slice ar R.length cr, .I ((gO g cur : Nat) : Int), .string (sN nm (gO g cur)), .slice s ((σ ++ (frameF r)).length) t, .bool false] 41 (0, 0)) :: (diskM db i f h)) H 0 rfl rfl ?_
     intro J H
     refine uF 0 ?_
     refine qR 1 [.c [10, 0], .c [11]] [(0, .P jb 0), (1, .slice ax r.length cx)] ?_
     refine WK.drawP1 8 [0, 1, 2, 3, 5] [(97, .slice ax r.length cx), (95, .P jb 3), (94, .P jb 0), (93, .P jb 0), (92, .P jb 0), (0, .P jb 0), (1, .slice ax r.length cx)] [(4, .qui), (6, .chn), (7, .chn)] [(4, .qui), (6, .chn), (7, .chn), (8, .seq), (9, .seq), (10, .seq), (11, .seq)] Tryz_mixed (by as_aux_lemma => kernel_rfl) (by as_aux_lemma => kernel_rfl) (by as_aux_lemma => kernel_rfl) (by as_aux_lemma => kernel_rfl) ?_
     have H := H.draw
     generalize ({ J with drawn := J.drawn + 1 } : World) = d0 at H ⊢
     refine uV 22 3 (H.cells 0 rfl) ?_
     have H := H.frontW 2 rfl
     refine RW.appendO (κ := .chn) (d := some 98) (r := [(7, .chn), (8, .seq), (9, .seq), (10, .seq), (11, .seq)]) (T := 23) (ty := 23) (e := 5) (m := 1) (by_ := 1) (a0 := none) (a2 := ax) (l2 := r.length) (c2 := cx) (by as_aux_lemma => kernel_rfl) (nofun) (.inl rfl) (by as_aux_lemma => kernel_rfl) rfl H (by omega) ?_
     intro y z _ H
     have H : Hp w S O _ [_, _, _] [Rp SB [.slice y r.length z] r, _, _, _, _, _, _] _ := H
     refine RW.new (κ := .chn) (d := some 99) (r := [(8, .seq), (9, .seq), (10, .seq), (11, .seq)]) (o := .cells #[.slice y r.length z] 23 (0, 0)) (v := fun b => .slice (some ⟨b, 0, none⟩) 1 1) (fun b => by as_aux_lemma => kernel_rfl) (nofun) H ?_
     intro c0 _ H
     have H := H.freeze 0 rfl SB ([r] : List (List (BitVec 8))) 1 (by simp [maxLen]) (by first | exact Nat.le_refl _ | simp) (EsP.cons (c := [.slice y r.length z]) (H.rp 0 rfl) EsP.nil)
     have H : Hp w S O _ [_, _, _] [Rp (Shape.slice SB) [.slice (some ⟨c0, 0, none⟩) 1 1] ([r] : List (List (BitVec 8))), _, _, _, _, _, _, _] _ := H
     refine uA 22 22 24 (R ++ ([r] : List (List (BitVec 8)))) H 2 rfl 0 rfl (rfl) (by rw [List.length_append]; simp only [List.length_cons, List.length_nil]; omega) ?_
     intro A C _ H _
     have H : Hp w S O _ [_, _, ⟨SB, 23, .slice A ((R ++ ([r] : List (List (BitVec 8)))).length) C, R ++ ([r] : List (List (BitVec 8)))⟩] [_, _, _, _, _, _, _, _] _ := H
     refine uP 2 ?_
     refine qW 22 jb 3 [] (.slice A ((R ++ ([r] : List (List (BitVec 8)))).length) C) ((jb, .cells #[.P db 0, .string nm, .slice ab B.length cb, .slice A ((R ++ ([r] : List (List (BitVec 8)))).length) C, .I ((gO g cur : Nat) : Int), .string (sN nm (gO g cur)), .slice s ((σ ++ (frameF r)).length) t, .bool false] 41 (0, 0)) :: (diskM db i f h)) H 0 rfl rfl ?_
     intro _ H
     refine uF 0 ?_
     refine uR 2 [.c [12]] ?_
     refine qT (.I 0) Tryz.func16 ?_
     have H := H.pick [5, 2] rfl
     have H := H.frontW 1 rfl
     have H := H.frontW 1 rfl
     have H := H.frontW 2 rfl
     have hJL := JL.app hVq Y Z b0
     rw [hB, D, hR, hfr] at hJL
     exact ⟨_, rfl, .inl ⟨rfl, _, _, _, _, _, _, i, f, h, hJL, gO_le g cur, (j).di, (j).al.mono (by omega), (j).stp, (j).cp, (j).dry, H⟩⟩
    ·
     have H := H.back (M1 := ((jb, .cells #[.P db 0, .string nm, .slice ab B.length cb, .slice ar R.length cr, .I ((gO g cur : Nat) : Int), .string (sN nm (gO g cur)), .slice as_ σ.length cs, .bool sy] 41 (0, 0)) :: diskM db D0 sa0 sk0)) (W1 := [⟨stepS, 143, .slice sa0 D0.steps.length sk0, D0.steps⟩]) H'
     have H := H.perms (M' := ((u, .cells #[.I 70] 204 (0, 0)) :: (jb, .cells #[.P db 0, .string nm, .slice ab B.length cb, .slice ar R.length cr, .I ((gO g cur : Nat) : Int), .string (sN nm (gO g cur)), .slice as_ σ.length cs, .bool sy] 41 (0, 0)) :: (diskM db i f h))) (W' := [⟨stepS, 143, .slice f i.steps.length h, i.steps⟩, ⟨SB, 23, .slice ar R.length cr, R⟩, ⟨Sb, 5, .slice ax r.length cx, r⟩]) (((List.perm_append_comm (l₁ := ([] : Heap)) (l₂ := diskM db i f h)).cons _).cons _) (List.Perm.refl _)
     have H : Hp w S O _ [_, _, _] [_, _, _, _, _, _] _ := H
     refine uF 1 ?_
     refine uR 4 [.c [8, 0, 2, 0, 0], .c [8, 0, 2, 0, 1], .c [9]] ?_
     refine qG (sq 0 3) ?_
     refine uP 1 ?_
     refine uKS (jnumber_spec ((H.lend (M1 := [(u, .cells #[.I 70] 204 (0, 0))]) (W1 := [])).pick [5] rfl)) ?_
     rintro _ _ ⟨rfl, H'⟩
     have H := H.back (M1 := [(u, .cells #[.I 70] 204 (0, 0))]) (W1 := []) H'
     have H : Hp w S O _ [_, _, _] [_, _, _, _, _, _] _ := H
     refine uF 1 ?_
     refine qT (.I 70) Tryz.func16 ?_
     have H := H.pick [3] rfl
     have H := H.frontW 2 rfl
     have H := H.frontW 2 rfl
     have H := H.drop (M' := ((jb, .cells #[.P db 0, .string nm, .slice ab B.length cb, .slice ar R.length cr, .I ((gO g cur : Nat) : Int), .string (sN nm (gO g cur)), .slice as_ σ.length cs, .bool sy] 41 (0, 0)) :: (diskM db i f h))) (W' := [⟨SB, 23, .slice ar R.length cr, R⟩, ⟨Sb, 5, .slice ax r.length cx, r⟩, ⟨stepS, 143, .slice f i.steps.length h, i.steps⟩]) (by repeat (first | exact List.Sublist.refl _ | exact List.nil_sublist _ | apply List.Sublist.cons_cons | apply List.Sublist.cons)) (by repeat (first | exact List.Sublist.refl _ | exact List.nil_sublist _ | apply List.Sublist.cons_cons | apply List.Sublist.cons))
     exact ⟨_, rfl, .inr ⟨_, _, _, _, i, f, h, rfl, (N).mono (gO_le g cur) fun _ _ _ h9 => by rw [← hB, ← D, ← hR, List.append_assoc]; exact h9, H⟩⟩
theorem jrecs_one {S : Nat → Prop} {w : World} {O : List Nat} {jb db : Nat} {nm : ByteArray} {x2 x4 x5 x6 x7 : Value} {x : List (BitVec 8)} {ar : Option Addr} {cr : Nat} (hx : x.length ≤ 4194304) (H0 : Hp w S O [(jb, .cells #[.P db 0, .string nm, x2, .slice ar 1 cr, x4, x5, x6, x7] 41 (0, 0))] [⟨SB, 23, .slice ar 1 cr, [x]⟩] [] w) :
 Calls Tryz.prog 19 #[.P jb 0] w (Ret fun v w' => ∃ (a' : Option Addr) (c' : Nat) (p' : Option Addr) (q' : Nat), v = .slice a' 1 c' ∧ Hp w S O [(jb, .cells #[.P db 0, .string nm, x2, .slice ar 1 cr, x4, x5, x6, x7] 41 (0, 0))] [⟨Shape.raw, 23, .slice a' 1 c', [.slice p' x.length q']⟩, ⟨Sb, 5, .slice p' x.length q', x⟩, ⟨SB, 23, .slice ar 1 cr, [x]⟩] [] w') := by
 refine uS1 Tryz.func19 ?_
 have H := H0
 refine uR 11 [.c [3, 0, 0], .c [3, 0, 1], .c [4]] ?_
 refine qG (sq 0 6) ?_
 refine uP 3 ?_
 refine uV 22 3 (H.cells 0 rfl) ?_
 refine uF 2 ?_
 refine uR 1 [.c [3, 0, 1, 0], .b 0, .c [4]] ?_
 refine uL (α := Unit) (g := 19) (p := [3, 0, 1, 0, 0]) (fun _ => [(3, .slice none 0 0), (11, .slice ar 1 cr), (12, .I 1), (13, .I 0)]) (fun _ w' => Hp w S O [(jb, .cells #[.P db 0, .string nm, x2, .slice ar 1 cr, x4, x5, x6, x7] 41 (0, 0))] [⟨SB, 23, .slice ar 1 cr, [x]⟩] [] w' ∧ True) (fun _ => 0) (()) ⟨H, trivial⟩ ?_
 rintro _ _ ⟨H, _⟩ _
 refine uR 8 [.c [3, 0, 1, 0, 0, 2, 0, 0, 0], .c [3, 0, 1, 0, 0, 2, 0, 0, 1], .b 1, .c [3, 0, 1, 0, 0, 3], .l [3, 0, 1, 0, 0], .b 0, .c [4]] ?_
 refine qG (sq 0 3) ?_
 have q : 1 = [x].length := rfl
 have s : 0 < [x].length := Nat.zero_lt_one
 refine RW.indexW (κ := .seq) (d := some 15) (r := (sq 1 3)) (T := 22) (e := 23) (m := 1) (ik := .i64) (ix := 0) (sh := SB) (xs := [x]) (a := ar) (len := 1) (cap := cr) (by as_aux_lemma => kernel_rfl) (by as_aux_lemma => kernel_rfl) rfl H 0 (by omega) s q ?_
 intro _ _ _ i j
 obtain ⟨_, _, rfl⟩ := Shape.slice_form' j
 have H := H.addR j
 refine uV 23 0 i ?_
 refine uF 1 ?_
 refine qG (sq 0 6) ?_
 refine uP 2 ?_
 have H := H.ownNil Sb 5
 have H : Hp w S O [_] [⟨Sb, 5, .slice none 0 0, []⟩, _] [_] _ := H
 refine uA 23 23 1 x H 0 rfl 0 rfl (rfl) (by omega) ?_
 intro f h _ H _
 have H : Hp w S O [_] [⟨Sb, 5, .slice f x.length h, x⟩, _] [_] _ := H
 refine RW.new (κ := .seq) (d := some 20) (r := (sq 4 6)) (o := .cells #[.slice f x.length h] 23 (0, 0)) (v := fun b => .slice (some ⟨b, 0, none⟩) 1 1) (fun b => by as_aux_lemma => kernel_rfl) (nofun) H ?_
 intro t _ H
 have H := H.freeze 0 rfl Shape.raw ([.slice f x.length h] : List Value) 1 (by simp [maxLen]) (Nat.le_refl _) (EsP.cons (c := [.slice f x.length h]) ⟨rfl, rfl⟩ EsP.nil)
 have H : Hp w S O [_] [_, _] [Rp (Shape.slice Shape.raw) [.slice (some ⟨t, 0, none⟩) 1 1] ([.slice f x.length h] : List Value), _] _ := H
 have H := H.ownNil Shape.raw 23
 have H : Hp w S O [_] [⟨Shape.raw, 23, .slice none 0 0, ([] : List Value)⟩, _, _] [_, _] _ := H
 refine uA 22 22 24 ([.slice f x.length h] : List Value) H 0 rfl 0 rfl (rfl) (by show 1 * 24 ≤ _ ∧ 1 ≤ _; decide) ?_
 intro k n _ H _
 have H : Hp w S O [_] [⟨Shape.raw, 23, .slice k 1 n, ([.slice f x.length h] : List Value)⟩, _, _] [_, _] _ := H
 refine uF 1 ?_
 refine uR 2 [.l [3, 0, 1, 0, 0], .b 0, .c [4]] ?_
 refine WK.again ?_
 refine uR 7 [.c [5]] ?_
 refine qT (.slice k 1 n) Tryz.func19 ?_
 have H := H.pick [] rfl
 exact ⟨_, rfl, _, _, _, _, rfl, H⟩
theorem copy_own {S : Nat → Prop} {w : World} {xs : List (BitVec 8)} {a : Option Addr} {c : Nat} (h : SB.rep S w [.slice a xs.length c] xs) (hby : xs.length ≤ 140737488355328) :
 Calls Tryz.prog 21 #[.slice a xs.length c] w (Ret fun v w' => Ext w w' ∧ ∃ (a' : Option Addr) (c' : Nat), v = .slice a' xs.length c' ∧ Hp w S [] [] [⟨Sb, 5, .slice a' xs.length c', xs⟩] [] w') := by
 refine uS1 Tryz.func21 ?_
 have H := Hp.startF (.rp h .nil)
 refine uR 3 [.c [1, 0], .c [2]] ?_
 refine qG (sq 0 4) ?_
 refine RW.new (κ := .seq) (d := some 3) (r := (sq 1 4)) (o := .cells #[] 5 (0, 0)) (v := fun b => .slice (some ⟨b, 0, none⟩) 0 0) (fun b => by as_aux_lemma => kernel_rfl) (nofun) H ?_
 intro g _ H
 refine uP 1 ?_
 have H := H.toOwn (sh := Sb) (xs := []) (cap := 0) (by rfl) (Nat.le_refl _) (Nat.zero_le _) (by simp) EsP.nil
 have H : Hp w S [] [] [⟨Sb, 5, .slice (some ⟨g, 0, none⟩) 0 0, []⟩] [_] _ := H
 refine uA 23 23 1 xs H 0 rfl 0 rfl (rfl) (by omega) ?_
 intro e f _ H _
 have H : Hp w S [] [] [⟨Sb, 5, .slice e xs.length f, xs⟩] [_] _ := H
 refine uF 1 ?_
 refine qT (.slice e xs.length f) Tryz.func21 ?_
 exact ⟨_, rfl, H.done, _, _, rfl, H.pick [] rfl⟩
end Go.Proofs.YtdnibpclkhenmaaGreatDoor
