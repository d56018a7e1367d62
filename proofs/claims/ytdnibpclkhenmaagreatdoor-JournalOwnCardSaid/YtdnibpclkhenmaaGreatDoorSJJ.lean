import Derived.Test.YtdnibpclkhenmaaGreatDoorSBxA
import Derived.Test.YtdnibpclkhenmaaGreatDoorSJI
import Derived.Test.YtdnibpclkhenmaaGreatDoorSJH
namespace Go.Proofs.YtdnibpclkhenmaaGreatDoor
open Go.BX
set_option maxHeartbeats 1000000 in
theorem jopen_spec {S : Nat → Prop} {w : World} {O : List Nat} {db : Nat} {nm : ByteArray} {D0 : DiskD} {sa0 : Option Addr} {sk0 : Nat} {V : VV} {G n : Nat} {P : Bs → List Bs → List Bs → Prop} (hpn : PlainN nm) (hd : DI D0) (ha : Al D0 (n + 256)) (hpv : PV D0 nm V) (hjs : JS D0 nm G P) (hnl : D0.now.length ≤ 256) (H0 : Hp w S O (diskM db D0 sa0 sk0) [⟨stepS, 143, .slice sa0 D0.steps.length sk0, D0.steps⟩] [Fz jQ] w) :
 Calls Tryz.prog 14 #[.P db 0, .string nm] w (Ret fun v w' => (∃ (jb : Nat) (ab : Option Addr) (cb : Nat) (ar : Option Addr) (cr : Nat) (D' : DiskD) (sa' : Option Addr) (sk' : Nat), v = .tuple #[.P jb 0, .I 0] ∧ JL D' nm V.B (recsV D0 V) (recsV D0 V) (gV V) ⟨#[]⟩ [] true V.segs.length ∧ DI D' ∧ Al D' n ∧ Stp nm D0 D' ∧ Cp 1 D0 D' ∧ Hp w S O ((jb, .cells #[.P db 0, .string nm, .slice ab V.B.length cb, .slice ar (recsV D0 V).length cr, .I ((gV V : Nat) : Int), .string (⟨#[]⟩ : ByteArray), .slice none (([] : List (BitVec 8)).length) 0, .bool true] 41 (0, 0)) :: diskM db D' sa' sk') [⟨SB, 23, .slice ar (recsV D0 V).length cr, recsV D0 V⟩, diskW D' sa' sk'] [Rp SB [.slice ab V.B.length cb] V.B, Rp SB [.slice none (([] : List (BitVec 8)).length) 0] ([] : List (BitVec 8))] w') ∨ (∃ (D' : DiskD) (sa' : Option Addr) (sk' : Nat), v = .tuple #[.pointer none, .I 70] ∧ Dd D0 D' nm (max G (gV V)) (fun B lo hi => P B lo hi ∨ (B = V.B ∧ recsV D0 V <+: lo ∧ hi <+: recsV D0 V)) ∧ Hp w S O (diskM db D' sa' sk') [diskW D' sa' sk'] [] w')) := by
 have hp := hpn.1
 have C := hp.1
 refine uS1 Tryz.func14 ?_
 have H := H0
 refine uR 4 [.c [1, 0, 0], .c [1, 0, 1], .c [2]] ?_
 refine qG (sq 0 7) ?_
 refine uP 1 ?_
 have H := H.perms (M' := diskM db D0 sa0 sk0 ++ []) (W' := [⟨stepS, 143, .slice sa0 D0.steps.length sk0, D0.steps⟩]) (List.perm_append_comm (l₁ := diskM db D0 sa0 sk0) (l₂ := ([] : Heap))) (List.Perm.refl _)
 refine uKS ((dSizeNo hd.ok ha.dead hd.noEmpty) ((H.lend (M1 := diskM db D0 sa0 sk0) (W1 := [⟨stepS, 143, .slice sa0 D0.steps.length sk0, D0.steps⟩])).pick [] rfl)) ?_
 rintro _ _ ⟨rfl, H'⟩
 have H := H.back (M1 := diskM db D0 sa0 sk0) (W1 := [⟨stepS, 143, .slice sa0 D0.steps.length sk0, D0.steps⟩]) H'
 have H := H.perms (M' := ((diskM db D0 sa0 sk0))) (W' := [⟨stepS, 143, .slice sa0 D0.steps.length sk0, D0.steps⟩]) ((List.perm_append_comm (l₁ := diskM db D0 sa0 sk0) (l₂ := ([] : Heap))).symm) (List.Perm.refl _)
 have H : Hp w S O _ [_] [_] _ := H
 refine uF 5 ?_
 refine uR 6 [.c [2, 0, 0], .c [2, 0, 1], .c [3]] ?_
 refine qG (sq 0 3) ?_
 refine uP 1 ?_
 refine qK .seq (some 19) (sq 2 3) 50 #[.string nm] (plain_spec (S := fun _ => True) (by omega)) ?_
 rintro _ _ r ⟨_, rfl, s⟩
 have H := H.ext r
 obtain rfl := s.2 hpn
 refine uF 1 ?_
 refine uR 4 [.c [3, 0, 0], .c [3, 0, 1], .c [4]] ?_
 refine qG (sq 0 2) ?_
 refine uP 1 ?_
 have H := H.perms (M' := diskM db D0 sa0 sk0 ++ []) (W' := [⟨stepS, 143, .slice sa0 D0.steps.length sk0, D0.steps⟩]) (List.perm_append_comm (l₁ := diskM db D0 sa0 sk0) (l₂ := ([] : Heap))) (List.Perm.refl _)
 refine uKS (dDead ha.dead ((H.lend (M1 := diskM db D0 sa0 sk0) (W1 := [⟨stepS, 143, .slice sa0 D0.steps.length sk0, D0.steps⟩])).pick [] rfl)) ?_
 rintro _ _ ⟨rfl, H'⟩
 have H := H.back (M1 := diskM db D0 sa0 sk0) (W1 := [⟨stepS, 143, .slice sa0 D0.steps.length sk0, D0.steps⟩]) H'
 have H := H.perms (M' := ((diskM db D0 sa0 sk0))) (W' := [⟨stepS, 143, .slice sa0 D0.steps.length sk0, D0.steps⟩]) ((List.perm_append_comm (l₁ := diskM db D0 sa0 sk0) (l₂ := ([] : Heap))).symm) (List.Perm.refl _)
 have H : Hp w S O _ [_] [_] _ := H
 refine uF 0 ?_
 refine uR 3 [.c [4, 0], .c [5]] ?_
 refine qG (sq 0 5) ?_
 refine uP 3 ?_
 refine uC #[.P db 0, .string nm, .slice none 0 0, .slice none 0 0, .I 0, .string (⟨#[]⟩ : ByteArray), .slice none 0 0, .bool true] 41 H ?_
 intro e _ H
 refine uF 1 ?_
 refine uR 2 [.c [5, 0, 0], .c [5, 0, 1], .c [6]] ?_
 refine qG (sq 0 3) ?_
 refine uP 1 ?_
 have H := H.perms (M' := ((e, .cells #[.P db 0, .string nm, .slice none 0 0, .slice none 0 0, .I 0, .string (⟨#[]⟩ : ByteArray), .slice none 0 0, .bool true] 41 (0, 0)) :: diskM db D0 sa0 sk0) ++ []) (W' := [⟨stepS, 143, .slice sa0 D0.steps.length sk0, D0.steps⟩]) ((List.perm_append_comm (l₁ := diskM db D0 sa0 sk0) (l₂ := ([] : Heap))).cons _) (List.Perm.refl _)
 refine uKS (jfound_spec (V := V) (G := G) (n := n) (P := P) hp hd ha hpv hjs hnl ((H.lend (M1 := ((e, .cells #[.P db 0, .string nm, .slice none 0 0, .slice none 0 0, .I 0, .string (⟨#[]⟩ : ByteArray), .slice none 0 0, .bool true] 41 (0, 0)) :: diskM db D0 sa0 sk0)) (W1 := [⟨stepS, 143, .slice sa0 D0.steps.length sk0, D0.steps⟩])).pick [0] rfl)) ?_
 rintro _ _ (⟨rfl, d, a, b, g, h, i, j, k, l, m, o, p, H'⟩ | ⟨f, t, u, x, y, z, A, d, a, b, rfl, q, H'⟩)
 ·
  have H := H.back (M1 := ((e, .cells #[.P db 0, .string nm, .slice none 0 0, .slice none 0 0, .I 0, .string (⟨#[]⟩ : ByteArray), .slice none 0 0, .bool true] 41 (0, 0)) :: diskM db D0 sa0 sk0)) (W1 := [⟨stepS, 143, .slice sa0 D0.steps.length sk0, D0.steps⟩]) H'
  have H := H.perms (M' := ((e, .cells #[.P db 0, .string nm, .slice g V.B.length h, .slice i (recsV D0 V).length j, .I ((gV V : Nat) : Int), .string (⟨#[]⟩ : ByteArray), .slice none 0 0, .bool true] 41 (0, 0)) :: (diskM db d a b))) (W' := [⟨SB, 23, .slice i (recsV D0 V).length j, recsV D0 V⟩, ⟨stepS, 143, .slice a d.steps.length b, d.steps⟩]) ((List.perm_append_comm (l₁ := ([] : Heap)) (l₂ := diskM db d a b)).cons _) (List.Perm.refl _)
  have H : Hp w S O _ [_, _] [Rp SB [.slice g V.B.length h] V.B, _] _ := H
  refine uF 1 ?_
  refine qR 6 [.c [7]] [(4, .P e 0), (5, .I 0)] ?_
  refine qT (.tuple #[.P e 0, .I 0]) Tryz.func14 ?_
  have H := H.add (F := Rp SB [.slice none 0 0] ([] : List (BitVec 8))) Shape.slice_nil
  have H := H.pick [1, 0] rfl
  have hJL := JL.fresh k
  rw [fixV_hi, show (fixV D0 V).segs.length = V.segs.length from List.length_map ..] at hJL
  exact ⟨_, rfl, .inl ⟨_, _, _, _, _, d, a, b, rfl, hJL, l, m, o, p, H⟩⟩
 ·
  have H := H.back (M1 := ((e, .cells #[.P db 0, .string nm, .slice none 0 0, .slice none 0 0, .I 0, .string (⟨#[]⟩ : ByteArray), .slice none 0 0, .bool true] 41 (0, 0)) :: diskM db D0 sa0 sk0)) (W1 := [⟨stepS, 143, .slice sa0 D0.steps.length sk0, D0.steps⟩]) H'
  have H := H.perms (M' := ((f, .cells #[.I 70] 204 (0, 0)) :: (e, .cells #[.P db 0, .string nm, t, u, x, y, z, A] 41 (0, 0)) :: (diskM db d a b))) (W' := [⟨stepS, 143, .slice a d.steps.length b, d.steps⟩]) (((List.perm_append_comm (l₁ := ([] : Heap)) (l₂ := diskM db d a b)).cons _).cons _) (List.Perm.refl _)
  have H : Hp w S O _ [_] [_] _ := H
  refine uF 1 ?_
  refine uR 4 [.c [5, 0, 2, 0, 0], .c [5, 0, 2, 0, 1], .c [6]] ?_
  refine qG (sq 0 4) ?_
  refine uP 1 ?_
  refine uKS (jnumber_spec ((H.lend (M1 := [(f, .cells #[.I 70] 204 (0, 0))]) (W1 := [])).pick [0] rfl)) ?_
  rintro _ _ ⟨rfl, H'⟩
  have H := H.back (M1 := [(f, .cells #[.I 70] 204 (0, 0))]) (W1 := []) H'
  have H : Hp w S O _ [_] [_] _ := H
  refine uF 2 ?_
  refine qT (.tuple #[.pointer none, .I 70]) Tryz.func14 ?_
  have H := H.pick [] rfl
  have H := H.drop (M' := ((diskM db d a b))) (W' := [⟨stepS, 143, .slice a d.steps.length b, d.steps⟩]) (by repeat (first | exact List.Sublist.refl _ | exact List.nil_sublist _ | apply List.Sublist.cons_cons | apply List.Sublist.cons)) (by repeat (first | exact List.Sublist.refl _ | exact List.nil_sublist _ | apply List.Sublist.cons_cons | apply List.Sublist.cons))
  exact ⟨_, rfl, .inr ⟨d, a, b, rfl, q, H⟩⟩
theorem jopen_arg {S : Nat → Prop} {w : World} {O : List Nat} {db : Nat} {nm : ByteArray} {D0 : DiskD} {sa0 : Option Addr} {sk0 : Nat} (hd : DI D0) (hdd : D0.dead = false) (hs9 : nm.size ≤ 140737488355328) (hpn : ¬ PlainN nm) (H0 : Hp w S O (diskM db D0 sa0 sk0) [⟨stepS, 143, .slice sa0 D0.steps.length sk0, D0.steps⟩] [] w) :
 Calls Tryz.prog 14 #[.P db 0, .string nm] w (Ret fun v w' => v = .tuple #[.pointer none, .I 2] ∧ Hp w S O (diskM db D0 sa0 sk0) [⟨stepS, 143, .slice sa0 D0.steps.length sk0, D0.steps⟩] [] w') := by
 refine uS1 Tryz.func14 ?_
 have H := H0
 refine uR 4 [.c [1, 0, 0], .c [1, 0, 1], .c [2]] ?_
 refine qG (sq 0 7) ?_
 refine uP 1 ?_
 have H := H.perms (M' := diskM db D0 sa0 sk0 ++ []) (W' := [⟨stepS, 143, .slice sa0 D0.steps.length sk0, D0.steps⟩]) (List.perm_append_comm (l₁ := diskM db D0 sa0 sk0) (l₂ := ([] : Heap))) (List.Perm.refl _)
 refine uKS ((dSizeNo hd.ok hdd hd.noEmpty) ((H.lend (M1 := diskM db D0 sa0 sk0) (W1 := [⟨stepS, 143, .slice sa0 D0.steps.length sk0, D0.steps⟩])).pick [] rfl)) ?_
 rintro _ _ ⟨rfl, H'⟩
 have H := H.back (M1 := diskM db D0 sa0 sk0) (W1 := [⟨stepS, 143, .slice sa0 D0.steps.length sk0, D0.steps⟩]) H'
 have H := H.perms (M' := ((diskM db D0 sa0 sk0))) (W' := [⟨stepS, 143, .slice sa0 D0.steps.length sk0, D0.steps⟩]) ((List.perm_append_comm (l₁ := diskM db D0 sa0 sk0) (l₂ := ([] : Heap))).symm) (List.Perm.refl _)
 have H : Hp w S O _ [_] [] _ := H
 refine uF 5 ?_
 refine uR 6 [.c [2, 0, 0], .c [2, 0, 1], .c [3]] ?_
 refine qG (sq 0 3) ?_
 refine uP 1 ?_
 refine uK (plain_spec (S := fun _ => True) hs9) ?_
 rintro _ _ a ⟨b, rfl, d⟩
 have H := H.ext a
 obtain rfl : b = false := Bool.eq_false_iff.2 fun e => hpn (d.1 e)
 refine uF 1 ?_
 refine uR 3 [.c [2, 0, 1, 0, 1], .c [3]] ?_
 refine qT (.tuple #[.pointer none, .I 2]) Tryz.func14 ?_
 exact ⟨_, rfl, rfl, H⟩
end Go.Proofs.YtdnibpclkhenmaaGreatDoor
