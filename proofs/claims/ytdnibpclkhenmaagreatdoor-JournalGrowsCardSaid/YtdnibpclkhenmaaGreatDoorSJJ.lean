import Derived.Test.YtdnibpclkhenmaaGreatDoorSJI
import Derived.Test.YtdnibpclkhenmaaGreatDoorSJH
import Derived.Test.YtdnibpclkhenmaaGreatDoorSBxB
namespace Go.Proofs.YtdnibpclkhenmaaGreatDoor
open Go.BX
set_option maxHeartbeats 1000000 in
theorem jopen_spec {S : Nat → Prop} {w : World} {O : List Nat} {db : Nat} {nm : ByteArray} {D0 : DiskD} {sa0 : Option Addr} {sk0 : Nat} {V : VV} {G n : Nat} {P : Bs → List Bs → List Bs → Prop} (hpn : PlainN nm) (hd : DI D0) (ha : Al D0 (n + 256)) (hpv : PV D0 nm V) (hjs : JS D0 nm G P) (hnl : D0.now.length ≤ 256) (H0 : Hp w S O (diskM db D0 sa0 sk0) [⟨stepS, 143, .slice sa0 D0.steps.length sk0, D0.steps⟩] [Fz jQ] w) :
 Calls Tryz.prog 14 #[.P db 0, .string nm] w (Ret fun v w' => (∃ (jb : Nat) (ab : Option Addr) (cb : Nat) (ar : Option Addr) (cr : Nat) (D' : DiskD) (sa' : Option Addr) (sk' : Nat), v = .tuple #[.P jb 0, .I 0] ∧ JL D' nm V.B (recsV D0 V) (recsV D0 V) (gV V) ⟨#[]⟩ [] true ∧ DI D' ∧ Al D' n ∧ Stp nm D0 D' ∧ Cp 1 D0 D' ∧ Hp w S O ((jb, .cells #[.P db 0, .string nm, .slice ab V.B.length cb, .slice ar (recsV D0 V).length cr, .I ((gV V : Nat) : Int), .string (⟨#[]⟩ : ByteArray), .slice none (([] : List (BitVec 8)).length) 0, .bool true] 41 (0, 0)) :: diskM db D' sa' sk') [⟨SB, 23, .slice ar (recsV D0 V).length cr, recsV D0 V⟩, diskW D' sa' sk'] [Rp SB [.slice ab V.B.length cb] V.B, Rp SB [.slice none (([] : List (BitVec 8)).length) 0] ([] : List (BitVec 8))] w') ∨ (∃ (D' : DiskD) (sa' : Option Addr) (sk' : Nat), v = .tuple #[.pointer none, .I 70] ∧ Dd D0 D' nm (max G (gV V)) (fun B lo hi => P B lo hi ∨ (B = V.B ∧ recsV D0 V <+: lo ∧ hi <+: recsV D0 V)) ∧ Hp w S O (diskM db D' sa' sk') [diskW D' sa' sk'] [] w')) := by
 have hp := hpn.1
 have hs9 := hp.1
 refine qS (fn := Tryz.f14) (n := 34) (σ := [(0, .P db 0), (1, .string nm)]) Tryz.func14 ?_
 have H := H0
 refine qR 4 [.c [1, 0, 0], .c [1, 0, 1], .c [2]] [(0, .P db 0), (1, .string nm)] ?_
 refine qG (sq 0 7) ?_
 refine qP 1 (sq 1 7) [(0, .P db 0), (1, .string nm), (11, .P db 0)] ?_
 have H := H.perms (M' := diskM db D0 sa0 sk0 ++ []) (W' := [⟨stepS, 143, .slice sa0 D0.steps.length sk0, D0.steps⟩]) (List.perm_append_comm (l₁ := diskM db D0 sa0 sk0) (l₂ := ([] : Heap))) (List.Perm.refl _)
 refine RW.callS (d := some 12) (r := (sq 2 7)) (g := 49) (args := #[.P db 0, .string (⟨#[]⟩ : ByteArray)]) (by as_aux_lemma => kernel_rfl) ((dSizeNo hd.ok ha.dead hd.noEmpty) ((H.lend (M1 := diskM db D0 sa0 sk0) (W1 := [⟨stepS, 143, .slice sa0 D0.steps.length sk0, D0.steps⟩])).pick [] rfl)) ?_
 rintro _ w1 ⟨rfl, H'⟩
 have H := H.back (M1 := diskM db D0 sa0 sk0) (W1 := [⟨stepS, 143, .slice sa0 D0.steps.length sk0, D0.steps⟩]) H'
 have H := H.perms (M' := ((diskM db D0 sa0 sk0))) (W' := [⟨stepS, 143, .slice sa0 D0.steps.length sk0, D0.steps⟩]) ((List.perm_append_comm (l₁ := diskM db D0 sa0 sk0) (l₂ := ([] : Heap))).symm) (List.Perm.refl _)
 have H : Hp w S O ((diskM db D0 sa0 sk0)) [⟨stepS, 143, .slice sa0 D0.steps.length sk0, D0.steps⟩] [Fz jQ] _ := H
 refine qF 5 [(0, .P db 0), (1, .string nm), (7, .I 71)] ?_
 refine qR 6 [.c [2, 0, 0], .c [2, 0, 1], .c [3]] [(0, .P db 0), (1, .string nm)] ?_
 refine qG (sq 0 3) ?_
 refine qP 1 (sq 1 3) [(0, .P db 0), (1, .string nm), (18, .string nm)] ?_
 refine qK .seq (some 19) (sq 2 3) 50 #[.string nm] (plain_spec (S := fun _ => True) (by omega)) ?_
 rintro _ w2 hE3 ⟨bb4, rfl, hb5⟩
 have H := H.ext hE3
 obtain rfl := hb5.2 hpn
 refine qF 1 [(0, .P db 0), (1, .string nm), (20, .bool false)] ?_
 refine qR 4 [.c [3, 0, 0], .c [3, 0, 1], .c [4]] [(0, .P db 0), (1, .string nm)] ?_
 refine qG (sq 0 2) ?_
 refine qP 1 (sq 1 2) [(0, .P db 0), (1, .string nm), (21, .P db 0)] ?_
 have H := H.perms (M' := diskM db D0 sa0 sk0 ++ []) (W' := [⟨stepS, 143, .slice sa0 D0.steps.length sk0, D0.steps⟩]) (List.perm_append_comm (l₁ := diskM db D0 sa0 sk0) (l₂ := ([] : Heap))) (List.Perm.refl _)
 refine RW.callS (d := some 22) (r := (sq 2 2)) (g := 51) (args := #[.P db 0]) (by as_aux_lemma => kernel_rfl) (dDead ha.dead ((H.lend (M1 := diskM db D0 sa0 sk0) (W1 := [⟨stepS, 143, .slice sa0 D0.steps.length sk0, D0.steps⟩])).pick [] rfl)) ?_
 rintro _ w6 ⟨rfl, H'⟩
 have H := H.back (M1 := diskM db D0 sa0 sk0) (W1 := [⟨stepS, 143, .slice sa0 D0.steps.length sk0, D0.steps⟩]) H'
 have H := H.perms (M' := ((diskM db D0 sa0 sk0))) (W' := [⟨stepS, 143, .slice sa0 D0.steps.length sk0, D0.steps⟩]) ((List.perm_append_comm (l₁ := diskM db D0 sa0 sk0) (l₂ := ([] : Heap))).symm) (List.Perm.refl _)
 have H : Hp w S O ((diskM db D0 sa0 sk0)) [⟨stepS, 143, .slice sa0 D0.steps.length sk0, D0.steps⟩] [Fz jQ] _ := H
 refine qF 0 [(0, .P db 0), (1, .string nm), (22, .bool false)] ?_
 refine qR 3 [.c [4, 0], .c [5]] [(0, .P db 0), (1, .string nm)] ?_
 refine qG (sq 0 5) ?_
 refine qP 3 (sq 3 5) [(25, .agg #[.P db 0, .string nm, .slice none 0 0, .slice none 0 0, .I 0, .string (⟨#[]⟩ : ByteArray), .slice none 0 0, .bool true])] ?_
 refine qB .seq 26 (sq 4 5) #[.P db 0, .string nm, .slice none 0 0, .slice none 0 0, .I 0, .string (⟨#[]⟩ : ByteArray), .slice none 0 0, .bool true] 41 H ?_
 intro b7 w8 H
 refine qF 1 [(8, .P b7 0)] ?_
 refine qR 2 [.c [5, 0, 0], .c [5, 0, 1], .c [6]] [(8, .P b7 0)] ?_
 refine qG (sq 0 3) ?_
 refine qP 1 (sq 1 3) [(8, .P b7 0), (27, .P b7 0)] ?_
 have H := H.perms (M' := ((b7, .cells #[.P db 0, .string nm, .slice none 0 0, .slice none 0 0, .I 0, .string (⟨#[]⟩ : ByteArray), .slice none 0 0, .bool true] 41 (0, 0)) :: diskM db D0 sa0 sk0) ++ []) (W' := [⟨stepS, 143, .slice sa0 D0.steps.length sk0, D0.steps⟩]) ((List.perm_append_comm (l₁ := diskM db D0 sa0 sk0) (l₂ := ([] : Heap))).cons _) (List.Perm.refl _)
 refine RW.callS (d := some 28) (r := (sq 2 3)) (g := 52) (args := #[.P b7 0]) (by as_aux_lemma => kernel_rfl) (jfound_spec (V := V) (G := G) (n := n) (P := P) hp hd ha hpv hjs hnl ((H.lend (M1 := ((b7, .cells #[.P db 0, .string nm, .slice none 0 0, .slice none 0 0, .I 0, .string (⟨#[]⟩ : ByteArray), .slice none 0 0, .bool true] 41 (0, 0)) :: diskM db D0 sa0 sk0)) (W1 := [⟨stepS, 143, .slice sa0 D0.steps.length sk0, D0.steps⟩])).pick [0] rfl)) ?_
 rintro _ w9 (⟨rfl, D10, sa11, sk12, ab14, cb15, ar16, cr17, hL18, hD19, hA20, hS21, hC22, H'⟩ | ⟨eb13, x24, x25, x26, x27, x28, x29, D10, sa11, sk12, rfl, hQ23, H'⟩)
 ·
  have H := H.back (M1 := ((b7, .cells #[.P db 0, .string nm, .slice none 0 0, .slice none 0 0, .I 0, .string (⟨#[]⟩ : ByteArray), .slice none 0 0, .bool true] 41 (0, 0)) :: diskM db D0 sa0 sk0)) (W1 := [⟨stepS, 143, .slice sa0 D0.steps.length sk0, D0.steps⟩]) H'
  have H := H.perms (M' := ((b7, .cells #[.P db 0, .string nm, .slice ab14 V.B.length cb15, .slice ar16 (recsV D0 V).length cr17, .I ((gV V : Nat) : Int), .string (⟨#[]⟩ : ByteArray), .slice none 0 0, .bool true] 41 (0, 0)) :: (diskM db D10 sa11 sk12))) (W' := [⟨SB, 23, .slice ar16 (recsV D0 V).length cr17, recsV D0 V⟩, ⟨stepS, 143, .slice sa11 D10.steps.length sk12, D10.steps⟩]) ((List.perm_append_comm (l₁ := ([] : Heap)) (l₂ := diskM db D10 sa11 sk12)).cons _) (List.Perm.refl _)
  have H : Hp w S O ((b7, .cells #[.P db 0, .string nm, .slice ab14 V.B.length cb15, .slice ar16 (recsV D0 V).length cr17, .I ((gV V : Nat) : Int), .string (⟨#[]⟩ : ByteArray), .slice none 0 0, .bool true] 41 (0, 0)) :: (diskM db D10 sa11 sk12)) [⟨SB, 23, .slice ar16 (recsV D0 V).length cr17, recsV D0 V⟩, ⟨stepS, 143, .slice sa11 D10.steps.length sk12, D10.steps⟩] [Rp SB [.slice ab14 V.B.length cb15] V.B, Fz jQ] _ := H
  refine qF 1 [(8, .P b7 0), (9, .nilIface)] ?_
  refine qR 6 [.c [7]] [(4, .P b7 0), (5, .I 0)] ?_
  refine qT (.tuple #[.P b7 0, .I 0]) Tryz.func14 ?_
  have H := H.add (F := Rp SB [.slice none 0 0] ([] : List (BitVec 8))) Shape.slice_nil
  have H := H.pick [1, 0] rfl
  have hJL := JL.fresh hL18
  rw [fixV_hi] at hJL
  exact ⟨_, rfl, .inl ⟨_, _, _, _, _, D10, sa11, sk12, rfl, hJL, hD19, hA20, hS21, hC22, H⟩⟩
 ·
  have H := H.back (M1 := ((b7, .cells #[.P db 0, .string nm, .slice none 0 0, .slice none 0 0, .I 0, .string (⟨#[]⟩ : ByteArray), .slice none 0 0, .bool true] 41 (0, 0)) :: diskM db D0 sa0 sk0)) (W1 := [⟨stepS, 143, .slice sa0 D0.steps.length sk0, D0.steps⟩]) H'
  have H := H.perms (M' := ((eb13, .cells #[.I 70] 204 (0, 0)) :: (b7, .cells #[.P db 0, .string nm, x24, x25, x26, x27, x28, x29] 41 (0, 0)) :: (diskM db D10 sa11 sk12))) (W' := [⟨stepS, 143, .slice sa11 D10.steps.length sk12, D10.steps⟩]) (((List.perm_append_comm (l₁ := ([] : Heap)) (l₂ := diskM db D10 sa11 sk12)).cons _).cons _) (List.Perm.refl _)
  have H : Hp w S O ((eb13, .cells #[.I 70] 204 (0, 0)) :: (b7, .cells #[.P db 0, .string nm, x24, x25, x26, x27, x28, x29] 41 (0, 0)) :: (diskM db D10 sa11 sk12)) [⟨stepS, 143, .slice sa11 D10.steps.length sk12, D10.steps⟩] [Fz jQ] _ := H
  refine qF 1 [(8, .P b7 0), (9, .iface 200 (.P eb13 0))] ?_
  refine qR 4 [.c [5, 0, 2, 0, 0], .c [5, 0, 2, 0, 1], .c [6]] [(9, .iface 200 (.P eb13 0))] ?_
  refine qG (sq 0 4) ?_
  refine qP 1 (sq 1 4) [(31, .iface 200 (.P eb13 0))] ?_
  refine RW.callS (d := some 32) (r := (sq 2 4)) (g := 53) (args := #[.iface 200 (.P eb13 0)]) (by as_aux_lemma => kernel_rfl) (jnumber_spec ((H.lend (M1 := [(eb13, .cells #[.I 70] 204 (0, 0))]) (W1 := [])).pick [0] rfl)) ?_
  rintro _ w30 ⟨rfl, H'⟩
  have H := H.back (M1 := [(eb13, .cells #[.I 70] 204 (0, 0))]) (W1 := []) H'
  have H : Hp w S O ((eb13, .cells #[.I 70] 204 (0, 0)) :: (b7, .cells #[.P db 0, .string nm, x24, x25, x26, x27, x28, x29] 41 (0, 0)) :: (diskM db D10 sa11 sk12)) [⟨stepS, 143, .slice sa11 D10.steps.length sk12, D10.steps⟩] [Fz jQ] _ := H
  refine qF 2 [(4, .pointer none), (5, .I 70)] ?_
  refine qT (.tuple #[.pointer none, .I 70]) Tryz.func14 ?_
  have H := H.pick [] rfl
  have H := H.drop (M' := ((diskM db D10 sa11 sk12))) (W' := [⟨stepS, 143, .slice sa11 D10.steps.length sk12, D10.steps⟩]) (by repeat (first | exact List.Sublist.refl _ | exact List.nil_sublist _ | apply List.Sublist.cons_cons | apply List.Sublist.cons)) (by repeat (first | exact List.Sublist.refl _ | exact List.nil_sublist _ | apply List.Sublist.cons_cons | apply List.Sublist.cons))
  exact ⟨_, rfl, .inr ⟨D10, sa11, sk12, rfl, hQ23, H⟩⟩
theorem jopen_arg {S : Nat → Prop} {w : World} {O : List Nat} {db : Nat} {nm : ByteArray} {D0 : DiskD} {sa0 : Option Addr} {sk0 : Nat} (hd : DI D0) (hdd : D0.dead = false) (hs9 : nm.size ≤ 140737488355328) (hpn : ¬ PlainN nm) (H0 : Hp w S O (diskM db D0 sa0 sk0) [⟨stepS, 143, .slice sa0 D0.steps.length sk0, D0.steps⟩] [] w) :
 Calls Tryz.prog 14 #[.P db 0, .string nm] w (Ret fun v w' => v = .tuple #[.pointer none, .I 2] ∧ Hp w S O (diskM db D0 sa0 sk0) [⟨stepS, 143, .slice sa0 D0.steps.length sk0, D0.steps⟩] [] w') := by
 refine qS (fn := Tryz.f14) (n := 34) (σ := [(0, .P db 0), (1, .string nm)]) Tryz.func14 ?_
 have H := H0
 refine qR 4 [.c [1, 0, 0], .c [1, 0, 1], .c [2]] [(0, .P db 0), (1, .string nm)] ?_
 refine qG (sq 0 7) ?_
 refine qP 1 (sq 1 7) [(0, .P db 0), (1, .string nm), (11, .P db 0)] ?_
 have H := H.perms (M' := diskM db D0 sa0 sk0 ++ []) (W' := [⟨stepS, 143, .slice sa0 D0.steps.length sk0, D0.steps⟩]) (List.perm_append_comm (l₁ := diskM db D0 sa0 sk0) (l₂ := ([] : Heap))) (List.Perm.refl _)
 refine RW.callS (d := some 12) (r := (sq 2 7)) (g := 49) (args := #[.P db 0, .string (⟨#[]⟩ : ByteArray)]) (by as_aux_lemma => kernel_rfl) ((dSizeNo hd.ok hdd hd.noEmpty) ((H.lend (M1 := diskM db D0 sa0 sk0) (W1 := [⟨stepS, 143, .slice sa0 D0.steps.length sk0, D0.steps⟩])).pick [] rfl)) ?_
 rintro _ w1 ⟨rfl, H'⟩
 have H := H.back (M1 := diskM db D0 sa0 sk0) (W1 := [⟨stepS, 143, .slice sa0 D0.steps.length sk0, D0.steps⟩]) H'
 have H := H.perms (M' := ((diskM db D0 sa0 sk0))) (W' := [⟨stepS, 143, .slice sa0 D0.steps.length sk0, D0.steps⟩]) ((List.perm_append_comm (l₁ := diskM db D0 sa0 sk0) (l₂ := ([] : Heap))).symm) (List.Perm.refl _)
 have H : Hp w S O ((diskM db D0 sa0 sk0)) [⟨stepS, 143, .slice sa0 D0.steps.length sk0, D0.steps⟩] [] _ := H
 refine qF 5 [(0, .P db 0), (1, .string nm), (7, .I 71)] ?_
 refine qR 6 [.c [2, 0, 0], .c [2, 0, 1], .c [3]] [(0, .P db 0), (1, .string nm)] ?_
 refine qG (sq 0 3) ?_
 refine qP 1 (sq 1 3) [(0, .P db 0), (1, .string nm), (18, .string nm)] ?_
 refine qK .seq (some 19) (sq 2 3) 50 #[.string nm] (plain_spec (S := fun _ => True) hs9) ?_
 rintro _ w2 hE3 ⟨bb4, rfl, hb5⟩
 have H := H.ext hE3
 obtain rfl : bb4 = false := Bool.eq_false_iff.2 fun h9 => hpn (hb5.1 h9)
 refine qF 1 [(0, .P db 0), (1, .string nm), (20, .bool true)] ?_
 refine qR 3 [.c [2, 0, 1, 0, 1], .c [3]] [(4, .pointer none), (5, .I 2)] ?_
 refine qT (.tuple #[.pointer none, .I 2]) Tryz.func14 ?_
 exact ⟨_, rfl, rfl, H⟩
end Go.Proofs.YtdnibpclkhenmaaGreatDoor
