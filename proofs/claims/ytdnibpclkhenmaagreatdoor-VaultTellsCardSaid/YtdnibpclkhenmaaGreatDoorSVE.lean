import Derived.Test.YtdnibpclkhenmaaGreatDoorSBxB
import Derived.Test.YtdnibpclkhenmaaGreatDoorSV7
namespace Go.Proofs.YtdnibpclkhenmaaGreatDoor
open Go.BX
set_option maxHeartbeats 2000000 in
theorem vopen_spec {S : Nat → Prop} {w : World} {O : List Nat} {db : Nat} {nm : ByteArray} {n m q c : Nat} {P : Bs → List Bs → List Bs → Prop} {Q : Bs → List Bs → Prop} {ds : List Deed} {quota : Int} {D0 : DiskD} {sa0 : Option Addr} {sk0 : Nat} (hpn : PlainN nm) (hd : DI D0) (ha : Al D0 (n + 256)) (hna : D0.armed = false) (hO : OpQ D0 nm m q P Q) (hcap : Cap D0 c) (hm : c ≤ 256) (hQ : ∀ B R, Q B R → B = [] ∧ R = ds.map encD) (hall : allD ds) (hdl : ds.length ≤ 250) (hdm : ds.length ≤ m + 1) (hm6 : m ≤ 60000) (hq : 0 ≤ quota ∧ quota ≤ 268435456) (H0 : Hp w S O (diskM db D0 sa0 sk0) [⟨stepS, 143, .slice sa0 D0.steps.length sk0, D0.steps⟩] [Fz jQ] w) :
 Calls Tryz.prog 36 #[.P db 0, .string nm, .I quota] w (Ret fun v w' => ∃ (vb jb mb g : Nat) (ab : Option Addr) (cb : Nat) (ar : Option Addr) (cr : Nat) (D' : DiskD) (sa' : Option Addr) (sk' : Nat) (L : VL), v = .tuple #[.P vb 0, .I 0] ∧ JW D' nm [] (ds.map encD) (ds.map encD) g ⟨#[]⟩ [] true n (m + 1) 0 q (c + 1) ∧ D'.armed = false ∧ cont L = (runD ds).1 ∧ Hp w S O ((vb, .cells #[.P jb 0, .P db 0, .map (some mb), .I quota, .I (usedL (runD ds).1 : Int), .I (ds.length : Int)] 119 (0, 0)) :: (mb, mapO cidV veV L ((runD ds).2)) :: (jb, .cells #[.P db 0, .string nm, .slice ab (([] : List (BitVec 8)).length) cb, .slice ar (ds.map encD).length cr, .I g, .string (⟨#[]⟩ : ByteArray), .slice none (([] : List (BitVec 8)).length) 0, .bool true] 41 (0, 0)) :: diskM db D' sa' sk') [⟨SB, 23, .slice ar (ds.map encD).length cr, (ds.map encD)⟩, diskW D' sa' sk'] [Rp SB [.slice ab (([] : List (BitVec 8)).length) cb] ([] : List (BitVec 8)), Rp SB [.slice none (([] : List (BitVec 8)).length) 0] ([] : List (BitVec 8)), Fall L] w') := by
 refine uS1 Tryz.func36 ?_
 have H := H0
 refine uR 4 [.c [1, 0, 0], .c [1, 0, 1], .c [2]] ?_
 refine qG (sq 0 7) ?_
 refine uP 1 ?_
 have H := H.gat 0 0
 refine uKS ((dSizeNo hd.ok ha.dead (DI.noEmpty hd)) ((H.lend (M1 := (diskM _ _ _ _)) (W1 := [_])).pick [] rfl)) ?_
 rintro _ _ ⟨rfl, H'⟩
 have H := H.back (M1 := (diskM _ _ _ _)) (W1 := [_]) H'
 have H := H.ung 0
 have H : Hp w S O ((diskM db D0 sa0 sk0)) [_] [_] _ := H
 refine uF 5 ?_
 refine uR 6 [.c [2, 0, 0], .c [2, 0, 1], .c [3]] ?_
 refine qG (sq 0 6) ?_
 refine uP 3 ?_
 refine uD 29 ((quota : Int) < 0) (fun h2 => ?_) (fun h2 => ?_)
 ·
  omega
 ·
  refine uF 3 ?_
  refine qD ((quota : Int) > 268435456) (fun h3 => ?_) (fun h3 => ?_)
  ·
   omega
  ·
   refine uR 2 [.c [3, 0], .c [4]] ?_
   refine qG (sq 0 8) ?_
   refine uP 2 ?_
   have H := H.gat 0 0
   refine uKS (jopen_law (n := n) (m := m) (q := q) (c := c) hpn hd ha hO hcap (by omega) (fun B R h => by obtain ⟨rfl, rfl⟩ := hQ B R h; exact ⟨Nat.zero_le _, by rw [List.length_map]; exact hdm, fun r hr => Nat.le_trans (encs_len hall r hr) (by decide)⟩) ((H.lend (M1 := (diskM _ _ _ _)) (W1 := [_])).pick [0] rfl)) ?_
   rintro _ _ (⟨f, _, _, W, C, y, z, A, x, t, u, rfl, a0, D, b0, H'⟩ | ⟨x, t, u, rfl, _, c0, H'⟩)
   rotate_left
   · exact absurd (c0) (by rw [hna]; nofun)
   obtain ⟨g0, h0⟩ := hQ _ _ a0
   subst g0
   subst h0
   have H := H.back (M1 := (diskM _ _ _ _)) (W1 := [_]) H'
   have H := H.ung 1
   have H : Hp w S O ((f, .cells #[.P db 0, .string nm, .slice C (([] : List (BitVec 8)).length) y, .slice z (ds.map encD).length A, .I W, .string (⟨#[]⟩ : ByteArray), .slice none (([] : List (BitVec 8)).length) 0, .bool true] 41 (0, 0)) :: (diskM db x t u)) [⟨SB, 23, .slice z (ds.map encD).length A, (ds.map encD)⟩, ⟨stepS, 143, .slice t x.steps.length u, x.steps⟩] [Rp SB [.slice C (([] : List (BitVec 8)).length) y] ([] : List (BitVec 8)), _, _] _ := H
   have X := b0.arm.trans hna
   refine uF 5 ?_
   refine uR 6 [.c [5, 0], .c [6]] ?_
   refine qG (sq 0 7) ?_
   refine qP 2 (sq 2 7) [(2, .I quota), (10, .P f 0), (42, .P f 0), (43, .P db 0)] ?_
   refine RW.new (κ := .seq) (d := some 44) (r := (sq 3 7)) (o := mapO cidV veV ([] : List (CID × VE × Nat)) 0) (v := fun b_ => .map (some b_)) (fun _ => by as_aux_lemma => kernel_rfl) (nofun) H ?_
   intro j _ H
   refine uP 2 ?_
   refine uC #[.P f 0, .P db 0, .map (some j), .I quota, .I 0, .I 0] 119 H ?_
   intro k _ H
   refine uF 1 ?_
   refine uR 1 [.c [6, 0], .c [7]] ?_
   refine qG (sq 0 3) ?_
   refine uP 1 ?_
   have H := H.frontM 2 rfl
   refine uKS (jbase_spec D.bl ((H.lend (M1 := [_]) (W1 := [])).pick [0] rfl)) ?_
   rintro _ _ ⟨M, N, rfl, H'⟩
   have H := H.back (M1 := [_]) (W1 := []) H'
   have H : Hp w S O (_ :: _ :: _ :: _) [⟨Sb, 5, .slice M (([] : List (BitVec 8)).length) N, ([] : List (BitVec 8))⟩, _, _] [_, _, _] _ := H
   refine uF 1 ?_
   refine uR 4 [.c [7, 0, 1, 0], .b 0, .c [8]] ?_
   refine uL (α := Unit) (g := 36) (p := [7, 0, 1, 0, 0]) (fun _ => [(10, .P f 0), (12, .P k 0), (13, .slice M (([] : List (BitVec 8)).length) N), (14, .I 0)]) (fun _ w' => Hp w S O ((f, .cells #[.P db 0, .string nm, .slice C (([] : List (BitVec 8)).length) y, .slice z (ds.map encD).length A, .I W, .string (⟨#[]⟩ : ByteArray), .slice none (([] : List (BitVec 8)).length) 0, .bool true] 41 (0, 0)) :: (k, .cells #[.P f 0, .P db 0, .map (some j), .I quota, .I 0, .I 0] 119 (0, 0)) :: (j, mapO cidV veV ([] : List (CID × VE × Nat)) 0) :: (diskM db x t u)) [⟨Sb, 5, .slice M (([] : List (BitVec 8)).length) N, ([] : List (BitVec 8))⟩, ⟨SB, 23, .slice z (ds.map encD).length A, (ds.map encD)⟩, ⟨stepS, 143, .slice t x.steps.length u, x.steps⟩] [Rp SB [.slice C (([] : List (BitVec 8)).length) y] ([] : List (BitVec 8)), Rp SB [.slice none (([] : List (BitVec 8)).length) 0] ([] : List (BitVec 8)), Fz jQ] w' ∧ True) (fun _ => 0) (()) ⟨H, trivial⟩ ?_
   rintro _ _ ⟨H, _⟩ _
   refine uR 3 [.c [7, 0, 1, 0, 0, 0, 1], .c [7, 0, 1, 0, 0, 1], .l [7, 0, 1, 0, 0], .b 0, .c [8]] ?_
   refine qD ((0 : Int) < ((([] : List (BitVec 8)).length : Nat) : Int)) (fun Y => ?_) (fun Y => ?_)
   ·
    (simp at Y)
   ·
    refine uR 3 [.c [8, 0, 0], .c [8, 0, 1], .c [9]] ?_
    refine qG (sq 0 4) ?_
    refine uP 1 ?_
    have H := H.frontW 1 rfl
    refine uKS (jrecs_spec (Nat.le_trans D.rl (by omega)) D.rb ((H.lend (M1 := [_]) (W1 := [_])).pick [] rfl)) ?_
    rintro _ _ ⟨E, G, rfl, H'⟩
    have H := H.back (M1 := [_]) (W1 := [_]) H'
    have H : Hp w S O (_ :: _ :: _ :: _) [⟨SB, 23, .slice E (ds.map encD).length G, (ds.map encD)⟩, _, _, _] [_, _, _] _ := H
    refine uF 2 ?_
    refine uR 1 [.c [8, 0, 1, 0], .b 2, .c [9]] ?_
    have H := H.add (F := Fall ([] : VL)) Fall.nil
    have H : Hp w S O (_ :: (k, .cells #[.P f 0, .P db 0, .map (some j), .I quota, .I (usedL (runD (ds.take 0)).1 : Int), .I 0] 119 (0, 0)) :: (j, mapO cidV veV ([] : VL) ((runD (ds.take 0)).2)) :: _) [_, _, _, _] [_, _, _, _] _ := H
    refine uL (α := Nat × VL) (g := 36) (p := [8, 0, 1, 0, 0]) (fun (i, L) => [(12, .P k 0), (65, .slice E (ds.map encD).length G), (66, .I (((ds.map encD).length : Nat) : Int)), (67, .I i)]) (fun (i, L) w' => Hp w S O ((f, .cells #[.P db 0, .string nm, .slice C (([] : List (BitVec 8)).length) y, .slice z (ds.map encD).length A, .I W, .string (⟨#[]⟩ : ByteArray), .slice none (([] : List (BitVec 8)).length) 0, .bool true] 41 (0, 0)) :: (k, .cells #[.P f 0, .P db 0, .map (some j), .I quota, .I (usedL (runD (ds.take i)).1 : Int), .I i] 119 (0, 0)) :: (j, mapO cidV veV L ((runD (ds.take i)).2)) :: (diskM db x t u)) [⟨SB, 23, .slice E (ds.map encD).length G, (ds.map encD)⟩, ⟨SB, 23, .slice z (ds.map encD).length A, (ds.map encD)⟩, ⟨Sb, 5, .slice M (([] : List (BitVec 8)).length) N, ([] : List (BitVec 8))⟩, ⟨stepS, 143, .slice t x.steps.length u, x.steps⟩] [Fall L, Rp SB [.slice C (([] : List (BitVec 8)).length) y] ([] : List (BitVec 8)), Rp SB [.slice none (([] : List (BitVec 8)).length) 0] ([] : List (BitVec 8)), Fz jQ] w' ∧ i ≤ ds.length ∧ cont L = (runD (ds.take i)).1) (fun (i, L) => ds.length - i) (0, ([] : VL)) ⟨H, Nat.zero_le _, rfl⟩ ?_
    rintro ⟨i, L⟩ _ ⟨H, ⟨hi, hL⟩⟩ U
    refine uR 3 [.c [8, 0, 1, 0, 0, 1, 0], .c [8, 0, 1, 0, 0, 2], .l [8, 0, 1, 0, 0], .b 2, .c [9]] ?_
    refine qD (((i : Int) : Int) < (((ds.map encD).length : Nat) : Int)) (fun i0 => ?_) (fun i0 => ?_)
    ·
     have Z : i < ds.length := by rw [List.length_map] at *; omega
     have hok := hall i (ds[i]) (List.getElem?_eq_getElem Z)
     obtain ⟨hsm, hus⟩ := allD_run hall i hi
     refine uR 4 [.c [8, 0, 1, 0, 0, 2, 0, 0, 0], .c [8, 0, 1, 0, 0, 2, 0, 0, 1], .b 3, .c [8, 0, 1, 0, 0, 3], .l [8, 0, 1, 0, 0], .b 2, .c [9]] ?_
     refine qG (sq 0 3) ?_
     have d0 : (ds.map encD).length = (ds.map encD).length := rfl
     have e0 : i < (ds.map encD).length := by omega
     refine RW.indexW (κ := .seq) (d := some 69) (r := (sq 1 3)) (T := 22) (e := 23) (m := 1) (ik := .i64) (ix := (i : Int)) (sh := SB) (xs := (ds.map encD)) (a := E) (len := (ds.map encD).length) (cap := G) (by as_aux_lemma => kernel_rfl) (by as_aux_lemma => kernel_rfl) rfl H i (by omega) e0 d0 ?_
     intro _ _ _ V K
     rw [List.getElem_map] at K
     obtain ⟨_, _, rfl⟩ := Shape.slice_form' K
     have H := H.addR K
     refine uV 23 0 V ?_
     refine uF 1 ?_
     refine uR 1 [.c [8, 0, 1, 0, 0, 2, 0, 0, 1, 0], .c [8, 0, 1, 0, 0, 2, 0, 0, 2], .b 3, .c [8, 0, 1, 0, 0, 3], .l [8, 0, 1, 0, 0], .b 2, .c [9]] ?_
     refine qG (sq 0 3) ?_
     refine uP 2 ?_
     have H := H.frontM 2 rfl
     have H := H.frontM 2 rfl
     refine uKS (do_spec (s := (runD (ds.take i))) (ds[i]) hL hok hsm (by omega) ((H.lend (M1 := [_, _]) (W1 := [])).pick [0, 1] rfl)) ?_
     rintro _ _ ⟨rfl, J, f0, H'⟩
     have H := H.back (M1 := [_, _]) (W1 := []) H'
     have H : Hp w S O ((k, .cells #[.P f 0, .P db 0, .map (some j), .I quota, .I (usedL (stepD (runD (ds.take i)) (ds[i])).1 : Int), .I i] 119 (0, 0)) :: (j, mapO cidV veV J ((stepD (runD (ds.take i)) (ds[i])).2)) :: _ :: _) [_, _, _, _] [Fall J, _, _, _, _, _] _ := H
     refine uF 0 ?_
     refine qG (sq 0 8) ?_
     refine uP 3 ?_
     refine uV 3 5 (H.cells 0 rfl) ?_
     refine uI ((i : Int) + 1) ?_
     refine uP 2 ?_
     refine qW 3 k 5 (sq 8 8) (.I ((i : Int) + 1)) ((k, .cells #[.P f 0, .P db 0, .map (some j), .I quota, .I (usedL (stepD (runD (ds.take i)) (ds[i])).1 : Int), .I ((i : Int) + 1)] 119 (0, 0)) :: (j, mapO cidV veV J ((stepD (runD (ds.take i)) (ds[i])).2)) :: (f, .cells #[.P db 0, .string nm, .slice C (([] : List (BitVec 8)).length) y, .slice z (ds.map encD).length A, .I W, .string (⟨#[]⟩ : ByteArray), .slice none (([] : List (BitVec 8)).length) 0, .bool true] 41 (0, 0)) :: (diskM db x t u)) H 0 rfl rfl ?_
     intro _ H
     refine uF 0 ?_
     refine uR 1 [.c [8, 0, 1, 0, 0, 3], .l [8, 0, 1, 0, 0], .b 2, .c [9]] ?_
     refine qG (sq 0 2) ?_
     refine uI ((i : Int) + 1) ?_
     refine qF 1 [(12, .P k 0), (65, .slice E (ds.map encD).length G), (66, .I (((ds.map encD).length : Nat) : Int)), (67, .I ((i : Int) + 1))] ?_
     have e9 : runD (ds.take (i + 1)) = stepD (runD (ds.take i)) ds[i] := runD_take (List.getElem?_eq_getElem Z)
     rw [← e9] at H
     have H : Hp w S O ((k, .cells #[.P f 0, .P db 0, .map (some j), .I quota, .I (usedL (runD (ds.take (i + 1))).1 : Int), .I ((i + 1) : Int)] 119 (0, 0)) :: (j, mapO cidV veV J ((runD (ds.take (i + 1))).2)) :: _ :: _) [_, _, _, _] [_, _, _, _, _, _] _ := H
     have H := H.pick [0, 3, 4, 5] rfl
     have H := H.frontM 1 rfl
     have H := H.frontM 1 rfl
     have H := H.frontM 2 rfl
     exact uB (U (i + 1, J) _ ⟨H, by omega, by rw [e9]; exact f0⟩ (by first | omega | (simp only []; omega)))
    ·
     refine uR 3 [.c [10]] ?_
     refine qT (.tuple #[.P k 0, .I 0]) Tryz.func36 ?_
     have hie : i = ds.length := by rw [List.length_map] at *; omega
     rw [hie, List.take_length] at H hL
     have H : Hp w S O (_ :: (k, .cells #[.P f 0, .P db 0, .map (some j), .I quota, .I (usedL (runD ds).1 : Int), .I (ds.length : Int)] 119 (0, 0)) :: (j, mapO cidV veV L ((runD ds).2)) :: _) [_, _, _, _] [_, _, _, _] _ := H
     have H := H.pick [1, 2, 0] rfl
     have H := H.frontM 2 rfl
     have H := H.frontM 2 rfl
     have H := H.frontW 3 rfl
     have H := H.frontW 2 rfl
     have H := H.dropW 3
     have H := H.dropW 2
     exact ⟨_, rfl, k, f, j, _, _, _, _, _, x, t, u, L, rfl, D, X, hL, H⟩
end Go.Proofs.YtdnibpclkhenmaaGreatDoor
