import Derived.Test.YtdnibpclkhenmaaGreatDoorSBxB
import Derived.Test.YtdnibpclkhenmaaGreatDoorSV6
import Derived.Test.YtdnibpclkhenmaaGreatDoorSJL
namespace Go.Proofs.YtdnibpclkhenmaaGreatDoor
open Go.BX
theorem vstate_spec {S : Nat → Prop} {w : World} {O : List Nat} {vb jb db mb g : Nat} {nm seg : ByteArray} {σ : List (BitVec 8)} {ab ar aσ : Option Addr} {cb cr cσ n m t q c : Nat} {quota : Int} {L : VL} {ds : List Deed} {D0 : DiskD} {sa0 : Option Addr} {sk0 : Nat} (hW : JW D0 nm [] (ds.map encD) (ds.map encD) g seg σ true n m t q c) (hna : D0.armed = false) (hL : cont L = (runD ds).1) (hall : allD ds) (H0 : Hp w S O ((vb, .cells #[.P jb 0, .P db 0, .map (some mb), .I quota, .I (usedL (runD ds).1 : Int), .I (ds.length : Int)] 119 (0, 0)) :: (mb, mapO cidV veV L ((runD ds).2)) :: (jb, .cells #[.P db 0, .string nm, .slice ab (([] : List (BitVec 8)).length) cb, .slice ar (ds.map encD).length cr, .I g, .string seg, .slice aσ σ.length cσ, .bool true] 41 (0, 0)) :: (diskM db D0 sa0 sk0)) [⟨SB, 23, .slice ar (ds.map encD).length cr, (ds.map encD)⟩, ⟨stepS, 143, .slice sa0 D0.steps.length sk0, D0.steps⟩] [Rp SB [.slice ab (([] : List (BitVec 8)).length) cb] ([] : List (BitVec 8)), Rp SB [.slice aσ σ.length cσ] σ, Fall L, Fz jQ] w) :
 Calls Tryz.prog 90 #[.P vb 0] w (Ret fun v w' => v = .I 0 ∧ Hp w S O ((vb, .cells #[.P jb 0, .P db 0, .map (some mb), .I quota, .I (usedL (runD ds).1 : Int), .I (ds.length : Int)] 119 (0, 0)) :: (mb, mapO cidV veV L ((runD ds).2)) :: (jb, .cells #[.P db 0, .string nm, .slice ab (([] : List (BitVec 8)).length) cb, .slice ar (ds.map encD).length cr, .I g, .string seg, .slice aσ σ.length cσ, .bool true] 41 (0, 0)) :: (diskM db D0 sa0 sk0)) [⟨SB, 23, .slice ar (ds.map encD).length cr, (ds.map encD)⟩, ⟨stepS, 143, .slice sa0 D0.steps.length sk0, D0.steps⟩] [] w') := by
 refine uS1 Tryz.func90 ?_
 have H := H0
 refine uR 5 [.c [1, 0, 0, 0], .c [1, 0, 0, 1], .b 0, .c [2]] ?_
 refine qG (sq 0 10) ?_
 refine uP 6 ?_
 refine uV 24 1 (H.cells 0 rfl) ?_
 refine uF 3 ?_
 refine uR 2 [.c [1, 0, 0, 1, 1, 0], .c [1, 0, 0, 1, 1, 1], .b 0, .c [2]] ?_
 refine qG (sq 0 6) ?_
 refine uP 3 ?_
 refine uV 24 1 (H.cells 0 rfl) ?_
 have H := H.frontW 1 rfl
 have H := H.gat 0 3
 refine uKS (dDead hW.al.dead ((H.lend (M1 := (diskM _ _ _ _)) (W1 := [_])).pick [] rfl)) ?_
 rintro _ _ ⟨rfl, H'⟩
 have H := H.back (M1 := (diskM _ _ _ _)) (W1 := [_]) H'
 have H := H.ung 0
 have H : Hp w S O (_ :: _ :: _ :: _) [_, _] [_, _, _, _] _ := H
 refine uF 1 ?_
 refine uR 5 [.c [3]] ?_
 refine qT (.I 0) Tryz.func90 ?_
 have H := H.pick [] rfl
 have H := H.frontW 1 rfl
 exact ⟨_, rfl, rfl, H⟩
set_option maxHeartbeats 1000000 in
theorem vsave_spec {S : Nat → Prop} {w : World} {O : List Nat} {vb jb db mb g : Nat} {nm seg : ByteArray} {σ : List (BitVec 8)} {ab ar aσ : Option Addr} {cb cr cσ n m t q c : Nat} {quota : Int} {L : VL} {ds : List Deed} {D0 : DiskD} {sa0 : Option Addr} {sk0 : Nat} {ax : Option Addr} {cx : Nat} {d : Deed} (hW : JW D0 nm [] (ds.map encD) (ds.map encD) g seg σ true n m t q c) (hna : D0.armed = false) (hL : cont L = (runD ds).1) (hall : allD ds) (hn : 700000 ≤ n) (hm : m ≤ 60000) (ht : t ≤ 3000000) (hc : c + 3 ≤ 256) (hdl : ds.length < 256) (hok : okD (runD ds) d) (H0 : Hp w S O ((vb, .cells #[.P jb 0, .P db 0, .map (some mb), .I quota, .I (usedL (runD ds).1 : Int), .I (ds.length : Int)] 119 (0, 0)) :: (mb, mapO cidV veV L ((runD ds).2)) :: (jb, .cells #[.P db 0, .string nm, .slice ab (([] : List (BitVec 8)).length) cb, .slice ar (ds.map encD).length cr, .I g, .string seg, .slice aσ σ.length cσ, .bool true] 41 (0, 0)) :: (diskM db D0 sa0 sk0)) [⟨SB, 23, .slice ar (ds.map encD).length cr, (ds.map encD)⟩, ⟨stepS, 143, .slice sa0 D0.steps.length sk0, D0.steps⟩] [Rp SB [.slice ab (([] : List (BitVec 8)).length) cb] ([] : List (BitVec 8)), Rp SB [.slice aσ σ.length cσ] σ, Fall L, Fz jQ, Rp SB [.slice ax (encD d).length cx] (encD d)] w) :
 Calls Tryz.prog 92 #[.P vb 0, .slice ax (encD d).length cx] w (Ret fun v w' => v = .I 0 ∧ ∃ (D' : DiskD) (sa' : Option Addr) (sk' g' : Nat) (seg' : ByteArray) (σ' : List (BitVec 8)) (ar' : Option Addr) (cr' : Nat) (aσ' : Option Addr) (cσ' : Nat) (L' : VL), JW D' nm [] ((ds ++ [d]).map encD) ((ds ++ [d]).map encD) g' seg' σ' true (n - 600000) (m + 2) (t + (encD d).length + 12) q (c + 2) ∧ D'.armed = false ∧ cont L' = (runD (ds ++ [d])).1 ∧ Hp w S O ((vb, .cells #[.P jb 0, .P db 0, .map (some mb), .I quota, .I (usedL (runD (ds ++ [d])).1 : Int), .I ((ds ++ [d]).length : Int)] 119 (0, 0)) :: (mb, mapO cidV veV L' ((runD (ds ++ [d])).2)) :: (jb, .cells #[.P db 0, .string nm, .slice ab (([] : List (BitVec 8)).length) cb, .slice ar' (((ds ++ [d]).map encD).length) cr', .I g', .string seg', .slice aσ' σ'.length cσ', .bool true] 41 (0, 0)) :: diskM db D' sa' sk') [⟨SB, 23, .slice ar' (((ds ++ [d]).map encD).length) cr', ((ds ++ [d]).map encD)⟩, diskW D' sa' sk'] [Rp SB [.slice ab (([] : List (BitVec 8)).length) cb] ([] : List (BitVec 8)), Rp SB [.slice aσ' σ'.length cσ'] σ', Fall L'] w') := by
 have hrl := encD_len hok
 obtain ⟨hsm, hus⟩ := allD_small hall
 refine uS1 Tryz.func92 ?_
 have H := H0
 refine uR 4 [.c [1, 0, 0], .c [1, 0, 1], .c [2]] ?_
 refine qG (sq 0 5) ?_
 refine uP 3 ?_
 refine uV 3 5 (H.cells 0 rfl) ?_
 refine uF 1 ?_
 refine qD (((ds.length : Int) : Int) ≥ 256) (fun W => ?_) (fun W => ?_)
 ·
  omega
 ·
  refine uR 3 [.c [2, 0, 0], .c [2, 0, 1], .c [3]] ?_
  refine qG (sq 0 7) ?_
  refine uP 3 ?_
  refine uV 27 0 (H.cells 0 rfl) ?_
  refine uP 1 ?_
  have H := H.frontM 2 rfl
  have H := H.frontW 1 rfl
  have H := H.frontW 1 rfl
  have H := H.gat 1 2
  refine uKS (jappend_spec (r := encD d) (n := (n - 300000)) hW.pl hW.di (hW.al.mono (by omega)) hW.jl (Nat.lt_of_le_of_lt hW.gm (by omega)) (by omega) (by have := hW.sl; omega) (Nat.le_trans hW.rl (by omega)) (Nat.lt_of_le_of_lt hW.now (by omega)) ((H.lend (M1 := (_ :: (diskM _ _ _ _))) (W1 := [_, _])).pick [0, 1, 3, 4] rfl)) ?_
  rintro _ _ (⟨rfl, A, k, p, h, i, j, u, l, o, B, C, D, E, F, G, _, H'⟩ | ⟨_, _, _, _, u, l, o, rfl, J, H'⟩)
  rotate_left
  · exact absurd (J.arm) (by rw [hna]; nofun)
  have a := hW.app (by omega) B C D E (hW.cap.step G)
  have H := H.back (M1 := (_ :: (diskM _ _ _ _))) (W1 := [_, _]) H'
  have H := H.ung 1
  have H : Hp w S O ((jb, .cells #[.P db 0, .string nm, .slice ab (([] : List (BitVec 8)).length) cb, .slice p (((ds.map encD) ++ [encD d]).length) h, .I A, .string k, .slice i ((σ ++ frameF (encD d)).length) j, .bool false] 41 (0, 0)) :: _ :: _ :: (diskM db u l o)) [⟨SB, 23, .slice p (((ds.map encD) ++ [encD d]).length) h, ((ds.map encD) ++ [encD d])⟩, ⟨stepS, 143, .slice l u.steps.length o, u.steps⟩] [_, Rp SB [.slice i ((σ ++ frameF (encD d)).length) j] (σ ++ frameF (encD d)), _, _, _, _, _] _ := H
  have x := F.arm.trans hna
  refine uF 1 ?_
  refine uR 6 [.c [3, 0, 0], .c [3, 0, 1], .c [4]] ?_
  refine qG (sq 0 6) ?_
  refine uP 3 ?_
  refine uV 27 0 (H.cells 1 rfl) ?_
  have H := H.frontW 1 rfl
  have H := H.frontW 1 rfl
  have H := H.gat 1 2
  refine uKS (jsync_spec (n := ((n - 300000) - 300000)) a.pl a.di (a.al.mono (by omega)) a.jl ((H.lend (M1 := (_ :: (diskM _ _ _ _))) (W1 := [_, _])).pick [0, 1, 5] rfl)) ?_
  rintro _ _ (⟨rfl, f, b, e, K, M, N, Q, R, H'⟩ | ⟨_, _, _, _, f, b, e, rfl, T, H'⟩)
  rotate_left
  · exact absurd (T.arm) (by rw [x]; nofun)
  have U := a.syn K M N (a.cap.step R)
  have H := H.back (M1 := (_ :: (diskM _ _ _ _))) (W1 := [_, _]) H'
  have H := H.ung 1
  have H : Hp w S O ((jb, .cells #[.P db 0, .string nm, .slice ab (([] : List (BitVec 8)).length) cb, .slice p (((ds.map encD) ++ [encD d]).length) h, .I A, .string k, .slice i ((σ ++ frameF (encD d)).length) j, .bool true] 41 (0, 0)) :: _ :: _ :: (diskM db f b e)) [_, ⟨stepS, 143, .slice b f.steps.length e, f.steps⟩] [_, _, _, _, _, _, _, _, _] _ := H
  have z := Q.arm.trans x
  refine uF 1 ?_
  refine qR 5 [.c [4, 0], .c [5]] [(0, .P vb 0), (1, .slice ax (encD d).length cx)] ?_
  refine qG (sq 0 8) ?_
  refine uP 3 ?_
  refine uV 3 5 (H.cells 1 rfl) ?_
  refine uI ((ds.length : Int) + 1) ?_
  refine uP 2 ?_
  refine qW 3 vb 5 (sq 8 8) (.I ((ds.length : Int) + 1)) ((jb, .cells #[.P db 0, .string nm, .slice ab (([] : List (BitVec 8)).length) cb, .slice p (((ds.map encD) ++ [encD d]).length) h, .I A, .string k, .slice i ((σ ++ frameF (encD d)).length) j, .bool true] 41 (0, 0)) :: (vb, .cells #[.P jb 0, .P db 0, .map (some mb), .I quota, .I (usedL (runD ds).1 : Int), .I ((ds.length : Int) + 1)] 119 (0, 0)) :: (mb, mapO cidV veV L ((runD ds).2)) :: (diskM db f b e)) H 1 rfl rfl ?_
  intro _ H
  refine uF 0 ?_
  refine uR 1 [.c [5, 0], .c [6]] ?_
  refine qG (sq 0 3) ?_
  refine uP 2 ?_
  have H := H.frontM 2 rfl
  have H := H.frontM 2 rfl
  refine uKS (do_spec (s := (runD ds)) d hL hok hsm (by omega) ((H.lend (M1 := [_, _]) (W1 := [])).pick [8, 6] rfl)) ?_
  rintro _ _ ⟨rfl, y, V, H'⟩
  have H := H.back (M1 := [_, _]) (W1 := []) H'
  have H : Hp w S O ((vb, .cells #[.P jb 0, .P db 0, .map (some mb), .I quota, .I (usedL (stepD (runD ds) d).1 : Int), .I ((ds.length : Int) + 1)] 119 (0, 0)) :: (mb, mapO cidV veV y ((stepD (runD ds) d).2)) :: _ :: _) [_, _] [Fall y, _, _, _, _, _, _, _, _, _] _ := H
  refine uF 0 ?_
  refine uR 2 [.c [7]] ?_
  refine qT (.I 0) Tryz.func92 ?_
  have H := H.pick [1, 2, 0] rfl
  have eR : (ds ++ [d]).map encD = ds.map encD ++ [encD d] := by rw [List.map_append]; rfl
  have eD := runD_snoc ds d
  have eN : ((ds ++ [d]).length : Int) = (ds.length : Int) + 1 := by rw [List.length_append]; rfl
  exact ⟨_, rfl, rfl, f, b, e, _, _, _, _, _, _, _, y, by rw [eR]; exact U.mono (by omega) (by omega) (by omega) (Nat.le_refl _) (by omega), z, by rw [eD]; exact V, by rw [eR, eD, eN]; exact H⟩
end Go.Proofs.YtdnibpclkhenmaaGreatDoor
