import Derived.Test.YtdnibpclkhenmaaGreatDoorSBxA
import Derived.Test.YtdnibpclkhenmaaGreatDoorSJQ
namespace Go.Proofs.YtdnibpclkhenmaaGreatDoor
open Go.BX
set_option maxHeartbeats 2000000 in
theorem plainly_spec {S : Nat → Prop} {w : World} {O : List Nat} {jb bk db : Nat} {nm : ByteArray} {D0 : DiskD} {sa0 : Option Addr} {sk0 n m t : Nat} {B : List (BitVec 8)} {R0 : List (List (BitVec 8))} {R : List (List (BitVec 8))} {L : List (List (BitVec 8))} {g : Nat} {seg : ByteArray} {σ : List (BitVec 8)} {sy : Bool} {ab : Option Addr} {cb : Nat} {ar : Option Addr} {cr : Nat} {aσ : Option Addr} {cσ : Nat} {aB : Option Addr} {cB : Nat} {aR : Option Addr} {cR : Nat} {a1 : Option Addr} {c1 : Nat} {a0 : Option Addr} {c0 : Nat} {al : Option Addr} {cl : Nat} {x : Act} {a1x : Option Addr} {k1x : Nat} (hW : JW D0 nm B R0 R g seg σ sy (n + 300000) m t 0 8) (hN : NmC D0 D0.steps.length 6) (hna : D0.armed = false) (hRL : R = R0 ++ L) (hx : x.data.length ≤ 20000) (hm : m ≤ 1000) (ht : t ≤ 3000000) (H0 : Hp w S O ((jb, .cells #[.P db 0, .string nm, .slice ab B.length cb, .slice ar R.length cr, .I g, .string seg, .slice aσ σ.length cσ, .bool sy] 41 (0, 0)) :: (bk, .cells #[.slice aB B.length cB, .slice aR R.length cR, .slice a1 B.length c1, .slice a0 R0.length c0, .slice al L.length cl, .bool false, .slice none (([] : List (BitVec 8)).length) 0] 50 (0, 0)) :: diskM db D0 sa0 sk0) [⟨SB, 23, .slice ar R.length cr, R⟩, ⟨SB, 23, .slice aR R.length cR, R⟩, ⟨SB, 23, .slice al L.length cl, L⟩, ⟨stepS, 143, .slice sa0 D0.steps.length sk0, D0.steps⟩] [Rp SB [.slice ab B.length cb] B, Rp SB [.slice aσ σ.length cσ] σ, Rp SB [.slice aB B.length cB] B, Rp SB [.slice a1 B.length c1] B, Rp SB [.slice none (([] : List (BitVec 8)).length) 0] ([] : List (BitVec 8)), Rp (Shape.slice SB) [.slice a0 R0.length c0] R0, Fz jQ, Rp SB [.slice a1x x.data.length k1x] x.data] w) :
 Calls Tryz.prog 23 #[.P jb 0, .P bk 0, .agg #[.I x.kind, .slice a1x x.data.length k1x, .I x.n]] w (Ret fun v w' => v = .bool true ∧ ∃ (D' : DiskD) (sa' : Option Addr) (sk' : Nat) (B' : List (BitVec 8)) (R0' : List (List (BitVec 8))) (R' : List (List (BitVec 8))) (L' : List (List (BitVec 8))) (g' : Nat) (seg' : ByteArray) (σ' : List (BitVec 8)) (sy' : Bool) (ab' : Option Addr) (cb' : Nat) (ar' : Option Addr) (cr' : Nat) (aσ' : Option Addr) (cσ' : Nat) (aB' : Option Addr) (cB' : Nat) (aR' : Option Addr) (cR' : Nat) (a1' : Option Addr) (c1' : Nat) (a0' : Option Addr) (c0' : Nat) (al' : Option Addr) (cl' : Nat), JW D' nm B' R0' R' g' seg' σ' sy' n (m + 1) (t + x.data.length + 12) 0 8 ∧ R' = R0' ++ L' ∧ Stp nm D0 D' ∧ D'.armed = false ∧ Hp w S O ((jb, .cells #[.P db 0, .string nm, .slice ab' B'.length cb', .slice ar' R'.length cr', .I g', .string seg', .slice aσ' σ'.length cσ', .bool sy'] 41 (0, 0)) :: (bk, .cells #[.slice aB' B'.length cB', .slice aR' R'.length cR', .slice a1' B'.length c1', .slice a0' R0'.length c0', .slice al' L'.length cl', .bool false, .slice none (([] : List (BitVec 8)).length) 0] 50 (0, 0)) :: diskM db D' sa' sk') [⟨SB, 23, .slice ar' R'.length cr', R'⟩, ⟨SB, 23, .slice aR' R'.length cR', R'⟩, ⟨SB, 23, .slice al' L'.length cl', L'⟩, diskW D' sa' sk'] [Rp SB [.slice ab' B'.length cb'] B', Rp SB [.slice aσ' σ'.length cσ'] σ', Rp SB [.slice aB' B'.length cB'] B', Rp SB [.slice a1' B'.length c1'] B', Rp SB [.slice none (([] : List (BitVec 8)).length) 0] ([] : List (BitVec 8)), Rp (Shape.slice SB) [.slice a0' R0'.length c0'] R0'] w') := by
 have v0 := hW.rl
 have w0 : R.length = R0.length + L.length := by rw [hRL, List.length_append]
 refine uS1 Tryz.func23 ?_
 have H := H0
 refine uR 1 [.c [0], .c [1]] ?_
 refine qG (sq 0 2) ?_
 refine uC #[.I x.kind, .slice a1x x.data.length k1x, .I x.n] 53 H ?_
 intro a _ H
 refine uF 1 ?_
 refine uR 2 [.c [1, 0, 0], .c [1, 0, 1], .c [2]] ?_
 refine qG (sq 0 2) ?_
 refine uP 1 ?_
 refine uV 3 0 (H.cells 0 rfl) ?_
 refine uF 0 ?_
 refine uR 3 [.c [1, 0, 1, 0, 1], .b 0, .c [2]] ?_
 refine qE x.kind 1 (fun h3 => ?_) (fun h3 => ?_)
 ·
  refine uR 1 [.c [1, 0, 1, 0, 1, 0, 0], .c [1, 0, 1, 0, 1, 0, 1], .b 0, .c [2]] ?_
  refine qG (sq 0 4) ?_
  refine uP 2 ?_
  refine uV 23 1 (H.cells 0 rfl) ?_
  have H := H.frontM 2 rfl
  have H := H.frontW 2 rfl
  have H := H.frontW 2 rfl
  refine uKS (bk_app (by omega) (by omega) ((H.lend (M1 := [(bk, .cells #[.slice aB B.length cB, .slice aR R.length cR, .slice a1 B.length c1, .slice a0 R0.length c0, .slice al L.length cl, .bool false, .slice none (([] : List (BitVec 8)).length) 0] 50 (0, 0))]) (W1 := [⟨SB, 23, .slice aR R.length cR, R⟩, ⟨SB, 23, .slice al L.length cl, L⟩])).pick [2, 3, 4, 5, 7] rfl)) ?_
  rintro _ _ ⟨rfl, d, e, f, h, H'⟩
  have H := H.back (M1 := [(bk, .cells #[.slice aB B.length cB, .slice aR R.length cR, .slice a1 B.length c1, .slice a0 R0.length c0, .slice al L.length cl, .bool false, .slice none (([] : List (BitVec 8)).length) 0] 50 (0, 0))]) (W1 := [⟨SB, 23, .slice aR R.length cR, R⟩, ⟨SB, 23, .slice al L.length cl, L⟩]) H'
  have H : Hp w S O ((bk, .cells #[.slice aB B.length cB, .slice d (R ++ [x.data]).length e, .slice a1 B.length c1, .slice a0 R0.length c0, .slice f (L ++ [x.data]).length h, .bool false, .slice none (([] : List (BitVec 8)).length) 0] 50 (0, 0)) :: (a, .cells #[.I x.kind, .slice a1x x.data.length k1x, .I x.n] 53 (0, 0)) :: (jb, .cells #[.P db 0, .string nm, .slice ab B.length cb, .slice ar R.length cr, .I g, .string seg, .slice aσ σ.length cσ, .bool sy] 41 (0, 0)) :: (diskM db D0 sa0 sk0)) [⟨SB, 23, .slice d (R ++ [x.data]).length e, (R ++ [x.data])⟩, ⟨SB, 23, .slice f (L ++ [x.data]).length h, (L ++ [x.data])⟩, _, _] [_, _, _, _, _, _, _, _, _, _, _, _] _ := H
  refine uF 0 ?_
  refine uR 1 [.c [1, 0, 1, 0, 1, 0, 1, 0], .c [1, 0, 1, 0, 1, 0, 2], .b 0, .c [2]] ?_
  refine qG (sq 0 6) ?_
  refine qP 2 (sq 2 6) [(15, .P jb 0), (16, .P a 1)] ?_
  refine uV 23 1 (H.cells 1 rfl) ?_
  have H := H.frontM 2 rfl
  have H := H.frontW 3 rfl
  have H := H.frontW 3 rfl
  have H := H.perms (M' := ((jb, .cells #[.P db 0, .string nm, .slice ab B.length cb, .slice ar R.length cr, .I g, .string seg, .slice aσ σ.length cσ, .bool sy] 41 (0, 0)) :: diskM db D0 sa0 sk0) ++ [(bk, .cells #[.slice aB B.length cB, .slice d (R ++ [x.data]).length e, .slice a1 B.length c1, .slice a0 R0.length c0, .slice f (L ++ [x.data]).length h, .bool false, .slice none (([] : List (BitVec 8)).length) 0] 50 (0, 0)), (a, .cells #[.I x.kind, .slice a1x x.data.length k1x, .I x.n] 53 (0, 0))]) (W' := [⟨SB, 23, .slice ar R.length cr, R⟩, ⟨stepS, 143, .slice sa0 D0.steps.length sk0, D0.steps⟩, ⟨SB, 23, .slice d (R ++ [x.data]).length e, (R ++ [x.data])⟩, ⟨SB, 23, .slice f (L ++ [x.data]).length h, (L ++ [x.data])⟩]) ((List.perm_append_comm (l₁ := diskM db D0 sa0 sk0) (l₂ := ([(bk, .cells #[.slice aB B.length cB, .slice d (R ++ [x.data]).length e, .slice a1 B.length c1, .slice a0 R0.length c0, .slice f (L ++ [x.data]).length h, .bool false, .slice none (([] : List (BitVec 8)).length) 0] 50 (0, 0)), (a, .cells #[.I x.kind, .slice a1x x.data.length k1x, .I x.n] 53 (0, 0))] : Heap))).cons _) (List.Perm.refl _)
  refine uKS (jappend_spec (r := x.data) (n := ((n + 300000) - 300000)) hW.pl hW.di (hW.al.mono (by omega)) hW.jl (Nat.lt_of_le_of_lt hW.gm (by omega)) (by omega) (by have := hW.sl; omega) (Nat.le_trans hW.rl (by omega)) (Nat.lt_of_le_of_lt hW.now (by omega)) ((H.lend (M1 := ((jb, .cells #[.P db 0, .string nm, .slice ab B.length cb, .slice ar R.length cr, .I g, .string seg, .slice aσ σ.length cσ, .bool sy] 41 (0, 0)) :: diskM db D0 sa0 sk0)) (W1 := [⟨SB, 23, .slice ar R.length cr, R⟩, ⟨stepS, 143, .slice sa0 D0.steps.length sk0, D0.steps⟩])).pick [4, 5, 10, 11] rfl)) ?_
  rintro _ _ (⟨rfl, X, M, D, E, F, G, q, i, j, Y, Z, b0, d0, N, e0, _, H'⟩ | ⟨_, _, _, _, q, i, j, rfl, f0, H'⟩)
  rotate_left
  · exact absurd (f0.arm) (by rw [hna]; nofun)
  have g0 := hW.app (by omega) Y Z b0 d0 (Cap.keep e0 hN hW.cap)
  have H := H.back (M1 := ((jb, .cells #[.P db 0, .string nm, .slice ab B.length cb, .slice ar R.length cr, .I g, .string seg, .slice aσ σ.length cσ, .bool sy] 41 (0, 0)) :: diskM db D0 sa0 sk0)) (W1 := [⟨SB, 23, .slice ar R.length cr, R⟩, ⟨stepS, 143, .slice sa0 D0.steps.length sk0, D0.steps⟩]) H'
  have H := H.perms (M' := ((jb, .cells #[.P db 0, .string nm, .slice ab B.length cb, .slice D (R ++ [x.data]).length E, .I X, .string M, .slice F (σ ++ frameF x.data).length G, .bool false] 41 (0, 0)) :: (bk, .cells #[.slice aB B.length cB, .slice d (R ++ [x.data]).length e, .slice a1 B.length c1, .slice a0 R0.length c0, .slice f (L ++ [x.data]).length h, .bool false, .slice none (([] : List (BitVec 8)).length) 0] 50 (0, 0)) :: (a, .cells #[.I x.kind, .slice a1x x.data.length k1x, .I x.n] 53 (0, 0)) :: (diskM db q i j))) (W' := [⟨SB, 23, .slice D (R ++ [x.data]).length E, (R ++ [x.data])⟩, ⟨stepS, 143, .slice i q.steps.length j, q.steps⟩, ⟨SB, 23, .slice d (R ++ [x.data]).length e, (R ++ [x.data])⟩, ⟨SB, 23, .slice f (L ++ [x.data]).length h, (L ++ [x.data])⟩]) ((List.perm_append_comm (l₁ := ([(bk, .cells #[.slice aB B.length cB, .slice d (R ++ [x.data]).length e, .slice a1 B.length c1, .slice a0 R0.length c0, .slice f (L ++ [x.data]).length h, .bool false, .slice none (([] : List (BitVec 8)).length) 0] 50 (0, 0)), (a, .cells #[.I x.kind, .slice a1x x.data.length k1x, .I x.n] 53 (0, 0))] : Heap)) (l₂ := diskM db q i j)).cons _) (List.Perm.refl _)
  have H : Hp w S O _ [_, _, _, _] [_, Rp SB [.slice F (σ ++ frameF x.data).length G] (σ ++ frameF x.data), _, _, _, _, _, _, _, _, _, _, _, _] _ := H
  have U := N.arm.trans hna
  refine uF 2 ?_
  refine qT (.bool true) Tryz.func23 ?_
  have H := H.pick [0, 1, 2, 3, 4, 5] rfl
  have H := H.frontM 1 rfl
  have H := H.frontM 1 rfl
  have H := H.frontM 2 rfl
  have H := H.frontW 1 rfl
  have H := H.frontW 3 rfl
  have H := H.frontW 3 rfl
  have H := H.frontW 3 rfl
  have H := H.drop (M' := ((jb, .cells #[.P db 0, .string nm, .slice ab B.length cb, .slice D (R ++ [x.data]).length E, .I X, .string M, .slice F (σ ++ frameF x.data).length G, .bool false] 41 (0, 0)) :: (bk, .cells #[.slice aB B.length cB, .slice d (R ++ [x.data]).length e, .slice a1 B.length c1, .slice a0 R0.length c0, .slice f (L ++ [x.data]).length h, .bool false, .slice none (([] : List (BitVec 8)).length) 0] 50 (0, 0)) :: (diskM db q i j))) (W' := [⟨SB, 23, .slice D (R ++ [x.data]).length E, (R ++ [x.data])⟩, ⟨SB, 23, .slice d (R ++ [x.data]).length e, (R ++ [x.data])⟩, ⟨SB, 23, .slice f (L ++ [x.data]).length h, (L ++ [x.data])⟩, ⟨stepS, 143, .slice i q.steps.length j, q.steps⟩]) (by repeat (first | exact List.Sublist.refl _ | exact List.nil_sublist _ | apply List.Sublist.cons_cons | apply List.Sublist.cons)) (by repeat (first | exact List.Sublist.refl _ | exact List.nil_sublist _ | apply List.Sublist.cons_cons | apply List.Sublist.cons))
  exact ⟨_, rfl, rfl, q, i, j, _, _, _, _, _, _, _, _, _, _, _, _, _, _, _, _, _, _, _, _, _, _, _, _, g0.mono (by omega) (by omega) (by omega) (Nat.le_refl _) (Nat.le_refl _), by rw [hRL, List.append_assoc], N, U, H⟩
 ·
  refine uR 2 [.c [1, 0, 1, 0, 1, 1, 1], .b 0, .c [2]] ?_
  refine qE x.kind 2 (fun t0 => ?_) (fun t0 => ?_)
  ·
   refine uR 1 [.c [1, 0, 1, 0, 1, 1, 1, 0, 0], .c [1, 0, 1, 0, 1, 1, 1, 0, 1], .b 0, .c [2]] ?_
   refine qG (sq 0 2) ?_
   refine uP 1 ?_
   have H := H.frontM 2 rfl
   have H := H.frontW 2 rfl
   have H := H.frontW 2 rfl
   refine uKS (bk_syn (by omega) (by omega) ((H.lend (M1 := [(bk, .cells #[.slice aB B.length cB, .slice aR R.length cR, .slice a1 B.length c1, .slice a0 R0.length c0, .slice al L.length cl, .bool false, .slice none (([] : List (BitVec 8)).length) 0] 50 (0, 0))]) (W1 := [⟨SB, 23, .slice aR R.length cR, R⟩, ⟨SB, 23, .slice al L.length cl, L⟩])).pick [2, 3, 4, 5] rfl)) ?_
   rintro _ _ ⟨rfl, y, z, H'⟩
   have H := H.back (M1 := [(bk, .cells #[.slice aB B.length cB, .slice aR R.length cR, .slice a1 B.length c1, .slice a0 R0.length c0, .slice al L.length cl, .bool false, .slice none (([] : List (BitVec 8)).length) 0] 50 (0, 0))]) (W1 := [⟨SB, 23, .slice aR R.length cR, R⟩, ⟨SB, 23, .slice al L.length cl, L⟩]) H'
   have H : Hp w S O ((bk, .cells #[.slice aB B.length cB, .slice aR R.length cR, .slice aB B.length cB, .slice y R.length z, .slice none (([] : List (List (BitVec 8))).length) 0, .bool false, .slice none (([] : List (BitVec 8)).length) 0] 50 (0, 0)) :: (a, .cells #[.I x.kind, .slice a1x x.data.length k1x, .I x.n] 53 (0, 0)) :: (jb, .cells #[.P db 0, .string nm, .slice ab B.length cb, .slice ar R.length cr, .I g, .string seg, .slice aσ σ.length cσ, .bool sy] 41 (0, 0)) :: (diskM db D0 sa0 sk0)) [_, ⟨SB, 23, .slice none (([] : List (List (BitVec 8))).length) 0, ([] : List (List (BitVec 8)))⟩, _, _] [_, _, _, Rp (Shape.slice SB) [.slice y R.length z] R, _, _, _, _, _, _, _, _] _ := H
   refine uF 0 ?_
   refine uR 1 [.c [1, 0, 1, 0, 1, 1, 1, 0, 1, 0], .c [1, 0, 1, 0, 1, 1, 1, 0, 2], .b 0, .c [2]] ?_
   refine qG (sq 0 4) ?_
   refine uP 1 ?_
   have H := H.frontM 2 rfl
   have H := H.frontW 3 rfl
   have H := H.frontW 3 rfl
   have H := H.perms (M' := ((jb, .cells #[.P db 0, .string nm, .slice ab B.length cb, .slice ar R.length cr, .I g, .string seg, .slice aσ σ.length cσ, .bool sy] 41 (0, 0)) :: diskM db D0 sa0 sk0) ++ [(bk, .cells #[.slice aB B.length cB, .slice aR R.length cR, .slice aB B.length cB, .slice y R.length z, .slice none (([] : List (List (BitVec 8))).length) 0, .bool false, .slice none (([] : List (BitVec 8)).length) 0] 50 (0, 0)), (a, .cells #[.I x.kind, .slice a1x x.data.length k1x, .I x.n] 53 (0, 0))]) (W' := [⟨SB, 23, .slice ar R.length cr, R⟩, ⟨stepS, 143, .slice sa0 D0.steps.length sk0, D0.steps⟩, ⟨SB, 23, .slice aR R.length cR, R⟩, ⟨SB, 23, .slice none (([] : List (List (BitVec 8))).length) 0, ([] : List (List (BitVec 8)))⟩]) ((List.perm_append_comm (l₁ := diskM db D0 sa0 sk0) (l₂ := ([(bk, .cells #[.slice aB B.length cB, .slice aR R.length cR, .slice aB B.length cB, .slice y R.length z, .slice none (([] : List (List (BitVec 8))).length) 0, .bool false, .slice none (([] : List (BitVec 8)).length) 0] 50 (0, 0)), (a, .cells #[.I x.kind, .slice a1x x.data.length k1x, .I x.n] 53 (0, 0))] : Heap))).cons _) (List.Perm.refl _)
   refine uKS (jsync_spec (n := ((n + 300000) - 300000)) hW.pl hW.di (hW.al.mono (by omega)) hW.jl ((H.lend (M1 := ((jb, .cells #[.P db 0, .string nm, .slice ab B.length cb, .slice ar R.length cr, .I g, .string seg, .slice aσ σ.length cσ, .bool sy] 41 (0, 0)) :: diskM db D0 sa0 sk0)) (W1 := [⟨SB, 23, .slice ar R.length cr, R⟩, ⟨stepS, 143, .slice sa0 D0.steps.length sk0, D0.steps⟩])).pick [4, 5, 10] rfl)) ?_
   rintro _ _ (⟨rfl, s, k, l, h0, i0, j0, Q, k0, H'⟩ | ⟨_, _, _, _, s, k, l, rfl, l0, H'⟩)
   rotate_left
   · exact absurd (l0.arm) (by rw [hna]; nofun)
   have m0 := hW.syn h0 i0 j0 (Cap.keep k0 hN hW.cap)
   have H := H.back (M1 := ((jb, .cells #[.P db 0, .string nm, .slice ab B.length cb, .slice ar R.length cr, .I g, .string seg, .slice aσ σ.length cσ, .bool sy] 41 (0, 0)) :: diskM db D0 sa0 sk0)) (W1 := [⟨SB, 23, .slice ar R.length cr, R⟩, ⟨stepS, 143, .slice sa0 D0.steps.length sk0, D0.steps⟩]) H'
   have H := H.perms (M' := ((jb, .cells #[.P db 0, .string nm, .slice ab B.length cb, .slice ar R.length cr, .I g, .string seg, .slice aσ σ.length cσ, .bool true] 41 (0, 0)) :: (bk, .cells #[.slice aB B.length cB, .slice aR R.length cR, .slice aB B.length cB, .slice y R.length z, .slice none (([] : List (List (BitVec 8))).length) 0, .bool false, .slice none (([] : List (BitVec 8)).length) 0] 50 (0, 0)) :: (a, .cells #[.I x.kind, .slice a1x x.data.length k1x, .I x.n] 53 (0, 0)) :: (diskM db s k l))) (W' := [⟨SB, 23, .slice ar R.length cr, R⟩, ⟨stepS, 143, .slice k s.steps.length l, s.steps⟩, ⟨SB, 23, .slice aR R.length cR, R⟩, ⟨SB, 23, .slice none (([] : List (List (BitVec 8))).length) 0, ([] : List (List (BitVec 8)))⟩]) ((List.perm_append_comm (l₁ := ([(bk, .cells #[.slice aB B.length cB, .slice aR R.length cR, .slice aB B.length cB, .slice y R.length z, .slice none (([] : List (List (BitVec 8))).length) 0, .bool false, .slice none (([] : List (BitVec 8)).length) 0] 50 (0, 0)), (a, .cells #[.I x.kind, .slice a1x x.data.length k1x, .I x.n] 53 (0, 0))] : Heap)) (l₂ := diskM db s k l)).cons _) (List.Perm.refl _)
   have H : Hp w S O _ [_, _, _, _] [_, _, _, _, _, _, _, _, _, _, _, _, _, _] _ := H
   have V := Q.arm.trans hna
   refine uF 2 ?_
   refine qT (.bool true) Tryz.func23 ?_
   have H := H.pick [0, 1, 2, 2, 4, 5] rfl
   have H := H.frontM 1 rfl
   have H := H.frontM 1 rfl
   have H := H.frontM 2 rfl
   have H := H.frontW 1 rfl
   have H := H.frontW 3 rfl
   have H := H.frontW 3 rfl
   have H := H.frontW 3 rfl
   have H := H.drop (M' := ((jb, .cells #[.P db 0, .string nm, .slice ab B.length cb, .slice ar R.length cr, .I g, .string seg, .slice aσ σ.length cσ, .bool true] 41 (0, 0)) :: (bk, .cells #[.slice aB B.length cB, .slice aR R.length cR, .slice aB B.length cB, .slice y R.length z, .slice none (([] : List (List (BitVec 8))).length) 0, .bool false, .slice none (([] : List (BitVec 8)).length) 0] 50 (0, 0)) :: (diskM db s k l))) (W' := [⟨SB, 23, .slice ar R.length cr, R⟩, ⟨SB, 23, .slice aR R.length cR, R⟩, ⟨SB, 23, .slice none (([] : List (List (BitVec 8))).length) 0, ([] : List (List (BitVec 8)))⟩, ⟨stepS, 143, .slice k s.steps.length l, s.steps⟩]) (by repeat (first | exact List.Sublist.refl _ | exact List.nil_sublist _ | apply List.Sublist.cons_cons | apply List.Sublist.cons)) (by repeat (first | exact List.Sublist.refl _ | exact List.nil_sublist _ | apply List.Sublist.cons_cons | apply List.Sublist.cons))
   exact ⟨_, rfl, rfl, s, k, l, _, _, _, _, _, _, _, _, _, _, _, _, _, _, _, _, _, _, _, _, _, _, _, _, m0.mono (by omega) (by omega) (by omega) (Nat.le_refl _) (Nat.le_refl _), (List.append_nil _).symm, Q, V, H⟩
  ·
   refine uR 2 [.c [1, 0, 1, 0, 1, 1, 1, 1, 1], .b 0, .c [2]] ?_
   refine qE x.kind 3 (fun u0 => ?_) (fun u0 => ?_)
   ·
    refine uR 1 [.c [1, 0, 1, 0, 1, 1, 1, 1, 1, 0, 0], .c [1, 0, 1, 0, 1, 1, 1, 1, 1, 0, 1], .b 0, .c [2]] ?_
    refine qG (sq 0 4) ?_
    refine qP 2 (sq 2 4) [(0, .P jb 0), (5, .P a 0), (29, .P bk 0), (30, .P a 1)] ?_
    refine uV 23 1 (H.cells 0 rfl) ?_
    have H := H.frontM 2 rfl
    have H := H.frontW 2 rfl
    have H := H.frontW 2 rfl
    refine uKS (bk_tuy (by omega) (by omega) ((H.lend (M1 := [(bk, .cells #[.slice aB B.length cB, .slice aR R.length cR, .slice a1 B.length c1, .slice a0 R0.length c0, .slice al L.length cl, .bool false, .slice none (([] : List (BitVec 8)).length) 0] 50 (0, 0))]) (W1 := [⟨SB, 23, .slice aR R.length cR, R⟩, ⟨SB, 23, .slice al L.length cl, L⟩])).pick [2, 3, 4, 5, 7] rfl)) ?_
    rintro _ _ ⟨rfl, A, C, H'⟩
    have H := H.back (M1 := [(bk, .cells #[.slice aB B.length cB, .slice aR R.length cR, .slice a1 B.length c1, .slice a0 R0.length c0, .slice al L.length cl, .bool false, .slice none (([] : List (BitVec 8)).length) 0] 50 (0, 0))]) (W1 := [⟨SB, 23, .slice aR R.length cR, R⟩, ⟨SB, 23, .slice al L.length cl, L⟩]) H'
    have H : Hp w S O ((bk, .cells #[.slice a1x x.data.length k1x, .slice none (([] : List (List (BitVec 8))).length) 0, .slice a1x x.data.length k1x, .slice A (([] : List (List (BitVec 8))).length) C, .slice none (([] : List (List (BitVec 8))).length) 0, .bool false, .slice none (([] : List (BitVec 8)).length) 0] 50 (0, 0)) :: (a, .cells #[.I x.kind, .slice a1x x.data.length k1x, .I x.n] 53 (0, 0)) :: (jb, .cells #[.P db 0, .string nm, .slice ab B.length cb, .slice ar R.length cr, .I g, .string seg, .slice aσ σ.length cσ, .bool sy] 41 (0, 0)) :: (diskM db D0 sa0 sk0)) [_, _, _, _] [_, _, _, Rp (Shape.slice SB) [.slice A (([] : List (List (BitVec 8))).length) C] ([] : List (List (BitVec 8))), _, _, _, _, _, _, _, _] _ := H
    refine uF 0 ?_
    refine uR 1 [.c [1, 0, 1, 0, 1, 1, 1, 1, 1, 0, 1, 0], .c [1, 0, 1, 0, 1, 1, 1, 1, 1, 0, 2], .b 0, .c [2]] ?_
    refine qG (sq 0 6) ?_
    refine uP 2 ?_
    refine uV 23 1 (H.cells 1 rfl) ?_
    have H := H.frontM 2 rfl
    have H := H.frontW 3 rfl
    have H := H.frontW 3 rfl
    have H := H.perms (M' := ((jb, .cells #[.P db 0, .string nm, .slice ab B.length cb, .slice ar R.length cr, .I g, .string seg, .slice aσ σ.length cσ, .bool sy] 41 (0, 0)) :: diskM db D0 sa0 sk0) ++ [(bk, .cells #[.slice a1x x.data.length k1x, .slice none (([] : List (List (BitVec 8))).length) 0, .slice a1x x.data.length k1x, .slice A (([] : List (List (BitVec 8))).length) C, .slice none (([] : List (List (BitVec 8))).length) 0, .bool false, .slice none (([] : List (BitVec 8)).length) 0] 50 (0, 0)), (a, .cells #[.I x.kind, .slice a1x x.data.length k1x, .I x.n] 53 (0, 0))]) (W' := [⟨SB, 23, .slice ar R.length cr, R⟩, ⟨stepS, 143, .slice sa0 D0.steps.length sk0, D0.steps⟩, ⟨SB, 23, .slice none (([] : List (List (BitVec 8))).length) 0, ([] : List (List (BitVec 8)))⟩, ⟨SB, 23, .slice none (([] : List (List (BitVec 8))).length) 0, ([] : List (List (BitVec 8)))⟩]) ((List.perm_append_comm (l₁ := diskM db D0 sa0 sk0) (l₂ := ([(bk, .cells #[.slice a1x x.data.length k1x, .slice none (([] : List (List (BitVec 8))).length) 0, .slice a1x x.data.length k1x, .slice A (([] : List (List (BitVec 8))).length) C, .slice none (([] : List (List (BitVec 8))).length) 0, .bool false, .slice none (([] : List (BitVec 8)).length) 0] 50 (0, 0)), (a, .cells #[.I x.kind, .slice a1x x.data.length k1x, .I x.n] 53 (0, 0))] : Heap))).cons _) (List.Perm.refl _)
    refine uKS (jcheck_spec (b := x.data) (n := ((n + 300000) - 300000)) hW.pl hW.di (hW.al.mono (by omega)) hW.jl (Nat.lt_of_le_of_lt hW.gm (by omega)) (by omega) (Nat.lt_of_le_of_lt hW.now (by omega)) ((H.lend (M1 := ((jb, .cells #[.P db 0, .string nm, .slice ab B.length cb, .slice ar R.length cr, .I g, .string seg, .slice aσ σ.length cσ, .bool sy] 41 (0, 0)) :: diskM db D0 sa0 sk0)) (W1 := [⟨SB, 23, .slice ar R.length cr, R⟩, ⟨stepS, 143, .slice sa0 D0.steps.length sk0, D0.steps⟩])).pick [4, 5, 10, 0] rfl)) ?_
    rintro _ _ (⟨rfl, J, K, u, o, p, n0, o0, p0, T, q0, H'⟩ | ⟨_, _, _, _, u, o, p, rfl, r0, H'⟩)
    rotate_left
    · exact absurd (r0.arm) (by rw [hna]; nofun)
    have s0 := hW.chk (by omega) n0 o0 p0 (Cap.keep q0 hN hW.cap)
    have H := H.back (M1 := ((jb, .cells #[.P db 0, .string nm, .slice ab B.length cb, .slice ar R.length cr, .I g, .string seg, .slice aσ σ.length cσ, .bool sy] 41 (0, 0)) :: diskM db D0 sa0 sk0)) (W1 := [⟨SB, 23, .slice ar R.length cr, R⟩, ⟨stepS, 143, .slice sa0 D0.steps.length sk0, D0.steps⟩]) H'
    have H := H.perms (M' := ((jb, .cells #[.P db 0, .string nm, .slice J x.data.length K, .slice none (([] : List (List (BitVec 8))).length) 0, .I (((g + 1) : Nat) : Int), .string (⟨#[]⟩ : ByteArray), .slice none (([] : List (BitVec 8)).length) 0, .bool true] 41 (0, 0)) :: (bk, .cells #[.slice a1x x.data.length k1x, .slice none (([] : List (List (BitVec 8))).length) 0, .slice a1x x.data.length k1x, .slice A (([] : List (List (BitVec 8))).length) C, .slice none (([] : List (List (BitVec 8))).length) 0, .bool false, .slice none (([] : List (BitVec 8)).length) 0] 50 (0, 0)) :: (a, .cells #[.I x.kind, .slice a1x x.data.length k1x, .I x.n] 53 (0, 0)) :: (diskM db u o p))) (W' := [⟨SB, 23, .slice none (([] : List (List (BitVec 8))).length) 0, ([] : List (List (BitVec 8)))⟩, ⟨stepS, 143, .slice o u.steps.length p, u.steps⟩, ⟨SB, 23, .slice none (([] : List (List (BitVec 8))).length) 0, ([] : List (List (BitVec 8)))⟩, ⟨SB, 23, .slice none (([] : List (List (BitVec 8))).length) 0, ([] : List (List (BitVec 8)))⟩]) ((List.perm_append_comm (l₁ := ([(bk, .cells #[.slice a1x x.data.length k1x, .slice none (([] : List (List (BitVec 8))).length) 0, .slice a1x x.data.length k1x, .slice A (([] : List (List (BitVec 8))).length) C, .slice none (([] : List (List (BitVec 8))).length) 0, .bool false, .slice none (([] : List (BitVec 8)).length) 0] 50 (0, 0)), (a, .cells #[.I x.kind, .slice a1x x.data.length k1x, .I x.n] 53 (0, 0))] : Heap)) (l₂ := diskM db u o p)).cons _) (List.Perm.refl _)
    have H : Hp w S O _ [_, _, _, _] [Rp SB [.slice J x.data.length K] x.data, _, _, _, _, _, _, _, _, _, _, _, _, _] _ := H
    have W := T.arm.trans hna
    refine uF 2 ?_
    refine qT (.bool true) Tryz.func23 ?_
    have H := H.pick [0, 1, 2, 2, 1, 5] rfl
    have H := H.frontM 1 rfl
    have H := H.frontM 1 rfl
    have H := H.frontM 2 rfl
    have H := H.frontW 1 rfl
    have H := H.frontW 1 rfl
    have H := H.frontW 2 rfl
    have H := H.frontW 3 rfl
    have H := H.drop (M' := ((jb, .cells #[.P db 0, .string nm, .slice J x.data.length K, .slice none (([] : List (List (BitVec 8))).length) 0, .I (((g + 1) : Nat) : Int), .string (⟨#[]⟩ : ByteArray), .slice none (([] : List (BitVec 8)).length) 0, .bool true] 41 (0, 0)) :: (bk, .cells #[.slice a1x x.data.length k1x, .slice none (([] : List (List (BitVec 8))).length) 0, .slice a1x x.data.length k1x, .slice A (([] : List (List (BitVec 8))).length) C, .slice none (([] : List (List (BitVec 8))).length) 0, .bool false, .slice none (([] : List (BitVec 8)).length) 0] 50 (0, 0)) :: (diskM db u o p))) (W' := [⟨SB, 23, .slice none (([] : List (List (BitVec 8))).length) 0, ([] : List (List (BitVec 8)))⟩, ⟨SB, 23, .slice none (([] : List (List (BitVec 8))).length) 0, ([] : List (List (BitVec 8)))⟩, ⟨SB, 23, .slice none (([] : List (List (BitVec 8))).length) 0, ([] : List (List (BitVec 8)))⟩, ⟨stepS, 143, .slice o u.steps.length p, u.steps⟩]) (by repeat (first | exact List.Sublist.refl _ | exact List.nil_sublist _ | apply List.Sublist.cons_cons | apply List.Sublist.cons)) (by repeat (first | exact List.Sublist.refl _ | exact List.nil_sublist _ | apply List.Sublist.cons_cons | apply List.Sublist.cons))
    exact ⟨_, rfl, rfl, u, o, p, _, _, _, _, _, _, _, _, _, _, _, _, _, _, _, _, _, _, _, _, _, _, _, _, s0.mono (by omega) (by omega) (by omega) (Nat.le_refl _) (Nat.le_refl _), rfl, T, W, H⟩
   ·
    refine uR 4 [.c [3]] ?_
    refine qT (.bool true) Tryz.func23 ?_
    have H := H.pick [0, 1, 2, 3, 4, 5] rfl
    have H := H.drop (M' := ((jb, .cells #[.P db 0, .string nm, .slice ab B.length cb, .slice ar R.length cr, .I g, .string seg, .slice aσ σ.length cσ, .bool sy] 41 (0, 0)) :: (bk, .cells #[.slice aB B.length cB, .slice aR R.length cR, .slice a1 B.length c1, .slice a0 R0.length c0, .slice al L.length cl, .bool false, .slice none (([] : List (BitVec 8)).length) 0] 50 (0, 0)) :: (diskM db D0 sa0 sk0))) (W' := [⟨SB, 23, .slice ar R.length cr, R⟩, ⟨SB, 23, .slice aR R.length cR, R⟩, ⟨SB, 23, .slice al L.length cl, L⟩, ⟨stepS, 143, .slice sa0 D0.steps.length sk0, D0.steps⟩]) (by repeat (first | exact List.Sublist.refl _ | exact List.nil_sublist _ | apply List.Sublist.cons_cons | apply List.Sublist.cons)) (by repeat (first | exact List.Sublist.refl _ | exact List.nil_sublist _ | apply List.Sublist.cons_cons | apply List.Sublist.cons))
    exact ⟨_, rfl, rfl, D0, sa0, sk0, _, _, _, _, _, _, _, _, _, _, _, _, _, _, _, _, _, _, _, _, _, _, _, _, hW.mono (by omega) (by omega) (by omega) (Nat.le_refl _) (Nat.le_refl _), hRL, Stp.refl _ _, hna, H⟩
end Go.Proofs.YtdnibpclkhenmaaGreatDoor
