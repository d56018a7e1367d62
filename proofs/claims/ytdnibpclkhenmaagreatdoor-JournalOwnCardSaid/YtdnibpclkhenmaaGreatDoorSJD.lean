import Derived.Test.YtdnibpclkhenmaaGreatDoorSBxA
import Derived.Test.YtdnibpclkhenmaaGreatDoorSJC
import Derived.Test.YtdnibpclkhenmaaGreatDoorSP7
namespace Go.Proofs.YtdnibpclkhenmaaGreatDoor
open Go.BX
theorem state_go {S : Nat → Prop} {w : World} {O : List Nat} {jb db : Nat} {nm : ByteArray} {x2 x3 x4 x5 x6 x7 : Value} {D0 : DiskD} {sa0 : Option Addr} {sk0 : Nat} (hdd : D0.dead = false) (H0 : Hp w S O ((jb, .cells #[.P db 0, .string nm, x2, x3, x4, x5, x6, x7] 41 (0, 0)) :: diskM db D0 sa0 sk0) [⟨stepS, 143, .slice sa0 D0.steps.length sk0, D0.steps⟩] [] w) :
 Calls Tryz.prog 54 #[.P jb 0] w (Ret fun v w' => v = .I 0 ∧ Hp w S O ((jb, .cells #[.P db 0, .string nm, x2, x3, x4, x5, x6, x7] 41 (0, 0)) :: diskM db D0 sa0 sk0) [⟨stepS, 143, .slice sa0 D0.steps.length sk0, D0.steps⟩] [] w') := by
 refine uS1 Tryz.func54 ?_
 have H := H0
 refine uR 5 [.c [1, 0, 0, 0], .c [1, 0, 0, 1], .b 0, .c [2]] ?_
 refine qG (sq 0 10) ?_
 refine uP 6 ?_
 refine uV 24 0 (H.cells 0 rfl) ?_
 refine uF 3 ?_
 refine uR 2 [.c [1, 0, 0, 1, 1, 0], .c [1, 0, 0, 1, 1, 1], .b 0, .c [2]] ?_
 refine qG (sq 0 6) ?_
 refine uP 3 ?_
 refine uV 24 0 (H.cells 0 rfl) ?_
 have H := H.perms (M' := diskM db D0 sa0 sk0 ++ [(jb, .cells #[.P db 0, .string nm, x2, x3, x4, x5, x6, x7] 41 (0, 0))]) (W' := [⟨stepS, 143, .slice sa0 D0.steps.length sk0, D0.steps⟩]) (List.perm_append_comm (l₁ := diskM db D0 sa0 sk0) (l₂ := ([(jb, .cells #[.P db 0, .string nm, x2, x3, x4, x5, x6, x7] 41 (0, 0))] : Heap))) (List.Perm.refl _)
 refine uKS (dDead hdd ((H.lend (M1 := diskM db D0 sa0 sk0) (W1 := [⟨stepS, 143, .slice sa0 D0.steps.length sk0, D0.steps⟩])).pick [] rfl)) ?_
 rintro _ _ ⟨rfl, H'⟩
 have H := H.back (M1 := diskM db D0 sa0 sk0) (W1 := [⟨stepS, 143, .slice sa0 D0.steps.length sk0, D0.steps⟩]) H'
 have H := H.perms (M' := ((jb, .cells #[.P db 0, .string nm, x2, x3, x4, x5, x6, x7] 41 (0, 0)) :: (diskM db D0 sa0 sk0))) (W' := [⟨stepS, 143, .slice sa0 D0.steps.length sk0, D0.steps⟩]) ((List.perm_append_comm (l₁ := diskM db D0 sa0 sk0) (l₂ := ([(jb, .cells #[.P db 0, .string nm, x2, x3, x4, x5, x6, x7] 41 (0, 0))] : Heap))).symm) (List.Perm.refl _)
 have H : Hp w S O _ [_] [] _ := H
 refine uF 1 ?_
 refine uR 5 [.c [3]] ?_
 refine qT (.I 0) Tryz.func54 ?_
 exact ⟨_, rfl, rfl, H⟩
theorem jbase_spec {S : Nat → Prop} {w : World} {O : List Nat} {jb db : Nat} {nm : ByteArray} {x3 x4 x5 x6 x7 : Value} {B : List (BitVec 8)} {ab : Option Addr} {cb : Nat} (hBl : B.length ≤ 4194304) (H0 : Hp w S O [(jb, .cells #[.P db 0, .string nm, .slice ab B.length cb, x3, x4, x5, x6, x7] 41 (0, 0))] [] [Rp SB [.slice ab B.length cb] B] w) :
 Calls Tryz.prog 18 #[.P jb 0] w (Ret fun v w' => ∃ (a' : Option Addr) (c' : Nat), v = .slice a' B.length c' ∧ Hp w S O [(jb, .cells #[.P db 0, .string nm, .slice ab B.length cb, x3, x4, x5, x6, x7] 41 (0, 0))] [⟨Sb, 5, .slice a' B.length c', B⟩] [] w') := by
 refine uS1 Tryz.func18 ?_
 have H := H0
 refine uR 8 [.c [2, 0], .c [3]] ?_
 refine qG (sq 0 6) ?_
 refine uP 3 ?_
 refine uV 23 2 (H.cells 0 rfl) ?_
 have H := H.ownNil Sb 5
 have H : Hp w S O [_] [⟨Sb, 5, .slice none 0 0, []⟩] [_] _ := H
 refine uA 23 23 1 B H 0 rfl 0 rfl (rfl) (by omega) ?_
 intro a b _ H _
 have H : Hp w S O [_] [⟨Sb, 5, .slice a B.length b, B⟩] [_] _ := H
 refine uF 1 ?_
 refine qT (.slice a B.length b) Tryz.func18 ?_
 have H := H.pick [] rfl
 exact ⟨_, rfl, _, _, rfl, H⟩
theorem jrecs_spec {S : Nat → Prop} {w : World} {O : List Nat} {jb db : Nat} {nm : ByteArray} {x2 x4 x5 x6 x7 : Value} {R : List (List (BitVec 8))} {ar : Option Addr} {cr : Nat} (hRl : R.length ≤ 100000000) (hRb : ∀ r ∈ R, r.length ≤ 4194304) (H0 : Hp w S O [(jb, .cells #[.P db 0, .string nm, x2, .slice ar R.length cr, x4, x5, x6, x7] 41 (0, 0))] [⟨SB, 23, .slice ar R.length cr, R⟩] [] w) :
 Calls Tryz.prog 19 #[.P jb 0] w (Ret fun v w' => ∃ (a' : Option Addr) (c' : Nat), v = .slice a' R.length c' ∧ Hp w S O [(jb, .cells #[.P db 0, .string nm, x2, .slice ar R.length cr, x4, x5, x6, x7] 41 (0, 0))] [⟨SB, 23, .slice a' R.length c', R⟩, ⟨SB, 23, .slice ar R.length cr, R⟩] [] w') := by
 refine uS1 Tryz.func19 ?_
 have H := H0
 refine uR 11 [.c [3, 0, 0], .c [3, 0, 1], .c [4]] ?_
 refine qG (sq 0 6) ?_
 refine uP 3 ?_
 refine uV 22 3 (H.cells 0 rfl) ?_
 refine uF 2 ?_
 refine uR 1 [.c [3, 0, 1, 0], .b 0, .c [4]] ?_
 have H := H.ownNil SB 23
 have H := H.take 1 2
 refine uL (α := Nat × Option Addr × Nat) (g := 19) (p := [3, 0, 1, 0, 0]) (fun (i, aO, cO) => [(3, .slice aO (R.take i).length cO), (11, .slice ar R.length cr), (12, .I ((R.length : Nat) : Int)), (13, .I i)]) (fun (i, aO, cO) w' => Hp w S O [(jb, .cells #[.P db 0, .string nm, x2, .slice ar R.length cr, x4, x5, x6, x7] 41 (0, 0))] [⟨SB, 23, .slice aO (R.take i).length cO, R.take i⟩, ⟨SB, 23, .slice ar R.length cr, R⟩] [] w' ∧ i ≤ R.length) (fun (i, aO, cO) => R.length - i) (0, none, 0) ⟨H, Nat.zero_le _⟩ ?_
 rintro ⟨i, aO, cO⟩ _ ⟨H, hi⟩ j
 refine uR 3 [.c [3, 0, 1, 0, 0, 1, 0], .c [3, 0, 1, 0, 0, 2], .l [3, 0, 1, 0, 0], .b 0, .c [4]] ?_
 refine qD (((i : Int) : Int) < ((R.length : Nat) : Int)) (fun y => ?_) (fun y => ?_)
 ·
  have hrb := hRb R[i] (List.getElem_mem (by omega))
  refine uR 4 [.c [3, 0, 1, 0, 0, 2, 0, 0, 0], .c [3, 0, 1, 0, 0, 2, 0, 0, 1], .b 1, .c [3, 0, 1, 0, 0, 3], .l [3, 0, 1, 0, 0], .b 0, .c [4]] ?_
  refine qG (sq 0 3) ?_
  have H := H.frontW 1 rfl
  have u : R.length = R.length := rfl
  have x : i < R.length := by omega
  refine RW.indexW (κ := .seq) (d := some 15) (r := (sq 1 3)) (T := 22) (e := 23) (m := 1) (ik := .i64) (ix := (i : Int)) (sh := SB) (xs := R) (a := ar) (len := R.length) (cap := cr) (by as_aux_lemma => kernel_rfl) (by as_aux_lemma => kernel_rfl) rfl H i (by omega) x u ?_
  intro _ _ _ k n
  obtain ⟨_, _, rfl⟩ := Shape.slice_form' n
  have H := H.addR n
  refine uV 23 0 k ?_
  refine uF 1 ?_
  refine qG (sq 0 6) ?_
  refine uP 2 ?_
  have H := H.ownNil Sb 5
  have H : Hp w S O [_] [⟨Sb, 5, .slice none 0 0, []⟩, _, _] [_] _ := H
  refine uA 23 23 1 (R[i]) H 0 rfl 0 rfl (rfl) (by omega) ?_
  intro f h _ H _
  have H : Hp w S O [_] [⟨Sb, 5, .slice f (R[i]).length h, R[i]⟩, _, _] [_] _ := H
  refine RW.new (κ := .seq) (d := some 20) (r := (sq 4 6)) (o := .cells #[.slice f (R[i]).length h] 23 (0, 0)) (v := fun b => .slice (some ⟨b, 0, none⟩) 1 1) (fun b => by as_aux_lemma => kernel_rfl) (nofun) H ?_
  intro q _ H
  have H : Hp w S O [(q, .cells #[.slice f (R[i]).length h] 23 (0, 0)), _] [_, _] [Rp SB [.slice f (R[i]).length h] (R[i]), _] _ := H.freezeW 0 rfl
  have H := H.freeze 0 rfl SB ([R[i]] : List (List (BitVec 8))) 1 (by simp [maxLen]) (by first | exact Nat.le_refl _ | simp) (EsP.cons (c := [.slice f (R[i]).length h]) (H.rp 0 rfl) EsP.nil)
  have H : Hp w S O [_] [_, _] [Rp (Shape.slice SB) [.slice (some ⟨q, 0, none⟩) 1 1] ([R[i]] : List (List (BitVec 8))), _, _] _ := H
  refine uA 22 22 24 (R.take (i + 1)) H 1 rfl 0 rfl ((snoc_take (by omega)).symm) (by rw [List.length_take]; omega) ?_
  intro s t _ H _
  have H : Hp w S O [_] [_, ⟨SB, 23, .slice s ((R.take (i + 1)).length) t, (R.take (i + 1))⟩] [_, _, _] _ := H
  refine uF 1 ?_
  refine uR 1 [.c [3, 0, 1, 0, 0, 3], .l [3, 0, 1, 0, 0], .b 0, .c [4]] ?_
  refine qG (sq 0 2) ?_
  refine uI ((i : Int) + 1) ?_
  refine uF 1 ?_
  have H := H.pick [] rfl
  have H := H.frontW 1 rfl
  exact uB (j (i + 1, s, t) _ ⟨H, by omega⟩ (by first | omega | (simp only []; omega)))
 ·
  refine uR 3 [.c [5]] ?_
  refine qT (.slice aO (R.take i).length cO) Tryz.func19 ?_
  have hRt : R.take i = R := List.take_of_length_le (by omega)
  rw [hRt] at H
  exact ⟨_, rfl, _, _, by rw [hRt], H⟩
end Go.Proofs.YtdnibpclkhenmaaGreatDoor
