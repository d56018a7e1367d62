import Derived.Test.YtdnibpclkhenmaaGreatDoorSJC
import Derived.Test.YtdnibpclkhenmaaGreatDoorSP7
namespace Go.Proofs.YtdnibpclkhenmaaGreatDoor
open Go.BX
theorem state_go {S : Nat → Prop} {w : World} {O : List Nat} {jb db : Nat} {nm : ByteArray} {x2 x3 x4 x5 x6 x7 : Value} {D0 : DiskD} {sa0 : Option Addr} {sk0 : Nat} (hdd : D0.dead = false) (H0 : Hp w S O ((jb, .cells #[.P db 0, .string nm, x2, x3, x4, x5, x6, x7] 41 (0, 0)) :: diskM db D0 sa0 sk0) [⟨stepS, 143, .slice sa0 D0.steps.length sk0, D0.steps⟩] [] w) :
 Calls Tryz.prog 54 #[.P jb 0] w (Ret fun v w' => v = .I 0 ∧ Hp w S O ((jb, .cells #[.P db 0, .string nm, x2, x3, x4, x5, x6, x7] 41 (0, 0)) :: diskM db D0 sa0 sk0) [⟨stepS, 143, .slice sa0 D0.steps.length sk0, D0.steps⟩] [] w') := by
 refine qS (fn := Tryz.f54) (n := 19) (σ := [(0, .P jb 0)]) Tryz.func54 ?_
 have H := H0
 refine qR 5 [.c [1, 0, 0, 0], .c [1, 0, 0, 1], .b 0, .c [2]] [(0, .P jb 0)] ?_
 refine qG (sq 0 10) ?_
 refine qP 6 (sq 6 10) [(0, .P jb 0), (6, .bool false), (9, .P jb 0)] ?_
 refine qL .seq 10 (sq 7 10) 24 jb 0 0 (.P db 0) (H.cells 0 rfl) ?_
 refine qF 3 [(0, .P jb 0), (3, .bool false)] ?_
 refine qR 2 [.c [1, 0, 0, 1, 1, 0], .c [1, 0, 0, 1, 1, 1], .b 0, .c [2]] [(0, .P jb 0)] ?_
 refine qG (sq 0 6) ?_
 refine qP 3 (sq 3 6) [(16, .P jb 0)] ?_
 refine qL .seq 17 (sq 4 6) 24 jb 0 0 (.P db 0) (H.cells 0 rfl) ?_
 have H := H.perms (M' := diskM db D0 sa0 sk0 ++ [(jb, .cells #[.P db 0, .string nm, x2, x3, x4, x5, x6, x7] 41 (0, 0))]) (W' := [⟨stepS, 143, .slice sa0 D0.steps.length sk0, D0.steps⟩]) (List.perm_append_comm (l₁ := diskM db D0 sa0 sk0) (l₂ := ([(jb, .cells #[.P db 0, .string nm, x2, x3, x4, x5, x6, x7] 41 (0, 0))] : Heap))) (List.Perm.refl _)
 refine RW.callS (d := some 18) (r := (sq 5 6)) (g := 51) (args := #[.P db 0]) (by as_aux_lemma => kernel_rfl) (dDead hdd ((H.lend (M1 := diskM db D0 sa0 sk0) (W1 := [⟨stepS, 143, .slice sa0 D0.steps.length sk0, D0.steps⟩])).pick [] rfl)) ?_
 rintro _ w1 ⟨rfl, H'⟩
 have H := H.back (M1 := diskM db D0 sa0 sk0) (W1 := [⟨stepS, 143, .slice sa0 D0.steps.length sk0, D0.steps⟩]) H'
 have H := H.perms (M' := ((jb, .cells #[.P db 0, .string nm, x2, x3, x4, x5, x6, x7] 41 (0, 0)) :: (diskM db D0 sa0 sk0))) (W' := [⟨stepS, 143, .slice sa0 D0.steps.length sk0, D0.steps⟩]) ((List.perm_append_comm (l₁ := diskM db D0 sa0 sk0) (l₂ := ([(jb, .cells #[.P db 0, .string nm, x2, x3, x4, x5, x6, x7] 41 (0, 0))] : Heap))).symm) (List.Perm.refl _)
 have H : Hp w S O ((jb, .cells #[.P db 0, .string nm, x2, x3, x4, x5, x6, x7] 41 (0, 0)) :: (diskM db D0 sa0 sk0)) [⟨stepS, 143, .slice sa0 D0.steps.length sk0, D0.steps⟩] [] _ := H
 refine qF 1 [(13, .bool false)] ?_
 refine qR 5 [.c [3]] [(2, .I 0)] ?_
 refine qT (.I 0) Tryz.func54 ?_
 exact ⟨_, rfl, rfl, H⟩
theorem jbase_spec {S : Nat → Prop} {w : World} {O : List Nat} {jb db : Nat} {nm : ByteArray} {x3 x4 x5 x6 x7 : Value} {B : List (BitVec 8)} {ab : Option Addr} {cb : Nat} (hBl : B.length ≤ 4194304) (H0 : Hp w S O [(jb, .cells #[.P db 0, .string nm, .slice ab B.length cb, x3, x4, x5, x6, x7] 41 (0, 0))] [] [Rp SB [.slice ab B.length cb] B] w) :
 Calls Tryz.prog 18 #[.P jb 0] w (Ret fun v w' => ∃ (a' : Option Addr) (c' : Nat), v = .slice a' B.length c' ∧ Hp w S O [(jb, .cells #[.P db 0, .string nm, .slice ab B.length cb, x3, x4, x5, x6, x7] 41 (0, 0))] [⟨Sb, 5, .slice a' B.length c', B⟩] [] w') := by
 refine qS (fn := Tryz.f18) (n := 10) (σ := [(0, .P jb 0)]) Tryz.func18 ?_
 have H := H0
 refine qR 8 [.c [2, 0], .c [3]] [(0, .P jb 0)] ?_
 refine qG (sq 0 6) ?_
 refine qP 3 (sq 3 6) [(7, .P jb 2)] ?_
 refine qL .seq 8 (sq 4 6) 23 jb 2 2 (.slice ab B.length cb) (H.cells 0 rfl) ?_
 have H := H.ownNil Sb 5
 have H : Hp w S O [(jb, .cells #[.P db 0, .string nm, .slice ab B.length cb, x3, x4, x5, x6, x7] 41 (0, 0))] [⟨Sb, 5, .slice none 0 0, []⟩] [Rp SB [.slice ab B.length cb] B] _ := H
 refine RW.appendW (d := some 9) (r := (sq 5 6)) (T := 23) (ty := 23) (e := 5) (m := 1) (by_ := 1) (v := .slice none 0 0) (a2 := ab) (l2 := B.length) (c2 := cb) (zs := B) (by as_aux_lemma => kernel_rfl) (by as_aux_lemma => kernel_rfl) rfl H 0 rfl 0 rfl (rfl) (by omega) ?_
 intro a1 c2 w4 H hc3
 have H : Hp w S O [(jb, .cells #[.P db 0, .string nm, .slice ab B.length cb, x3, x4, x5, x6, x7] 41 (0, 0))] [⟨Sb, 5, .slice a1 B.length c2, B⟩] [Rp SB [.slice ab B.length cb] B] _ := H
 refine qF 1 [(2, .slice a1 B.length c2)] ?_
 refine qT (.slice a1 B.length c2) Tryz.func18 ?_
 have H := H.pick [] rfl
 exact ⟨_, rfl, _, _, rfl, H⟩
theorem jrecs_spec {S : Nat → Prop} {w : World} {O : List Nat} {jb db : Nat} {nm : ByteArray} {x2 x4 x5 x6 x7 : Value} {R : List (List (BitVec 8))} {ar : Option Addr} {cr : Nat} (hRl : R.length ≤ 100000000) (hRb : ∀ r ∈ R, r.length ≤ 4194304) (H0 : Hp w S O [(jb, .cells #[.P db 0, .string nm, x2, .slice ar R.length cr, x4, x5, x6, x7] 41 (0, 0))] [⟨SB, 23, .slice ar R.length cr, R⟩] [] w) :
 Calls Tryz.prog 19 #[.P jb 0] w (Ret fun v w' => ∃ (a' : Option Addr) (c' : Nat), v = .slice a' R.length c' ∧ Hp w S O [(jb, .cells #[.P db 0, .string nm, x2, .slice ar R.length cr, x4, x5, x6, x7] 41 (0, 0))] [⟨SB, 23, .slice a' R.length c', R⟩, ⟨SB, 23, .slice ar R.length cr, R⟩] [] w') := by
 refine qS (fn := Tryz.f19) (n := 24) (σ := [(0, .P jb 0)]) Tryz.func19 ?_
 have H := H0
 refine qR 11 [.c [3, 0, 0], .c [3, 0, 1], .c [4]] [(0, .P jb 0), (3, .slice none 0 0)] ?_
 refine qG (sq 0 6) ?_
 refine qP 3 (sq 3 6) [(3, .slice none 0 0), (10, .P jb 3)] ?_
 refine qL .seq 11 (sq 4 6) 22 jb 3 3 (.slice ar R.length cr) (H.cells 0 rfl) ?_
 refine qF 2 [(3, .slice none 0 0), (11, .slice ar R.length cr), (12, .I ((R.length : Nat) : Int)), (13, .I 0)] ?_
 refine qR 1 [.c [3, 0, 1, 0], .b 0, .c [4]] [(3, .slice none 0 0), (11, .slice ar R.length cr), (12, .I ((R.length : Nat) : Int)), (13, .I 0)] ?_
 have H := H.ownNil SB 23
 have H := H.drop (M' := [(jb, .cells #[.P db 0, .string nm, x2, .slice ar R.length cr, x4, x5, x6, x7] 41 (0, 0))]) (W' := [⟨SB, 23, .slice none (R.take 0).length 0, R.take 0⟩, ⟨SB, 23, .slice ar R.length cr, R⟩]) (by repeat (first | exact List.Sublist.refl _ | exact List.nil_sublist _ | apply List.Sublist.cons_cons | apply List.Sublist.cons)) (by repeat (first | exact List.Sublist.refl _ | exact List.nil_sublist _ | apply List.Sublist.cons_cons | apply List.Sublist.cons))
 refine WK.loop (α := Nat × Option Addr × Nat) (b := cd Tryz.prog 19 [3, 0, 1, 0, 0]) (by as_aux_lemma => kernel_rfl) (fun st_ => match st_ with | (i, aO, cO) => [(3, .slice aO (R.take i).length cO), (11, .slice ar R.length cr), (12, .I ((R.length : Nat) : Int)), (13, .I i)]) (fun st_ w' => match st_ with | (i, aO, cO) => Hp w S O [(jb, .cells #[.P db 0, .string nm, x2, .slice ar R.length cr, x4, x5, x6, x7] 41 (0, 0))] [⟨SB, 23, .slice aO (R.take i).length cO, R.take i⟩, ⟨SB, 23, .slice ar R.length cr, R⟩] [] w' ∧ i ≤ R.length) (fun st_ => match st_ with | (i, aO, cO) => R.length - i) (0, none, 0) ⟨H, Nat.zero_le _⟩ (rfl) ?_
 rintro ⟨i, aO, cO⟩ w2 ⟨H, hi⟩ hback1
 refine qR 3 [.c [3, 0, 1, 0, 0, 1, 0], .c [3, 0, 1, 0, 0, 2], .l [3, 0, 1, 0, 0], .b 0, .c [4]] [(3, .slice aO (R.take i).length cO), (11, .slice ar R.length cr), (12, .I ((R.length : Nat) : Int)), (13, .I i), (14, .bool (decide (((i : Int) : Int) < ((R.length : Nat) : Int))))] ?_
 refine qD (((i : Int) : Int) < ((R.length : Nat) : Int)) (fun h3 => ?_) (fun h3 => ?_)
 ·
  have hrb := hRb R[i] (List.getElem_mem (by omega))
  refine qR 4 [.c [3, 0, 1, 0, 0, 2, 0, 0, 0], .c [3, 0, 1, 0, 0, 2, 0, 0, 1], .b 1, .c [3, 0, 1, 0, 0, 3], .l [3, 0, 1, 0, 0], .b 0, .c [4]] [(3, .slice aO (R.take i).length cO), (11, .slice ar R.length cr), (12, .I ((R.length : Nat) : Int)), (13, .I i)] ?_
  refine qG (sq 0 3) ?_
  have H := H.frontW 1 (W' := [⟨SB, 23, .slice ar R.length cr, R⟩, ⟨SB, 23, .slice aO (R.take i).length cO, R.take i⟩]) rfl
  have hn5 : R.length = R.length := rfl
  have hx4 : i < R.length := by omega
  refine RW.indexW (κ := .seq) (d := some 15) (r := (sq 1 3)) (T := 22) (e := 23) (m := 1) (ik := .i64) (ix := (i : Int)) (sh := SB) (xs := R) (a := ar) (len := R.length) (cap := cr) (by as_aux_lemma => kernel_rfl) (by as_aux_lemma => kernel_rfl) rfl H i (by omega) hx4 hn5 ?_
  intro b6 es7 ha8 hcell9 hr10
  obtain ⟨a11, k12, rfl⟩ := Shape.slice_form' hr10
  have H := H.add (F := Rp SB [.slice a11 (R[i]).length k12] (R[i])) hr10
  refine qL .seq 16 (sq 2 3) 23 b6 (i * 1) 0 (.slice a11 (R[i]).length k12) hcell9 ?_
  refine qF 1 [(3, .slice aO (R.take i).length cO), (5, .slice a11 (R[i]).length k12), (11, .slice ar R.length cr), (12, .I ((R.length : Nat) : Int)), (13, .I i)] ?_
  refine qG (sq 0 6) ?_
  refine qP 2 (sq 2 6) [(3, .slice aO (R.take i).length cO), (11, .slice ar R.length cr), (12, .I ((R.length : Nat) : Int)), (13, .I i), (17, .slice aO (R.take i).length cO), (18, .slice a11 (R[i]).length k12)] ?_
  have H := H.ownNil Sb 5
  have H : Hp w S O [(jb, .cells #[.P db 0, .string nm, x2, .slice ar R.length cr, x4, x5, x6, x7] 41 (0, 0))] [⟨Sb, 5, .slice none 0 0, []⟩, ⟨SB, 23, .slice ar R.length cr, R⟩, ⟨SB, 23, .slice aO (R.take i).length cO, R.take i⟩] [Rp SB [.slice a11 (R[i]).length k12] (R[i])] _ := H
  refine RW.appendW (d := some 19) (r := (sq 3 6)) (T := 23) (ty := 23) (e := 5) (m := 1) (by_ := 1) (v := .slice none 0 0) (a2 := a11) (l2 := (R[i]).length) (c2 := k12) (zs := R[i]) (by as_aux_lemma => kernel_rfl) (by as_aux_lemma => kernel_rfl) rfl H 0 rfl 0 rfl (rfl) (by omega) ?_
  intro a13 c14 w16 H hc15
  have H : Hp w S O [(jb, .cells #[.P db 0, .string nm, x2, .slice ar R.length cr, x4, x5, x6, x7] 41 (0, 0))] [⟨Sb, 5, .slice a13 (R[i]).length c14, R[i]⟩, ⟨SB, 23, .slice ar R.length cr, R⟩, ⟨SB, 23, .slice aO (R.take i).length cO, R.take i⟩] [Rp SB [.slice a11 (R[i]).length k12] (R[i])] _ := H
  refine RW.new (κ := .seq) (d := some 20) (r := (sq 4 6)) (o := .cells #[.slice a13 (R[i]).length c14] 23 (0, 0)) (v := fun b => .slice (some ⟨b, 0, none⟩) 1 1) (fun b => by as_aux_lemma => kernel_rfl) (nofun) H ?_
  intro b17 w18 H
  have H : Hp w S O [(b17, .cells #[.slice a13 (R[i]).length c14] 23 (0, 0)), (jb, .cells #[.P db 0, .string nm, x2, .slice ar R.length cr, x4, x5, x6, x7] 41 (0, 0))] [⟨SB, 23, .slice ar R.length cr, R⟩, ⟨SB, 23, .slice aO (R.take i).length cO, R.take i⟩] [Rp SB [.slice a13 (R[i]).length c14] (R[i]), Rp SB [.slice a11 (R[i]).length k12] (R[i])] _ := H.freezeW 0 rfl
  have H := H.freeze 0 rfl SB ([R[i]] : List (List (BitVec 8))) 1 (by simp [maxLen]) (by first | exact Nat.le_refl _ | simp) (EsP.cons (c := [.slice a13 (R[i]).length c14]) (H.rp 0 rfl) EsP.nil)
  have H : Hp w S O [(jb, .cells #[.P db 0, .string nm, x2, .slice ar R.length cr, x4, x5, x6, x7] 41 (0, 0))] [⟨SB, 23, .slice ar R.length cr, R⟩, ⟨SB, 23, .slice aO (R.take i).length cO, R.take i⟩] [Rp (Shape.slice SB) [.slice (some ⟨b17, 0, none⟩) 1 1] ([R[i]] : List (List (BitVec 8))), Rp SB [.slice a13 (R[i]).length c14] (R[i]), Rp SB [.slice a11 (R[i]).length k12] (R[i])] _ := H
  refine RW.appendW (d := some 21) (r := (sq 5 6)) (T := 22) (ty := 22) (e := 23) (m := 1) (by_ := 24) (v := .slice aO (R.take i).length cO) (a2 := (some ⟨b17, 0, none⟩)) (l2 := 1) (c2 := 1) (zs := (R.take (i + 1))) (by as_aux_lemma => kernel_rfl) (by as_aux_lemma => kernel_rfl) rfl H 1 rfl 0 rfl ((snoc_take (by omega)).symm) (by rw [List.length_take]; omega) ?_
  intro a19 c20 w22 H hc21
  have H : Hp w S O [(jb, .cells #[.P db 0, .string nm, x2, .slice ar R.length cr, x4, x5, x6, x7] 41 (0, 0))] [⟨SB, 23, .slice ar R.length cr, R⟩, ⟨SB, 23, .slice a19 ((R.take (i + 1)).length) c20, (R.take (i + 1))⟩] [Rp (Shape.slice SB) [.slice (some ⟨b17, 0, none⟩) 1 1] ([R[i]] : List (List (BitVec 8))), Rp SB [.slice a13 (R[i]).length c14] (R[i]), Rp SB [.slice a11 (R[i]).length k12] (R[i])] _ := H
  refine qF 1 [(3, .slice a19 ((R.take (i + 1)).length) c20), (11, .slice ar R.length cr), (12, .I ((R.length : Nat) : Int)), (13, .I i)] ?_
  refine qR 1 [.c [3, 0, 1, 0, 0, 3], .l [3, 0, 1, 0, 0], .b 0, .c [4]] [(3, .slice a19 ((R.take (i + 1)).length) c20), (11, .slice ar R.length cr), (12, .I ((R.length : Nat) : Int)), (13, .I i)] ?_
  refine qG (sq 0 2) ?_
  refine qI .seq 22 (sq 1 2) ((i : Int) + 1) ?_
  refine qF 1 [(3, .slice a19 ((R.take (i + 1)).length) c20), (11, .slice ar R.length cr), (12, .I ((R.length : Nat) : Int)), (13, .I ((i : Int) + 1))] ?_
  have H := H.pick [] rfl
  have H := H.frontW 1 (W' := [⟨SB, 23, .slice a19 ((R.take (i + 1)).length) c20, (R.take (i + 1))⟩, ⟨SB, 23, .slice ar R.length cr, R⟩]) rfl
  exact WK.back (hback1 (i + 1, a19, c20) _ ⟨H, by omega⟩ (by first | omega | (simp only []; omega))) (by as_aux_lemma => kernel_rfl)
 ·
  refine qR 3 [.c [5]] [(2, .slice aO (R.take i).length cO)] ?_
  refine qT (.slice aO (R.take i).length cO) Tryz.func19 ?_
  have hRt : R.take i = R := List.take_of_length_le (by omega)
  rw [hRt] at H
  exact ⟨_, rfl, _, _, by rw [hRt], H⟩
end Go.Proofs.YtdnibpclkhenmaaGreatDoor
