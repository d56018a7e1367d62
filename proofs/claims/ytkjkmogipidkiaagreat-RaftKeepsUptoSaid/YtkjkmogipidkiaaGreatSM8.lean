import Derived.Test.YtkjkmogipidkiaaGreatSBxA
import Derived.Test.YtkjkmogipidkiaaGreatSM7
namespace Go.Proofs.YtkjkmogipidkiaaGreat
open Go.BX
theorem one_at {xs : List Int} {x : Int} (h : xs = [x]) (i : Nat) (hi : i < xs.length) : xs[i] = x := by
 subst h
 have a : i = 0 := by simpa using hi
 subst a; rfl
theorem len64_1 {S : Nat → Prop} {w : World}  :
 Calls Tryz.prog 164 #[.int .u64 1] w (Ret fun v w' => Ext w w' ∧ v = .I 1) := by
 refine uS1 Tryz.func164 ?_
 have H := Hp.startF (w := w) (S := S) (G := []) .nil
 refine uR 19 [.c [5]] ?_
 refine qT (.I 1) Tryz.func164 ?_
 exact ⟨_, rfl, H.done, rfl⟩
theorem len_1 {S : Nat → Prop} {w : World}  :
 Calls Tryz.prog 151 #[.int .u64 1] w (Ret fun v w' => Ext w w' ∧ v = .I 1) := by
 refine uS1 Tryz.func151 ?_
 have H := Hp.startF (w := w) (S := S) (G := []) .nil
 refine uR 6 [.c [2, 0], .c [3]] ?_
 refine qG (sq 0 3) ?_
 refine uP 1 ?_
 refine uK (len64_1 (S := fun _ => True)) ?_
 rintro _ _ a rfl
 have H := H.ext a
 refine uF 1 ?_
 refine qT (.I 1) Tryz.func151 ?_
 exact ⟨_, rfl, H.done, rfl⟩
theorem uins_1 {S : Nat → Prop} {w : World} {a : Option Addr} {c : Nat} :
 Calls Tryz.prog 165 #[.slice a 1 c, .I 0, .I 1] w (Ret fun v w' => Ext w w' ∧ v = .tuple #[]) := by
 refine uS1 Tryz.func165 ?_
 have H := Hp.startF (w := w) (S := S) (G := []) .nil
 refine uR 3 [.c [1, 0], .b 0] ?_
 refine uL (α := Unit) (g := 165) (p := [1, 0, 0]) (fun _ => [(0, .slice a 1 c), (1, .I 0), (2, .I 1), (6, .I 1)]) (fun _ w' => Hp w S [] [] [] [] w' ∧ True) (fun _ => 0) (()) ⟨H, trivial⟩ ?_
 rintro _ _ ⟨H, _⟩ _
 refine uR 5 [] ?_
 refine WK.fin (v := .tuple #[]) Tryz.func165 (by as_aux_lemma => kernel_rfl) ?_
 exact ⟨_, rfl, H.done, rfl⟩
theorem updq_1 {S : Nat → Prop} {w : World} {a : Option Addr} {c : Nat} :
 Calls Tryz.prog 152 #[.slice a 1 c, .I 0, .I 1, .I 1] w (Ret fun v w' => Ext w w' ∧ v = .tuple #[]) := by
 refine uS1 Tryz.func152 ?_
 have H := Hp.startF (w := w) (S := S) (G := []) .nil
 refine uR 5 [.c [2, 0], .b 0] ?_
 refine uL (α := Unit) (g := 152) (p := [2, 0, 0]) (fun _ => [(0, .slice a 1 c), (1, .I 0), (2, .I 1), (3, .I 1), (8, .bool true), (9, .bool true)]) (fun _ w' => Hp w S [] [] [] [] w' ∧ True) (fun _ => 0) (()) ⟨H, trivial⟩ ?_
 rintro _ _ ⟨H, _⟩ _
 refine uR 8 [.c [2, 0, 0, 0, 1, 0, 1, 0, 0], .c [2, 0, 0, 0, 1, 0, 1, 0, 1], .c [2, 0, 0, 0, 2], .b 1, .l [2, 0, 0], .b 0] ?_
 refine qG (sq 0 4) ?_
 refine uP 3 ?_
 refine qK .seq (some 27) (sq 4 4) 165 #[.slice a 1 c, .I 0, .I 1] (uins_1 (S := fun _ => True)) ?_
 rintro _ _ d rfl
 have H := H.ext d
 refine uF 0 ?_
 refine qT (.tuple #[]) Tryz.func152 ?_
 exact ⟨_, rfl, H.done, rfl⟩
theorem usort_1 {S : Nat → Prop} {w : World} {a : Option Addr} {c : Nat} :
 Calls Tryz.prog 143 #[.slice a 1 c] w (Ret fun v w' => Ext w w' ∧ v = .tuple #[]) := by
 refine uS1 Tryz.func143 ?_
 have H := Hp.startF (w := w) (S := S) (G := []) .nil
 refine uR 2 [.c [1]] ?_
 refine qG (sq 0 6) ?_
 refine uP 4 ?_
 refine uK (len_1 (S := fun _ => True)) ?_
 rintro _ _ b rfl
 have H := H.ext b
 refine qK .seq (some 10) (sq 6 6) 152 #[.slice a 1 c, .I 0, .I 1, .I 1] (updq_1 (S := fun _ => True)) ?_
 rintro _ _ d rfl
 have H := H.ext d
 refine uF 0 ?_
 refine WK.fin (v := .tuple #[]) Tryz.func143 (by as_aux_lemma => kernel_rfl) ?_
 exact ⟨_, rfl, H.done, rfl⟩
theorem matched1_spec {S : Nat → Prop} {w : World} {bx : Nat} {x : Int} (y n2 m2 : Int) (hd : Bool) (h : (Fc bx 0 [.I x]).p S w) :
 Calls Tryz.prog 142 #[.agg #[.I y, .int .u64 n2, .int .u64 m2, .bool hd], .P bx 0] w (Ret fun v w' => Ext w w' ∧ v = .bool (y == x)) := by
 refine uS1 Tryz.func142 ?_
 have H := Hp.startF (w := w) (S := S) (G := [Fc bx 0 [.I x]]) (.cons h .nil)
 refine uR 1 [.c [0], .c [1]] ?_
 refine qG (sq 0 2) ?_
 refine uC #[.I y, .int .u64 n2, .int .u64 m2, .bool hd] 123 H ?_
 intro _ _ H
 refine uF 1 ?_
 refine uR 1 [.c [1, 0], .c [2]] ?_
 refine qG (sq 0 5) ?_
 refine uP 1 ?_
 refine uV 3 0 (H.cells 0 rfl) ?_
 refine uV 3 0 (H.fc 0 rfl) ?_
 refine uF 2 ?_
 refine qT (.bool (y == x)) Tryz.func142 ?_
 exact ⟨_, rfl, H.done, rfl⟩
theorem ixpeer_spec {S : Nat → Prop} {w : World} {bx : Nat} {x : Int} {ps : List Peer} {pa : Option Addr} {pc : Nat} (hps : (Shape.slice peerS).rep S w [.slice pa ps.length pc] ps) (h : (Fc bx 0 [.I x]).p S w) :
 Calls Tryz.prog 113 #[.slice pa ps.length pc, .func (.func 142) #[] #[.P bx 0]] w (Ret fun v w' => Ext w w' ∧ ∃ i : Int, v = .I i ∧ ((i = -1 ∧ ∀ p ∈ ps, p.id ≠ x) ∨ ∃ k : Nat, i = k ∧ ∃ h : k < ps.length, ps[k].id = x ∧ ∀ p ∈ ps.take k, p.id ≠ x)) := by
 have hlen := Shape.slice_len hps
 refine uS1 Tryz.func113 ?_
 have H := Hp.startF (.rp hps (.cons h .nil))
 refine uR 6 [.c [1, 0, 1, 0], .b 0, .c [2]] ?_
 refine uL (α := Nat) (g := 113) (p := [1, 0, 1, 0, 0]) (fun k => [(0, .slice pa ps.length pc), (1, .func (.func 142) #[] #[.P bx 0]), (7, .I ((ps.length : Nat) : Int)), (8, .I k)]) (fun k w' => Hp w S [] [] [] [Rp (Shape.slice peerS) [.slice pa ps.length pc] ps, Fc bx 0 [.I x]] w' ∧ k ≤ ps.length ∧ ∀ p ∈ ps.take k, p.id ≠ x) (fun k => ps.length - k) 0 ⟨H, Nat.zero_le _, by simp⟩ ?_
 rintro k _ ⟨H, a⟩ d
 refine uR 3 [.c [1, 0, 1, 0, 0, 1, 0], .c [1, 0, 1, 0, 0, 2], .l [1, 0, 1, 0, 0], .b 0, .c [2]] ?_
 refine qD (((k : Int) : Int) < ((ps.length : Nat) : Int)) (fun n => ?_) (fun n => ?_)
 ·
  refine uR 6 [.c [1, 0, 1, 0, 0, 2, 0, 0, 1, 0], .c [1, 0, 1, 0, 0, 2, 0, 0, 2], .b 1, .c [1, 0, 1, 0, 0, 3], .l [1, 0, 1, 0, 0], .b 0, .c [2]] ?_
  refine qG (sq 0 6) ?_
  refine uP 3 ?_
  have f : k < ps.length := by omega
  refine uX 32 (k : Int) H 0 rfl k (by omega) (List.getElem?_eq_getElem f) ?_
  intro _ _ _ j H
  obtain ⟨rfl, _, _, _⟩ := peer_open j
  refine uV 123 0 (H.fc 0 rfl) ?_
  refine uK (matched1_spec ((ps[k]).id) ((ps[k]).next) ((ps[k]).mat) ((ps[k]).heard) (H.fact 2 rfl)) ?_
  rintro _ _ e rfl
  have H := H.ext e
  refine uF 0 ?_
  refine qE ((ps[k]).id) x (fun m => ?_) (fun m => ?_)
  ·
   refine uR 2 [.c [1, 0, 1, 0, 0, 2, 0, 0, 2, 0, 1], .b 1, .c [1, 0, 1, 0, 0, 3], .l [1, 0, 1, 0, 0], .b 0, .c [2]] ?_
   refine qT (.I k) Tryz.func113 ?_
   exact ⟨_, rfl, H.done, _, rfl, .inr ⟨k, rfl, by omega, by assumption, a.2⟩⟩
  ·
   refine uR 2 [.c [1, 0, 1, 0, 0, 3], .l [1, 0, 1, 0, 0], .b 0, .c [2]] ?_
   refine qG (sq 0 2) ?_
   refine uI ((k : Int) + 1) ?_
   refine uF 1 ?_
   have H := H.pick [1, 2] rfl
   exact uB (d (k + 1) _ ⟨H, by omega, fun p hm => by rw [List.take_succ_eq_append_getElem (by omega), List.mem_append, List.mem_singleton] at hm; rcases hm with hm | rfl; exact a.2 p hm; assumption⟩ (by first | omega | (simp only []; omega)))
 ·
  refine uR 3 [.c [3]] ?_
  refine qT (.I (-1)) Tryz.func113 ?_
  exact ⟨_, rfl, H.done, _, rfl, .inl ⟨rfl, fun p h => a.2 p (by rw [List.take_of_length_le (by omega)]; exact h)⟩⟩
theorem matched0_spec {S : Nat → Prop} {w : World} {C : Conf} {av aw : Option Addr} {kv kw : Nat} {x m1 : Int} {ps : List Peer} {pa : Option Addr} {pc : Nat} (hps : (Shape.slice peerS).rep S w [.slice pa ps.length pc] ps) (hV : (Shape.slice (Shape.int .i64)).rep S w [.slice av C.voters.length kv] C.voters) (hcv : C.voters = [x]) (hpx : ∃ p ∈ ps, p.id = x) (hpm : ∀ k (h : k < ps.length), ps[k].id = x → ps[k].mat = m1) :
 Calls Tryz.prog 130 #[.agg #[.slice av C.voters.length kv, .slice aw C.learners.length kw], .slice pa ps.length pc] w (Ret fun v w' => Ext w w' ∧ v = .int .u64 m1 ∧ 0 ≤ m1 ∧ m1 ≤ 18446744073709551615) := by
 have hlen := Shape.slice_len hps
 have hvl : C.voters.length = 1 := by rw [hcv]; rfl
 have B := one_at hcv
 refine uS1 Tryz.func130 ?_
 have H := Hp.startF (.rp hV (.rp hps .nil))
 refine uR 1 [.c [0], .c [1]] ?_
 refine qG (sq 0 2) ?_
 refine uC #[.slice av C.voters.length kv, .slice aw C.learners.length kw] 28 H ?_
 intro M _ H
 refine uF 1 ?_
 refine uR 4 [.c [2, 0, 0], .c [2, 0, 1], .c [3]] ?_
 refine qG (sq 0 4) ?_
 refine uP 1 ?_
 refine uV 26 0 (H.cells 0 rfl) ?_
 refine uF 2 ?_
 refine uR 1 [.c [2, 0, 1, 0], .b 0, .c [3]] ?_
 have H := H.ownNil (Shape.int .u64) 25
 refine uL (α := Nat × List Int × Option Addr × Nat) (g := 130) (p := [2, 0, 1, 0, 0]) (fun (i, ys, f, j) => [(1, .slice pa ps.length pc), (5, .slice f ys.length j), (11, .slice av C.voters.length kv), (12, .I ((C.voters.length : Nat) : Int)), (13, .I i)]) (fun (i, ys, f, j) w' => Hp w S [] [(M, .cells #[.slice av C.voters.length kv, .slice aw C.learners.length kw] 28 (0, 0))] [⟨Shape.int .u64, 25, .slice f ys.length j, ys⟩] [Rp (Shape.slice (Shape.int .i64)) [.slice av C.voters.length kv] C.voters, Rp (Shape.slice peerS) [.slice pa ps.length pc] ps] w' ∧ i ≤ C.voters.length ∧ ys = List.replicate i m1) (fun (i, ys, f, j) => C.voters.length - i) (0, [], none, 0) ⟨H, Nat.zero_le _, rfl⟩ ?_
 rintro ⟨i, ys, f, j⟩ _ ⟨H, n⟩ t
 have hyl : ys.length = i := by rw [n.2, List.length_replicate]
 refine uR 3 [.c [2, 0, 1, 0, 0, 1, 0], .c [2, 0, 1, 0, 0, 2], .l [2, 0, 1, 0, 0], .b 0, .c [3]] ?_
 refine qD (((i : Int) : Int) < ((C.voters.length : Nat) : Int)) (fun X => ?_) (fun X => ?_)
 ·
  refine uR 4 [.c [2, 0, 1, 0, 0, 2, 0, 0, 0], .c [2, 0, 1, 0, 0, 2, 0, 0, 1], .b 1, .c [2, 0, 1, 0, 0, 3], .l [2, 0, 1, 0, 0], .b 0, .c [3]] ?_
  refine qG (sq 0 4) ?_
  have N : i < C.voters.length := by omega
  refine uX 26 (i : Int) H 0 rfl i (by omega) (List.getElem?_eq_getElem N) ?_
  intro Y Z _ u H
  have a0 := Shape.i64_bd u
  obtain ⟨rfl, -⟩ := u
  refine uV 3 0 (H.fc 0 rfl) ?_
  refine uC #[.I 0] 3 H ?_
  intro O _ H
  refine uW 3 0 #[.I (C.voters[i])] H 0 rfl ?_
  intro _ H
  refine uF 0 ?_
  refine uR 4 [.c [2, 0, 1, 0, 0, 2, 0, 0, 2, 0, 0], .c [2, 0, 1, 0, 0, 2, 0, 0, 2, 0, 1], .c [2, 0, 1, 0, 0, 2, 0, 0, 3], .b 1, .c [2, 0, 1, 0, 0, 3], .l [2, 0, 1, 0, 0], .b 0, .c [3]] ?_
  refine qG (sq 0 4) ?_
  refine uP 2 ?_
  refine uK (ixpeer_spec ((Shape.slice peerS).step (H.rp 2 rfl) fun _ _ _ => ⟨trivial, rfl⟩) (H.viewM 0 rfl (by simp))) ?_
  rintro _ _ D ⟨ix, rfl, hix⟩
  have H := H.ext D
  refine uF 1 ?_
  refine uR 2 [.c [2, 0, 1, 0, 0, 2, 0, 0, 2, 0, 2], .c [2, 0, 1, 0, 0, 2, 0, 0, 3], .b 1, .c [2, 0, 1, 0, 0, 3], .l [2, 0, 1, 0, 0], .b 0, .c [3]] ?_
  refine WK.joinV (α := Int) (fun x_ w_ => match x_ with | hs => Hp w S [] [(O, .cells #[.I (C.voters[i])] 3 (0, 0)), (M, .cells #[.slice av C.voters.length kv, .slice aw C.learners.length kw] 28 (0, 0))] [⟨Shape.int .u64, 25, .slice f ys.length j, ys⟩] [Fc Y Z [.I (C.voters[i])], Rp (Shape.slice (Shape.int .i64)) [.slice av C.voters.length kv] C.voters, Rp (Shape.slice peerS) [.slice pa ps.length pc] ps] w_ ∧ 0 ≤ hs ∧ hs ≤ 18446744073709551615 ∧ hs = m1) (fun x_ => match x_ with | hs => [(1, .slice pa ps.length pc), (5, .slice f ys.length j), (8, .int .u64 hs), (11, .slice av C.voters.length kv), (12, .I ((C.voters.length : Nat) : Int)), (13, .I i)]) [Cq Tryz.prog 130 [2, 0, 1, 0, 0, 2, 0, 0, 3], .inBlock 1, Cq Tryz.prog 130 [2, 0, 1, 0, 0, 3], Lq Tryz.prog 130 [2, 0, 1, 0, 0], .inBlock 0, Cq Tryz.prog 130 [3]] (fun E => ?_) ?_
  ·
   refine qD ((ix : Int) ≥ 0) (fun P => ?_) (fun P => ?_)
   ·
    obtain ⟨A, rfl, Q, hkx, hkn⟩ := hix.resolve_left (fun hq => by omega)
    refine qG (sq 0 6) ?_
    refine uP 2 ?_
    have F : A < ps.length := by omega
    refine uX 32 (A : Int) H 2 rfl A (by omega) (List.getElem?_eq_getElem F) ?_
    intro _ _ _ G H
    obtain ⟨rfl, _, _, _⟩ := peer_open G
    refine uP 1 ?_
    refine uV 25 2 (H.fc 0 rfl) ?_
    refine uF 1 ?_
    have H := H.pick [1, 2, 3] rfl
    exact uB (E ((ps[A]).mat) _ ⟨H, by omega, by omega, hpm _ Q (by rw [hkx, B i (by omega)])⟩)
   ·
    obtain ⟨p9, R, U⟩ := hpx
    exact absurd (by rw [B i (by omega)]; exact U) ((hix.resolve_right (fun ⟨k, hq, _⟩ => by omega)).2 p9 R)
  ·
   rintro hs _ ⟨H, hj⟩
   refine qG (sq 0 5) ?_
   refine uP 2 ?_
   refine RW.new (κ := .seq) (d := some 29) (r := (sq 3 5)) (o := .cells #[.int .u64 hs] 25 (0, 0)) (v := fun b => .slice (some ⟨b, 0, none⟩) 1 1) (fun b => by as_aux_lemma => kernel_rfl) (nofun) H ?_
   intro V _ H
   have H := H.freeze 0 rfl (Shape.int .u64) ([hs] : List Int) 1 (by simp [maxLen]) (by first | exact Nat.le_refl _ | simp) (EsP.cons (c := [.int .u64 hs]) u64a EsP.nil)
   have H : Hp w S [] [_, _] [_] [Rp (Shape.slice (Shape.int .u64)) [.slice (some ⟨V, 0, none⟩) 1 1] ([hs] : List Int), _, _, _] _ := H
   refine uA 40 40 8 (ys ++ ([hs] : List Int)) H 0 rfl 0 rfl (rfl) (by simp; omega) ?_
   intro y z _ H _
   have H : Hp w S [] [_, _] [⟨Shape.int .u64, 25, .slice y ((ys ++ ([hs] : List Int)).length) z, ys ++ ([hs] : List Int)⟩] [_, _, _, _] _ := H
   refine uF 1 ?_
   refine uR 1 [.c [2, 0, 1, 0, 0, 3], .l [2, 0, 1, 0, 0], .b 0, .c [3]] ?_
   refine qG (sq 0 2) ?_
   refine uI ((i : Int) + 1) ?_
   refine qF 1 [(1, .slice pa ps.length pc), (5, .slice y ((ys ++ ([hs] : List Int)).length) z), (11, .slice av C.voters.length kv), (12, .I ((C.voters.length : Nat) : Int)), (13, .I ((i : Int) + 1))] ?_
   have H := H.pick [2, 3] rfl
   have H := H.frontM 1 rfl
   have H := H.take 1 1
   exact uB (t (i + 1, ys ++ ([hs] : List Int), y, z) _ ⟨H, by omega, by rw [n.2, hj.2.2, List.replicate_succ']⟩ (by first | omega | (simp only []; omega)))
 ·
  refine uR 4 [.c [3, 0, 1], .c [4]] ?_
  refine qE ((ys.length : Nat) : Int) 0 (fun W => ?_) (fun W => ?_)
  ·
   omega
  ·
   obtain rfl : ys = ([m1] : List Int) := by rw [n.2, show i = 1 by omega]; rfl
   refine uR 2 [.c [4, 0], .c [5]] ?_
   refine qG (sq 0 2) ?_
   refine uP 1 ?_
   refine qK .seq (some 36) (sq 2 2) 143 #[.slice f ([m1] : List Int).length j] (usort_1 (S := fun _ => True)) ?_
   rintro _ _ J rfl
   have H := H.ext J
   refine uF 0 ?_
   refine uR 1 [.c [5, 0], .c [6]] ?_
   refine qG (sq 0 8) ?_
   refine uP 3 ?_
   refine uI (((([m1] : List Int).length : Nat) : Int) - 1) ?_
   refine RW.pv (κ := .seq) (d := some 41) (r := (sq 5 8)) (v := .I (IntKind.i64.wrap ((((([m1] : List Int).length : Nat) : Int) - 1).tdiv 2))) (v' := .I ((((([m1] : List Int).length : Nat) : Int) - 1) / 2)) (by as_aux_lemma => kernel_rfl) (quo_i64 (by decide) (by omega)) ?_
   have K : ([m1] : List Int).length = ([m1] : List Int).length := rfl
   have L : 0 < ([m1] : List Int).length := by simp
   refine RW.indexW (κ := .seq) (d := some 42) (r := (sq 6 8)) (T := 40) (e := 25) (m := 1) (ik := .i64) (ix := (((([m1] : List Int).length : Nat) : Int) - 1) / 2) (sh := (Shape.int .u64)) (xs := ([m1] : List Int)) (a := f) (len := ([m1] : List Int).length) (cap := j) (by as_aux_lemma => kernel_rfl) (by as_aux_lemma => kernel_rfl) rfl H 0 (by omega) L K ?_
   intro _ _ _ s q
   rw [List.getElem_cons_zero] at q
   have b0 := Shape.u64_bd q
   obtain ⟨rfl, -⟩ := q
   refine uV 25 0 s ?_
   refine uF 1 ?_
   refine qT (.int .u64 m1) Tryz.func130 ?_
   exact ⟨_, rfl, H.done, rfl, by omega, by omega⟩
end Go.Proofs.YtkjkmogipidkiaaGreat
