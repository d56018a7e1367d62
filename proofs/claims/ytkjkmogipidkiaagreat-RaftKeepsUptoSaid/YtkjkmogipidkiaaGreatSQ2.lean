import Derived.Test.YtkjkmogipidkiaaGreatSBxA
import Derived.Test.YtkjkmogipidkiaaGreatSQ1
namespace Go.Proofs.YtkjkmogipidkiaaGreat
open Go.BX
theorem check_spec {S : Nat → Prop} {w : World} {cs : List Value} {C : Conf} (h : confS.rep S w cs C) :
 Calls Tryz.prog 62 #[.agg cs.toArray] w (Ret fun v w' => Ext w w' ∧ v = .I (errOf (okConf C))) := by
 obtain ⟨e, f, g, i, rfl, hvC, hlC⟩ := conf_open h
 refine uS1 Tryz.func62 ?_
 have H := Hp.startF (.rp hvC (.rp hlC .nil))
 refine uR 1 [.c [0], .c [1]] ?_
 refine qG (sq 0 2) ?_
 refine uC #[.slice e C.voters.length f, .slice g C.learners.length i] 28 H ?_
 intro _ _ H
 refine uF 1 ?_
 refine uR 2 [.c [1, 0, 0], .c [1, 0, 1], .c [2]] ?_
 refine qG (sq 0 24) ?_
 refine uP 1 ?_
 refine uV 26 0 (H.cells 0 rfl) ?_
 refine uP 3 ?_
 refine uE 7 ((C.voters.length : Nat) : Int) 0 (fun m => ?_) (fun m => ?_)
 ·
  refine uF 19 ?_
  refine uR 3 [.c [1, 0, 1, 0, 1], .c [2]] ?_
  refine qT (.I 120) Tryz.func62 ?_
  refine ⟨_, rfl, H.done, ?_⟩
  congr 1
  exact (errOf_no fun hk => by obtain ⟨k1, k2, k3, k4⟩ := okConf_iff.1 hk; first | omega | simp_all).symm
 ·
  refine uP 1 ?_
  refine uV 26 0 (H.cells 0 rfl) ?_
  refine uK (rises_spec (H.rp 0 rfl)) ?_
  rintro _ _ j rfl
  have H := H.ext j
  refine uP 3 ?_
  refine uT 13 (!(risesFrom 0 C.voters)) (fun a => ?_) (fun a => ?_)
  ·
   replace a : (risesFrom 0 C.voters) = false := by revert a; cases (risesFrom 0 C.voters) <;> simp
   refine uF 13 ?_
   refine qR 3 [.c [1, 0, 1, 0, 1], .c [2]] [(2, .I 120)] ?_
   refine qT (.I 120) Tryz.func62 ?_
   refine ⟨_, rfl, H.done, ?_⟩
   congr 1
   exact (errOf_no fun hk => by obtain ⟨k1, k2, k3, k4⟩ := okConf_iff.1 hk; first | omega | simp_all).symm
  ·
   replace a : (risesFrom 0 C.voters) = true := by revert a; cases (risesFrom 0 C.voters) <;> simp
   refine uP 1 ?_
   refine uV 26 1 (H.cells 0 rfl) ?_
   refine uK (rises_spec (H.rp 1 rfl)) ?_
   rintro _ _ k rfl
   have H := H.ext k
   refine uP 3 ?_
   refine uT 19 (!(risesFrom 0 C.learners)) (fun b => ?_) (fun b => ?_)
   ·
    replace b : (risesFrom 0 C.learners) = false := by revert b; cases (risesFrom 0 C.learners) <;> simp
    refine uF 7 ?_
    refine uR 3 [.c [1, 0, 1, 0, 1], .c [2]] ?_
    refine qT (.I 120) Tryz.func62 ?_
    refine ⟨_, rfl, H.done, ?_⟩
    congr 1
    exact (errOf_no fun hk => by obtain ⟨k1, k2, k3, k4⟩ := okConf_iff.1 hk; first | omega | simp_all).symm
   ·
    replace b : (risesFrom 0 C.learners) = true := by revert b; cases (risesFrom 0 C.learners) <;> simp
    refine uP 1 ?_
    refine uV 26 0 (H.cells 0 rfl) ?_
    refine uP 1 ?_
    refine uV 26 1 (H.cells 0 rfl) ?_
    refine uK (common_spec (H.rp 0 rfl) (H.rp 1 rfl)) ?_
    rintro _ _ d rfl
    have H := H.ext d
    refine uF 2 ?_
    refine qD ((((common C.voters C.learners : Nat) : Int) : Int) > 0) (fun l => ?_) (fun l => ?_)
    ·
     refine uR 2 [.c [1, 0, 1, 0, 1], .c [2]] ?_
     refine qT (.I 120) Tryz.func62 ?_
     refine ⟨_, rfl, H.done, ?_⟩
     congr 1
     exact (errOf_no fun hk => by obtain ⟨k1, k2, k3, k4⟩ := okConf_iff.1 hk; first | omega | simp_all).symm
    ·
     refine uR 3 [.c [3]] ?_
     refine qT (.I 0) Tryz.func62 ?_
     refine ⟨_, rfl, H.done, ?_⟩
     congr 1
     exact (errOf_yes (okConf_iff.2 ⟨by omega, by assumption, by assumption, by omega⟩)).symm
theorem most_spec {S : Nat → Prop} {w : World} {cs : List Value} {C : Conf} (h : confS.rep S w cs C) (m : Int) (hm : 0 ≤ m ∧ m ≤ 4611686018427387903) :
 Calls Tryz.prog 108 #[.agg cs.toArray, .I m] w (Ret fun v w' => Ext w w' ∧ v = .bool (decide (2 * m > (C.voters.length : Int)))) := by
 obtain ⟨a, b, d, e, rfl, hvC, hlC⟩ := conf_open h
 refine uS1 Tryz.func108 ?_
 have H := Hp.startF (.rp hvC (.rp hlC .nil))
 refine uR 1 [.c [0], .c [1]] ?_
 refine qG (sq 0 2) ?_
 refine uC #[.slice a C.voters.length b, .slice d C.learners.length e] 28 H ?_
 intro _ _ H
 refine uF 1 ?_
 refine uR 1 [.c [1, 0], .c [2]] ?_
 refine qG (sq 0 7) ?_
 refine uP 1 ?_
 refine uI (2 * m) ?_
 refine uP 1 ?_
 refine uV 26 0 (H.cells 0 rfl) ?_
 refine uF 3 ?_
 refine qT (.bool (decide ((2 * m : Int) > ((C.voters.length : Nat) : Int)))) Tryz.func108 ?_
 exact ⟨_, rfl, H.done, rfl⟩
theorem majority_spec {S : Nat → Prop} {w : World} {cs : List Value} {C : Conf} (h : confS.rep S w cs C) {xs : List Int} {a : Option Addr} {c : Nat} (hxs : (Shape.slice (.int .i64)).rep S w [.slice a xs.length c] xs) (hsm : C.voters.length ≤ 4611686018427387903) :
 Calls Tryz.prog 72 #[.agg cs.toArray, .slice a xs.length c] w (Ret fun v w' => Ext w w' ∧ v = .bool (majB C xs)) := by
 obtain ⟨b, d, e, f, rfl, hvC, hlC⟩ := conf_open h
 refine uS1 Tryz.func72 ?_
 have H := Hp.startF (.rp hvC (.rp hlC (.rp hxs .nil)))
 refine uR 1 [.c [0], .c [1]] ?_
 refine qG (sq 0 2) ?_
 refine uC #[.slice b C.voters.length d, .slice e C.learners.length f] 28 H ?_
 intro _ g H
 refine uF 1 ?_
 refine uR 1 [.c [1, 0], .c [2]] ?_
 refine WK.draw1 7 [(0, .qui), (1, .qui), (2, .qui), (3, .qui), (4, .chn), (5, .chn), (6, .qui)] [(0, .qui), (1, .qui), (2, .qui), (3, .qui), (4, .chn), (5, .chn), (6, .qui)] Tryz_mixed (by as_aux_lemma => kernel_rfl) (by as_aux_lemma => kernel_rfl) (by as_aux_lemma => kernel_rfl) ?_
 have H := H.draw
 generalize ({ g with drawn := g.drawn + 1 } : World) = k at H ⊢
 refine uV 28 0 (H.cells 0 rfl) ?_
 refine uP 1 ?_
 refine uV 26 0 (H.cells 0 rfl) ?_
 refine uP 1 ?_
 refine uK (common_spec (H.rp 0 rfl) (H.rp 2 rfl)) ?_
 rintro _ _ i rfl
 have H := H.ext i
 refine uK (most_spec (C := C) (conf_mk (H.rp 0 rfl) (H.rp 1 rfl)) ((common C.voters xs : Nat) : Int) (by have := common_le C.voters xs; omega)) ?_
 rintro _ _ j rfl
 have H := H.ext j
 refine uF 1 ?_
 refine qT (.bool (decide (2 * ((common C.voters xs : Nat) : Int) > (C.voters.length : Int)))) Tryz.func72 ?_
 exact ⟨_, rfl, H.done, rfl⟩
theorem votes_spec {S : Nat → Prop} {w : World} {cs : List Value} {C : Conf} (h : confS.rep S w cs C) (x : Int) :
 Calls Tryz.prog 69 #[.agg cs.toArray, .I x] w (Ret fun v w' => Ext w w' ∧ v = .bool (decide (x ∈ C.voters))) := by
 obtain ⟨a, b, d, e, rfl, hvC, hlC⟩ := conf_open h
 refine uS1 Tryz.func69 ?_
 have H := Hp.startF (.rp hvC (.rp hlC .nil))
 refine uR 1 [.c [0], .c [1]] ?_
 refine qG (sq 0 2) ?_
 refine uC #[.slice a C.voters.length b, .slice d C.learners.length e] 28 H ?_
 intro _ _ H
 refine uF 1 ?_
 refine uR 1 [.c [1, 0], .c [2]] ?_
 refine qG (sq 0 5) ?_
 refine uP 1 ?_
 refine uV 26 0 (H.cells 0 rfl) ?_
 refine uP 1 ?_
 refine uK (contains_spec x (H.rp 0 rfl)) ?_
 rintro _ _ f rfl
 have H := H.ext f
 refine uF 1 ?_
 refine qT (.bool (decide (x ∈ C.voters))) Tryz.func69 ?_
 exact ⟨_, rfl, H.done, rfl⟩
theorem in_spec {S : Nat → Prop} {w : World} (x : Int) {xs : List Int} {a : Option Addr} {c : Nat} (hxs : (Shape.slice (.int .i64)).rep S w [.slice a xs.length c] xs) :
 Calls Tryz.prog 37 #[.I x, .slice a xs.length c] w (Ret fun v w' => Ext w w' ∧ v = .bool (decide (x ∈ xs))) := by
 have hlen := Shape.slice_len hxs
 refine uS1 Tryz.func37 ?_
 have H := Hp.startF (.rp hxs .nil)
 refine uR 6 [.c [1, 0, 1, 0], .b 0, .c [2]] ?_
 refine uL (α := Nat) (g := 37) (p := [1, 0, 1, 0, 0]) (fun k => [(0, .I x), (1, .slice a xs.length c), (5, .I k)]) (fun k w' => Hp w S [] [] [] [Rp (Shape.slice (Shape.int .i64)) [.slice a xs.length c] xs] w' ∧ k ≤ xs.length ∧ x ∉ xs.take k) (fun k => xs.length - k) 0 ⟨H, by simp⟩ ?_
 rintro k _ ⟨H, d⟩ e
 refine uR 3 [.c [1, 0, 1, 0, 0, 0, 1], .c [1, 0, 1, 0, 0, 1], .l [1, 0, 1, 0, 0], .b 0, .c [2]] ?_
 refine qD (((k : Int) : Int) < ((xs.length : Nat) : Int)) (fun m => ?_) (fun m => ?_)
 ·
  refine uR 4 [.c [1, 0, 1, 0, 0, 1, 0, 0, 0], .c [1, 0, 1, 0, 0, 1, 0, 0, 1], .b 1, .c [1, 0, 1, 0, 0, 2], .l [1, 0, 1, 0, 0], .b 0, .c [2]] ?_
  refine qG (sq 0 6) ?_
  refine uP 2 ?_
  have i : k < xs.length := by omega
  refine uX 26 (k : Int) H 0 rfl k (by omega) (List.getElem?_eq_getElem i) ?_
  intro _ _ _ f H
  have n := Shape.i64_bd f
  obtain ⟨rfl, -⟩ := f
  refine uV 3 0 (H.fc 0 rfl) ?_
  refine uF 2 ?_
  refine qE (xs[k]) x (fun j => ?_) (fun j => ?_)
  ·
   refine uR 2 [.c [1, 0, 1, 0, 0, 1, 0, 0, 1, 0, 1], .b 1, .c [1, 0, 1, 0, 0, 2], .l [1, 0, 1, 0, 0], .b 0, .c [2]] ?_
   refine qT (.bool true) Tryz.func37 ?_
   refine ⟨_, rfl, H.done, ?_⟩
   congr 1
   exact (decide_eq_true (by subst_vars; exact List.getElem_mem _)).symm
  ·
   refine uR 2 [.c [1, 0, 1, 0, 0, 2], .l [1, 0, 1, 0, 0], .b 0, .c [2]] ?_
   refine qG (sq 0 3) ?_
   refine uP 1 ?_
   refine uI ((k : Int) + 1) ?_
   refine uF 1 ?_
   have H := H.pick [1] rfl
   exact uB (e (k + 1) _ ⟨H, by omega, fun hm => by rcases (take_succ_mem (by omega)).1 hm with hm | hm; exact d.2 hm; simp_all⟩ (by first | omega | (simp only []; omega)))
 ·
  refine uR 3 [.c [3]] ?_
  refine qT (.bool false) Tryz.func37 ?_
  refine ⟨_, rfl, H.done, ?_⟩
  congr 1
  exact (decide_eq_false fun h => d.2 (by rw [List.take_of_length_le (by omega)]; exact h)).symm
end Go.Proofs.YtkjkmogipidkiaaGreat
