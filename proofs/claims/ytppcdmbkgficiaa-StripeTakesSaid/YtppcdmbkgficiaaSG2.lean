import Derived.Test.YtppcdmbkgficiaaSBxA
import Derived.Test.YtppcdmbkgficiaaSG1
namespace Go.Proofs.Ytppcdmbkgficiaa
open Go.BX
open Go Go.RowKit
set_option maxRecDepth 100000 in
theorem refused_idle (p : Addr) (w : World) : CallsD Try.prog 95 #[.pointer (some p)] .returning w fun e u' w' => e = .returned (.tuple #[]) ∧ u' = .returning ∧ w' = w := by
 refine callsD_of_wpS Try.func95 rfl fun c₀ cs hu => ?_
 apply wpS_seq
 apply wpS_region
 simp [wpOpsS, go_sem, recoverD, hu, Try.ntmps95, Exit.thenS]
 refine wpS_of_wp ?_
 have hnil : ∀ w : World, (binOp BinOp.eql 20 .nilIface .nilIface).run Try.prog w = .ok (.bool true) w := fun _ => by kernel_rfl
 go_wp2
 cases c₀
 simp_all [bodyPostS, results, Try.results95]
theorem refused_defer (p : Addr) : Idle Try.prog ⟨.fn (.func 95) #[], #[.pointer (some p)]⟩ :=
 ⟨_, _, 95, #[.pointer (some p)], rfl, fun w => by simp [invoke, go_sem], fun w => refused_idle p w⟩
theorem needs_spec {S : Nat → Prop} {w : World}  :
 Calls Try.prog 96 #[.bool true] w (Ret fun v w' => Ext w w' ∧ v = .tuple #[]) := by
 refine uS1 Try.func96 ?_
 have H := Hp.startF (w := w) (S := S) (G := []) .nil
 refine uR 4 [] ?_
 refine WK.fin (v := .tuple #[]) Try.func96 (by as_aux_lemma => kernel_rfl) ?_
 exact ⟨_, rfl, H.done, rfl⟩
def genE (k i j : Nat) : BitVec 8 := if i ≥ k then ginv (BitVec.ofNat 8 i ^^^ BitVec.ofNat 8 j) else if i = j then 1#8 else 0#8
def genRow (k i : Nat) : List (BitVec 8) := (List.range k).map fun j => genE k i j
def genTo (k i m : Nat) : List (BitVec 8) := (List.range k).map fun j => if j < m then genE k i j else 0#8
def gen (k n : Nat) : List (List (BitVec 8)) := (List.range n).map (genRow k)
theorem genTo_len (k i m : Nat) : (genTo k i m).length = k := by simp [genTo]
theorem gen_len (k n : Nat) : (gen k n).length = n := by simp [gen]
theorem genTo_zero (k i : Nat) : List.replicate k 0#8 = genTo k i 0 := by
 apply List.ext_getElem (by simp [genTo])
 intro j _ _
 simp [genTo]
theorem genTo_all {k i m : Nat} (h : k ≤ m) : genTo k i m = genRow k i := by
 unfold genTo genRow
 refine List.map_congr_left fun j hj => if_pos (by have := List.mem_range.1 hj; omega)
theorem genTo_set {k i m : Nat} {x : BitVec 8} (_hm : m < k) (hx : genE k i m = x) : (genTo k i m).set m x = genTo k i (m + 1) := by
 apply List.ext_getElem (by simp [genTo])
 intro j _ _
 simp only [genTo, List.getElem_set, List.getElem_map, List.getElem_range]
 by_cases hj : m = j
 · subst hj; rw [if_pos rfl, if_pos (by omega), hx]
 · rw [if_neg hj]
   by_cases h3 : j < m
   · rw [if_pos h3, if_pos (by omega)]
   · rw [if_neg h3, if_neg (by omega)]
theorem genTo_skip {k i m : Nat} (hm : m < k) (h1 : i < k) (h2 : i ≠ m) : genTo k i m = genTo k i (m + 1) := by
 rw [← genTo_set (x := 0#8) hm (by unfold genE; rw [if_neg (by omega), if_neg h2])]
 apply List.ext_getElem (by simp [genTo])
 intro j _ _
 rw [List.getElem_set]
 split
 · rename_i e; subst e; simp [genTo]
 · rfl
theorem gen_take {k n i : Nat} (h : i < n) : (gen k n).take i ++ [genRow k i] = (gen k n).take (i + 1) := by
 rw [List.take_succ_eq_append_getElem (by rw [gen_len]; exact h)]
 simp [gen]
theorem gen_ne {i j : Nat} (hi : i < 256) (hj : j < 256) (h : i ≠ j) : (((BitVec.ofNat 8 i ^^^ BitVec.ofNat 8 j).toNat : Nat) : Int) ≠ 0 := by
 intro he
 have a : (BitVec.ofNat 8 i ^^^ BitVec.ofNat 8 j) = 0#8 := BitVec.eq_of_toNat_eq (by simpa using he)
 have b : BitVec.ofNat 8 i = BitVec.ofNat 8 j := by
  have := congrArg (· ^^^ BitVec.ofNat 8 j) a
  simpa [BitVec.xor_assoc] using this
 have c := congrArg BitVec.toNat b
 rw [BitVec.toNat_ofNat, BitVec.toNat_ofNat] at c
 omega
theorem generator_spec {S : Nat → Prop} {w : World} (k n : Nat) (hk : 0 < k) (hkn : k ≤ n) (hn : n ≤ 255) :
 Calls Try.prog 67 #[.I k, .I n] w (Ret fun v w' => Ext w w' ∧ ∃ (a : Option Addr) (c : Nat), v = .tuple #[.slice a (gen k n).length c, .I 0] ∧ (Shape.slice SB).rep (Nw S w) w' [.slice a (gen k n).length c] (gen k n)) := by
 refine uS1 Try.func67 ?_
 have H := Hp.startF (w := w) (S := S) (G := []) .nil
 refine uR 1 [.c [0], .c [1]] ?_
 refine qG (sq 0 2) ?_
 refine uP 1 ?_
 refine uC #[.I 0] 34 H ?_
 intro q _ H
 refine uF 0 ?_
 refine uR 1 [.c [1, 0], .c [2]] ?_
 refine WK.defer1 (o := op1 (cd Try.prog 67 [1, 0])) ⟨.fn (.func 95) #[], #[.P q 0]⟩ (by as_aux_lemma => kernel_rfl) (by as_aux_lemma => kernel_rfl) (by as_aux_lemma => kernel_rfl) (by as_aux_lemma => kernel_rfl) (by as_aux_lemma => kernel_rfl) ?_
 refine uR 1 [.c [2, 0], .c [3]] ?_
 refine qG (sq 0 12) ?_
 refine uP 1 ?_
 refine RW.pv (κ := .seq) (d := some 10) (r := (sq 2 12)) (v' := .bool true) (v := .bool (decide (((k : Int) : Int) > 0))) (by as_aux_lemma => kernel_rfl) (by rw [decide_eq_true (by omega)]) ?_
 refine uP 3 ?_
 refine RW.pv (κ := .seq) (d := some 14) (r := (sq 6 12)) (v' := .bool true) (v := .bool (decide (((k : Int) : Int) ≤ (n : Int)))) (by as_aux_lemma => kernel_rfl) (by rw [decide_eq_true (by omega)]) ?_
 refine uP 3 ?_
 refine RW.pv (κ := .seq) (d := some 18) (r := (sq 10 12)) (v' := .bool true) (v := .bool (decide (((n : Int) : Int) ≤ 255))) (by as_aux_lemma => kernel_rfl) (by rw [decide_eq_true (by omega)]) ?_
 refine uP 1 ?_
 refine uK (needs_spec (S := fun _ => True)) ?_
 rintro _ _ M rfl
 have H := H.ext M
 refine uF 0 ?_
 refine qR 4 [.c [3, 0, 1, 0], .b 0, .c [4]] [(0, .I k), (4, .slice none 0 0), (5, .P q 0), (21, .I n), (22, .I 0)] ?_
 have H := H.ownNil SB 23
 refine uL (α := Nat × Option Addr × Nat) (g := 67) (p := [3, 0, 1, 0, 0]) (fun (i, ao, co) => [(0, .I k), (4, .slice ao (((gen k n).take i).length) co), (5, .P q 0), (21, .I n), (22, .I i)]) (fun (i, ao, co) w' => Hp w S [] [(q, .cells #[.I 0] 34 (0, 0))] [⟨SB, 23, .slice ao (((gen k n).take i).length) co, (gen k n).take i⟩] [] w' ∧ i ≤ n) (fun (i, ao, co) => n - i) (0, none, 0) ⟨H, Nat.zero_le _⟩ ?_
 rintro ⟨i, ao, co⟩ _ ⟨H, _⟩ s
 have htl : ((gen k n).take i).length = i := by rw [List.length_take, gen_len]; omega
 refine uR 3 [.c [3, 0, 1, 0, 0, 1, 0], .c [3, 0, 1, 0, 0, 2], .l [3, 0, 1, 0, 0], .b 0, .c [4]] ?_
 refine qD (((i : Int) : Int) < (n : Int)) (fun V => ?_) (fun V => ?_)
 ·
  refine uR 6 [.c [3, 0, 1, 0, 0, 2, 0, 0, 1, 0], .c [3, 0, 1, 0, 0, 2, 0, 0, 2], .b 1, .c [3, 0, 1, 0, 0, 3], .l [3, 0, 1, 0, 0], .b 0, .c [4]] ?_
  refine qG (sq 0 3) ?_
  refine uP 1 ?_
  refine RW.makeW Sb (κ := .seq) (d := some 26) (r := (sq 2 3)) (T := 23) (e := 5) (by_ := 1) (v0 := .int .u8 0) (0#8 : BitVec 8) (kl := .i64) (kc := .i64) (lv := (k : Int)) (cv := (k : Int)) (by as_aux_lemma => kernel_rfl) (nofun) (by as_aux_lemma => kernel_rfl) rfl H k k (by omega) (by omega) (by omega) (by omega) (by omega) (fun _ _ => rfl) ?_
  intro h _ H
  have H : Hp w S [] [_] [⟨Sb, 5, .slice (some ⟨h, 0, none⟩) k k, (List.replicate k (0#8 : BitVec 8))⟩, _] [] _ := H
  refine uF 1 ?_
  refine uR 4 [.c [3, 0, 1, 0, 0, 2, 0, 0, 2, 0, 1, 0], .b 2, .c [3, 0, 1, 0, 0, 2, 0, 0, 3], .b 1, .c [3, 0, 1, 0, 0, 3], .l [3, 0, 1, 0, 0], .b 0, .c [4]] ?_
  have H := H.reW (genTo_zero k i)
  refine uL (α := Nat) (g := 67) (p := [3, 0, 1, 0, 0, 2, 0, 0, 2, 0, 1, 0, 0]) (fun j => [(0, .I k), (4, .slice ao (((gen k n).take i).length) co), (5, .P q 0), (6, .I i), (7, .slice (some ⟨h, 0, none⟩) k k), (21, .I n), (22, .I i), (28, .I ((k : Nat) : Int)), (29, .I j)]) (fun j w' => Hp w S [] [(q, .cells #[.I 0] 34 (0, 0))] [⟨Sb, 5, .slice (some ⟨h, 0, none⟩) k k, genTo k i j⟩, ⟨SB, 23, .slice ao (((gen k n).take i).length) co, (gen k n).take i⟩] [] w' ∧ j ≤ k) (fun j => k - j) 0 ⟨H, Nat.zero_le _⟩ ?_
  rintro j _ ⟨H, _⟩ f
  refine uR 3 [.c [3, 0, 1, 0, 0, 2, 0, 0, 2, 0, 1, 0, 0, 1, 0], .c [3, 0, 1, 0, 0, 2, 0, 0, 2, 0, 1, 0, 0, 2], .l [3, 0, 1, 0, 0, 2, 0, 0, 2, 0, 1, 0, 0], .b 2, .c [3, 0, 1, 0, 0, 2, 0, 0, 3], .b 1, .c [3, 0, 1, 0, 0, 3], .l [3, 0, 1, 0, 0], .b 0, .c [4]] ?_
  refine qD (((j : Int) : Int) < ((k : Nat) : Int)) (fun N => ?_) (fun N => ?_)
  ·
   refine uR 8 [.c [3, 0, 1, 0, 0, 2, 0, 0, 2, 0, 1, 0, 0, 2, 0, 0, 1, 0, 1], .b 4, .b 3, .c [3, 0, 1, 0, 0, 2, 0, 0, 2, 0, 1, 0, 0, 3], .l [3, 0, 1, 0, 0, 2, 0, 0, 2, 0, 1, 0, 0], .b 2, .c [3, 0, 1, 0, 0, 2, 0, 0, 3], .b 1, .c [3, 0, 1, 0, 0, 3], .l [3, 0, 1, 0, 0], .b 0, .c [4]] ?_
   refine qD (((i : Int) : Int) ≥ (k : Int)) (fun O => ?_) (fun O => ?_)
   ·
    have W := gen_ne (i := i) (j := j) (by omega) (by omega) (by omega)
    refine qG (sq 0 13) ?_
    refine uP 3 ?_
    refine RW.pv (κ := .seq) (d := some 40) (r := (sq 4 13)) (v := .int .u8 (IntKind.u8.wrap ((i : Int)))) (v' := .int .u8 (((BitVec.ofNat 8 i).toNat : Nat) : Int)) (by as_aux_lemma => kernel_rfl) ((wrap_bv8 _).trans (by rw [bv_nat])) ?_
    refine uP 1 ?_
    refine RW.pv (κ := .seq) (d := some 42) (r := (sq 6 13)) (v := .int .u8 (IntKind.u8.wrap ((j : Int)))) (v' := .int .u8 (((BitVec.ofNat 8 j).toNat : Nat) : Int)) (by as_aux_lemma => kernel_rfl) ((wrap_bv8 _).trans (by rw [bv_nat])) ?_
    refine RW.pv (κ := .seq) (d := some 43) (r := (sq 7 13)) (v := .int .u8 (IntKind.u8.wrap ((BitVec.ofInt 8 (((BitVec.ofNat 8 i).toNat : Nat) : Int) ^^^ BitVec.ofInt 8 (((BitVec.ofNat 8 j).toNat : Nat) : Int)).toNat : Nat))) (v' := .int .u8 (((((BitVec.ofNat 8 i) ^^^ (BitVec.ofNat 8 j)).toNat : Nat) : Int))) (by as_aux_lemma => kernel_rfl) (bv_xor8 (bvi _) (bvi _)) ?_
    refine uK (div1_spec (S := fun _ => True) ((BitVec.ofNat 8 i) ^^^ (BitVec.ofNat 8 j)) (by assumption)) ?_
    rintro _ _ E rfl
    have H := H.ext E
    refine uP 3 ?_
    have t : k = (genTo k i j).length := (genTo_len _ _ _).symm
    have u : j < (genTo k i j).length := by rw [genTo_len]; omega
    refine RW.indexW (κ := .seq) (d := some 47) (r := (sq 12 13)) (T := 23) (e := 5) (m := 1) (ik := .i64) (ix := (j : Int)) (sh := Sb) (xs := genTo k i j) (a := (some ⟨h, 0, none⟩)) (len := k) (cap := k) (by as_aux_lemma => kernel_rfl) (by as_aux_lemma => kernel_rfl) rfl H j (by omega) u t ?_
    intro Q _ F _ J
    obtain rfl := J
    refine RW.storeW (d := none) (r := (sq 13 13)) (e := 5) (m := 1) (b := Q) (k := j) (v := .int .u8 (((ginv ((BitVec.ofNat 8 i) ^^^ (BitVec.ofNat 8 j))).toNat : Nat) : Int)) (by as_aux_lemma => kernel_rfl) rfl (by as_aux_lemma => kernel_rfl) H F u t (ginv ((BitVec.ofNat 8 i) ^^^ (BitVec.ofNat 8 j))) Shape.bv_mk ?_
    intro _ H
    have H := H.reW (ys := genTo k i (j + 1)) (genTo_set (by omega) (by unfold genE; rw [if_pos (by omega)]))
    refine uF 0 ?_
    refine uR 2 [.c [3, 0, 1, 0, 0, 2, 0, 0, 2, 0, 1, 0, 0, 3], .l [3, 0, 1, 0, 0, 2, 0, 0, 2, 0, 1, 0, 0], .b 2, .c [3, 0, 1, 0, 0, 2, 0, 0, 3], .b 1, .c [3, 0, 1, 0, 0, 3], .l [3, 0, 1, 0, 0], .b 0, .c [4]] ?_
    refine qG (sq 0 2) ?_
    refine uI ((j : Int) + 1) ?_
    refine uF 1 ?_
    exact uB (f (j + 1) _ ⟨H, by omega⟩ (by first | omega | (simp only []; omega)))
   ·
    refine uR 2 [.c [3, 0, 1, 0, 0, 2, 0, 0, 2, 0, 1, 0, 0, 2, 0, 0, 1, 0, 1, 1, 1], .b 4, .b 3, .c [3, 0, 1, 0, 0, 2, 0, 0, 2, 0, 1, 0, 0, 3], .l [3, 0, 1, 0, 0, 2, 0, 0, 2, 0, 1, 0, 0], .b 2, .c [3, 0, 1, 0, 0, 2, 0, 0, 3], .b 1, .c [3, 0, 1, 0, 0, 3], .l [3, 0, 1, 0, 0], .b 0, .c [4]] ?_
    refine qE (i : Int) (j : Int) (fun R => ?_) (fun R => ?_)
    ·
     refine qG (sq 0 4) ?_
     refine uP 2 ?_
     have z : k = (genTo k i j).length := (genTo_len _ _ _).symm
     have A : j < (genTo k i j).length := by rw [genTo_len]; omega
     refine RW.indexW (κ := .seq) (d := some 54) (r := (sq 3 4)) (T := 23) (e := 5) (m := 1) (ik := .i64) (ix := (j : Int)) (sh := Sb) (xs := genTo k i j) (a := (some ⟨h, 0, none⟩)) (len := k) (cap := k) (by as_aux_lemma => kernel_rfl) (by as_aux_lemma => kernel_rfl) rfl H j (by omega) A z ?_
     intro U _ K _ L
     obtain rfl := L
     refine RW.storeW (d := none) (r := (sq 4 4)) (e := 5) (m := 1) (b := U) (k := j) (v := .int .u8 1) (by as_aux_lemma => kernel_rfl) rfl (by as_aux_lemma => kernel_rfl) H K A z (1#8) (Shape.bv_lit (x := 1#8) (by decide)) ?_
     intro _ H
     have H := H.reW (ys := genTo k i (j + 1)) (genTo_set (by omega) (by unfold genE; rw [if_neg (by omega), if_pos (by omega)]))
     refine qF 0 [(0, .I k), (4, .slice ao (((gen k n).take i).length) co), (5, .P q 0), (6, .I i), (7, .slice (some ⟨h, 0, none⟩) k k), (21, .I n), (22, .I i), (28, .I ((k : Nat) : Int)), (29, .I j)] ?_
     refine uR 2 [.c [3, 0, 1, 0, 0, 2, 0, 0, 2, 0, 1, 0, 0, 3], .l [3, 0, 1, 0, 0, 2, 0, 0, 2, 0, 1, 0, 0], .b 2, .c [3, 0, 1, 0, 0, 2, 0, 0, 3], .b 1, .c [3, 0, 1, 0, 0, 3], .l [3, 0, 1, 0, 0], .b 0, .c [4]] ?_
     refine qG (sq 0 2) ?_
     refine uI ((j : Int) + 1) ?_
     refine uF 1 ?_
     exact uB (f (j + 1) _ ⟨H, by omega⟩ (by first | omega | (simp only []; omega)))
    ·
     refine uR 3 [.c [3, 0, 1, 0, 0, 2, 0, 0, 2, 0, 1, 0, 0, 3], .l [3, 0, 1, 0, 0, 2, 0, 0, 2, 0, 1, 0, 0], .b 2, .c [3, 0, 1, 0, 0, 2, 0, 0, 3], .b 1, .c [3, 0, 1, 0, 0, 3], .l [3, 0, 1, 0, 0], .b 0, .c [4]] ?_
     refine qG (sq 0 2) ?_
     refine uI ((j : Int) + 1) ?_
     refine uF 1 ?_
     have H := H.reW (genTo_skip (by omega) (by omega) (by omega))
     exact uB (f (j + 1) _ ⟨H, by omega⟩ (by first | omega | (simp only []; omega)))
  ·
   refine uR 1 [.c [3, 0, 1, 0, 0, 2, 0, 0, 3], .b 1, .c [3, 0, 1, 0, 0, 3], .l [3, 0, 1, 0, 0], .b 0, .c [4]] ?_
   refine qG (sq 0 5) ?_
   refine uP 2 ?_
   refine RW.new (κ := .seq) (d := some 58) (r := (sq 3 5)) (o := .cells #[.slice (some ⟨h, 0, none⟩) k k] 23 (0, 0)) (v := fun b => .slice (some ⟨b, 0, none⟩) 1 1) (fun b => by as_aux_lemma => kernel_rfl) (nofun) H ?_
   intro B _ H
   have H : Hp w S [] [(B, .cells #[.slice (some ⟨h, 0, none⟩) k k] 23 (0, 0)), _] [_] [Rp SB [.slice (some ⟨h, 0, none⟩) k k] (genTo k i j)] _ := H.freezeW 0 rfl
   have H := H.freeze 0 rfl SB ([genTo k i j] : List (List (BitVec 8))) 1 (by simp [maxLen]) (by first | exact Nat.le_refl _ | simp) (EsP.cons (c := [.slice (some ⟨h, 0, none⟩) k k]) (H.rp 0 rfl) EsP.nil)
   have H : Hp w S [] [_] [_] [Rp (Shape.slice SB) [.slice (some ⟨B, 0, none⟩) 1 1] ([genTo k i j] : List (List (BitVec 8))), _] _ := H
   refine uA 29 29 24 ((gen k n).take (i + 1)) H 0 rfl 0 rfl (by rw [genTo_all (by omega)]; exact gen_take (by omega)) (by rw [List.length_take]; omega) ?_
   intro C D _ H _
   have H : Hp w S [] [_] [⟨SB, 23, .slice C (((gen k n).take (i + 1)).length) D, (gen k n).take (i + 1)⟩] [_, _] _ := H
   refine uF 1 ?_
   refine uR 1 [.c [3, 0, 1, 0, 0, 3], .l [3, 0, 1, 0, 0], .b 0, .c [4]] ?_
   refine qG (sq 0 2) ?_
   refine uI ((i : Int) + 1) ?_
   refine uF 1 ?_
   have H := H.pick [] rfl
   exact uB (s (i + 1, C, D) _ ⟨H, by omega⟩ (by first | omega | (simp only []; omega)))
 ·
  refine uR 2 [.c [4, 0], .c [5]] ?_
  refine qG (sq 0 3) ?_
  refine uP 2 ?_
  refine uW 34 0 #[.I 0] H 0 rfl ?_
  intro _ H
  refine uF 0 ?_
  refine WK.retD (v := .tuple #[.slice ao (((gen k n).take i).length) co, .I 0]) Try.func67 (by as_aux_lemma => kernel_rfl) (refused_defer ⟨q, 0, none⟩) (RV.res2 (x := .tmp 4) (y := .cell 5 34) (by as_aux_lemma => kernel_rfl) (RV.tmp (by as_aux_lemma => kernel_rfl)) (RV.cell (k := 0) (by as_aux_lemma => kernel_rfl) (H.cells 0 rfl) rfl (by as_aux_lemma => kernel_rfl))) ?_
  have H : Hp w S [] [_] [] [Rp (Shape.slice SB) [.slice ao (((gen k n).take i).length) co] ((gen k n).take i)] _ := H.freezeW 0 rfl
  rw [List.take_of_length_le (by rw [gen_len]; omega)] at H ⊢
  exact ⟨_, rfl, H.done, _, _, rfl, H.out (H.rp 0 rfl)⟩
end Go.Proofs.Ytppcdmbkgficiaa
