import Derived.Test.YtppcdmbkgficiaaSBxA
import Derived.Test.YtppcdmbkgficiaaSE3
namespace Go.Proofs.Ytppcdmbkgficiaa
open Go.BX
theorem bit1_odd {c : BitVec 32} (h : (((c &&& 1#32).toNat : Nat) : Int) = 1) : bit1 c = (c >>> 1) ^^^ 2197175160#32 := by
 have e : c &&& 1#32 = 1#32 := by
  apply BitVec.eq_of_toNat_eq
  have : (1#32).toNat = 1 := rfl
  omega
 unfold bit1
 rw [e]
 congr 1
theorem bit1_even {c : BitVec 32} (h : ¬ (((c &&& 1#32).toNat : Nat) : Int) = 1) : bit1 c = c >>> 1 := by
 have e : c &&& 1#32 = 0#32 := by
  rw [and_one] at h ⊢
  split at h
  · exact absurd rfl h
  · rename_i q
    rw [if_neg q]
 unfold bit1
 rw [e]
 have : (2197175160#32 &&& (-(0#32))) = 0#32 := by decide
 rw [this, BitVec.xor_zero]
theorem r3crc_spec {S : Nat → Prop} {w : World} {xs : List (BitVec 8)} {a : Option Addr} {c0 : Nat} (h : SB.rep S w [.slice a xs.length c0] xs) :
 Calls Try.prog 75 #[.slice a xs.length c0] w (Ret fun v w' => Ext w w' ∧ v = .int .u32 (((crcF xs).toNat : Nat) : Int)) := by
 have hlen := Shape.slice_len h
 refine uS1 Try.func75 ?_
 have H := Hp.startF (.rp h .nil)
 refine uR 8 [.c [2, 0, 1, 0], .b 0, .c [3]] ?_
 refine uL (α := Nat × BitVec 32) (g := 75) (p := [2, 0, 1, 0, 0]) (fun (i, c) => [(0, .slice a xs.length c0), (3, .int .u32 ((c.toNat : Nat) : Int)), (4, .I i)]) (fun (i, c) w' => Hp w S [] [] [] [Rp SB [.slice a xs.length c0] xs] w' ∧ i ≤ xs.length ∧ c = (xs.take i).foldl crcStep 4294967295#32) (fun (i, c) => xs.length - i) (0, 4294967295#32) ⟨H, Nat.zero_le _, rfl⟩ ?_
 rintro ⟨i, c⟩ _ ⟨H, k⟩ m
 refine uR 3 [.c [2, 0, 1, 0, 0, 0, 1], .c [2, 0, 1, 0, 0, 1], .l [2, 0, 1, 0, 0], .b 0, .c [3]] ?_
 refine qD (((i : Int) : Int) < ((xs.length : Nat) : Int)) (fun t => ?_) (fun t => ?_)
 ·
  refine uR 4 [.c [2, 0, 1, 0, 0, 1, 0, 0, 0], .c [2, 0, 1, 0, 0, 1, 0, 0, 1], .b 1, .c [2, 0, 1, 0, 0, 2], .l [2, 0, 1, 0, 0], .b 0, .c [3]] ?_
  refine qG (sq 0 8) ?_
  refine uP 3 ?_
  have n : i < xs.length := by omega
  refine uX 23 (i : Int) H 0 rfl i (by omega) (List.getElem?_eq_getElem n) ?_
  intro u x _ o H
  obtain rfl := o
  refine uV 5 0 (H.fc 0 rfl) ?_
  refine RW.pv (κ := .seq) (d := some 17) (r := (sq 6 8)) (v := .int .u32 (IntKind.u32.wrap ((((xs[i]).toNat : Nat) : Int)))) (v' := .int .u32 ((((xs[i]).setWidth 32).toNat : Nat) : Int)) (by as_aux_lemma => kernel_rfl) (bv_cv8_32 _) ?_
  refine RW.pv (κ := .seq) (d := some 18) (r := (sq 7 8)) (v := .int .u32 (IntKind.u32.wrap ((BitVec.ofInt 32 ((c.toNat : Nat) : Int) ^^^ BitVec.ofInt 32 ((((xs[i]).setWidth 32).toNat : Nat) : Int)).toNat : Nat))) (v' := .int .u32 ((((c ^^^ ((xs[i]).setWidth 32)).toNat : Nat) : Int))) (by as_aux_lemma => kernel_rfl) (bv_xor32 (bvi _) (bvi _)) ?_
  refine uF 1 ?_
  refine uR 3 [.c [2, 0, 1, 0, 0, 1, 0, 0, 2, 0], .b 2, .b 1, .c [2, 0, 1, 0, 0, 2], .l [2, 0, 1, 0, 0], .b 0, .c [3]] ?_
  refine uL (α := Nat × BitVec 32) (g := 75) (p := [2, 0, 1, 0, 0, 1, 0, 0, 2, 0, 0]) (fun (j, d) => [(0, .slice a xs.length c0), (3, .int .u32 ((d.toNat : Nat) : Int)), (4, .I i), (5, .I j)]) (fun (j, d) w' => Hp w S [] [] [] [Fc u x [.int .u8 (((xs[i]).toNat : Nat) : Int)], Rp SB [.slice a xs.length c0] xs] w' ∧ j ≤ 8 ∧ d = bits j (c ^^^ (xs[i]).setWidth 32)) (fun (j, d) => 8 - j) (0, c ^^^ ((xs[i]).setWidth 32)) ⟨H, by omega, rfl⟩ ?_
  rintro ⟨j, d⟩ _ ⟨H, e⟩ f
  refine uR 3 [.c [2, 0, 1, 0, 0, 1, 0, 0, 2, 0, 0, 0, 1], .c [2, 0, 1, 0, 0, 1, 0, 0, 2, 0, 0, 1], .l [2, 0, 1, 0, 0, 1, 0, 0, 2, 0, 0], .b 2, .b 1, .c [2, 0, 1, 0, 0, 2], .l [2, 0, 1, 0, 0], .b 0, .c [3]] ?_
  refine qD (((j : Int) : Int) < 8) (fun q => ?_) (fun q => ?_)
  ·
   refine uR 4 [.c [2, 0, 1, 0, 0, 1, 0, 0, 2, 0, 0, 1, 0, 0, 0], .c [2, 0, 1, 0, 0, 1, 0, 0, 2, 0, 0, 1, 0, 0, 1], .b 3, .c [2, 0, 1, 0, 0, 1, 0, 0, 2, 0, 0, 2], .l [2, 0, 1, 0, 0, 1, 0, 0, 2, 0, 0], .b 2, .b 1, .c [2, 0, 1, 0, 0, 2], .l [2, 0, 1, 0, 0], .b 0, .c [3]] ?_
   refine qG (sq 0 3) ?_
   refine uP 1 ?_
   refine RW.pv (κ := .seq) (d := some 24) (r := (sq 2 3)) (v := .int .u32 (IntKind.u32.wrap ((BitVec.ofInt 32 ((d.toNat : Nat) : Int) &&& BitVec.ofInt 32 1).toNat : Nat))) (v' := .int .u32 ((((d &&& (1#32)).toNat : Nat) : Int))) (by as_aux_lemma => kernel_rfl) (bv_and32 (bvi _) (by decide)) ?_
   refine uF 1 ?_
   refine qE (((d &&& (1#32)).toNat : Nat) : Int) 1 (fun s => ?_) (fun s => ?_)
   ·
    refine qG (sq 0 4) ?_
    refine uP 1 ?_
    refine RW.pv (κ := .seq) (d := some 27) (r := (sq 2 4)) (v := .int .u32 (((d.toNat : Nat) : Int).fdiv (2 ^ 1))) (v' := .int .u32 ((((d >>> 1).toNat : Nat) : Int))) (by as_aux_lemma => kernel_rfl) (bv_shr32 _ 1) ?_
    refine RW.pv (κ := .seq) (d := some 28) (r := (sq 3 4)) (v := .int .u32 (IntKind.u32.wrap ((BitVec.ofInt 32 (((d >>> 1).toNat : Nat) : Int) ^^^ BitVec.ofInt 32 2197175160).toNat : Nat))) (v' := .int .u32 (((((d >>> 1) ^^^ (2197175160#32)).toNat : Nat) : Int))) (by as_aux_lemma => kernel_rfl) (bv_xor32 (bvi _) (by decide)) ?_
    refine uF 1 ?_
    refine uR 1 [.c [2, 0, 1, 0, 0, 1, 0, 0, 2, 0, 0, 2], .l [2, 0, 1, 0, 0, 1, 0, 0, 2, 0, 0], .b 2, .b 1, .c [2, 0, 1, 0, 0, 2], .l [2, 0, 1, 0, 0], .b 0, .c [3]] ?_
    refine qG (sq 0 3) ?_
    refine uP 1 ?_
    refine uI ((j : Int) + 1) ?_
    refine uF 1 ?_
    exact uB (f (j + 1, (d >>> 1) ^^^ (2197175160#32)) _ ⟨H, by omega, by show _ = bit1 (bits j _); rw [← e.2]; first | exact (bit1_odd (by assumption)).symm | exact (bit1_even (by assumption)).symm⟩ (by first | omega | (simp only []; omega)))
   ·
    refine qG (sq 0 3) ?_
    refine uP 1 ?_
    refine RW.pv (κ := .seq) (d := some 30) (r := (sq 2 3)) (v := .int .u32 (((d.toNat : Nat) : Int).fdiv (2 ^ 1))) (v' := .int .u32 ((((d >>> 1).toNat : Nat) : Int))) (by as_aux_lemma => kernel_rfl) (bv_shr32 _ 1) ?_
    refine qF 1 [(0, .slice a xs.length c0), (3, .int .u32 (((d >>> 1).toNat : Nat) : Int)), (4, .I i), (5, .I j)] ?_
    refine uR 1 [.c [2, 0, 1, 0, 0, 1, 0, 0, 2, 0, 0, 2], .l [2, 0, 1, 0, 0, 1, 0, 0, 2, 0, 0], .b 2, .b 1, .c [2, 0, 1, 0, 0, 2], .l [2, 0, 1, 0, 0], .b 0, .c [3]] ?_
    refine qG (sq 0 3) ?_
    refine uP 1 ?_
    refine uI ((j : Int) + 1) ?_
    refine uF 1 ?_
    exact uB (f (j + 1, d >>> 1) _ ⟨H, by omega, by show _ = bit1 (bits j _); rw [← e.2]; first | exact (bit1_odd (by assumption)).symm | exact (bit1_even (by assumption)).symm⟩ (by first | omega | (simp only []; omega)))
  ·
   refine uR 2 [.c [2, 0, 1, 0, 0, 2], .l [2, 0, 1, 0, 0], .b 0, .c [3]] ?_
   refine qG (sq 0 3) ?_
   refine uP 1 ?_
   refine uI ((i : Int) + 1) ?_
   refine uF 1 ?_
   have H := H.pick [1] rfl
   exact uB (m (i + 1, d) _ ⟨H, by omega, by rw [e.2, k.2, fold_take (by omega), show j = 8 by omega]; rfl⟩ (by first | omega | (simp only []; omega)))
 ·
  refine uR 2 [.c [3, 0], .c [4]] ?_
  refine qG (sq 0 3) ?_
  refine uP 1 ?_
  refine RW.pv (κ := .seq) (d := some 32) (r := (sq 2 3)) (v := .int .u32 (IntKind.u32.wrap ((BitVec.ofInt 32 4294967295 ^^^ BitVec.ofInt 32 ((c.toNat : Nat) : Int)).toNat : Nat))) (v' := .int .u32 (((~~~c).toNat : Nat) : Int)) (by as_aux_lemma => kernel_rfl) (bv_not32 (bvi _)) ?_
  refine uF 1 ?_
  refine qT (.int .u32 (((~~~c).toNat : Nat) : Int)) Try.func75 ?_
  refine ⟨_, rfl, H.done, ?_⟩
  unfold crcF
  rw [k.2, List.take_of_length_le (by omega)]
end Go.Proofs.Ytppcdmbkgficiaa
