import Derived.Test.YtppcdmbkgficiaaSBxA
import Derived.Test.YtppcdmbkgficiaaST1
import Derived.Test.YtppcdmbkgficiaaSBxB
namespace Go.Proofs.Ytppcdmbkgficiaa
open Go.BX
def okZ (size k n : Int) : Prop := 0 ≤ size ∧ size ≤ 65536 ∧ 1 ≤ k ∧ k ≤ n ∧ n ≤ 255
instance (size k n : Int) : Decidable (okZ size k n) := by unfold okZ; infer_instance
def lzI (size k n : Int) : Int := if okZ size k n then ((lenOf size.toNat k.toNat : Nat) : Int) else 0
def ezI (size k n : Int) : Int := if okZ size k n then 0 else 2
theorem ez_ok {size k n : Int} (h : ezI size k n = 0) : okZ size k n := Classical.byContradiction fun hn => by
 unfold ezI at h
 rw [if_neg hn] at h
 cases h
theorem sizes_gen {S : Nat → Prop} {w : World} (size k n : Int) : Calls Try.prog 66 #[.I size, .I k, .I n] w (Ret fun v w' => Ext w w' ∧ v = .tuple #[.I (lzI size k n), .I (ezI size k n)]) := by
 by_cases h : okZ size k n
 · have a := h
   unfold okZ at a
   obtain ⟨size, rfl⟩ : ∃ m : Nat, size = (m : Int) := ⟨size.toNat, by omega⟩
   obtain ⟨k, rfl⟩ : ∃ m : Nat, k = (m : Int) := ⟨k.toNat, by omega⟩
   obtain ⟨n, rfl⟩ : ∃ m : Nat, n = (m : Int) := ⟨n.toNat, by omega⟩
   unfold lzI ezI
   rw [if_pos h, if_pos h]
   exact sizes_ok (S := S) size k n (by omega) (by omega) (by omega) (by omega)
 · unfold lzI ezI
   rw [if_neg h, if_neg h]
   exact sizes_bad (S := S) size k n h
def wholeE (h : Hdr) (data : List (BitVec 8)) : Int :=
 if ezI h.size h.kk h.nn ≠ 0 ∨ ¬ (0 ≤ h.id.index ∧ h.id.index ≤ h.nn - 1) then 2 else
 if ((data.length : Nat) : Int) ≠ lzI h.size h.kk h.nn then 31 else
 if (((crcF data).toNat : Nat) : Int) ≠ ((h.sum.toNat : Nat) : Int) then 92 else 0
theorem whole_spec {S : Nat → Prop} {w : World} {C : Chk} {cs : List Value} (hC : chkS.rep S w cs C) :
 Calls Try.prog 43 #[.agg cs.toArray] w (Ret fun v w' => Ext w w' ∧ v = .I (wholeE C.head C.data)) := by
 obtain ⟨_, g, h, rfl, i, j⟩ := chk_open hC
 obtain ⟨_, rfl, d, _, _, _⟩ := hdr_open i
 obtain ⟨rfl, _, _, _⟩ := cid_open d
 refine uS1 Try.func43 ?_
 have H := Hp.startF (.rp j .nil)
 refine uR 1 [.c [0], .c [1]] ?_
 refine qG (sq 0 2) ?_
 refine uC ((chkV C g h).toArray) 92 H ?_
 intro p _ H
 refine uF 1 ?_
 refine uR 1 [.c [1, 0], .c [2]] ?_
 refine qG (sq 0 4) ?_
 refine uP 1 ?_
 refine uV 53 0 (H.cells 0 rfl) ?_
 refine uC #[.int .u64 0, .I 0, .int .u64 0, .I 0, .I 0, .I 0, .int .u32 0] 53 H ?_
 intro q _ H
 refine uW 53 0 (hdrV C.head).toArray H 0 rfl ?_
 intro _ H
 refine uF 0 ?_
 refine uR 1 [.c [2, 0], .c [3]] ?_
 refine qG (sq 0 12) ?_
 refine uP 1 ?_
 refine uV 3 5 (H.cells 0 rfl) ?_
 refine uP 1 ?_
 refine uV 3 3 (H.cells 0 rfl) ?_
 refine uP 1 ?_
 refine uV 3 4 (H.cells 0 rfl) ?_
 refine uK (sizes_gen (S := fun _ => True) C.head.size C.head.kk C.head.nn) ?_
 rintro _ _ k rfl
 have H := H.ext k
 refine uF 5 ?_
 refine qR 3 [.c [3, 0, 0, 0], .c [3, 0, 0, 1], .b 0, .c [4]] [(1, .P p 0), (3, .P q 0), (4, .I (lzI C.head.size C.head.kk C.head.nn)), (5, .I (ezI C.head.size C.head.kk C.head.nn))] ?_
 refine qG (sq 0 13) ?_
 refine uP 3 ?_
 refine uN 21 (ezI C.head.size C.head.kk C.head.nn) 0 (fun l => ?_) (fun l => ?_)
 ·
  refine uF 10 ?_
  refine uR 3 [.c [3, 0, 0, 1, 0, 1], .b 0, .c [4]] ?_
  refine qT (.I 2) Try.func43 ?_
  refine ⟨_, rfl, H.done, ?_⟩
  congr 1
  symm
  unfold wholeE
  clear H
  rw [if_pos (by omega)]
 ·
  have hokz := ez_ok l
  unfold okZ at hokz
  refine uP 2 ?_
  refine uV 3 1 (H.cells 0 rfl) ?_
  refine uP 1 ?_
  refine uV 3 4 (H.cells 0 rfl) ?_
  refine uI (C.head.nn - 1) ?_
  refine uK (between_spec (S := fun _ => True) C.head.id.index 0 (C.head.nn - 1)) ?_
  rintro _ m e rfl
  have H := H.ext e
  refine uF 3 ?_
  refine qC (!(decide (0 ≤ C.head.id.index ∧ C.head.id.index ≤ C.head.nn - 1))) (fun a => ?_) (fun a => ?_)
  ·
   replace a : (decide (0 ≤ C.head.id.index ∧ C.head.id.index ≤ C.head.nn - 1)) = false := by revert a; cases (decide (0 ≤ C.head.id.index ∧ C.head.id.index ≤ C.head.nn - 1)) <;> simp
   replace a := of_decide_eq_false a
   refine uR 2 [.c [3, 0, 0, 1, 0, 1], .b 0, .c [4]] ?_
   refine qT (.I 2) Try.func43 ?_
   refine ⟨_, rfl, H.done, ?_⟩
   congr 1
   symm
   unfold wholeE
   clear H
   rw [if_pos (by omega)]
  ·
   replace a : (decide (0 ≤ C.head.id.index ∧ C.head.id.index ≤ C.head.nn - 1)) = true := by revert a; cases (decide (0 ≤ C.head.id.index ∧ C.head.id.index ≤ C.head.nn - 1)) <;> simp
   replace a := of_decide_eq_true a
   refine uR 1 [.c [3, 0, 0, 1, 1, 0], .c [3, 0, 0, 1, 1, 1], .b 0, .c [4]] ?_
   refine qG (sq 0 6) ?_
   refine uP 1 ?_
   refine uV 23 7 (H.cells 1 rfl) ?_
   refine uF 4 ?_
   refine qN ((C.data.length : Nat) : Int) (lzI C.head.size C.head.kk C.head.nn) (fun n => ?_) (fun n => ?_)
   ·
    refine qR 2 [.c [3, 0, 0, 1, 1, 1, 0, 1], .b 0, .c [4]] [(2, .I 31)] ?_
    refine qT (.I 31) Try.func43 ?_
    refine ⟨_, rfl, H.done, ?_⟩
    congr 1
    symm
    unfold wholeE
    clear H
    rw [if_neg (by omega), if_pos (by omega)]
   ·
    refine uR 1 [.c [3, 0, 0, 1, 1, 1, 1, 0], .c [3, 0, 0, 1, 1, 1, 1, 1], .b 0, .c [4]] ?_
    refine WK.draw1 7 [(0, .qui), (1, .qui), (3, .qui), (4, .qui), (2, .chn), (5, .qui), (6, .qui)] [(0, .qui), (1, .qui), (3, .qui), (4, .qui), (2, .chn), (5, .qui), (6, .qui)] Try_mixed (by as_aux_lemma => kernel_rfl) (by as_aux_lemma => kernel_rfl) (by as_aux_lemma => kernel_rfl) ?_
    have H := H.draw
    generalize ({ m with drawn := m.drawn + 1 } : World) = r at H ⊢
    refine uP 1 ?_
    refine uV 23 7 (H.cells 1 rfl) ?_
    refine uP 1 ?_
    refine uV 51 6 (H.cells 0 rfl) ?_
    refine uK (crc_spec (H.rp 0 rfl)) ?_
    rintro _ _ f rfl
    have H := H.ext f
    refine uF 2 ?_
    refine qN (((crcF C.data).toNat : Nat) : Int) ((C.head.sum.toNat : Nat) : Int) (fun o => ?_) (fun o => ?_)
    ·
     refine uR 2 [.c [3, 0, 0, 1, 1, 1, 1, 1, 0, 1], .b 0, .c [4]] ?_
     refine qT (.I 92) Try.func43 ?_
     refine ⟨_, rfl, H.done, ?_⟩
     congr 1
     symm
     unfold wholeE
     clear H
     rw [if_neg (by omega), if_neg (by omega), if_pos (by omega)]
    ·
     refine uR 4 [.c [5]] ?_
     refine qT (.I 0) Try.func43 ?_
     refine ⟨_, rfl, H.done, ?_⟩
     congr 1
     symm
     unfold wholeE
     clear H
     rw [if_neg (by omega), if_neg (by omega), if_neg (by omega)]
end Go.Proofs.Ytppcdmbkgficiaa
