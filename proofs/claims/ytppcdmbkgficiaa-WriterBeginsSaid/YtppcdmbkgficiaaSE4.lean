import Derived.Test.YtppcdmbkgficiaaSBxA
import Derived.Test.YtppcdmbkgficiaaSE3
namespace Go.Proofs.Ytppcdmbkgficiaa
open Go.BX
theorem bit1_odd {c : BitVec 32} (h : (((c &&& 1#32).toNat : Nat) : Int) = 1) : bit1 c = (c >>> 1) ^^^ 2197175160#32 := by
 have e : c &&& 1#32 = 1#32 := by
  apply BitVec.eq_of_toNat_eq
  have : (1#32).toNat = 1 := rfl
  omega
 unfold bit1
 rw [e]
 congr 1
theorem bit1_even {c : BitVec 32} (h : ¬ (((c &&& 1#32).toNat : Nat) : Int) = 1) : bit1 c = c >>> 1 := by
 have e : c &&& 1#32 = 0#32 := by
  rw [and_one] at h ⊢
  split at h
  · exact absurd rfl h
  · rename_i q
    rw [if_neg q]
 unfold bit1
 rw [e]
 have : (2197175160#32 &&& (-(0#32))) = 0#32 := by decide
 rw [this, BitVec.xor_zero]
theorem r3crc_spec {S : Nat → Prop} {w : World} {xs : List (BitVec 8)} {a : Option Addr} {c0 : Nat} (h : SB.rep S w [.slice a xs.length c0] xs) :
 Calls Try.prog 75 #[.slice a xs.length c0] w (Ret fun v w' => Ext w w' ∧ v = .int .u32 (((crcF xs).toNat : Nat) : Int)) := by
 have hlen := Shape.slice_len h
 refine uS1 Try.func75 ?_
 have H := Hp.startF (.rp h .nil)
 refine uR 8 [.c [2, 0, 1, 0], .b 0, .c [3]] ?_
 refine uL (α := Nat × BitVec 32) (g := 75) (p := [2, 0, 1, 0, 0]) (fun (i, c) => [(0, .slice a xs.length c0), (3, .int .u32 ((c.toNat : Nat) : Int)), (4, .I i)]) (fun (i, c) w' => Hp w S [] [] [] [Rp SB [.slice a xs.length c0] xs] w' ∧ i ≤ xs.length ∧ c = (xs.take i).foldl crcStep 4294967295#32) (fun (i, c) => xs.length - i) (0, 4294967295#32) ⟨H, Nat.zero_le _, rfl⟩ ?_
 rintro ⟨i, c⟩ _ ⟨H, k⟩ m
 refine uR 3 [.c [2, 0, 1, 0, 0, 0, 1], .c [2, 0, 1, 0, 0, 1], .l [2, 0, 1, 0, 0], .b 0, .c [3]] ?_
 refine qD (((i : Int) : Int) < ((xs.length : Nat) : Int)) (fun t => ?_) (fun t => ?_)
 ·
  refine uR 4 [.c [2, 0, 1, 0, 0, 1, 0, 0, 0], .c [2, 0, 1, 0, 0, 1, 0, 0, 1], .b 1, .c [2, 0, 1, 0, 0, 2], .l [2, 0, 1, 0, 0], .b 0, .c [3]] ?_
  refine qG (sq 0 8) ?_
  refine uP 3 ?_
  have n : i < xs.length := by omega
  refine uX 23 (i : Int) H 0 rfl i (by omega) (List.getElem?_eq_getElem n) ?_
  intro u x _ o H
  obtain rfl := o
  refine uV 5 0 (H.fc 0 rfl) ?_
  refine RW.pv (κ := .seq) (d := some 17) (r := (sq 6 8)) (v := .int .u32 (IntKind.u32.wrap ((((xs[i]).toNat : Nat) : Int)))) (v' := .int .u32 ((((xs[i]).setWidth 32).toNat : Nat) : Int)) (by as_aux_lemma => kernel_rfl) (bv_cv8_32 _) ?_
  refine RW.pv (κ := .seq) (d := some 18) (r := (sq 7 8)) (v := .int .u32 (IntKind.u32.wrap ((BitVec.ofInt 32 ((c.toNat : Nat) : Int) ^^^ BitVec.ofInt 32 ((((xs[i]).setWidth 32).toNat : Nat) : Int)).toNat : Nat))) (v' := .int .u32 ((((c ^^^ ((xs[i]).setWidth 32)).toNat : Nat) : Int))) (by as_aux_lemma => kernel_rfl) (bv_xor32 (bvi _) (bvi _)) ?_
  refine uF 1 ?_
  refine uR 3 [.c [2, 0, 1, 0, 0, 1, 0, 0, 2, 0], .b 2, .b 1, .c [2, 0, 1, 0, 0, 2], .l [2, 0, 1, 0, 0], .b 0, .c [3]] ?_
  refine uL (α := Nat × BitVec 32) (g := 75) (p := [2, 0, 1, 0, 0, 1, 0, 0, 2, 0, 0]) (fun (j, d) => [(0, .slice a xs.length c0), (3, .int .u32 ((d.toNat : Nat) : Int)), (4, .I i), (5, .I j)]) (fun (j, d) w' => Hp w S [] [] [] [Fc u x [.int .u8 (((xs[i]).toNat : Nat) : Int)], Rp SB [.slice a xs.length c0] xs] w' ∧ j ≤ 8 ∧ d = bits j (c ^^^ (xs[i]).setWidth 32)) (fun (j, d) => 8 - j) (0, c ^^^ ((xs[i]).setWidth 32)) ⟨H, by omega, rfl⟩ ?_
  rintro ⟨j, d⟩ _ ⟨H, e⟩ f
  refine uR 3 [.c [2, 0, 1, 0, 0, 1, 0, 0, 2, 0, 0, 0, 1], .c [2, 0, 1, 0, 0, 1, 0, 0, 2, 0, 0, 1], .l [2, 0, 1, 0, 0, 1, 0, 0, 2, 0, 0], .b 2, .b 1, .c [2, 0, 1, 0, 0, 2], .l [2, 0, 1, 0, 0], .b 0, .c [3]] ?_
  refine qD (((j : Int) : Int) < 8) (fun q => ?_) (fun q => ?_)
  ·
   refine uR 4 [.c [2, 0, 1, 0, 0, 1, 0, 0, 2, 0, 0, 1, 0, 0, 0], .c [2, 0, 1, 0, 0, 1, 0, 0, 2, 0, 0, 1, 0, 0, 1], .b 3, .c [2, 0, 1, 0, 0, 1, 0, 0, 2, 0, 0, 2], .l [2, 0, 1, 0, 0, 1, 0, 0, 2, 0, 0], .b 2, .b 1, .c [2, 0, 1, 0, 0, 2], .l [2, 0, 1, 0, 0], .b 0, .c [3]] ?_
   refine qG (sq 0 3) ?_
   refine uP 1 ?_
   refine RW.pv (κ := .seq) (d := some 24) (r := (sq 2 3)) (v := .int .u32 (IntKind.u32.wrap ((BitVec.ofInt 32 ((d.toNat : Nat) : Int) &&& BitVec.ofInt 32 1).toNat : Nat))) (v' := .int .u32 ((((d &&& (1#32)).toNat : Nat) : Int))) (by as_aux_lemma => kernel_rfl) (bv_and32 (bvi _) (by decide)) ?_
   refine uF 1 ?_
   refine qE (((d &&& (1#32)).toNat : Nat) : Int) 1 (fun s => ?_) (fun s => ?_)
   ·
    refine qG (sq 0 4) ?_
    refine uP 1 ?_
    refine RW.pv (κ := .seq) (d := some 27) (r := (sq 2 4)) (v := .int .u32 (((d.toNat : Nat) : Int).fdiv (2 ^ 1))) (v' := .int .u32 ((((d >>> 1).toNat : Nat) : Int))) (by as_aux_lemma => kernel_rfl) (bv_shr32 _ 1) ?_
    refine RW.pv (κ := .seq) (d := some 28) (r := (sq 3 4)) (v := .int .u32 (IntKind.u32.wrap ((BitVec.ofInt 32 (((d >>> 1).toNat : Nat) : Int) ^^^ BitVec.ofInt 32 2197175160).toNat : Nat))) (v' := .int .u32 (((((d >>> 1) ^^^ (2197175160#32)).toNat : Nat) : Int))) (by as_aux_lemma => kernel_rfl) (bv_xor32 (bvi _) (by decide)) ?_
    refine uF 1 ?_
    refine uR 1 [.c [2, 0, 1, 0, 0, 1, 0, 0, 2, 0, 0, 2], .l [2, 0, 1, 0, 0, 1, 0, 0, 2, 0, 0], .b 2, .b 1, .c [2, 0, 1, 0, 0, 2], .l [2, 0, 1, 0, 0], .b 0, .c [3]] ?_
    refine qG (sq 0 3) ?_
    refine uP 1 ?_
    refine uI ((j : Int) + 1) ?_
    refine uF 1 ?_
    exact uB (f (j + 1, (d >>> 1) ^^^ (2197175160#32)) _ ⟨H, by omega, by show _ = bit1 (bits j _); rw [← e.2]; first | exact (bit1_odd (by assumption)).symm | exact (bit1_even (by assumption)).symm⟩ (by first | omega | (simp only []; omega)))
   ·
    refine qG (sq 0 3) ?_
    refine uP 1 ?_
    refine RW.pv (κ := .seq) (d := some 30) (r := (sq 2 3)) (v := .int .u32 (((d.toNat : Nat) : Int).fdiv (2 ^ 1))) (v' := .int .u32 ((((d >>> 1).toNat : Nat) : Int))) (by as_aux_lemma => kernel_rfl) (bv_shr32 _ 1) ?_
    refine qF 1 [(0, .slice a xs.length c0), (3, .int .u32 (((d >>> 1).toNat : Nat) : Int)), (4, .I i), (5, .I j)] ?_
    refine uR 1 [.c [2, 0, 1, 0, 0, 1, 0, 0, 2, 0, 0, 2], .l [2, 0, 1, 0, 0, 1, 0, 0, 2, 0, 0], .b 2, .b 1, .c [2, 0, 1, 0, 0, 2], .l [2, 0, 1, 0, 0], .b 0, .c [3]] ?_
    refine qG (sq 0 3) ?_
    refine uP 1 ?_
    refine uI ((j : Int) + 1) ?_
    refine uF 1 ?_
    exact uB (f (j + 1, d >>> 1) _ ⟨H, by omega, by show _ = bit1 (bits j _); rw [← e.2]; first | exact (bit1_odd (by assumption)).symm | exact (bit1_even (by assumption)).symm⟩ (by first | omega | (simp only []; omega)))
  ·
   refine uR 2 [.c [2, 0, 1, 0, 0, 2], .l [2, 0, 1, 0, 0], .b 0, .c [3]] ?_
   refine qG (sq 0 3) ?_
   refine uP 1 ?_
   refine uI ((i : Int) + 1) ?_
   refine uF 1 ?_
   have H := H.pick [1] rfl
   exact uB (m (i + 1, d) _ ⟨H, by omega, by rw [e.2, k.2, fold_take (by omega), show j = 8 by omega]; rfl⟩ (by first | omega | (simp only []; omega)))
 ·
  refine uR 2 [.c [3, 0], .c [4]] ?_
  refine qG (sq 0 3) ?_
  refine uP 1 ?_
  refine RW.pv (κ := .seq) (d := some 32) (r := (sq 2 3)) (v := .int .u32 (IntKind.u32.wrap ((BitVec.ofInt 32 4294967295 ^^^ BitVec.ofInt 32 ((c.toNat : Nat) : Int)).toNat : Nat))) (v' := .int .u32 (((~~~c).toNat : Nat) : Int)) (by as_aux_lemma => kernel_rfl) (bv_not32 (bvi _)) ?_
  refine uF 1 ?_
  refine qT (.int .u32 (((~~~c).toNat : Nat) : Int)) Try.func75 ?_
  refine ⟨_, rfl, H.done, ?_⟩
  unfold crcF
  rw [k.2, List.take_of_length_le (by omega)]
theorem r4heads_ok {S : Nat → Prop} {w : World} {cs : List (List (BitVec 8))} {ac : Option Addr} {kc : Nat} {id : CID} {ids : List Value} (size k : Nat) (h : (Shape.slice SB).rep S w [.slice ac cs.length kc] cs) (hid : cidS.rep S w ids id) (hs : size ≤ 65536) (hk : 1 ≤ k) (hkn : k ≤ cs.length) (hn : cs.length ≤ 255) (hall : ∀ c ∈ cs, c.length = lenOf size k) :
 Calls Try.prog 39 #[.slice ac cs.length kc, .agg ids.toArray, .I size, .I k] w (Ret fun v w' => Ext w w' ∧ ∃ (a : Option Addr) (c : Nat), v = .tuple #[.slice a (headsOf id size k cs).length c, .I 0] ∧ (Shape.slice hdrS).rep (Nw S w) w' [.slice a (headsOf id size k cs).length c] (headsOf id size k cs)) := by
 obtain ⟨rfl, _, _, _⟩ := cid_open hid
 refine uS1 Try.func39 ?_
 have H := Hp.startF (.rp h .nil)
 refine uR 1 [.c [0], .c [1]] ?_
 refine qG (sq 0 3) ?_
 refine uC #[.int .u64 id.version, .I id.index, .int .u64 id.epoch] 50 H ?_
 intro e _ H
 refine uF 2 ?_
 refine uR 3 [.c [2, 0], .c [3]] ?_
 refine qG (sq 0 8) ?_
 refine uP 2 ?_
 refine uK (r4len_ok (S := fun _ => True) size k hs hk (by omega)) ?_
 rintro _ _ A rfl
 have H := H.ext A
 refine uF 5 ?_
 refine uR 2 [.c [3, 0, 0], .c [3, 0, 1], .c [4]] ?_
 refine qG (sq 0 15) ?_
 refine uP 3 ?_
 refine uD 26 ((((cs.length : Nat) : Int) : Int) < 1) (fun O => ?_) (fun O => ?_)
 ·
  omega
 ·
  refine uP 4 ?_
  refine uD 30 ((((cs.length : Nat) : Int) : Int) > 255) (fun Q => ?_) (fun Q => ?_)
  ·
   omega
  ·
   refine uF 8 ?_
   refine qD (((k : Int) : Int) > ((cs.length : Nat) : Int)) (fun R => ?_) (fun R => ?_)
   ·
    omega
   ·
    refine uR 7 [.c [5, 0, 1, 0], .b 0, .c [6]] ?_
    have H := H.ownNil hdrS 53
    refine uL (α := Nat × Option Addr × Nat) (g := 39) (p := [5, 0, 1, 0, 0]) (fun (i, ao, co) => [(0, .slice ac cs.length kc), (2, .I size), (3, .I k), (5, .P e 0), (10, .I ((cs.length : Nat) : Int)), (11, .I ((lenOf size k : Nat) : Int)), (13, .slice ao (((headsOf id size k cs).take i).length) co), (14, .I i)]) (fun (i, ao, co) w' => Hp w S [] [(e, .cells #[.int .u64 id.version, .I id.index, .int .u64 id.epoch] 50 (0, 0))] [⟨hdrS, 53, .slice ao (((headsOf id size k cs).take i).length) co, (headsOf id size k cs).take i⟩] [Rp (Shape.slice SB) [.slice ac cs.length kc] cs] w' ∧ i ≤ cs.length) (fun (i, ao, co) => cs.length - i) (0, none, 0) ⟨H, Nat.zero_le _⟩ ?_
    rintro ⟨i, ao, co⟩ _ ⟨H, _⟩ f
    refine uR 3 [.c [5, 0, 1, 0, 0, 0, 1], .c [5, 0, 1, 0, 0, 1], .l [5, 0, 1, 0, 0], .b 0, .c [6]] ?_
    refine qD (((i : Int) : Int) < ((cs.length : Nat) : Int)) (fun B => ?_) (fun B => ?_)
    ·
     refine uR 5 [.c [5, 0, 1, 0, 0, 1, 0, 0, 0, 0], .c [5, 0, 1, 0, 0, 1, 0, 0, 0, 1], .c [5, 0, 1, 0, 0, 1, 0, 0, 1], .b 1, .c [5, 0, 1, 0, 0, 2], .l [5, 0, 1, 0, 0], .b 0, .c [6]] ?_
     refine qG (sq 0 7) ?_
     refine uP 2 ?_
     have x : i < cs.length := by omega
     refine uX 29 (i : Int) H 0 rfl i (by omega) (List.getElem?_eq_getElem x) ?_
     intro C D _ j H
     obtain ⟨E, F, rfl⟩ := Shape.slice_form' j
     have H := H.addR j
     refine uV 23 0 (H.fc 1 rfl) ?_
     refine uF 3 ?_
     refine qN (((cs[i]).length : Nat) : Int) ((lenOf size k : Nat) : Int) (fun t => ?_) (fun t => ?_)
     ·
      exact absurd (congrArg (fun q : Nat => (q : Int)) (hall (cs[i]) (List.getElem_mem _))) t
     ·
      refine uR 2 [.c [5, 0, 1, 0, 0, 1, 0, 0, 1, 0], .c [5, 0, 1, 0, 0, 1, 0, 0, 2], .b 1, .c [5, 0, 1, 0, 0, 2], .l [5, 0, 1, 0, 0], .b 0, .c [6]] ?_
      refine qG (sq 0 3) ?_
      refine uV 50 0 (H.cells 0 rfl) ?_
      refine uC #[.int .u64 0, .I 0, .int .u64 0] 50 H ?_
      intro G _ H
      refine uW 50 0 #[.int .u64 id.version, .I id.index, .int .u64 id.epoch] H 0 rfl ?_
      intro _ H
      refine uF 0 ?_
      refine uR 1 [.c [5, 0, 1, 0, 0, 1, 0, 0, 2, 0], .c [5, 0, 1, 0, 0, 1, 0, 0, 3], .b 1, .c [5, 0, 1, 0, 0, 2], .l [5, 0, 1, 0, 0], .b 0, .c [6]] ?_
      refine qG (sq 0 3) ?_
      refine uP 2 ?_
      refine uW 3 1 #[.int .u64 id.version, .I i, .int .u64 id.epoch] H 0 rfl ?_
      intro u H
      refine uF 0 ?_
      refine WK.draw1 12 [(0, .qui), (1, .qui), (2, .qui), (3, .qui), (4, .qui), (5, .qui), (6, .qui), (7, .qui), (8, .qui), (9, .chn), (10, .qui), (11, .chn)] [(0, .qui), (1, .qui), (2, .qui), (3, .qui), (4, .qui), (5, .qui), (6, .qui), (7, .qui), (8, .qui), (9, .chn), (10, .qui), (11, .chn), (12, .seq), (13, .seq)] Try_mixed (by as_aux_lemma => kernel_rfl) (by as_aux_lemma => kernel_rfl) (by as_aux_lemma => kernel_rfl) ?_
      have H := H.draw
      generalize ({ u with drawn := u.drawn + 1 } : World) = T at H ⊢
      refine uP 1 ?_
      refine uV 50 0 (H.cells 0 rfl) ?_
      refine qP 5 [(7, .qui), (8, .qui), (9, .chn), (10, .qui), (11, .chn), (12, .seq), (13, .seq)] [(0, .slice ac cs.length kc), (2, .I size), (3, .I k), (5, .P e 0), (10, .I ((cs.length : Nat) : Int)), (11, .I ((lenOf size k : Nat) : Int)), (13, .slice ao (((headsOf id size k cs).take i).length) co), (14, .I i), (54, .slice ao (((headsOf id size k cs).take i).length) co), (55, .agg #[.int .u64 id.version, .I i, .int .u64 id.epoch]), (56, .I k), (57, .I ((cs.length : Nat) : Int)), (58, .I size), (59, .slice ac cs.length kc), (60, .I i)] ?_
      have y : i < cs.length := by omega
      refine uX 29 (i : Int) H 2 rfl i (by omega) (List.getElem?_eq_getElem y) ?_
      intro J K _ m H
      obtain ⟨L, M, rfl⟩ := Shape.slice_form' m
      have H := H.addR m
      refine uV 23 0 (H.fc 1 rfl) ?_
      refine uK (r3crc_spec (H.rp 0 rfl)) ?_
      rintro _ _ z rfl
      have H := H.ext z
      refine uP 1 ?_
      refine RW.new (κ := .chn) (d := some 65) (r := [(12, .seq), (13, .seq)]) (o := .cells #[.int .u64 id.version, .I i, .int .u64 id.epoch, .I k, .I ((cs.length : Nat) : Int), .I size, .int .u32 (((crcF (cs[i])).toNat : Nat) : Int)] 53 (0, 0)) (v := fun b => .slice (some ⟨b, 0, none⟩) 1 1) (fun b => by as_aux_lemma => kernel_rfl) (nofun) H ?_
      intro N _ H
      have H := H.freeze 0 rfl hdrS ([⟨⟨id.version, (i : Int), id.epoch⟩, (k : Int), ((cs.length : Nat) : Int), (size : Int), crcF (cs[i])⟩] : List Hdr) 1 (by simp [maxLen]) (by first | exact Nat.le_refl _ | simp) (EsP.cons (c := [.int .u64 id.version, .I i, .int .u64 id.epoch, .I k, .I ((cs.length : Nat) : Int), .I size, .int .u32 (((crcF (cs[i])).toNat : Nat) : Int)]) (hdr_mk (cid_mk u64a i64a u64a) i64a i64a i64a Shape.bv_mk) EsP.nil)
      have H : Hp w S [] [_, _] [_] [Rp (Shape.slice hdrS) [.slice (some ⟨N, 0, none⟩) 1 1] ([⟨⟨id.version, (i : Int), id.epoch⟩, (k : Int), ((cs.length : Nat) : Int), (size : Int), crcF (cs[i])⟩] : List Hdr), _, Fc J K [.slice L (cs[i]).length M], _, Fc C D [.slice E (cs[i]).length F], _] _ := H
      refine uA 28 28 56 ((headsOf id size k cs).take (i + 1)) H 0 rfl 0 rfl (take_snoc (headsOf_get (by omega))) (by rw [List.length_take]; omega) ?_
      intro n s _ H _
      have H : Hp w S [] [_, _] [⟨hdrS, 53, .slice n (((headsOf id size k cs).take (i + 1)).length) s, (headsOf id size k cs).take (i + 1)⟩] [_, _, _, _, _, _] _ := H
      refine uF 1 ?_
      refine uR 1 [.c [5, 0, 1, 0, 0, 2], .l [5, 0, 1, 0, 0], .b 0, .c [6]] ?_
      refine qG (sq 0 3) ?_
      refine uP 1 ?_
      refine uI ((i : Int) + 1) ?_
      refine uF 1 ?_
      have H := H.pick [5] rfl
      have H := H.frontM 1 (M' := [(e, .cells #[.int .u64 id.version, .I id.index, .int .u64 id.epoch] 50 (0, 0)), (G, .cells #[.int .u64 id.version, .I i, .int .u64 id.epoch] 50 (0, 0))]) rfl
      have H := H.drop (M' := [(e, .cells #[.int .u64 id.version, .I id.index, .int .u64 id.epoch] 50 (0, 0))]) (W' := [⟨hdrS, 53, .slice n (((headsOf id size k cs).take (i + 1)).length) s, (headsOf id size k cs).take (i + 1)⟩]) (by repeat (first | exact List.Sublist.refl _ | apply List.Sublist.cons_cons | apply List.Sublist.cons)) (by repeat (first | exact List.Sublist.refl _ | apply List.Sublist.cons_cons | apply List.Sublist.cons))
      exact uB (f (i + 1, n, s) _ ⟨H, by omega⟩ (by first | omega | (simp only []; omega)))
    ·
     refine uR 3 [.c [7]] ?_
     refine qT (.tuple #[.slice ao (((headsOf id size k cs).take i).length) co, .I 0]) Try.func39 ?_
     have H : Hp w S [] [_] [] [Rp (Shape.slice hdrS) [.slice ao (((headsOf id size k cs).take i).length) co] ((headsOf id size k cs).take i), _] _ := H.freezeW 0 rfl
     rw [List.take_of_length_le (by rw [headsOf_len]; omega)] at H ⊢
     exact ⟨_, rfl, H.done, _, _, rfl, H.out (H.rp 0 rfl)⟩
end Go.Proofs.Ytppcdmbkgficiaa
