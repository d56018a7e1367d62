import Derived.Test.YtppcdmbkgficiaaE3
namespace Go.Proofs.Ytppcdmbkgficiaa
open Go.BX

theorem bit1_odd {c : BitVec 32} (h : (((c &&& 1#32).toNat : Nat) : Int) = 1) : bit1 c = (c >>> 1) ^^^ 2197175160#32 := by
 have e : c &&& 1#32 = 1#32 := by
  apply BitVec.eq_of_toNat_eq
  have : (1#32).toNat = 1 := rfl
  omega
 unfold bit1
 rw [e]
 congr 1
theorem bit1_even {c : BitVec 32} (h : ¬ (((c &&& 1#32).toNat : Nat) : Int) = 1) : bit1 c = c >>> 1 := by
 have e : c &&& 1#32 = 0#32 := by
  rw [and_one] at h ⊢
  split at h
  · exact absurd rfl h
  · rename_i q
    rw [if_neg q]
 unfold bit1
 rw [e]
 have : (2197175160#32 &&& (-(0#32))) = 0#32 := by decide
 rw [this, BitVec.xor_zero]

theorem r3crc_spec {S : Nat → Prop} {w : World} {xs : List (BitVec 8)} {a : Option Addr} {c0 : Nat} (h : SB.rep S w [.slice a xs.length c0] xs) :
 Calls Try.prog 75 #[.slice a xs.length c0] w (Ret fun v w' => Ext w w' ∧ v = .int .u32 (((crcF xs).toNat : Nat) : Int)) := by
 have hlen := Shape.slice_len h
 refine qS (fn := Try.f75) (n := 33) (σ := [(0, .slice a xs.length c0)]) Try.func75 ?_
 have H := Hp.startF (w := w) (S := S) (G := [Rp SB [.slice a xs.length c0] xs]) (.rp h .nil)
 refine qR 8 [.c [2, 0, 1, 0], .b 0, .c [3]] [(0, .slice a xs.length c0), (3, .int .u32 4294967295), (4, .I 0)] ?_
 refine WK.loop (α := Nat × BitVec 32) (b := cd Try.prog 75 [2, 0, 1, 0, 0]) (by as_aux_lemma => kernel_rfl) (fun st_ => match st_ with | (i, c) => [(0, .slice a xs.length c0), (3, .int .u32 ((c.toNat : Nat) : Int)), (4, .I i)]) (fun st_ w' => match st_ with | (i, c) => Hp w S [] [] [] [Rp SB [.slice a xs.length c0] xs] w' ∧ i ≤ xs.length ∧ c = (xs.take i).foldl crcStep 4294967295#32) (fun st_ => match st_ with | (i, c) => xs.length - i) (0, 4294967295#32) ⟨H, Nat.zero_le _, rfl⟩ (rfl) ?_
 rintro ⟨i, c⟩ w2 ⟨H, hinv0⟩ hback1
 refine qR 3 [.c [2, 0, 1, 0, 0, 0, 1], .c [2, 0, 1, 0, 0, 1], .l [2, 0, 1, 0, 0], .b 0, .c [3]] [(0, .slice a xs.length c0), (3, .int .u32 ((c.toNat : Nat) : Int)), (4, .I i), (9, .bool (decide (((i : Int) : Int) < ((xs.length : Nat) : Int))))] ?_
 refine qD (((i : Int) : Int) < ((xs.length : Nat) : Int)) (fun h3 => ?_) (fun h3 => ?_)
 ·
  refine qR 4 [.c [2, 0, 1, 0, 0, 1, 0, 0, 0], .c [2, 0, 1, 0, 0, 1, 0, 0, 1], .b 1, .c [2, 0, 1, 0, 0, 2], .l [2, 0, 1, 0, 0], .b 0, .c [3]] [(0, .slice a xs.length c0), (3, .int .u32 ((c.toNat : Nat) : Int)), (4, .I i)] ?_
  refine qG (sq 0 8) ?_
  refine qP 3 (sq 3 8) [(0, .slice a xs.length c0), (3, .int .u32 ((c.toNat : Nat) : Int)), (4, .I i), (12, .int .u32 ((c.toNat : Nat) : Int)), (13, .slice a xs.length c0), (14, .I i)] ?_
  have hx4 : i < xs.length := by omega
  refine qX .seq 15 (sq 4 8) 23 5 (i : Int) Sb (xs[i]) H 0 rfl i (by omega) (List.getElem?_eq_getElem hx4) ?_
  intro b5 o6 es7 hr8 H
  obtain rfl := hr8
  refine qL .seq 16 (sq 5 8) 5 b5 o6 0 (.int .u8 (((xs[i]).toNat : Nat) : Int)) (H.fc 0 rfl) ?_
  refine RW.pv (κ := .seq) (d := some 17) (r := (sq 6 8)) (v := .int .u32 (IntKind.u32.wrap ((((xs[i]).toNat : Nat) : Int)))) (v' := .int .u32 ((((xs[i]).setWidth 32).toNat : Nat) : Int)) (by as_aux_lemma => kernel_rfl) (bv_cv8_32 _) ?_
  refine RW.pv (κ := .seq) (d := some 18) (r := (sq 7 8)) (v := .int .u32 (IntKind.u32.wrap ((BitVec.ofInt 32 ((c.toNat : Nat) : Int) ^^^ BitVec.ofInt 32 ((((xs[i]).setWidth 32).toNat : Nat) : Int)).toNat : Nat))) (v' := .int .u32 ((((c ^^^ ((xs[i]).setWidth 32)).toNat : Nat) : Int))) (by as_aux_lemma => kernel_rfl) (bv_xor32 (bvi _) (bvi _)) ?_
  refine qF 1 [(0, .slice a xs.length c0), (3, .int .u32 (((c ^^^ ((xs[i]).setWidth 32)).toNat : Nat) : Int)), (4, .I i)] ?_
  refine qR 3 [.c [2, 0, 1, 0, 0, 1, 0, 0, 2, 0], .b 2, .b 1, .c [2, 0, 1, 0, 0, 2], .l [2, 0, 1, 0, 0], .b 0, .c [3]] [(0, .slice a xs.length c0), (3, .int .u32 (((c ^^^ ((xs[i]).setWidth 32)).toNat : Nat) : Int)), (4, .I i), (5, .I 0)] ?_
  refine WK.loop (α := Nat × BitVec 32) (b := cd Try.prog 75 [2, 0, 1, 0, 0, 1, 0, 0, 2, 0, 0]) (by as_aux_lemma => kernel_rfl) (fun st_ => match st_ with | (j, d) => [(0, .slice a xs.length c0), (3, .int .u32 ((d.toNat : Nat) : Int)), (4, .I i), (5, .I j)]) (fun st_ w' => match st_ with | (j, d) => Hp w S [] [] [] [Fc b5 o6 [.int .u8 (((xs[i]).toNat : Nat) : Int)], Rp SB [.slice a xs.length c0] xs] w' ∧ j ≤ 8 ∧ d = bits j (c ^^^ (xs[i]).setWidth 32)) (fun st_ => match st_ with | (j, d) => 8 - j) (0, c ^^^ ((xs[i]).setWidth 32)) ⟨H, by omega, rfl⟩ (rfl) ?_
  rintro ⟨j, d⟩ w10 ⟨H, hinv1⟩ hback9
  refine qR 3 [.c [2, 0, 1, 0, 0, 1, 0, 0, 2, 0, 0, 0, 1], .c [2, 0, 1, 0, 0, 1, 0, 0, 2, 0, 0, 1], .l [2, 0, 1, 0, 0, 1, 0, 0, 2, 0, 0], .b 2, .b 1, .c [2, 0, 1, 0, 0, 2], .l [2, 0, 1, 0, 0], .b 0, .c [3]] [(0, .slice a xs.length c0), (3, .int .u32 ((d.toNat : Nat) : Int)), (4, .I i), (5, .I j), (20, .bool (decide (((j : Int) : Int) < 8)))] ?_
  refine qD (((j : Int) : Int) < 8) (fun h11 => ?_) (fun h11 => ?_)
  ·
   refine qR 4 [.c [2, 0, 1, 0, 0, 1, 0, 0, 2, 0, 0, 1, 0, 0, 0], .c [2, 0, 1, 0, 0, 1, 0, 0, 2, 0, 0, 1, 0, 0, 1], .b 3, .c [2, 0, 1, 0, 0, 1, 0, 0, 2, 0, 0, 2], .l [2, 0, 1, 0, 0, 1, 0, 0, 2, 0, 0], .b 2, .b 1, .c [2, 0, 1, 0, 0, 2], .l [2, 0, 1, 0, 0], .b 0, .c [3]] [(0, .slice a xs.length c0), (3, .int .u32 ((d.toNat : Nat) : Int)), (4, .I i), (5, .I j)] ?_
   refine qG (sq 0 3) ?_
   refine qP 1 (sq 1 3) [(0, .slice a xs.length c0), (3, .int .u32 ((d.toNat : Nat) : Int)), (4, .I i), (5, .I j), (23, .int .u32 ((d.toNat : Nat) : Int))] ?_
   refine RW.pv (κ := .seq) (d := some 24) (r := (sq 2 3)) (v := .int .u32 (IntKind.u32.wrap ((BitVec.ofInt 32 ((d.toNat : Nat) : Int) &&& BitVec.ofInt 32 1).toNat : Nat))) (v' := .int .u32 ((((d &&& (1#32)).toNat : Nat) : Int))) (by as_aux_lemma => kernel_rfl) (bv_and32 (bvi _) (by decide)) ?_
   refine qF 1 [(0, .slice a xs.length c0), (3, .int .u32 ((d.toNat : Nat) : Int)), (4, .I i), (5, .I j), (25, .bool ((((d &&& (1#32)).toNat : Nat) : Int) == 1))] ?_
   refine qE (((d &&& (1#32)).toNat : Nat) : Int) 1 (fun h12 => ?_) (fun h12 => ?_)
   ·
    refine qG (sq 0 4) ?_
    refine qP 1 (sq 1 4) [(0, .slice a xs.length c0), (3, .int .u32 ((d.toNat : Nat) : Int)), (4, .I i), (5, .I j), (26, .int .u32 ((d.toNat : Nat) : Int))] ?_
    refine RW.pv (κ := .seq) (d := some 27) (r := (sq 2 4)) (v := .int .u32 (((d.toNat : Nat) : Int).fdiv (2 ^ 1))) (v' := .int .u32 ((((d >>> 1).toNat : Nat) : Int))) (by as_aux_lemma => kernel_rfl) (bv_shr32 _ 1) ?_
    refine RW.pv (κ := .seq) (d := some 28) (r := (sq 3 4)) (v := .int .u32 (IntKind.u32.wrap ((BitVec.ofInt 32 (((d >>> 1).toNat : Nat) : Int) ^^^ BitVec.ofInt 32 2197175160).toNat : Nat))) (v' := .int .u32 (((((d >>> 1) ^^^ (2197175160#32)).toNat : Nat) : Int))) (by as_aux_lemma => kernel_rfl) (bv_xor32 (bvi _) (by decide)) ?_
    refine qF 1 [(0, .slice a xs.length c0), (3, .int .u32 ((((d >>> 1) ^^^ (2197175160#32)).toNat : Nat) : Int)), (4, .I i), (5, .I j)] ?_
    refine qR 1 [.c [2, 0, 1, 0, 0, 1, 0, 0, 2, 0, 0, 2], .l [2, 0, 1, 0, 0, 1, 0, 0, 2, 0, 0], .b 2, .b 1, .c [2, 0, 1, 0, 0, 2], .l [2, 0, 1, 0, 0], .b 0, .c [3]] [(0, .slice a xs.length c0), (3, .int .u32 ((((d >>> 1) ^^^ (2197175160#32)).toNat : Nat) : Int)), (4, .I i), (5, .I j)] ?_
    refine qG (sq 0 3) ?_
    refine qP 1 (sq 1 3) [(0, .slice a xs.length c0), (3, .int .u32 ((((d >>> 1) ^^^ (2197175160#32)).toNat : Nat) : Int)), (4, .I i), (5, .I j), (21, .I j)] ?_
    refine qI .seq 22 (sq 2 3) ((j : Int) + 1) ?_
    refine qF 1 [(0, .slice a xs.length c0), (3, .int .u32 ((((d >>> 1) ^^^ (2197175160#32)).toNat : Nat) : Int)), (4, .I i), (5, .I ((j : Int) + 1))] ?_
    exact WK.back (hback9 (j + 1, (d >>> 1) ^^^ (2197175160#32)) _ ⟨H, by omega, by show _ = bit1 (bits j _); rw [← hinv1.2]; first | exact (bit1_odd (by assumption)).symm | exact (bit1_even (by assumption)).symm⟩ (by first | omega | (simp only []; omega))) (by as_aux_lemma => kernel_rfl)
   ·
    refine qG (sq 0 3) ?_
    refine qP 1 (sq 1 3) [(0, .slice a xs.length c0), (3, .int .u32 ((d.toNat : Nat) : Int)), (4, .I i), (5, .I j), (29, .int .u32 ((d.toNat : Nat) : Int))] ?_
    refine RW.pv (κ := .seq) (d := some 30) (r := (sq 2 3)) (v := .int .u32 (((d.toNat : Nat) : Int).fdiv (2 ^ 1))) (v' := .int .u32 ((((d >>> 1).toNat : Nat) : Int))) (by as_aux_lemma => kernel_rfl) (bv_shr32 _ 1) ?_
    refine qF 1 [(0, .slice a xs.length c0), (3, .int .u32 (((d >>> 1).toNat : Nat) : Int)), (4, .I i), (5, .I j)] ?_
    refine qR 1 [.c [2, 0, 1, 0, 0, 1, 0, 0, 2, 0, 0, 2], .l [2, 0, 1, 0, 0, 1, 0, 0, 2, 0, 0], .b 2, .b 1, .c [2, 0, 1, 0, 0, 2], .l [2, 0, 1, 0, 0], .b 0, .c [3]] [(0, .slice a xs.length c0), (3, .int .u32 (((d >>> 1).toNat : Nat) : Int)), (4, .I i), (5, .I j)] ?_
    refine qG (sq 0 3) ?_
    refine qP 1 (sq 1 3) [(0, .slice a xs.length c0), (3, .int .u32 (((d >>> 1).toNat : Nat) : Int)), (4, .I i), (5, .I j), (21, .I j)] ?_
    refine qI .seq 22 (sq 2 3) ((j : Int) + 1) ?_
    refine qF 1 [(0, .slice a xs.length c0), (3, .int .u32 (((d >>> 1).toNat : Nat) : Int)), (4, .I i), (5, .I ((j : Int) + 1))] ?_
    exact WK.back (hback9 (j + 1, d >>> 1) _ ⟨H, by omega, by show _ = bit1 (bits j _); rw [← hinv1.2]; first | exact (bit1_odd (by assumption)).symm | exact (bit1_even (by assumption)).symm⟩ (by first | omega | (simp only []; omega))) (by as_aux_lemma => kernel_rfl)
  ·
   refine qR 2 [.c [2, 0, 1, 0, 0, 2], .l [2, 0, 1, 0, 0], .b 0, .c [3]] [(0, .slice a xs.length c0), (3, .int .u32 ((d.toNat : Nat) : Int)), (4, .I i)] ?_
   refine qG (sq 0 3) ?_
   refine qP 1 (sq 1 3) [(0, .slice a xs.length c0), (3, .int .u32 ((d.toNat : Nat) : Int)), (4, .I i), (10, .I i)] ?_
   refine qI .seq 11 (sq 2 3) ((i : Int) + 1) ?_
   refine qF 1 [(0, .slice a xs.length c0), (3, .int .u32 ((d.toNat : Nat) : Int)), (4, .I ((i : Int) + 1))] ?_
   have H := H.pick [1] rfl
   exact WK.back (hback1 (i + 1, d) _ ⟨H, by omega, by rw [hinv1.2, hinv0.2, fold_take (by omega), show j = 8 by omega]; rfl⟩ (by first | omega | (simp only []; omega))) (by as_aux_lemma => kernel_rfl)
 ·
  refine qR 2 [.c [3, 0], .c [4]] [(3, .int .u32 ((c.toNat : Nat) : Int))] ?_
  refine qG (sq 0 3) ?_
  refine qP 1 (sq 1 3) [(31, .int .u32 ((c.toNat : Nat) : Int))] ?_
  refine RW.pv (κ := .seq) (d := some 32) (r := (sq 2 3)) (v := .int .u32 (IntKind.u32.wrap ((BitVec.ofInt 32 4294967295 ^^^ BitVec.ofInt 32 ((c.toNat : Nat) : Int)).toNat : Nat))) (v' := .int .u32 (((~~~c).toNat : Nat) : Int)) (by as_aux_lemma => kernel_rfl) (bv_not32 (bvi _)) ?_
  refine qF 1 [(2, .int .u32 (((~~~c).toNat : Nat) : Int))] ?_
  refine qT (.int .u32 (((~~~c).toNat : Nat) : Int)) Try.func75 ?_
  refine ⟨_, rfl, H.done, ?_⟩
  unfold crcF
  rw [hinv0.2, List.take_of_length_le (by omega)]

theorem r4heads_ok {S : Nat → Prop} {w : World} {cs : List (List (BitVec 8))} {ac : Option Addr} {kc : Nat} {id : CID} {ids : List Value} (size k : Nat) (h : (Shape.slice SB).rep S w [.slice ac cs.length kc] cs) (hid : cidS.rep S w ids id) (hs : size ≤ 65536) (hk : 1 ≤ k) (hkn : k ≤ cs.length) (hn : cs.length ≤ 255) (hall : ∀ c ∈ cs, c.length = lenOf size k) :
 Calls Try.prog 39 #[.slice ac cs.length kc, .agg ids.toArray, .I size, .I k] w (Ret fun v w' => Ext w w' ∧ ∃ (a : Option Addr) (c : Nat), v = .tuple #[.slice a (headsOf id size k cs).length c, .I 0] ∧ (Shape.slice hdrS).rep (Nw S w) w' [.slice a (headsOf id size k cs).length c] (headsOf id size k cs)) := by
 obtain ⟨rfl, hb1, hb2, hb3⟩ := cid_open hid
 refine qS (fn := Try.f39) (n := 68) (σ := [(0, .slice ac cs.length kc), (1, .agg #[.int .u64 id.version, .I id.index, .int .u64 id.epoch]), (2, .I size), (3, .I k)]) Try.func39 ?_
 have H := Hp.startF (w := w) (S := S) (G := [Rp (Shape.slice SB) [.slice ac cs.length kc] cs]) (.rp h .nil)
 refine qR 1 [.c [0], .c [1]] [(0, .slice ac cs.length kc), (1, .agg #[.int .u64 id.version, .I id.index, .int .u64 id.epoch]), (2, .I size), (3, .I k)] ?_
 refine qG (sq 0 3) ?_
 refine qB .seq 5 (sq 1 3) #[.int .u64 id.version, .I id.index, .int .u64 id.epoch] 50 H ?_
 intro b1 w2 H
 refine qF 2 [(0, .slice ac cs.length kc), (2, .I size), (3, .I k), (5, .P b1 0)] ?_
 refine qR 3 [.c [2, 0], .c [3]] [(0, .slice ac cs.length kc), (2, .I size), (3, .I k), (5, .P b1 0), (10, .I ((cs.length : Nat) : Int))] ?_
 refine qG (sq 0 8) ?_
 refine qP 2 (sq 2 8) [(0, .slice ac cs.length kc), (2, .I size), (3, .I k), (5, .P b1 0), (10, .I ((cs.length : Nat) : Int)), (19, .I size), (20, .I k)] ?_
 refine qK .seq (some 21) (sq 3 8) 36 #[.I size, .I k] (r4len_ok (S := fun _ => True) size k hs hk (by omega)) ?_
 rintro _ w3 hE4 rfl
 have H := H.ext hE4
 refine qF 5 [(0, .slice ac cs.length kc), (2, .I size), (3, .I k), (5, .P b1 0), (10, .I ((cs.length : Nat) : Int)), (11, .I ((lenOf size k : Nat) : Int)), (12, .I 0)] ?_
 refine qR 2 [.c [3, 0, 0], .c [3, 0, 1], .c [4]] [(0, .slice ac cs.length kc), (2, .I size), (3, .I k), (5, .P b1 0), (10, .I ((cs.length : Nat) : Int)), (11, .I ((lenOf size k : Nat) : Int)), (12, .I 0)] ?_
 refine qG (sq 0 15) ?_
 refine qP 3 (sq 3 15) [(0, .slice ac cs.length kc), (2, .I size), (3, .I k), (5, .P b1 0), (10, .I ((cs.length : Nat) : Int)), (11, .I ((lenOf size k : Nat) : Int)), (12, .I 0), (26, .bool (decide ((((cs.length : Nat) : Int) : Int) < 1)))] ?_
 refine tD (fun b_ => [(0, .slice ac cs.length kc), (2, .I size), (3, .I k), (5, .P b1 0), (10, .I ((cs.length : Nat) : Int)), (11, .I ((lenOf size k : Nat) : Int)), (12, .I 0), (26, .bool b_)]) ((((cs.length : Nat) : Int) : Int) < 1) (fun h5 => ?_) (fun h5 => ?_)
 ·
  omega
 ·
  refine qP 4 (sq 7 15) [(0, .slice ac cs.length kc), (2, .I size), (3, .I k), (5, .P b1 0), (10, .I ((cs.length : Nat) : Int)), (11, .I ((lenOf size k : Nat) : Int)), (12, .I 0), (30, .bool (decide ((((cs.length : Nat) : Int) : Int) > 255)))] ?_
  refine tD (fun b_ => [(0, .slice ac cs.length kc), (2, .I size), (3, .I k), (5, .P b1 0), (10, .I ((cs.length : Nat) : Int)), (11, .I ((lenOf size k : Nat) : Int)), (12, .I 0), (30, .bool b_)]) ((((cs.length : Nat) : Int) : Int) > 255) (fun h6 => ?_) (fun h6 => ?_)
  ·
   omega
  ·
   refine qF 8 [(0, .slice ac cs.length kc), (2, .I size), (3, .I k), (5, .P b1 0), (10, .I ((cs.length : Nat) : Int)), (11, .I ((lenOf size k : Nat) : Int)), (38, .bool (decide (((k : Int) : Int) > ((cs.length : Nat) : Int))))] ?_
   refine qD (((k : Int) : Int) > ((cs.length : Nat) : Int)) (fun h7 => ?_) (fun h7 => ?_)
   ·
    omega
   ·
    refine qR 7 [.c [5, 0, 1, 0], .b 0, .c [6]] [(0, .slice ac cs.length kc), (2, .I size), (3, .I k), (5, .P b1 0), (10, .I ((cs.length : Nat) : Int)), (11, .I ((lenOf size k : Nat) : Int)), (13, .slice none 0 0), (14, .I 0)] ?_
    have H := H.ownNil hdrS 53
    refine WK.loop (α := Nat × Option Addr × Nat) (b := cd Try.prog 39 [5, 0, 1, 0, 0]) (by as_aux_lemma => kernel_rfl) (fun st_ => match st_ with | (i, ao, co) => [(0, .slice ac cs.length kc), (2, .I size), (3, .I k), (5, .P b1 0), (10, .I ((cs.length : Nat) : Int)), (11, .I ((lenOf size k : Nat) : Int)), (13, .slice ao (((headsOf id size k cs).take i).length) co), (14, .I i)]) (fun st_ w' => match st_ with | (i, ao, co) => Hp w S [] [(b1, .cells #[.int .u64 id.version, .I id.index, .int .u64 id.epoch] 50 (0, 0))] [⟨hdrS, 53, .slice ao (((headsOf id size k cs).take i).length) co, (headsOf id size k cs).take i⟩] [Rp (Shape.slice SB) [.slice ac cs.length kc] cs] w' ∧ i ≤ cs.length) (fun st_ => match st_ with | (i, ao, co) => cs.length - i) (0, none, 0) ⟨H, Nat.zero_le _⟩ (rfl) ?_
    rintro ⟨i, ao, co⟩ w9 ⟨H, hinv0⟩ hback8
    refine qR 3 [.c [5, 0, 1, 0, 0, 0, 1], .c [5, 0, 1, 0, 0, 1], .l [5, 0, 1, 0, 0], .b 0, .c [6]] [(0, .slice ac cs.length kc), (2, .I size), (3, .I k), (5, .P b1 0), (10, .I ((cs.length : Nat) : Int)), (11, .I ((lenOf size k : Nat) : Int)), (13, .slice ao (((headsOf id size k cs).take i).length) co), (14, .I i), (41, .bool (decide (((i : Int) : Int) < ((cs.length : Nat) : Int))))] ?_
    refine qD (((i : Int) : Int) < ((cs.length : Nat) : Int)) (fun h10 => ?_) (fun h10 => ?_)
    ·
     refine qR 5 [.c [5, 0, 1, 0, 0, 1, 0, 0, 0, 0], .c [5, 0, 1, 0, 0, 1, 0, 0, 0, 1], .c [5, 0, 1, 0, 0, 1, 0, 0, 1], .b 1, .c [5, 0, 1, 0, 0, 2], .l [5, 0, 1, 0, 0], .b 0, .c [6]] [(0, .slice ac cs.length kc), (2, .I size), (3, .I k), (5, .P b1 0), (10, .I ((cs.length : Nat) : Int)), (11, .I ((lenOf size k : Nat) : Int)), (13, .slice ao (((headsOf id size k cs).take i).length) co), (14, .I i)] ?_
     refine qG (sq 0 7) ?_
     refine qP 2 (sq 2 7) [(0, .slice ac cs.length kc), (2, .I size), (3, .I k), (5, .P b1 0), (10, .I ((cs.length : Nat) : Int)), (11, .I ((lenOf size k : Nat) : Int)), (13, .slice ao (((headsOf id size k cs).take i).length) co), (14, .I i), (44, .slice ac cs.length kc), (45, .I i)] ?_
     have hx11 : i < cs.length := by omega
     refine qX .seq 46 (sq 3 7) 29 23 (i : Int) SB (cs[i]) H 0 rfl i (by omega) (List.getElem?_eq_getElem hx11) ?_
     intro b12 o13 es14 hr15 H
     obtain ⟨a16, k17, rfl⟩ := Shape.slice_form' hr15
     have H := H.add (F := Rp SB [.slice a16 (cs[i]).length k17] (cs[i])) hr15
     refine qL .seq 47 (sq 4 7) 23 b12 o13 0 (.slice a16 (cs[i]).length k17) (H.fc 1 rfl) ?_
     refine qF 3 [(0, .slice ac cs.length kc), (2, .I size), (3, .I k), (5, .P b1 0), (10, .I ((cs.length : Nat) : Int)), (11, .I ((lenOf size k : Nat) : Int)), (13, .slice ao (((headsOf id size k cs).take i).length) co), (14, .I i), (50, .bool ((((cs[i]).length : Nat) : Int) != ((lenOf size k : Nat) : Int)))] ?_
     refine qN (((cs[i]).length : Nat) : Int) ((lenOf size k : Nat) : Int) (fun h18 => ?_) (fun h18 => ?_)
     ·
      exact absurd (congrArg (fun q : Nat => (q : Int)) (hall (cs[i]) (List.getElem_mem _))) h18
     ·
      refine qR 2 [.c [5, 0, 1, 0, 0, 1, 0, 0, 1, 0], .c [5, 0, 1, 0, 0, 1, 0, 0, 2], .b 1, .c [5, 0, 1, 0, 0, 2], .l [5, 0, 1, 0, 0], .b 0, .c [6]] [(0, .slice ac cs.length kc), (2, .I size), (3, .I k), (5, .P b1 0), (10, .I ((cs.length : Nat) : Int)), (11, .I ((lenOf size k : Nat) : Int)), (13, .slice ao (((headsOf id size k cs).take i).length) co), (14, .I i)] ?_
      refine qG (sq 0 3) ?_
      refine qL .seq 51 (sq 1 3) 50 b1 0 0 (.agg #[.int .u64 id.version, .I id.index, .int .u64 id.epoch]) (H.cells 0 rfl) ?_
      refine qB .seq 15 (sq 2 3) #[.int .u64 0, .I 0, .int .u64 0] 50 H ?_
      intro b19 w20 H
      refine qW 50 b19 0 (sq 3 3) (.agg #[.int .u64 id.version, .I id.index, .int .u64 id.epoch]) [(b19, .cells #[.int .u64 id.version, .I id.index, .int .u64 id.epoch] 50 (0, 0)), (b1, .cells #[.int .u64 id.version, .I id.index, .int .u64 id.epoch] 50 (0, 0))] H 0 rfl rfl ?_
      intro w21 H
      refine qF 0 [(0, .slice ac cs.length kc), (2, .I size), (3, .I k), (5, .P b1 0), (10, .I ((cs.length : Nat) : Int)), (11, .I ((lenOf size k : Nat) : Int)), (13, .slice ao (((headsOf id size k cs).take i).length) co), (14, .I i), (15, .P b19 0)] ?_
      refine qR 1 [.c [5, 0, 1, 0, 0, 1, 0, 0, 2, 0], .c [5, 0, 1, 0, 0, 1, 0, 0, 3], .b 1, .c [5, 0, 1, 0, 0, 2], .l [5, 0, 1, 0, 0], .b 0, .c [6]] [(0, .slice ac cs.length kc), (2, .I size), (3, .I k), (5, .P b1 0), (10, .I ((cs.length : Nat) : Int)), (11, .I ((lenOf size k : Nat) : Int)), (13, .slice ao (((headsOf id size k cs).take i).length) co), (14, .I i), (15, .P b19 0)] ?_
      refine qG (sq 0 3) ?_
      refine qP 2 (sq 2 3) [(0, .slice ac cs.length kc), (2, .I size), (3, .I k), (5, .P b1 0), (10, .I ((cs.length : Nat) : Int)), (11, .I ((lenOf size k : Nat) : Int)), (13, .slice ao (((headsOf id size k cs).take i).length) co), (14, .I i), (15, .P b19 0), (52, .I i), (53, .P b19 1)] ?_
      refine qW 3 b19 1 (sq 3 3) (.I i) [(b19, .cells #[.int .u64 id.version, .I i, .int .u64 id.epoch] 50 (0, 0)), (b1, .cells #[.int .u64 id.version, .I id.index, .int .u64 id.epoch] 50 (0, 0))] H 0 rfl rfl ?_
      intro w22 H
      refine qF 0 [(0, .slice ac cs.length kc), (2, .I size), (3, .I k), (5, .P b1 0), (10, .I ((cs.length : Nat) : Int)), (11, .I ((lenOf size k : Nat) : Int)), (13, .slice ao (((headsOf id size k cs).take i).length) co), (14, .I i), (15, .P b19 0)] ?_
      refine WK.draw1 12 [(0, .qui), (1, .qui), (2, .qui), (3, .qui), (4, .qui), (5, .qui), (6, .qui), (7, .qui), (8, .qui), (9, .chn), (10, .qui), (11, .chn)] [(0, .qui), (1, .qui), (2, .qui), (3, .qui), (4, .qui), (5, .qui), (6, .qui), (7, .qui), (8, .qui), (9, .chn), (10, .qui), (11, .chn), (12, .seq), (13, .seq)] Try_mixed (by as_aux_lemma => kernel_rfl) (by as_aux_lemma => kernel_rfl) (by as_aux_lemma => kernel_rfl) ?_
      have H := H.draw
      generalize ({ w22 with drawn := w22.drawn + 1 } : World) = w23 at H ⊢
      refine qP 1 [(1, .qui), (2, .qui), (3, .qui), (4, .qui), (5, .qui), (6, .qui), (7, .qui), (8, .qui), (9, .chn), (10, .qui), (11, .chn), (12, .seq), (13, .seq)] [(0, .slice ac cs.length kc), (2, .I size), (3, .I k), (5, .P b1 0), (10, .I ((cs.length : Nat) : Int)), (11, .I ((lenOf size k : Nat) : Int)), (13, .slice ao (((headsOf id size k cs).take i).length) co), (14, .I i), (15, .P b19 0), (54, .slice ao (((headsOf id size k cs).take i).length) co)] ?_
      refine qL .qui 55 [(2, .qui), (3, .qui), (4, .qui), (5, .qui), (6, .qui), (7, .qui), (8, .qui), (9, .chn), (10, .qui), (11, .chn), (12, .seq), (13, .seq)] 50 b19 0 0 (.agg #[.int .u64 id.version, .I i, .int .u64 id.epoch]) (H.cells 0 rfl) ?_
      refine qP 5 [(7, .qui), (8, .qui), (9, .chn), (10, .qui), (11, .chn), (12, .seq), (13, .seq)] [(0, .slice ac cs.length kc), (2, .I size), (3, .I k), (5, .P b1 0), (10, .I ((cs.length : Nat) : Int)), (11, .I ((lenOf size k : Nat) : Int)), (13, .slice ao (((headsOf id size k cs).take i).length) co), (14, .I i), (54, .slice ao (((headsOf id size k cs).take i).length) co), (55, .agg #[.int .u64 id.version, .I i, .int .u64 id.epoch]), (56, .I k), (57, .I ((cs.length : Nat) : Int)), (58, .I size), (59, .slice ac cs.length kc), (60, .I i)] ?_
      have hx24 : i < cs.length := by omega
      refine qX .qui 61 [(8, .qui), (9, .chn), (10, .qui), (11, .chn), (12, .seq), (13, .seq)] 29 23 (i : Int) SB (cs[i]) H 2 rfl i (by omega) (List.getElem?_eq_getElem hx24) ?_
      intro b25 o26 es27 hr28 H
      obtain ⟨a29, k30, rfl⟩ := Shape.slice_form' hr28
      have H := H.add (F := Rp SB [.slice a29 (cs[i]).length k30] (cs[i])) hr28
      refine qL .qui 62 [(9, .chn), (10, .qui), (11, .chn), (12, .seq), (13, .seq)] 23 b25 o26 0 (.slice a29 (cs[i]).length k30) (H.fc 1 rfl) ?_
      refine qK .chn (some 63) [(10, .qui), (11, .chn), (12, .seq), (13, .seq)] 75 #[.slice a29 (cs[i]).length k30] (r3crc_spec (H.rp 0 rfl)) ?_
      rintro _ w31 hE32 rfl
      have H := H.ext hE32
      refine qP 1 [(11, .chn), (12, .seq), (13, .seq)] [(0, .slice ac cs.length kc), (2, .I size), (3, .I k), (5, .P b1 0), (10, .I ((cs.length : Nat) : Int)), (11, .I ((lenOf size k : Nat) : Int)), (13, .slice ao (((headsOf id size k cs).take i).length) co), (14, .I i), (54, .slice ao (((headsOf id size k cs).take i).length) co), (64, .agg #[.int .u64 id.version, .I i, .int .u64 id.epoch, .I k, .I ((cs.length : Nat) : Int), .I size, .int .u32 (((crcF (cs[i])).toNat : Nat) : Int)])] ?_
      refine RW.new (κ := .chn) (d := some 65) (r := [(12, .seq), (13, .seq)]) (o := .cells #[.int .u64 id.version, .I i, .int .u64 id.epoch, .I k, .I ((cs.length : Nat) : Int), .I size, .int .u32 (((crcF (cs[i])).toNat : Nat) : Int)] 53 (0, 0)) (v := fun b => .slice (some ⟨b, 0, none⟩) 1 1) (fun b => by as_aux_lemma => kernel_rfl) (nofun) H ?_
      intro b33 w34 H
      have H := H.freeze 0 rfl hdrS ([⟨⟨id.version, (i : Int), id.epoch⟩, (k : Int), ((cs.length : Nat) : Int), (size : Int), crcF (cs[i])⟩] : List Hdr) 1 (by simp [maxLen]) (by first | exact Nat.le_refl _ | simp) (EsP.cons (c := [.int .u64 id.version, .I i, .int .u64 id.epoch, .I k, .I ((cs.length : Nat) : Int), .I size, .int .u32 (((crcF (cs[i])).toNat : Nat) : Int)]) (hdr_mk (cid_mk u64a i64a u64a) i64a i64a i64a Shape.bv_mk) EsP.nil)
      have H : Hp w S [] [(b19, .cells #[.int .u64 id.version, .I i, .int .u64 id.epoch] 50 (0, 0)), (b1, .cells #[.int .u64 id.version, .I id.index, .int .u64 id.epoch] 50 (0, 0))] [⟨hdrS, 53, .slice ao (((headsOf id size k cs).take i).length) co, (headsOf id size k cs).take i⟩] [Rp (Shape.slice hdrS) [.slice (some ⟨b33, 0, none⟩) 1 1] ([⟨⟨id.version, (i : Int), id.epoch⟩, (k : Int), ((cs.length : Nat) : Int), (size : Int), crcF (cs[i])⟩] : List Hdr), Rp SB [.slice a29 (cs[i]).length k30] (cs[i]), Fc b25 o26 [.slice a29 (cs[i]).length k30], Rp SB [.slice a16 (cs[i]).length k17] (cs[i]), Fc b12 o13 [.slice a16 (cs[i]).length k17], Rp (Shape.slice SB) [.slice ac cs.length kc] cs] _ := H
      refine RW.appendW (d := some 66) (r := [(13, .seq)]) (T := 28) (ty := 28) (e := 53) (m := 7) (by_ := 56) (v := .slice ao (((headsOf id size k cs).take i).length) co) (a2 := (some ⟨b33, 0, none⟩)) (l2 := 1) (c2 := 1) (zs := (headsOf id size k cs).take (i + 1)) (by as_aux_lemma => kernel_rfl) (by as_aux_lemma => kernel_rfl) rfl H 0 rfl 0 rfl (take_snoc (headsOf_get (by omega))) (by rw [List.length_take]; omega) ?_
      intro a35 c36 w38 H hc37
      have H : Hp w S [] [(b19, .cells #[.int .u64 id.version, .I i, .int .u64 id.epoch] 50 (0, 0)), (b1, .cells #[.int .u64 id.version, .I id.index, .int .u64 id.epoch] 50 (0, 0))] [⟨hdrS, 53, .slice a35 (((headsOf id size k cs).take (i + 1)).length) c36, (headsOf id size k cs).take (i + 1)⟩] [Rp (Shape.slice hdrS) [.slice (some ⟨b33, 0, none⟩) 1 1] ([⟨⟨id.version, (i : Int), id.epoch⟩, (k : Int), ((cs.length : Nat) : Int), (size : Int), crcF (cs[i])⟩] : List Hdr), Rp SB [.slice a29 (cs[i]).length k30] (cs[i]), Fc b25 o26 [.slice a29 (cs[i]).length k30], Rp SB [.slice a16 (cs[i]).length k17] (cs[i]), Fc b12 o13 [.slice a16 (cs[i]).length k17], Rp (Shape.slice SB) [.slice ac cs.length kc] cs] _ := H
      refine qF 1 [(0, .slice ac cs.length kc), (2, .I size), (3, .I k), (5, .P b1 0), (10, .I ((cs.length : Nat) : Int)), (11, .I ((lenOf size k : Nat) : Int)), (13, .slice a35 (((headsOf id size k cs).take (i + 1)).length) c36), (14, .I i)] ?_
      refine qR 1 [.c [5, 0, 1, 0, 0, 2], .l [5, 0, 1, 0, 0], .b 0, .c [6]] [(0, .slice ac cs.length kc), (2, .I size), (3, .I k), (5, .P b1 0), (10, .I ((cs.length : Nat) : Int)), (11, .I ((lenOf size k : Nat) : Int)), (13, .slice a35 (((headsOf id size k cs).take (i + 1)).length) c36), (14, .I i)] ?_
      refine qG (sq 0 3) ?_
      refine qP 1 (sq 1 3) [(0, .slice ac cs.length kc), (2, .I size), (3, .I k), (5, .P b1 0), (10, .I ((cs.length : Nat) : Int)), (11, .I ((lenOf size k : Nat) : Int)), (13, .slice a35 (((headsOf id size k cs).take (i + 1)).length) c36), (14, .I i), (42, .I i)] ?_
      refine qI .seq 43 (sq 2 3) ((i : Int) + 1) ?_
      refine qF 1 [(0, .slice ac cs.length kc), (2, .I size), (3, .I k), (5, .P b1 0), (10, .I ((cs.length : Nat) : Int)), (11, .I ((lenOf size k : Nat) : Int)), (13, .slice a35 (((headsOf id size k cs).take (i + 1)).length) c36), (14, .I ((i : Int) + 1))] ?_
      have H := H.pick [5] rfl
      have H := H.frontM 1 (M' := [(b1, .cells #[.int .u64 id.version, .I id.index, .int .u64 id.epoch] 50 (0, 0)), (b19, .cells #[.int .u64 id.version, .I i, .int .u64 id.epoch] 50 (0, 0))]) rfl
      have H := H.drop (M' := [(b1, .cells #[.int .u64 id.version, .I id.index, .int .u64 id.epoch] 50 (0, 0))]) (W' := [⟨hdrS, 53, .slice a35 (((headsOf id size k cs).take (i + 1)).length) c36, (headsOf id size k cs).take (i + 1)⟩]) (by repeat (first | exact List.Sublist.refl _ | apply List.Sublist.cons_cons | apply List.Sublist.cons)) (by repeat (first | exact List.Sublist.refl _ | apply List.Sublist.cons_cons | apply List.Sublist.cons))
      exact WK.back (hback8 (i + 1, a35, c36) _ ⟨H, by omega⟩ (by first | omega | (simp only []; omega))) (by as_aux_lemma => kernel_rfl)
    ·
     refine qR 3 [.c [7]] [(8, .slice ao (((headsOf id size k cs).take i).length) co), (9, .I 0)] ?_
     refine qT (.tuple #[.slice ao (((headsOf id size k cs).take i).length) co, .I 0]) Try.func39 ?_
     have H : Hp w S [] [(b1, .cells #[.int .u64 id.version, .I id.index, .int .u64 id.epoch] 50 (0, 0))] [] [Rp (Shape.slice hdrS) [.slice ao (((headsOf id size k cs).take i).length) co] ((headsOf id size k cs).take i), Rp (Shape.slice SB) [.slice ac cs.length kc] cs] _ := H.freezeW 0 rfl
     rw [List.take_of_length_le (by rw [headsOf_len]; omega)] at H ⊢
     exact ⟨_, rfl, H.done, _, _, rfl, H.out (H.rp 0 rfl)⟩


end Go.Proofs.Ytppcdmbkgficiaa
