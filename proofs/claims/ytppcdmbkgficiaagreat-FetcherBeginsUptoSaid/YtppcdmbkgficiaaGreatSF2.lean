import Derived.Test.YtppcdmbkgficiaaGreatST1
import Derived.Test.YtppcdmbkgficiaaGreatSBxClip
import Derived.Test.YtppcdmbkgficiaaGreatSBxJoin
namespace Go.Proofs.YtppcdmbkgficiaaGreat
open Go.BX
theorem open1_spec {S : Nat → Prop} {w : World} {p : Pc} {cs : List Value} (hp : pcS.rep S w cs p) {bi : Nat} {i : Int} (hF : (Fc bi 0 [.I i]).p S w) :
 Calls Tryz.prog 34 #[.agg cs.toArray, .P bi 0] w (Ret fun v w' => Ext w w' ∧ v = .bool (decide (p.index = i))) := by
 obtain ⟨a1p, k1p, rfl, h0p, h1p⟩ := pc_open hp
 refine qS (fn := Tryz.f34) (n := 8) (σ := [(0, .agg #[.I p.index, .slice a1p p.data.length k1p]), (1, .P bi 0)]) Tryz.func34 ?_
 have H := Hp.startF (w := w) (S := S) (G := [Fc bi 0 [.I i], Rp SB [.slice a1p p.data.length k1p] p.data]) (.cons hF (.rp h1p .nil))
 refine qR 1 [.c [0], .c [1]] [(0, .agg #[.I p.index, .slice a1p p.data.length k1p]), (1, .P bi 0)] ?_
 refine qG (sq 0 2) ?_
 refine qB .seq 2 (sq 1 2) #[.I p.index, .slice a1p p.data.length k1p] 64 H ?_
 intro b1 w2 H
 refine qF 1 [(1, .P bi 0), (2, .P b1 0)] ?_
 refine qR 1 [.c [1, 0], .c [2]] [(1, .P bi 0), (2, .P b1 0)] ?_
 refine qG (sq 0 5) ?_
 refine qP 1 (sq 1 5) [(1, .P bi 0), (4, .P b1 0)] ?_
 refine qL .seq 5 (sq 2 5) 3 b1 0 0 (.I p.index) (H.cells 0 rfl) ?_
 refine qL .seq 6 (sq 3 5) 3 bi 0 0 (.I i) (H.fc 0 rfl) ?_
 refine qF 2 [(3, .bool (p.index == i))] ?_
 refine qT (.bool (p.index == i)) Tryz.func34 ?_
 refine ⟨_, rfl, H.done, ?_⟩
 congr 1
theorem pcindex_spec {S : Nat → Prop} {w : World} {ps : List Pc} {a : Option Addr} {c : Nat} (h : (Shape.slice pcS).rep S w [.slice a ps.length c] ps) {bi : Nat} {i : Int} (hF : (Fc bi 0 [.I i]).p S w) :
 Calls Tryz.prog 57 #[.slice a ps.length c, .func (.func 34) #[] #[.P bi 0]] w (Ret fun v w' => Ext w w' ∧ ∃ j : Int, v = .I j ∧ (0 ≤ j ↔ i ∈ ps.map Pc.index)) := by
 have hlen := Shape.slice_len h
 refine qS (fn := Tryz.f57) (n := 19) (σ := [(0, .slice a ps.length c), (1, .func (.func 34) #[] #[.P bi 0])]) Tryz.func57 ?_
 have H := Hp.startF (w := w) (S := S) (G := [Rp (Shape.slice pcS) [.slice a ps.length c] ps, Fc bi 0 [.I i]]) (.rp h (.cons hF .nil))
 refine qR 6 [.c [1, 0, 1, 0], .b 0, .c [2]] [(0, .slice a ps.length c), (1, .func (.func 34) #[] #[.P bi 0]), (7, .I ((ps.length : Nat) : Int)), (8, .I 0)] ?_
 refine WK.loop (α := Nat) (b := cd Tryz.prog 57 [1, 0, 1, 0, 0]) (by as_aux_lemma => kernel_rfl) (fun k => [(0, .slice a ps.length c), (1, .func (.func 34) #[] #[.P bi 0]), (7, .I ((ps.length : Nat) : Int)), (8, .I k)]) (fun k w' => Hp w S [] [] [] [Rp (Shape.slice pcS) [.slice a ps.length c] ps, Fc bi 0 [.I i]] w' ∧ k ≤ ps.length ∧ ∀ j (hj : j < ps.length), j < k → (ps[j]).index ≠ i) (fun k => ps.length - k) 0 ⟨H, Nat.zero_le _, fun j _ hj => absurd hj (Nat.not_lt_zero j)⟩ (rfl) ?_
 rintro k w2 ⟨H, hinv0⟩ hback1
 refine qR 3 [.c [1, 0, 1, 0, 0, 1, 0], .c [1, 0, 1, 0, 0, 2], .l [1, 0, 1, 0, 0], .b 0, .c [2]] [(0, .slice a ps.length c), (1, .func (.func 34) #[] #[.P bi 0]), (7, .I ((ps.length : Nat) : Int)), (8, .I k), (9, .bool (decide (((k : Int) : Int) < ((ps.length : Nat) : Int))))] ?_
 refine qD (((k : Int) : Int) < ((ps.length : Nat) : Int)) (fun h3 => ?_) (fun h3 => ?_)
 ·
  refine qR 6 [.c [1, 0, 1, 0, 0, 2, 0, 0, 1, 0], .c [1, 0, 1, 0, 0, 2, 0, 0, 2], .b 1, .c [1, 0, 1, 0, 0, 3], .l [1, 0, 1, 0, 0], .b 0, .c [2]] [(0, .slice a ps.length c), (1, .func (.func 34) #[] #[.P bi 0]), (5, .I k), (7, .I ((ps.length : Nat) : Int)), (8, .I k)] ?_
  refine qG (sq 0 6) ?_
  refine qP 3 (sq 3 6) [(0, .slice a ps.length c), (1, .func (.func 34) #[] #[.P bi 0]), (5, .I k), (7, .I ((ps.length : Nat) : Int)), (8, .I k), (11, .func (.func 34) #[] #[.P bi 0]), (12, .slice a ps.length c), (13, .I k)] ?_
  have hx4 : k < ps.length := by omega
  refine qX .seq 14 (sq 4 6) 27 64 (k : Int) pcS (ps[k]) H 0 rfl k (by omega) (List.getElem?_eq_getElem hx4) ?_
  intro b5 o6 es7 hr8 H
  obtain ⟨a1q9, k1q9, rfl, hf10, hf11⟩ := pc_open hr8
  have H := H.add (F := Rp SB [.slice a1q9 ((ps[k]).data.length) k1q9] ((ps[k]).data)) hf11
  refine qL .seq 15 (sq 5 6) 64 b5 o6 0 (.agg #[.I ((ps[k]).index), .slice a1q9 ((ps[k]).data.length) k1q9]) (H.fc 1 rfl) ?_
  refine qK .seq (some 16) (sq 6 6) 34 #[.agg #[.I ((ps[k]).index), .slice a1q9 ((ps[k]).data.length) k1q9], .P bi 0] (open1_spec (p := (ps[k])) (pc_mk i64a (H.rp 0 rfl)) (H.fact 3 rfl)) ?_
  rintro _ w12 hE13 rfl
  have H := H.ext hE13
  refine qF 0 [(0, .slice a ps.length c), (1, .func (.func 34) #[] #[.P bi 0]), (5, .I k), (7, .I ((ps.length : Nat) : Int)), (8, .I k), (16, .bool (decide ((ps[k]).index = i)))] ?_
  refine qD ((ps[k]).index = i) (fun h14 => ?_) (fun h14 => ?_)
  ·
   refine qR 2 [.c [1, 0, 1, 0, 0, 2, 0, 0, 2, 0, 1], .b 1, .c [1, 0, 1, 0, 0, 3], .l [1, 0, 1, 0, 0], .b 0, .c [2]] [(4, .I k)] ?_
   refine qT (.I k) Tryz.func57 ?_
   exact ⟨_, rfl, H.done, _, rfl, fun _ => List.mem_map.2 ⟨ps[k], List.getElem_mem (by omega), by assumption⟩, fun _ => by omega⟩
  ·
   refine qR 2 [.c [1, 0, 1, 0, 0, 3], .l [1, 0, 1, 0, 0], .b 0, .c [2]] [(0, .slice a ps.length c), (1, .func (.func 34) #[] #[.P bi 0]), (7, .I ((ps.length : Nat) : Int)), (8, .I k)] ?_
   refine qG (sq 0 2) ?_
   refine qI .seq 18 (sq 1 2) ((k : Int) + 1) ?_
   refine qF 1 [(0, .slice a ps.length c), (1, .func (.func 34) #[] #[.P bi 0]), (7, .I ((ps.length : Nat) : Int)), (8, .I ((k : Int) + 1))] ?_
   have H := H.pick [2, 3] rfl
   exact WK.back (hback1 (k + 1) _ ⟨H, by omega, fun j hj hjk => by
    rcases Nat.lt_or_eq_of_le (Nat.le_of_lt_succ hjk) with h1 | h1
    · exact hinv0.2 j hj h1
    · subst h1; assumption⟩ (by first | omega | (simp only []; omega))) (by as_aux_lemma => kernel_rfl)
 ·
  refine qR 3 [.c [3]] [(4, .I (-1))] ?_
  refine qT (.I (-1)) Tryz.func57 ?_
  exact ⟨_, rfl, H.done, _, rfl, fun h => absurd h (by omega), fun hm => by
   obtain ⟨p, hp, e⟩ := List.mem_map.1 hm
   obtain ⟨j, hj, rfl⟩ := List.mem_iff_getElem.1 hp
   exact absurd e (hinv0.2 j hj (by omega))⟩
theorem pccontains_spec {S : Nat → Prop} {w : World} {ps : List Pc} {a : Option Addr} {c : Nat} (h : (Shape.slice pcS).rep S w [.slice a ps.length c] ps) {bi : Nat} {i : Int} (hF : (Fc bi 0 [.I i]).p S w) :
 Calls Tryz.prog 33 #[.slice a ps.length c, .func (.func 34) #[] #[.P bi 0]] w (Ret fun v w' => Ext w w' ∧ v = .bool (decide (i ∈ ps.map Pc.index))) := by
 refine qS (fn := Tryz.f33) (n := 9) (σ := [(0, .slice a ps.length c), (1, .func (.func 34) #[] #[.P bi 0])]) Tryz.func33 ?_
 have H := Hp.startF (w := w) (S := S) (G := [Rp (Shape.slice pcS) [.slice a ps.length c] ps, Fc bi 0 [.I i]]) (.rp h (.cons hF .nil))
 refine qR 3 [.c [1, 0], .c [2]] [(0, .slice a ps.length c), (1, .func (.func 34) #[] #[.P bi 0])] ?_
 refine qG (sq 0 5) ?_
 refine qP 2 (sq 2 5) [(5, .slice a ps.length c), (6, .func (.func 34) #[] #[.P bi 0])] ?_
 refine qK .seq (some 7) (sq 3 5) 57 #[.slice a ps.length c, .func (.func 34) #[] #[.P bi 0]] (pcindex_spec (ps := ps) (H.rp 0 rfl) (H.fact 1 rfl)) ?_
 rintro _ w1 hE4 ⟨ix3, rfl, hix2⟩
 have H := H.ext hE4
 refine qF 2 [(4, .bool (decide ((ix3 : Int) ≥ 0)))] ?_
 refine qT (.bool (decide ((ix3 : Int) ≥ 0))) Tryz.func33 ?_
 refine ⟨_, rfl, H.done, ?_⟩
 congr 1
 exact decide_eq_decide.2 hix2
theorem clip_pc {S : Nat → Prop} {w : World} {ps : List Pc} {a : Option Addr} {c : Nat} (h : (Shape.slice pcS).rep S w [.slice a ps.length c] ps) :
 Calls Tryz.prog 46 #[.slice a ps.length c] w (Ret fun v w' => Ext w w' ∧ v = .slice a ps.length ps.length) := by
 refine qS (fn := Tryz.f46) (n := 9) (σ := [(0, .slice a ps.length c)]) Tryz.func46 ?_
 have H := Hp.startF (w := w) (S := S) (G := [Rp (Shape.slice pcS) [.slice a ps.length c] ps]) (.rp h .nil)
 refine qR 3 [.c [1, 0], .c [2]] [(0, .slice a ps.length c)] ?_
 refine qG (sq 0 7) ?_
 refine qP 5 (sq 5 7) [(3, .slice a ps.length c), (5, .I ((ps.length : Nat) : Int)), (7, .I ((ps.length : Nat) : Int))] ?_
 refine RW.clip (κ := .seq) (d := some 8) (r := (sq 6 7)) (T := 27) (e := 64) (sh := pcS) (a := a) (len := ps.length) (cap := c) (k1 := .i64) (t1 := ((ps.length : Nat) : Int)) (k2 := .i64) (t2 := ((ps.length : Nat) : Int)) (by as_aux_lemma => kernel_rfl) (by as_aux_lemma => kernel_rfl) H 0 rfl (by omega) (by omega) ?_
 intro H
 refine qF 1 [(2, .slice a ps.length ps.length)] ?_
 refine qT (.slice a ps.length ps.length) Tryz.func46 ?_
 exact ⟨_, rfl, H.done, rfl⟩
theorem clip_int {S : Nat → Prop} {w : World} {xs : List Int} {a : Option Addr} {c : Nat} (h : Li.rep S w [.slice a xs.length c] xs) :
 Calls Tryz.prog 48 #[.slice a xs.length c] w (Ret fun v w' => Ext w w' ∧ v = .slice a xs.length xs.length) := by
 refine qS (fn := Tryz.f48) (n := 9) (σ := [(0, .slice a xs.length c)]) Tryz.func48 ?_
 have H := Hp.startF (w := w) (S := S) (G := [Rp Li [.slice a xs.length c] xs]) (.rp h .nil)
 refine qR 3 [.c [1, 0], .c [2]] [(0, .slice a xs.length c)] ?_
 refine qG (sq 0 7) ?_
 refine qP 5 (sq 5 7) [(3, .slice a xs.length c), (5, .I ((xs.length : Nat) : Int)), (7, .I ((xs.length : Nat) : Int))] ?_
 refine RW.clip (κ := .seq) (d := some 8) (r := (sq 6 7)) (T := 24) (e := 3) (sh := Si) (a := a) (len := xs.length) (cap := c) (k1 := .i64) (t1 := ((xs.length : Nat) : Int)) (k2 := .i64) (t2 := ((xs.length : Nat) : Int)) (by as_aux_lemma => kernel_rfl) (by as_aux_lemma => kernel_rfl) H 0 rfl (by omega) (by omega) ?_
 intro H
 refine qF 1 [(2, .slice a xs.length xs.length)] ?_
 refine qT (.slice a xs.length xs.length) Tryz.func48 ?_
 exact ⟨_, rfl, H.done, rfl⟩
def rdB (r : Rd) : Prop := r.object.key.size ≤ maxLen ∧ (0 ≤ r.object.version ∧ r.object.version ≤ 18446744073709551615) ∧ (-9223372036854775808 ≤ r.object.size ∧ r.object.size ≤ 9223372036854775807) ∧ (-9223372036854775808 ≤ r.object.group ∧ r.object.group ≤ 9223372036854775807) ∧ (0 ≤ r.object.epoch ∧ r.object.epoch ≤ 18446744073709551615) ∧
 (-9223372036854775808 ≤ r.kk ∧ r.kk ≤ 9223372036854775807) ∧ (-9223372036854775808 ≤ r.nn ∧ r.nn ≤ 9223372036854775807) ∧ (-9223372036854775808 ≤ r.waited ∧ r.waited ≤ 9223372036854775807) ∧ (-9223372036854775808 ≤ r.limit ∧ r.limit ≤ 9223372036854775807) ∧ (-9223372036854775808 ≤ r.done ∧ r.done ≤ 9223372036854775807)
theorem rd_mkB {S : Nat → Prop} {w : World} {r : Rd} (hb : rdB r) {a0 a1 a2 : Option Addr} {k0 k1 k2 : Nat} (h0 : Li.rep S w [.slice a0 r.object.nodes.length k0] r.object.nodes) (h1 : (Shape.slice pcS).rep S w [.slice a1 r.pieces.length k1] r.pieces) (h2 : Li.rep S w [.slice a2 r.bad.length k2] r.bad) :
 rdS.rep S w (rdV r a0 k0 a1 k1 a2 k2) r := by
 obtain ⟨b0, ⟨b1, b1'⟩, ⟨b2, b2'⟩, ⟨b3, b3'⟩, ⟨b4, b4'⟩, ⟨b5, b5'⟩, ⟨b6, b6'⟩, ⟨b7, b7'⟩, ⟨b8, b8'⟩, ⟨b9, b9'⟩⟩ := hb
 exact rd_mk (y0 := r.object) (obj_mk (y0 := r.object.key) (y1 := r.object.version) (y2 := r.object.size) (y3 := r.object.sum) (y4 := r.object.group) (y5 := r.object.epoch) (y6 := r.object.nodes) ⟨rfl, b0⟩ (Shape.u64_in b1 b1') (Shape.i64_in b2 b2') Shape.bv_mk (Shape.i64_in b3 b3') (Shape.u64_in b4 b4') h0) (Shape.i64_in b5 b5') (Shape.i64_in b6 b6') h1 h2 (Shape.i64_in b7 b7') (Shape.i64_in b8 b8') (Shape.i64_in b9 b9')
def okZ (size k n : Int) : Prop := 0 ≤ size ∧ size ≤ 65536 ∧ 1 ≤ k ∧ k ≤ n ∧ n ≤ 255
instance (size k n : Int) : Decidable (okZ size k n) := by unfold okZ; infer_instance
def lzI (size k n : Int) : Int := if okZ size k n then ((lenOf size.toNat k.toNat : Nat) : Int) else 0
def ezI (size k n : Int) : Int := if okZ size k n then 0 else 2
theorem ez_ok {size k n : Int} (h : ezI size k n = 0) : okZ size k n := Classical.byContradiction fun hn => by
 unfold ezI at h
 rw [if_neg hn] at h
 cases h
theorem sizes_gen {S : Nat → Prop} {w : World} (size k n : Int) : Calls Tryz.prog 62 #[.I size, .I k, .I n] w (Ret fun v w' => Ext w w' ∧ v = .tuple #[.I (lzI size k n), .I (ezI size k n)]) := by
 by_cases h : okZ size k n
 · have h2 := h
   unfold okZ at h2
   obtain ⟨size, rfl⟩ : ∃ m : Nat, size = (m : Int) := ⟨size.toNat, by omega⟩
   obtain ⟨k, rfl⟩ : ∃ m : Nat, k = (m : Int) := ⟨k.toNat, by omega⟩
   obtain ⟨n, rfl⟩ : ∃ m : Nat, n = (m : Int) := ⟨n.toNat, by omega⟩
   unfold lzI ezI
   rw [if_pos h, if_pos h]
   exact sizes_ok (S := S) size k n (by omega) (by omega) (by omega) (by omega)
 · unfold lzI ezI
   rw [if_neg h, if_neg h]
   exact sizes_bad (S := S) size k n h
def wholeE (h : Hdr) (data : List (BitVec 8)) : Int :=
 if ezI h.size h.kk h.nn ≠ 0 ∨ ¬ (0 ≤ h.id.index ∧ h.id.index ≤ h.nn - 1) then 2 else
 if ((data.length : Nat) : Int) ≠ lzI h.size h.kk h.nn then 31 else
 if (((crcF data).toNat : Nat) : Int) ≠ ((h.sum.toNat : Nat) : Int) then 92 else 0
theorem whole_spec {S : Nat → Prop} {w : World} {C : Chk} {cs : List Value} (hC : chkS.rep S w cs C) :
 Calls Tryz.prog 45 #[.agg cs.toArray] w (Ret fun v w' => Ext w w' ∧ v = .I (wholeE C.head C.data)) := by
 obtain ⟨cs0C, a1C, k1C, rfl, h0C, h1C⟩ := chk_open hC
 obtain ⟨cs0Chead, rfl, h0Chead, h1Chead, h2Chead, h3Chead⟩ := hdr_open h0C
 obtain ⟨rfl, h0Cheadid, h1Cheadid, h2Cheadid⟩ := cid_open h0Chead
 refine qS (fn := Tryz.f45) (n := 44) (σ := [(0, .agg (chkV C a1C k1C).toArray)]) Tryz.func45 ?_
 have H := Hp.startF (w := w) (S := S) (G := [Rp SB [.slice a1C C.data.length k1C] C.data]) (.rp h1C .nil)
 refine qR 1 [.c [0], .c [1]] [(0, .agg (chkV C a1C k1C).toArray)] ?_
 refine qG (sq 0 2) ?_
 refine qB .seq 1 (sq 1 2) ((chkV C a1C k1C).toArray) 96 H ?_
 intro b1 w2 H
 refine qF 1 [(1, .P b1 0)] ?_
 refine qR 1 [.c [1, 0], .c [2]] [(1, .P b1 0)] ?_
 refine qG (sq 0 4) ?_
 refine qP 1 (sq 1 4) [(1, .P b1 0), (6, .P b1 0)] ?_
 refine qL .seq 7 (sq 2 4) 84 b1 0 0 (.agg (hdrV C.head).toArray) (H.cells 0 rfl) ?_
 refine qB .seq 3 (sq 3 4) #[.int .u64 0, .I 0, .int .u64 0, .I 0, .I 0, .I 0, .int .u32 0] 84 H ?_
 intro b3 w4 H
 refine qW 84 b3 0 (sq 4 4) (.agg (hdrV C.head).toArray) [(b3, .cells (hdrV C.head).toArray 84 (0, 0)), (b1, .cells (chkV C a1C k1C).toArray 96 (0, 0))] H 0 rfl rfl ?_
 intro w5 H
 refine qF 0 [(1, .P b1 0), (3, .P b3 0)] ?_
 refine qR 1 [.c [2, 0], .c [3]] [(1, .P b1 0), (3, .P b3 0)] ?_
 refine qG (sq 0 12) ?_
 refine qP 1 (sq 1 12) [(1, .P b1 0), (3, .P b3 0), (9, .P b3 5)] ?_
 refine qL .seq 10 (sq 2 12) 3 b3 5 5 (.I C.head.size) (H.cells 0 rfl) ?_
 refine qP 1 (sq 3 12) [(1, .P b1 0), (3, .P b3 0), (10, .I C.head.size), (11, .P b3 3)] ?_
 refine qL .seq 12 (sq 4 12) 3 b3 3 3 (.I C.head.kk) (H.cells 0 rfl) ?_
 refine qP 1 (sq 5 12) [(1, .P b1 0), (3, .P b3 0), (10, .I C.head.size), (12, .I C.head.kk), (13, .P b3 4)] ?_
 refine qL .seq 14 (sq 6 12) 3 b3 4 4 (.I C.head.nn) (H.cells 0 rfl) ?_
 refine qK .seq (some 15) (sq 7 12) 62 #[.I C.head.size, .I C.head.kk, .I C.head.nn] (sizes_gen (S := fun _ => True) C.head.size C.head.kk C.head.nn) ?_
 rintro _ w6 hE7 rfl
 have H := H.ext hE7
 refine qF 5 [(1, .P b1 0), (3, .P b3 0), (4, .I (lzI C.head.size C.head.kk C.head.nn)), (5, .I (ezI C.head.size C.head.kk C.head.nn))] ?_
 refine qR 3 [.c [3, 0, 0, 0], .c [3, 0, 0, 1], .b 0, .c [4]] [(1, .P b1 0), (3, .P b3 0), (4, .I (lzI C.head.size C.head.kk C.head.nn)), (5, .I (ezI C.head.size C.head.kk C.head.nn))] ?_
 refine qG (sq 0 13) ?_
 refine qP 3 (sq 3 13) [(1, .P b1 0), (3, .P b3 0), (4, .I (lzI C.head.size C.head.kk C.head.nn)), (21, .bool ((ezI C.head.size C.head.kk C.head.nn) != 0))] ?_
 refine tN (fun b_ => [(1, .P b1 0), (3, .P b3 0), (4, .I (lzI C.head.size C.head.kk C.head.nn)), (21, .bool b_)]) (ezI C.head.size C.head.kk C.head.nn) 0 (fun h8 => ?_) (fun h8 => ?_)
 ·
  refine qF 10 [(1, .P b1 0), (3, .P b3 0), (4, .I (lzI C.head.size C.head.kk C.head.nn)), (18, .bool true)] ?_
  refine qR 3 [.c [3, 0, 0, 1, 0, 1], .b 0, .c [4]] [(2, .I 2)] ?_
  refine qT (.I 2) Tryz.func45 ?_
  refine ⟨_, rfl, H.done, ?_⟩
  congr 1
  symm
  unfold wholeE
  clear H
  rw [if_pos (by omega)]
 ·
  have hokz := ez_ok h8
  unfold okZ at hokz
  refine qP 2 (sq 5 13) [(1, .P b1 0), (3, .P b3 0), (4, .I (lzI C.head.size C.head.kk C.head.nn)), (21, .bool false), (23, .P b3 1)] ?_
  refine qL .seq 24 (sq 6 13) 3 b3 1 1 (.I C.head.id.index) (H.cells 0 rfl) ?_
  refine qP 1 (sq 7 13) [(1, .P b1 0), (3, .P b3 0), (4, .I (lzI C.head.size C.head.kk C.head.nn)), (21, .bool false), (24, .I C.head.id.index), (25, .P b3 4)] ?_
  refine qL .seq 26 (sq 8 13) 3 b3 4 4 (.I C.head.nn) (H.cells 0 rfl) ?_
  refine qI .seq 27 (sq 9 13) (C.head.nn - 1) ?_
  refine qK .seq (some 28) (sq 10 13) 30 #[.I C.head.id.index, .I 0, .I (C.head.nn - 1)] (between_spec (S := fun _ => True) C.head.id.index 0 (C.head.nn - 1)) ?_
  rintro _ w9 hE10 rfl
  have H := H.ext hE10
  refine qF 3 [(1, .P b1 0), (3, .P b3 0), (4, .I (lzI C.head.size C.head.kk C.head.nn)), (18, .bool (!(decide (0 ≤ C.head.id.index ∧ C.head.id.index ≤ C.head.nn - 1))))] ?_
  refine qC (!(decide (0 ≤ C.head.id.index ∧ C.head.id.index ≤ C.head.nn - 1))) (fun h11 => ?_) (fun h11 => ?_)
  ·
   replace h11 : (decide (0 ≤ C.head.id.index ∧ C.head.id.index ≤ C.head.nn - 1)) = false := by revert h11; cases (decide (0 ≤ C.head.id.index ∧ C.head.id.index ≤ C.head.nn - 1)) <;> simp
   replace h11 := of_decide_eq_false h11
   refine qR 2 [.c [3, 0, 0, 1, 0, 1], .b 0, .c [4]] [(2, .I 2)] ?_
   refine qT (.I 2) Tryz.func45 ?_
   refine ⟨_, rfl, H.done, ?_⟩
   congr 1
   symm
   unfold wholeE
   clear H
   rw [if_pos (by omega)]
  ·
   replace h11 : (decide (0 ≤ C.head.id.index ∧ C.head.id.index ≤ C.head.nn - 1)) = true := by revert h11; cases (decide (0 ≤ C.head.id.index ∧ C.head.id.index ≤ C.head.nn - 1)) <;> simp
   replace h11 := of_decide_eq_true h11
   refine qR 1 [.c [3, 0, 0, 1, 1, 0], .c [3, 0, 0, 1, 1, 1], .b 0, .c [4]] [(1, .P b1 0), (3, .P b3 0), (4, .I (lzI C.head.size C.head.kk C.head.nn))] ?_
   refine qG (sq 0 6) ?_
   refine qP 1 (sq 1 6) [(1, .P b1 0), (3, .P b3 0), (4, .I (lzI C.head.size C.head.kk C.head.nn)), (32, .P b1 7)] ?_
   refine qL .seq 33 (sq 2 6) 62 b1 7 7 (.slice a1C C.data.length k1C) (H.cells 1 rfl) ?_
   refine qF 4 [(1, .P b1 0), (3, .P b3 0), (31, .bool (((C.data.length : Nat) : Int) != (lzI C.head.size C.head.kk C.head.nn)))] ?_
   refine qN ((C.data.length : Nat) : Int) (lzI C.head.size C.head.kk C.head.nn) (fun h12 => ?_) (fun h12 => ?_)
   ·
    refine qR 2 [.c [3, 0, 0, 1, 1, 1, 0, 1], .b 0, .c [4]] [(2, .I 31)] ?_
    refine qT (.I 31) Tryz.func45 ?_
    refine ⟨_, rfl, H.done, ?_⟩
    congr 1
    symm
    unfold wholeE
    clear H
    rw [if_neg (by omega), if_pos (by omega)]
   ·
    refine qR 1 [.c [3, 0, 0, 1, 1, 1, 1, 0], .c [3, 0, 0, 1, 1, 1, 1, 1], .b 0, .c [4]] [(1, .P b1 0), (3, .P b3 0)] ?_
    refine WK.draw1 7 [(0, .qui), (1, .qui), (3, .qui), (4, .qui), (2, .chn), (5, .qui), (6, .qui)] [(0, .qui), (1, .qui), (3, .qui), (4, .qui), (2, .chn), (5, .qui), (6, .qui)] Try_mixed (by as_aux_lemma => kernel_rfl) (by as_aux_lemma => kernel_rfl) (by as_aux_lemma => kernel_rfl) ?_
    have H := H.draw
    generalize ({ w9 with drawn := w9.drawn + 1 } : World) = w13 at H ⊢
    refine qP 1 [(1, .qui), (3, .qui), (4, .qui), (2, .chn), (5, .qui), (6, .qui)] [(3, .P b3 0), (38, .P b1 7)] ?_
    refine qL .qui 39 [(3, .qui), (4, .qui), (2, .chn), (5, .qui), (6, .qui)] 62 b1 7 7 (.slice a1C C.data.length k1C) (H.cells 1 rfl) ?_
    refine qP 1 [(4, .qui), (2, .chn), (5, .qui), (6, .qui)] [(39, .slice a1C C.data.length k1C), (41, .P b3 6)] ?_
    refine qL .qui 42 [(2, .chn), (5, .qui), (6, .qui)] 23 b3 6 6 (.int .u32 ((C.head.sum.toNat : Nat) : Int)) (H.cells 0 rfl) ?_
    refine qK .chn (some 40) (qs [5, 6]) 43 #[.slice a1C C.data.length k1C] (crc_spec (H.rp 0 rfl)) ?_
    rintro _ w14 hE15 rfl
    have H := H.ext hE15
    refine qF 2 [(37, .bool ((((crcF C.data).toNat : Nat) : Int) != ((C.head.sum.toNat : Nat) : Int)))] ?_
    refine qN (((crcF C.data).toNat : Nat) : Int) ((C.head.sum.toNat : Nat) : Int) (fun h16 => ?_) (fun h16 => ?_)
    ·
     refine qR 2 [.c [3, 0, 0, 1, 1, 1, 1, 1, 0, 1], .b 0, .c [4]] [(2, .I 92)] ?_
     refine qT (.I 92) Tryz.func45 ?_
     refine ⟨_, rfl, H.done, ?_⟩
     congr 1
     symm
     unfold wholeE
     clear H
     rw [if_neg (by omega), if_neg (by omega), if_pos (by omega)]
    ·
     refine qR 4 [.c [5]] [(2, .I 0)] ?_
     refine qT (.I 0) Tryz.func45 ?_
     refine ⟨_, rfl, H.done, ?_⟩
     congr 1
     symm
     unfold wholeE
     clear H
     rw [if_neg (by omega), if_neg (by omega), if_neg (by omega)]
def waitsR (r : Rd) : Bool := ((r.object.nodes.length : Int) == r.nn) && (r.done == 0)
def openR (r : Rd) (i : Int) : Bool := !decide (i ∈ r.bad) && !decide (i ∈ r.pieces.map Pc.index)
def headR (r : Rd) (i : Int) : Hdr := ⟨⟨r.object.version, i, r.object.epoch⟩, r.kk, r.nn, r.object.size, 0#32⟩
theorem waits_spec {S : Nat → Prop} {w : World} {r : Rd} {cs : List Value} (hr : rdS.rep S w cs r) :
 Calls Tryz.prog 44 #[.agg cs.toArray] w (Ret fun v w' => Ext w w' ∧ v = .bool (waitsR r)) := by
 obtain ⟨cs0r, a3r, k3r, a4r, k4r, rfl, h0r, h1r, h2r, h3r, h4r, h5r, h6r, h7r⟩ := rd_open hr
 obtain ⟨a6rO, k6rO, rfl, h0rO, h1rO, h2rO, h4rO, h5rO, h6rO⟩ := obj_open h0r
 refine qS (fn := Tryz.f44) (n := 15) (σ := [(0, .agg (rdV r a6rO k6rO a3r k3r a4r k4r).toArray)]) Tryz.func44 ?_
 have H := Hp.startF (w := w) (S := S) (G := [Rp Li [.slice a6rO r.object.nodes.length k6rO] r.object.nodes, Rp (Shape.slice pcS) [.slice a3r r.pieces.length k3r] r.pieces, Rp Li [.slice a4r r.bad.length k4r] r.bad]) (.rp h6rO (.rp h3r (.rp h4r .nil)))
 refine qR 1 [.c [0], .c [1]] [(0, .agg (rdV r a6rO k6rO a3r k3r a4r k4r).toArray)] ?_
 refine qG (sq 0 2) ?_
 refine qB .seq 1 (sq 1 2) ((rdV r a6rO k6rO a3r k3r a4r k4r).toArray) 30 H ?_
 intro b1 w2 H
 refine qF 1 [(1, .P b1 0)] ?_
 refine qR 1 [.c [1, 0], .c [2]] [(1, .P b1 0)] ?_
 refine qG (sq 0 13) ?_
 refine qP 2 (sq 2 13) [(1, .P b1 0), (4, .P b1 6)] ?_
 refine qL .seq 5 (sq 3 13) 24 b1 6 6 (.slice a6rO r.object.nodes.length k6rO) (H.cells 0 rfl) ?_
 refine qP 2 (sq 5 13) [(1, .P b1 0), (6, .I ((r.object.nodes.length : Nat) : Int)), (7, .P b1 8)] ?_
 refine qL .seq 8 (sq 6 13) 3 b1 8 8 (.I r.nn) (H.cells 0 rfl) ?_
 refine qP 2 (sq 8 13) [(1, .P b1 0), (10, .bool (((r.object.nodes.length : Nat) : Int) == r.nn))] ?_
 refine tE (fun b_ => [(1, .P b1 0), (10, .bool b_)]) ((r.object.nodes.length : Nat) : Int) r.nn (fun h3 => ?_) (fun h3 => ?_)
 ·
  refine qP 1 (sq 9 13) [(10, .bool true), (11, .P b1 13)] ?_
  refine qL .seq 12 (sq 10 13) 28 b1 13 13 (.I r.done) (H.cells 0 rfl) ?_
  refine qF 3 [(2, .bool (r.done == 0))] ?_
  refine qT (.bool (r.done == 0)) Tryz.func44 ?_
  refine ⟨_, rfl, H.done, ?_⟩
  congr 1
  unfold waitsR
  simp [*]
 ·
  refine qF 5 [(2, .bool false)] ?_
  refine qT (.bool false) Tryz.func44 ?_
  refine ⟨_, rfl, H.done, ?_⟩
  congr 1
  unfold waitsR
  simp [*]
theorem head_spec {S : Nat → Prop} {w : World} {r : Rd} {cs : List Value} (hr : rdS.rep S w cs r) (i : Int) :
 Calls Tryz.prog 31 #[.agg cs.toArray, .I i] w (Ret fun v w' => Ext w w' ∧ v = .agg #[.int .u64 r.object.version, .I i, .int .u64 r.object.epoch, .I r.kk, .I r.nn, .I r.object.size, .int .u32 0]) := by
 obtain ⟨cs0r, a3r, k3r, a4r, k4r, rfl, h0r, h1r, h2r, h3r, h4r, h5r, h6r, h7r⟩ := rd_open hr
 obtain ⟨a6rO, k6rO, rfl, h0rO, h1rO, h2rO, h4rO, h5rO, h6rO⟩ := obj_open h0r
 refine qS (fn := Tryz.f31) (n := 21) (σ := [(0, .agg (rdV r a6rO k6rO a3r k3r a4r k4r).toArray), (1, .I i)]) Tryz.func31 ?_
 have H := Hp.startF (w := w) (S := S) (G := [Rp Li [.slice a6rO r.object.nodes.length k6rO] r.object.nodes, Rp (Shape.slice pcS) [.slice a3r r.pieces.length k3r] r.pieces, Rp Li [.slice a4r r.bad.length k4r] r.bad]) (.rp h6rO (.rp h3r (.rp h4r .nil)))
 refine qR 1 [.c [0], .c [1]] [(0, .agg (rdV r a6rO k6rO a3r k3r a4r k4r).toArray), (1, .I i)] ?_
 refine qG (sq 0 2) ?_
 refine qB .seq 2 (sq 1 2) ((rdV r a6rO k6rO a3r k3r a4r k4r).toArray) 30 H ?_
 intro b1 w2 H
 refine qB .seq 4 (sq 2 2) #[.int .u64 0, .I 0, .int .u64 0, .I 0, .I 0, .I 0, .int .u32 0] 84 H ?_
 intro b3 w4 H
 refine qF 0 [(1, .I i), (2, .P b1 0), (4, .P b3 0)] ?_
 refine qR 1 [.c [1, 0], .c [2]] [(1, .I i), (2, .P b1 0), (4, .P b3 0)] ?_
 refine qG (sq 0 17) ?_
 refine qP 2 (sq 2 17) [(1, .I i), (2, .P b1 0), (4, .P b3 0), (6, .P b1 1)] ?_
 refine qL .seq 7 (sq 3 17) 22 b1 1 1 (.int .u64 r.object.version) (H.cells 1 rfl) ?_
 refine qP 3 (sq 6 17) [(2, .P b1 0), (4, .P b3 0), (7, .int .u64 r.object.version), (8, .I i), (10, .P b1 5)] ?_
 refine qL .seq 11 (sq 7 17) 22 b1 5 5 (.int .u64 r.object.epoch) (H.cells 1 rfl) ?_
 refine qP 2 (sq 9 17) [(2, .P b1 0), (4, .P b3 0), (12, .agg #[.int .u64 r.object.version, .I i, .int .u64 r.object.epoch]), (13, .P b1 7)] ?_
 refine qL .seq 14 (sq 10 17) 3 b1 7 7 (.I r.kk) (H.cells 1 rfl) ?_
 refine qP 1 (sq 11 17) [(2, .P b1 0), (4, .P b3 0), (12, .agg #[.int .u64 r.object.version, .I i, .int .u64 r.object.epoch]), (14, .I r.kk), (15, .P b1 8)] ?_
 refine qL .seq 16 (sq 12 17) 3 b1 8 8 (.I r.nn) (H.cells 1 rfl) ?_
 refine qP 2 (sq 14 17) [(4, .P b3 0), (12, .agg #[.int .u64 r.object.version, .I i, .int .u64 r.object.epoch]), (14, .I r.kk), (16, .I r.nn), (18, .P b1 2)] ?_
 refine qL .seq 19 (sq 15 17) 3 b1 2 2 (.I r.object.size) (H.cells 1 rfl) ?_
 refine qP 1 (sq 16 17) [(4, .P b3 0), (20, .agg #[.int .u64 r.object.version, .I i, .int .u64 r.object.epoch, .I r.kk, .I r.nn, .I r.object.size, .int .u32 0])] ?_
 refine qW 84 b3 0 (sq 17 17) (.agg #[.int .u64 r.object.version, .I i, .int .u64 r.object.epoch, .I r.kk, .I r.nn, .I r.object.size, .int .u32 0]) [(b3, .cells #[.int .u64 r.object.version, .I i, .int .u64 r.object.epoch, .I r.kk, .I r.nn, .I r.object.size, .int .u32 0] 84 (0, 0)), (b1, .cells (rdV r a6rO k6rO a3r k3r a4r k4r).toArray 30 (0, 0))] H 0 rfl rfl ?_
 intro w5 H
 refine qF 0 [(4, .P b3 0)] ?_
 refine qRB (.agg #[.int .u64 r.object.version, .I i, .int .u64 r.object.epoch, .I r.kk, .I r.nn, .I r.object.size, .int .u32 0]) Tryz.func31 (v1 (.cell 4 84) (vC (H.cells 0 rfl))) ?_
 exact ⟨_, rfl, H.done, rfl⟩
theorem open_spec {S : Nat → Prop} {w : World} {r : Rd} {cs : List Value} (hr : rdS.rep S w cs r) (i : Int) :
 Calls Tryz.prog 17 #[.agg cs.toArray, .I i] w (Ret fun v w' => Ext w w' ∧ v = .bool (openR r i)) := by
 obtain ⟨cs0r, a3r, k3r, a4r, k4r, rfl, h0r, h1r, h2r, h3r, h4r, h5r, h6r, h7r⟩ := rd_open hr
 obtain ⟨a6rO, k6rO, rfl, h0rO, h1rO, h2rO, h4rO, h5rO, h6rO⟩ := obj_open h0r
 refine qS (fn := Tryz.f17) (n := 17) (σ := [(0, .agg (rdV r a6rO k6rO a3r k3r a4r k4r).toArray), (1, .I i)]) Tryz.func17 ?_
 have H := Hp.startF (w := w) (S := S) (G := [Rp Li [.slice a6rO r.object.nodes.length k6rO] r.object.nodes, Rp (Shape.slice pcS) [.slice a3r r.pieces.length k3r] r.pieces, Rp Li [.slice a4r r.bad.length k4r] r.bad]) (.rp h6rO (.rp h3r (.rp h4r .nil)))
 refine qR 1 [.c [0], .c [1]] [(0, .agg (rdV r a6rO k6rO a3r k3r a4r k4r).toArray), (1, .I i)] ?_
 refine qG (sq 0 3) ?_
 refine qB .seq 2 (sq 1 3) ((rdV r a6rO k6rO a3r k3r a4r k4r).toArray) 30 H ?_
 intro b1 w2 H
 refine qB .seq 3 (sq 2 3) #[.I i] 3 H ?_
 intro b3 w4 H
 refine qF 1 [(2, .P b1 0), (3, .P b3 0)] ?_
 refine qR 1 [.c [1, 0], .c [2]] [(2, .P b1 0), (3, .P b3 0)] ?_
 refine qG (sq 0 13) ?_
 refine qP 1 (sq 1 13) [(2, .P b1 0), (3, .P b3 0), (5, .P b1 10)] ?_
 refine qL .seq 6 (sq 2 13) 24 b1 10 10 (.slice a4r r.bad.length k4r) (H.cells 1 rfl) ?_
 refine qL .seq 7 (sq 3 13) 3 b3 0 0 (.I i) (H.cells 0 rfl) ?_
 refine qK .seq (some 8) (sq 4 13) 32 #[.slice a4r r.bad.length k4r, .I i] (contains_spec i (H.rp 2 rfl)) ?_
 rintro _ w5 hE6 rfl
 have H := H.ext hE6
 refine qP 2 (sq 6 13) [(2, .P b1 0), (3, .P b3 0), (10, .bool (!(decide (i ∈ r.bad))))] ?_
 refine RW.test (fun b_ => [(2, .P b1 0), (3, .P b3 0), (10, .bool b_)]) (!(decide (i ∈ r.bad))) (fun h7 => ?_) (fun h7 => ?_)
 ·
  replace h7 : (decide (i ∈ r.bad)) = false := by revert h7; cases (decide (i ∈ r.bad)) <;> simp
  replace h7 := of_decide_eq_false h7
  refine qP 1 (sq 7 13) [(3, .P b3 0), (10, .bool true), (11, .P b1 9)] ?_
  refine qL .seq 12 (sq 8 13) 27 b1 9 9 (.slice a3r r.pieces.length k3r) (H.cells 1 rfl) ?_
  refine qP 1 (sq 9 13) [(10, .bool true), (12, .slice a3r r.pieces.length k3r), (13, .func (.func 34) #[] #[.P b3 0])] ?_
  refine qK .seq (some 14) (sq 10 13) 33 #[.slice a3r r.pieces.length k3r, .func (.func 34) #[] #[.P b3 0]] (pccontains_spec (ps := r.pieces) (H.viewF 1 rfl) (H.viewM 0 rfl (by simp))) ?_
  rintro _ w8 hE9 rfl
  have H := H.ext hE9
  refine qF 3 [(4, .bool (!(decide (i ∈ r.pieces.map Pc.index))))] ?_
  refine qT (.bool (!(decide (i ∈ r.pieces.map Pc.index)))) Tryz.func17 ?_
  refine ⟨_, rfl, H.done, ?_⟩
  congr 1
  unfold openR
  simp [*]
 ·
  replace h7 : (decide (i ∈ r.bad)) = true := by revert h7; cases (decide (i ∈ r.bad)) <;> simp
  replace h7 := of_decide_eq_true h7
  refine qF 7 [(4, .bool false)] ?_
  refine qT (.bool false) Tryz.func17 ?_
  refine ⟨_, rfl, H.done, ?_⟩
  congr 1
  unfold openR
  simp [*]
end Go.Proofs.YtppcdmbkgficiaaGreat
