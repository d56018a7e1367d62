import Derived.Test.YtppcdmbkgficiaaGreatSBxB
import Derived.Test.YtppcdmbkgficiaaGreatST1
import Derived.Test.YtppcdmbkgficiaaGreatSBxA
namespace Go.Proofs.YtppcdmbkgficiaaGreat
open Go.BX
theorem open1_spec {S : Nat → Prop} {w : World} {p : Pc} {cs : List Value} (hp : pcS.rep S w cs p) {bi : Nat} {i : Int} (hF : (Fc bi 0 [.I i]).p S w) :
 Calls Tryz.prog 34 #[.agg cs.toArray, .P bi 0] w (Ret fun v w' => Ext w w' ∧ v = .bool (decide (p.index = i))) := by
 obtain ⟨a, b, rfl, _, d⟩ := pc_open hp
 refine uS1 Tryz.func34 ?_
 have H := Hp.startF (w := w) (S := S) (G := [Fc bi 0 [.I i], Rp SB [.slice a p.data.length b] p.data]) (.cons hF (.rp d .nil))
 refine uR 1 [.c [0], .c [1]] ?_
 refine qG (sq 0 2) ?_
 refine uC #[.I p.index, .slice a p.data.length b] 64 H ?_
 intro _ _ H
 refine uF 1 ?_
 refine uR 1 [.c [1, 0], .c [2]] ?_
 refine qG (sq 0 5) ?_
 refine uP 1 ?_
 refine uV 3 0 (H.cells 0 rfl) ?_
 refine uV 3 0 (H.fc 0 rfl) ?_
 refine uF 2 ?_
 refine qT (.bool (p.index == i)) Tryz.func34 ?_
 refine ⟨_, rfl, H.done, ?_⟩
 congr 1
theorem pcindex_spec {S : Nat → Prop} {w : World} {ps : List Pc} {a : Option Addr} {c : Nat} (h : (Shape.slice pcS).rep S w [.slice a ps.length c] ps) {bi : Nat} {i : Int} (hF : (Fc bi 0 [.I i]).p S w) :
 Calls Tryz.prog 57 #[.slice a ps.length c, .func (.func 34) #[] #[.P bi 0]] w (Ret fun v w' => Ext w w' ∧ ∃ j : Int, v = .I j ∧ (0 ≤ j ↔ i ∈ ps.map Pc.index)) := by
 have hlen := Shape.slice_len h
 refine uS1 Tryz.func57 ?_
 have H := Hp.startF (.rp h (.cons hF .nil))
 refine uR 6 [.c [1, 0, 1, 0], .b 0, .c [2]] ?_
 refine uL (α := Nat) (g := 57) (p := [1, 0, 1, 0, 0]) (fun k => [(0, .slice a ps.length c), (1, .func (.func 34) #[] #[.P bi 0]), (7, .I ((ps.length : Nat) : Int)), (8, .I k)]) (fun k w' => Hp w S [] [] [] [Rp (Shape.slice pcS) [.slice a ps.length c] ps, Fc bi 0 [.I i]] w' ∧ k ≤ ps.length ∧ ∀ j (hj : j < ps.length), j < k → (ps[j]).index ≠ i) (fun k => ps.length - k) 0 ⟨H, Nat.zero_le _, fun j _ hj => absurd hj (Nat.not_lt_zero j)⟩ ?_
 rintro k _ ⟨H, d⟩ f
 refine uR 3 [.c [1, 0, 1, 0, 0, 1, 0], .c [1, 0, 1, 0, 0, 2], .l [1, 0, 1, 0, 0], .b 0, .c [2]] ?_
 refine qD (((k : Int) : Int) < ((ps.length : Nat) : Int)) (fun t => ?_) (fun t => ?_)
 ·
  refine uR 6 [.c [1, 0, 1, 0, 0, 2, 0, 0, 1, 0], .c [1, 0, 1, 0, 0, 2, 0, 0, 2], .b 1, .c [1, 0, 1, 0, 0, 3], .l [1, 0, 1, 0, 0], .b 0, .c [2]] ?_
  refine qG (sq 0 6) ?_
  refine uP 3 ?_
  have q : k < ps.length := by omega
  refine uX 27 (k : Int) H 0 rfl k (by omega) (List.getElem?_eq_getElem q) ?_
  intro _ _ _ r H
  obtain ⟨_, _, rfl, _, m⟩ := pc_open r
  have H := H.addR m
  refine uV 64 0 (H.fc 1 rfl) ?_
  refine uK (open1_spec (p := (ps[k])) (pc_mk i64a (H.rp 0 rfl)) (H.fact 3 rfl)) ?_
  rintro _ _ n rfl
  have H := H.ext n
  refine uF 0 ?_
  refine qD ((ps[k]).index = i) (fun s => ?_) (fun s => ?_)
  ·
   refine uR 2 [.c [1, 0, 1, 0, 0, 2, 0, 0, 2, 0, 1], .b 1, .c [1, 0, 1, 0, 0, 3], .l [1, 0, 1, 0, 0], .b 0, .c [2]] ?_
   refine qT (.I k) Tryz.func57 ?_
   exact ⟨_, rfl, H.done, _, rfl, fun _ => List.mem_map.2 ⟨ps[k], List.getElem_mem (by omega), by assumption⟩, fun _ => by omega⟩
  ·
   refine uR 2 [.c [1, 0, 1, 0, 0, 3], .l [1, 0, 1, 0, 0], .b 0, .c [2]] ?_
   refine qG (sq 0 2) ?_
   refine uI ((k : Int) + 1) ?_
   refine qF 1 [(0, .slice a ps.length c), (1, .func (.func 34) #[] #[.P bi 0]), (7, .I ((ps.length : Nat) : Int)), (8, .I ((k : Int) + 1))] ?_
   have H := H.pick [2, 3] rfl
   exact WK.back (f (k + 1) _ ⟨H, by omega, fun j hj hjk => by
    rcases Nat.lt_or_eq_of_le (Nat.le_of_lt_succ hjk) with o | o
    · exact d.2 j hj o
    · subst o; assumption⟩ (by first | omega | (simp only []; omega))) (by as_aux_lemma => kernel_rfl)
 ·
  refine uR 3 [.c [3]] ?_
  refine qT (.I (-1)) Tryz.func57 ?_
  exact ⟨_, rfl, H.done, _, rfl, fun h => absurd h (by omega), fun hm => by
   obtain ⟨p, hp, e⟩ := List.mem_map.1 hm
   obtain ⟨j, hj, rfl⟩ := List.mem_iff_getElem.1 hp
   exact absurd e (d.2 j hj (by omega))⟩
theorem pccontains_spec {S : Nat → Prop} {w : World} {ps : List Pc} {a : Option Addr} {c : Nat} (h : (Shape.slice pcS).rep S w [.slice a ps.length c] ps) {bi : Nat} {i : Int} (hF : (Fc bi 0 [.I i]).p S w) :
 Calls Tryz.prog 33 #[.slice a ps.length c, .func (.func 34) #[] #[.P bi 0]] w (Ret fun v w' => Ext w w' ∧ v = .bool (decide (i ∈ ps.map Pc.index))) := by
 refine uS1 Tryz.func33 ?_
 have H := Hp.startF (.rp h (.cons hF .nil))
 refine uR 3 [.c [1, 0], .c [2]] ?_
 refine qG (sq 0 5) ?_
 refine uP 2 ?_
 refine uK (pcindex_spec (ps := ps) (H.rp 0 rfl) (H.fact 1 rfl)) ?_
 rintro _ _ d ⟨e, rfl, b⟩
 have H := H.ext d
 refine uF 2 ?_
 refine qT (.bool (decide ((e : Int) ≥ 0))) Tryz.func33 ?_
 refine ⟨_, rfl, H.done, ?_⟩
 congr 1
 exact decide_eq_decide.2 b
theorem clip_pc {S : Nat → Prop} {w : World} {ps : List Pc} {a : Option Addr} {c : Nat} (h : (Shape.slice pcS).rep S w [.slice a ps.length c] ps) :
 Calls Tryz.prog 46 #[.slice a ps.length c] w (Ret fun v w' => Ext w w' ∧ v = .slice a ps.length ps.length) := by
 refine uS1 Tryz.func46 ?_
 have H := Hp.startF (.rp h .nil)
 refine uR 3 [.c [1, 0], .c [2]] ?_
 refine qG (sq 0 7) ?_
 refine uP 5 ?_
 refine RW.clip (κ := .seq) (d := some 8) (r := (sq 6 7)) (T := 27) (e := 64) (sh := pcS) (a := a) (len := ps.length) (cap := c) (k1 := .i64) (t1 := ((ps.length : Nat) : Int)) (k2 := .i64) (t2 := ((ps.length : Nat) : Int)) (by as_aux_lemma => kernel_rfl) (by as_aux_lemma => kernel_rfl) H 0 rfl (by omega) (by omega) ?_
 intro H
 refine uF 1 ?_
 refine qT (.slice a ps.length ps.length) Tryz.func46 ?_
 exact ⟨_, rfl, H.done, rfl⟩
theorem clip_int {S : Nat → Prop} {w : World} {xs : List Int} {a : Option Addr} {c : Nat} (h : (Shape.slice (Shape.int .i64)).rep S w [.slice a xs.length c] xs) :
 Calls Tryz.prog 48 #[.slice a xs.length c] w (Ret fun v w' => Ext w w' ∧ v = .slice a xs.length xs.length) := by
 refine uS1 Tryz.func48 ?_
 have H := Hp.startF (.rp h .nil)
 refine uR 3 [.c [1, 0], .c [2]] ?_
 refine qG (sq 0 7) ?_
 refine uP 5 ?_
 refine RW.clip (κ := .seq) (d := some 8) (r := (sq 6 7)) (T := 24) (e := 3) (sh := (Shape.int .i64)) (a := a) (len := xs.length) (cap := c) (k1 := .i64) (t1 := ((xs.length : Nat) : Int)) (k2 := .i64) (t2 := ((xs.length : Nat) : Int)) (by as_aux_lemma => kernel_rfl) (by as_aux_lemma => kernel_rfl) H 0 rfl (by omega) (by omega) ?_
 intro H
 refine uF 1 ?_
 refine qT (.slice a xs.length xs.length) Tryz.func48 ?_
 exact ⟨_, rfl, H.done, rfl⟩
def rdB (r : Rd) : Prop := r.object.key.size ≤ maxLen ∧ (0 ≤ r.object.version ∧ r.object.version ≤ 18446744073709551615) ∧ (-9223372036854775808 ≤ r.object.size ∧ r.object.size ≤ 9223372036854775807) ∧ (-9223372036854775808 ≤ r.object.group ∧ r.object.group ≤ 9223372036854775807) ∧ (0 ≤ r.object.epoch ∧ r.object.epoch ≤ 18446744073709551615) ∧
 (-9223372036854775808 ≤ r.kk ∧ r.kk ≤ 9223372036854775807) ∧ (-9223372036854775808 ≤ r.nn ∧ r.nn ≤ 9223372036854775807) ∧ (-9223372036854775808 ≤ r.waited ∧ r.waited ≤ 9223372036854775807) ∧ (-9223372036854775808 ≤ r.limit ∧ r.limit ≤ 9223372036854775807) ∧ (-9223372036854775808 ≤ r.done ∧ r.done ≤ 9223372036854775807)
theorem rd_mkB {S : Nat → Prop} {w : World} {r : Rd} (hb : rdB r) {a0 a1 a2 : Option Addr} {k0 k1 k2 : Nat} (h0 : (Shape.slice (Shape.int .i64)).rep S w [.slice a0 r.object.nodes.length k0] r.object.nodes) (h1 : (Shape.slice pcS).rep S w [.slice a1 r.pieces.length k1] r.pieces) (h2 : (Shape.slice (Shape.int .i64)).rep S w [.slice a2 r.bad.length k2] r.bad) :
 rdS.rep S w (rdV r a0 k0 a1 k1 a2 k2) r := by
 obtain ⟨j, ⟨k, a⟩, ⟨l, b⟩, ⟨m, c⟩, ⟨n, d⟩, ⟨o, e⟩, ⟨p, f⟩, ⟨q, g⟩, ⟨s, h⟩, ⟨t, i⟩⟩ := hb
 exact rd_mk (y0 := r.object) (obj_mk (y0 := r.object.key) (y1 := r.object.version) (y2 := r.object.size) (y3 := r.object.sum) (y4 := r.object.group) (y5 := r.object.epoch) (y6 := r.object.nodes) ⟨rfl, j⟩ (Shape.u64_in k a) (Shape.i64_in l b) Shape.bv_mk (Shape.i64_in m c) (Shape.u64_in n d) h0) (Shape.i64_in o e) (Shape.i64_in p f) h1 h2 (Shape.i64_in q g) (Shape.i64_in s h) (Shape.i64_in t i)
def okZ (size k n : Int) : Prop := 0 ≤ size ∧ size ≤ 65536 ∧ 1 ≤ k ∧ k ≤ n ∧ n ≤ 255
instance (size k n : Int) : Decidable (okZ size k n) := by unfold okZ; infer_instance
def lzI (size k n : Int) : Int := if okZ size k n then ((lenOf size.toNat k.toNat : Nat) : Int) else 0
def ezI (size k n : Int) : Int := if okZ size k n then 0 else 2
theorem ez_ok {size k n : Int} (h : ezI size k n = 0) : okZ size k n := Classical.byContradiction fun hn => by
 unfold ezI at h
 rw [if_neg hn] at h
 cases h
theorem sizes_gen {S : Nat → Prop} {w : World} (size k n : Int) : Calls Tryz.prog 62 #[.I size, .I k, .I n] w (Ret fun v w' => Ext w w' ∧ v = .tuple #[.I (lzI size k n), .I (ezI size k n)]) := by
 by_cases h : okZ size k n
 · have a := h
   unfold okZ at a
   obtain ⟨size, rfl⟩ : ∃ m : Nat, size = (m : Int) := ⟨size.toNat, by omega⟩
   obtain ⟨k, rfl⟩ : ∃ m : Nat, k = (m : Int) := ⟨k.toNat, by omega⟩
   obtain ⟨n, rfl⟩ : ∃ m : Nat, n = (m : Int) := ⟨n.toNat, by omega⟩
   unfold lzI ezI
   rw [if_pos h, if_pos h]
   exact sizes_ok (S := S) size k n (by omega) (by omega) (by omega) (by omega)
 · unfold lzI ezI
   rw [if_neg h, if_neg h]
   exact sizes_bad (S := S) size k n h
def wholeE (h : Hdr) (data : List (BitVec 8)) : Int :=
 if ezI h.size h.kk h.nn ≠ 0 ∨ ¬ (0 ≤ h.id.index ∧ h.id.index ≤ h.nn - 1) then 2 else
 if ((data.length : Nat) : Int) ≠ lzI h.size h.kk h.nn then 31 else
 if (((crcF data).toNat : Nat) : Int) ≠ ((h.sum.toNat : Nat) : Int) then 92 else 0
theorem whole_spec {S : Nat → Prop} {w : World} {C : Chk} {cs : List Value} (hC : chkS.rep S w cs C) :
 Calls Tryz.prog 45 #[.agg cs.toArray] w (Ret fun v w' => Ext w w' ∧ v = .I (wholeE C.head C.data)) := by
 obtain ⟨_, g, h, rfl, i, j⟩ := chk_open hC
 obtain ⟨_, rfl, d, _, _, _⟩ := hdr_open i
 obtain ⟨rfl, _, _, _⟩ := cid_open d
 refine uS1 Tryz.func45 ?_
 have H := Hp.startF (.rp j .nil)
 refine uR 1 [.c [0], .c [1]] ?_
 refine qG (sq 0 2) ?_
 refine uC ((chkV C g h).toArray) 96 H ?_
 intro p _ H
 refine uF 1 ?_
 refine uR 1 [.c [1, 0], .c [2]] ?_
 refine qG (sq 0 4) ?_
 refine uP 1 ?_
 refine uV 84 0 (H.cells 0 rfl) ?_
 refine uC #[.int .u64 0, .I 0, .int .u64 0, .I 0, .I 0, .I 0, .int .u32 0] 84 H ?_
 intro q _ H
 refine uW 84 0 (hdrV C.head).toArray H 0 rfl ?_
 intro _ H
 refine uF 0 ?_
 refine uR 1 [.c [2, 0], .c [3]] ?_
 refine qG (sq 0 12) ?_
 refine uP 1 ?_
 refine uV 3 5 (H.cells 0 rfl) ?_
 refine uP 1 ?_
 refine uV 3 3 (H.cells 0 rfl) ?_
 refine uP 1 ?_
 refine uV 3 4 (H.cells 0 rfl) ?_
 refine uK (sizes_gen (S := fun _ => True) C.head.size C.head.kk C.head.nn) ?_
 rintro _ _ k rfl
 have H := H.ext k
 refine uF 5 ?_
 refine qR 3 [.c [3, 0, 0, 0], .c [3, 0, 0, 1], .b 0, .c [4]] [(1, .P p 0), (3, .P q 0), (4, .I (lzI C.head.size C.head.kk C.head.nn)), (5, .I (ezI C.head.size C.head.kk C.head.nn))] ?_
 refine qG (sq 0 13) ?_
 refine uP 3 ?_
 refine uN 21 (ezI C.head.size C.head.kk C.head.nn) 0 (fun l => ?_) (fun l => ?_)
 ·
  refine uF 10 ?_
  refine uR 3 [.c [3, 0, 0, 1, 0, 1], .b 0, .c [4]] ?_
  refine qT (.I 2) Tryz.func45 ?_
  refine ⟨_, rfl, H.done, ?_⟩
  congr 1
  symm
  unfold wholeE
  clear H
  rw [if_pos (by omega)]
 ·
  have hokz := ez_ok l
  unfold okZ at hokz
  refine uP 2 ?_
  refine uV 3 1 (H.cells 0 rfl) ?_
  refine uP 1 ?_
  refine uV 3 4 (H.cells 0 rfl) ?_
  refine uI (C.head.nn - 1) ?_
  refine uK (between_spec (S := fun _ => True) C.head.id.index 0 (C.head.nn - 1)) ?_
  rintro _ m e rfl
  have H := H.ext e
  refine uF 3 ?_
  refine qC (!(decide (0 ≤ C.head.id.index ∧ C.head.id.index ≤ C.head.nn - 1))) (fun a => ?_) (fun a => ?_)
  ·
   replace a : (decide (0 ≤ C.head.id.index ∧ C.head.id.index ≤ C.head.nn - 1)) = false := by revert a; cases (decide (0 ≤ C.head.id.index ∧ C.head.id.index ≤ C.head.nn - 1)) <;> simp
   replace a := of_decide_eq_false a
   refine uR 2 [.c [3, 0, 0, 1, 0, 1], .b 0, .c [4]] ?_
   refine qT (.I 2) Tryz.func45 ?_
   refine ⟨_, rfl, H.done, ?_⟩
   congr 1
   symm
   unfold wholeE
   clear H
   rw [if_pos (by omega)]
  ·
   replace a : (decide (0 ≤ C.head.id.index ∧ C.head.id.index ≤ C.head.nn - 1)) = true := by revert a; cases (decide (0 ≤ C.head.id.index ∧ C.head.id.index ≤ C.head.nn - 1)) <;> simp
   replace a := of_decide_eq_true a
   refine uR 1 [.c [3, 0, 0, 1, 1, 0], .c [3, 0, 0, 1, 1, 1], .b 0, .c [4]] ?_
   refine qG (sq 0 6) ?_
   refine uP 1 ?_
   refine uV 62 7 (H.cells 1 rfl) ?_
   refine uF 4 ?_
   refine qN ((C.data.length : Nat) : Int) (lzI C.head.size C.head.kk C.head.nn) (fun n => ?_) (fun n => ?_)
   ·
    refine qR 2 [.c [3, 0, 0, 1, 1, 1, 0, 1], .b 0, .c [4]] [(2, .I 31)] ?_
    refine qT (.I 31) Tryz.func45 ?_
    refine ⟨_, rfl, H.done, ?_⟩
    congr 1
    symm
    unfold wholeE
    clear H
    rw [if_neg (by omega), if_pos (by omega)]
   ·
    refine uR 1 [.c [3, 0, 0, 1, 1, 1, 1, 0], .c [3, 0, 0, 1, 1, 1, 1, 1], .b 0, .c [4]] ?_
    refine WK.draw1 7 [(0, .qui), (1, .qui), (3, .qui), (4, .qui), (2, .chn), (5, .qui), (6, .qui)] [(0, .qui), (1, .qui), (3, .qui), (4, .qui), (2, .chn), (5, .qui), (6, .qui)] Try_mixed (by as_aux_lemma => kernel_rfl) (by as_aux_lemma => kernel_rfl) (by as_aux_lemma => kernel_rfl) ?_
    have H := H.draw
    generalize ({ m with drawn := m.drawn + 1 } : World) = r at H ⊢
    refine uP 1 ?_
    refine uV 62 7 (H.cells 1 rfl) ?_
    refine uP 1 ?_
    refine uV 23 6 (H.cells 0 rfl) ?_
    refine uK (crc_spec (H.rp 0 rfl)) ?_
    rintro _ _ f rfl
    have H := H.ext f
    refine uF 2 ?_
    refine qN (((crcF C.data).toNat : Nat) : Int) ((C.head.sum.toNat : Nat) : Int) (fun o => ?_) (fun o => ?_)
    ·
     refine uR 2 [.c [3, 0, 0, 1, 1, 1, 1, 1, 0, 1], .b 0, .c [4]] ?_
     refine qT (.I 92) Tryz.func45 ?_
     refine ⟨_, rfl, H.done, ?_⟩
     congr 1
     symm
     unfold wholeE
     clear H
     rw [if_neg (by omega), if_neg (by omega), if_pos (by omega)]
    ·
     refine uR 4 [.c [5]] ?_
     refine qT (.I 0) Tryz.func45 ?_
     refine ⟨_, rfl, H.done, ?_⟩
     congr 1
     symm
     unfold wholeE
     clear H
     rw [if_neg (by omega), if_neg (by omega), if_neg (by omega)]
def waitsR (r : Rd) : Bool := ((r.object.nodes.length : Int) == r.nn) && (r.done == 0)
def openR (r : Rd) (i : Int) : Bool := !decide (i ∈ r.bad) && !decide (i ∈ r.pieces.map Pc.index)
def headR (r : Rd) (i : Int) : Hdr := ⟨⟨r.object.version, i, r.object.epoch⟩, r.kk, r.nn, r.object.size, 0#32⟩
theorem waits_spec {S : Nat → Prop} {w : World} {r : Rd} {cs : List Value} (hr : rdS.rep S w cs r) :
 Calls Tryz.prog 44 #[.agg cs.toArray] w (Ret fun v w' => Ext w w' ∧ v = .bool (waitsR r)) := by
 obtain ⟨_, e, f, g, h, rfl, i, _, _, j, k, _, _, _⟩ := rd_open hr
 obtain ⟨a, b, rfl, _, _, _, _, _, d⟩ := obj_open i
 refine uS1 Tryz.func44 ?_
 have H := Hp.startF (.rp d (.rp j (.rp k .nil)))
 refine uR 1 [.c [0], .c [1]] ?_
 refine qG (sq 0 2) ?_
 refine uC ((rdV r a b e f g h).toArray) 30 H ?_
 intro _ _ H
 refine uF 1 ?_
 refine uR 1 [.c [1, 0], .c [2]] ?_
 refine qG (sq 0 13) ?_
 refine uP 2 ?_
 refine uV 24 6 (H.cells 0 rfl) ?_
 refine uP 2 ?_
 refine uV 3 8 (H.cells 0 rfl) ?_
 refine uP 2 ?_
 refine uE 10 ((r.object.nodes.length : Nat) : Int) r.nn (fun l => ?_) (fun l => ?_)
 ·
  refine uP 1 ?_
  refine uV 28 13 (H.cells 0 rfl) ?_
  refine uF 3 ?_
  refine qT (.bool (r.done == 0)) Tryz.func44 ?_
  refine ⟨_, rfl, H.done, ?_⟩
  congr 1
  unfold waitsR
  simp [*]
 ·
  refine uF 5 ?_
  refine qT (.bool false) Tryz.func44 ?_
  refine ⟨_, rfl, H.done, ?_⟩
  congr 1
  unfold waitsR
  simp [*]
theorem head_spec {S : Nat → Prop} {w : World} {r : Rd} {cs : List Value} (hr : rdS.rep S w cs r) (i : Int) :
 Calls Tryz.prog 31 #[.agg cs.toArray, .I i] w (Ret fun v w' => Ext w w' ∧ v = .agg #[.int .u64 r.object.version, .I i, .int .u64 r.object.epoch, .I r.kk, .I r.nn, .I r.object.size, .int .u32 0]) := by
 obtain ⟨_, e, f, g, h, rfl, j, _, _, k, l, _, _, _⟩ := rd_open hr
 obtain ⟨a, b, rfl, _, _, _, _, _, d⟩ := obj_open j
 refine uS1 Tryz.func31 ?_
 have H := Hp.startF (.rp d (.rp k (.rp l .nil)))
 refine uR 1 [.c [0], .c [1]] ?_
 refine qG (sq 0 2) ?_
 refine uC ((rdV r a b e f g h).toArray) 30 H ?_
 intro _ _ H
 refine uC #[.int .u64 0, .I 0, .int .u64 0, .I 0, .I 0, .I 0, .int .u32 0] 84 H ?_
 intro _ _ H
 refine uF 0 ?_
 refine uR 1 [.c [1, 0], .c [2]] ?_
 refine qG (sq 0 17) ?_
 refine uP 2 ?_
 refine uV 22 1 (H.cells 1 rfl) ?_
 refine uP 3 ?_
 refine uV 22 5 (H.cells 1 rfl) ?_
 refine uP 2 ?_
 refine uV 3 7 (H.cells 1 rfl) ?_
 refine uP 1 ?_
 refine uV 3 8 (H.cells 1 rfl) ?_
 refine uP 2 ?_
 refine uV 3 2 (H.cells 1 rfl) ?_
 refine uP 1 ?_
 refine uW 84 0 #[.int .u64 r.object.version, .I i, .int .u64 r.object.epoch, .I r.kk, .I r.nn, .I r.object.size, .int .u32 0] H 0 rfl ?_
 intro _ H
 refine uF 0 ?_
 refine qRB (.agg #[.int .u64 r.object.version, .I i, .int .u64 r.object.epoch, .I r.kk, .I r.nn, .I r.object.size, .int .u32 0]) Tryz.func31 (v1 (.cell 4 84) (vC (H.cells 0 rfl))) ?_
 exact ⟨_, rfl, H.done, rfl⟩
theorem open_spec {S : Nat → Prop} {w : World} {r : Rd} {cs : List Value} (hr : rdS.rep S w cs r) (i : Int) :
 Calls Tryz.prog 17 #[.agg cs.toArray, .I i] w (Ret fun v w' => Ext w w' ∧ v = .bool (openR r i)) := by
 obtain ⟨_, f, g, h, j, rfl, k, _, _, l, m, _, _, _⟩ := rd_open hr
 obtain ⟨b, d, rfl, _, _, _, _, _, e⟩ := obj_open k
 refine uS1 Tryz.func17 ?_
 have H := Hp.startF (.rp e (.rp l (.rp m .nil)))
 refine uR 1 [.c [0], .c [1]] ?_
 refine qG (sq 0 3) ?_
 refine uC ((rdV r b d f g h j).toArray) 30 H ?_
 intro _ _ H
 refine uC #[.I i] 3 H ?_
 intro _ _ H
 refine uF 1 ?_
 refine uR 1 [.c [1, 0], .c [2]] ?_
 refine qG (sq 0 13) ?_
 refine uP 1 ?_
 refine uV 24 10 (H.cells 1 rfl) ?_
 refine uV 3 0 (H.cells 0 rfl) ?_
 refine uK (contains_spec i (H.rp 2 rfl)) ?_
 rintro _ _ n rfl
 have H := H.ext n
 refine uP 2 ?_
 refine uT 10 (!(decide (i ∈ r.bad))) (fun a => ?_) (fun a => ?_)
 ·
  replace a : (decide (i ∈ r.bad)) = false := by revert a; cases (decide (i ∈ r.bad)) <;> simp
  replace a := of_decide_eq_false a
  refine uP 1 ?_
  refine uV 27 9 (H.cells 1 rfl) ?_
  refine uP 1 ?_
  refine uK (pccontains_spec (ps := r.pieces) (H.viewF 1 rfl) (H.viewM 0 rfl (by simp))) ?_
  rintro _ _ o rfl
  have H := H.ext o
  refine uF 3 ?_
  refine qT (.bool (!(decide (i ∈ r.pieces.map Pc.index)))) Tryz.func17 ?_
  refine ⟨_, rfl, H.done, ?_⟩
  congr 1
  unfold openR
  simp [*]
 ·
  replace a : (decide (i ∈ r.bad)) = true := by revert a; cases (decide (i ∈ r.bad)) <;> simp
  replace a := of_decide_eq_true a
  refine uF 7 ?_
  refine qT (.bool false) Tryz.func17 ?_
  refine ⟨_, rfl, H.done, ?_⟩
  congr 1
  unfold openR
  simp [*]
end Go.Proofs.YtppcdmbkgficiaaGreat
