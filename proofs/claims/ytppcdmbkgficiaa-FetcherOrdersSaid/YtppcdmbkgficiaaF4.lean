import Derived.Test.YtppcdmbkgficiaaF3
namespace Go.Proofs.Ytppcdmbkgficiaa
open Go.BX

/-- a read of one object, with whole pieces of it -/
structure RdOf (xs : List (BitVec 8)) (k n : Nat) (r : Rd) : Prop where
 kk : r.kk = (k : Int)
 nn : r.nn = (n : Int)
 size : r.object.size = (xs.length : Int)
 sum : r.object.sum = crcF xs
 nodes : r.object.nodes.length = n
 of : Of xs k n r.pieces
 hk : 1 ≤ k
 hkn : k ≤ n
 hn : n ≤ 255
 hs : xs.length ≤ 65536
def leftTo (bad : List Int) (n : Nat) : Nat := ((List.range n).filter fun j : Nat => decide (¬ (j : Int) ∈ bad)).length
theorem leftTo_yes {bad : List Int} {i : Nat} (h : ¬ (i : Int) ∈ bad) : leftTo bad i + 1 = leftTo bad (i + 1) := by
 unfold leftTo
 rw [List.range_succ, List.filter_append]
 simp [List.filter_cons, h]
theorem leftTo_no {bad : List Int} {i : Nat} (h : (i : Int) ∈ bad) : leftTo bad i = leftTo bad (i + 1) := by
 unfold leftTo
 rw [List.range_succ, List.filter_append]
 simp [List.filter_cons, h]
theorem leftTo_le (bad : List Int) (i : Nat) : leftTo bad i ≤ i := by
 have := List.length_filter_le (fun j : Nat => decide (¬ (j : Int) ∈ bad)) (List.range i)
 rwa [List.length_range] at this
def judgeR (r : Rd) : Int := if r.kk ≤ (r.pieces.length : Int) then 1 else if ((leftTo r.bad r.nn.toNat : Nat) : Int) < r.kk then 2 else 0

theorem bytes_ok {S : Nat → Prop} {w : World} {r : Rd} {cs : List Value} (hr : rdS.rep S w cs r) {xs : List (BitVec 8)} {k n : Nat} (hR : RdOf xs k n r) (hlen : k ≤ r.pieces.length) :
 Calls Try.prog 49 #[.agg cs.toArray] w (Ret fun v w' => Ext w w' ∧ ∃ (a : Option Addr) (c : Nat), v = .tuple #[.slice a xs.length c, .I 0] ∧ SB.rep (Nw S w) w' [.slice a xs.length c] xs) := by
 obtain ⟨cs0r, a3r, k3r, a4r, k4r, rfl, h0r, h1r, h2r, h3r, h4r, h5r, h6r, h7r⟩ := rd_open hr
 obtain ⟨a6robject, k6robject, rfl, h0robject, h1robject, h2robject, h4robject, h5robject, h6robject⟩ := obj_open h0r
 have hsz := hR.hs
 refine qS (fn := Try.f49) (n := 31) (σ := [(0, .agg (rdV r a6robject k6robject a3r k3r a4r k4r).toArray)]) Try.func49 ?_
 have H := Hp.startF (w := w) (S := S) (G := [Rp (Shape.slice (Shape.int .i64)) [.slice a6robject r.object.nodes.length k6robject] r.object.nodes, Rp (Shape.slice pcS) [.slice a3r r.pieces.length k3r] r.pieces, Rp (Shape.slice (Shape.int .i64)) [.slice a4r r.bad.length k4r] r.bad]) (.rp h6robject (.rp h3r (.rp h4r .nil)))
 refine qR 1 [.c [0], .c [1]] [(0, .agg (rdV r a6robject k6robject a3r k3r a4r k4r).toArray)] ?_
 refine qG (sq 0 3) ?_
 refine qB .seq 1 (sq 1 3) ((rdV r a6robject k6robject a3r k3r a4r k4r).toArray) 107 H ?_
 intro b1 w2 H
 refine qF 2 [(1, .P b1 0)] ?_
 refine qR 1 [.c [1, 0], .c [2]] [(1, .P b1 0)] ?_
 refine qG (sq 0 15) ?_
 refine qP 1 (sq 1 15) [(1, .P b1 0), (7, .P b1 9)] ?_
 refine qL .seq 8 (sq 2 15) 70 b1 9 9 (.slice a3r r.pieces.length k3r) (H.cells 0 rfl) ?_
 refine qP 2 (sq 4 15) [(1, .P b1 0), (8, .slice a3r r.pieces.length k3r), (10, .P b1 2)] ?_
 refine qL .seq 11 (sq 5 15) 3 b1 2 2 (.I r.object.size) (H.cells 0 rfl) ?_
 refine qP 1 (sq 6 15) [(1, .P b1 0), (8, .slice a3r r.pieces.length k3r), (11, .I r.object.size), (12, .P b1 7)] ?_
 refine qL .seq 13 (sq 7 15) 3 b1 7 7 (.I r.kk) (H.cells 0 rfl) ?_
 refine qP 1 (sq 8 15) [(1, .P b1 0), (8, .slice a3r r.pieces.length k3r), (11, .I r.object.size), (13, .I r.kk), (14, .P b1 8)] ?_
 refine qL .seq 15 (sq 9 15) 3 b1 8 8 (.I r.nn) (H.cells 0 rfl) ?_
 rw [hR.size, hR.kk, hR.nn]
 have hlk4 : k ≤ (r.pieces).length := by omega
 refine qK .seq (some 16) (sq 10 15) 31 #[.slice a3r r.pieces.length k3r, .I ((xs.length : Nat) : Int), .I k, .I n] (decode_ok (S := Av S w [] (idsOf [(b1, .cells (rdV r a6robject k6robject a3r k3r a4r k4r).toArray 107 (0, 0))] [])) (ps := r.pieces) (H.rp 1 rfl) (size := xs.length) (k := k) (n := n) (by omega) hR.hk hR.hkn hR.hn (hR.of.ok hR.hk hR.hkn) hlk4 (any_reg hlk4 hR.hkn hR.hn (hR.of.ok hR.hk hR.hkn))) ?_
 rintro _ w3 hE7 ⟨a5, c6, ys9, rfl, hys10, hord11, hr8⟩
 rw [objL_of (hR.of.perm hys10) hR.hk (by rw [hys10.length_eq]; exact hlk4) hR.hkn hR.hn] at hr8 ⊢
 have H := H.addN hE7 (F := Rp SB [.slice a5 xs.length c6] xs) hr8
 refine qF 5 [(1, .P b1 0), (4, .slice a5 xs.length c6), (5, .I 0)] ?_
 refine qR 2 [.c [2, 0, 0], .c [2, 0, 1], .c [3]] [(1, .P b1 0), (4, .slice a5 xs.length c6), (5, .I 0)] ?_
 refine WK.draw1 10 [(0, .qui), (1, .qui), (2, .qui), (3, .qui), (5, .qui), (6, .qui), (7, .qui), (4, .chn), (8, .qui), (9, .qui)] [(0, .qui), (1, .qui), (2, .qui), (3, .qui), (5, .qui), (6, .qui), (7, .qui), (4, .chn), (8, .qui), (9, .qui)] Try_mixed (by as_aux_lemma => kernel_rfl) (by as_aux_lemma => kernel_rfl) (by as_aux_lemma => kernel_rfl) ?_
 have H := H.draw
 generalize ({ w3 with drawn := w3.drawn + 1 } : World) = w12 at H ⊢
 refine qP 6 [(7, .qui), (4, .chn), (8, .qui), (9, .qui)] [(4, .slice a5 xs.length c6), (5, .I 0), (21, .bool true), (22, .slice a5 xs.length c6), (25, .P b1 3)] ?_
 refine qL .qui 26 [(4, .chn), (8, .qui), (9, .qui)] 51 b1 3 3 (.int .u32 ((r.object.sum.toNat : Nat) : Int)) (H.cells 0 rfl) ?_
 refine qK .chn (some 23) (qs [8, 9]) 74 #[.slice a5 xs.length c6] (crc_spec (H.rp 0 rfl)) ?_
 rintro _ w13 hE14 rfl
 have H := H.ext hE14
 refine qF 2 [(4, .slice a5 xs.length c6), (5, .I 0), (28, .bool ((((crcF xs).toNat : Nat) : Int) != ((r.object.sum.toNat : Nat) : Int)))] ?_
 refine qN (((crcF xs).toNat : Nat) : Int) ((r.object.sum.toNat : Nat) : Int) (fun h15 => ?_) (fun h15 => ?_)
 ·
  exact absurd (by rw [hR.sum]) h15
 ·
  refine qR 3 [.c [4]] [(2, .slice a5 xs.length c6), (3, .I 0)] ?_
  refine qT (.tuple #[.slice a5 xs.length c6, .I 0]) Try.func49 ?_
  exact ⟨_, rfl, H.done, _, _, rfl, H.out (H.rp 0 rfl)⟩

theorem bytes_few {S : Nat → Prop} {w : World} {r : Rd} {cs : List Value} (hr : rdS.rep S w cs r) {xs : List (BitVec 8)} {k n : Nat} (hR : RdOf xs k n r) (hlen : r.pieces.length < k) :
 Calls Try.prog 49 #[.agg cs.toArray] w (Ret fun v w' => Ext w w' ∧ v = .tuple #[.slice none 0 0, .I 30]) := by
 obtain ⟨cs0r, a3r, k3r, a4r, k4r, rfl, h0r, h1r, h2r, h3r, h4r, h5r, h6r, h7r⟩ := rd_open hr
 obtain ⟨a6robject, k6robject, rfl, h0robject, h1robject, h2robject, h4robject, h5robject, h6robject⟩ := obj_open h0r
 have hsz := hR.hs
 refine qS (fn := Try.f49) (n := 31) (σ := [(0, .agg (rdV r a6robject k6robject a3r k3r a4r k4r).toArray)]) Try.func49 ?_
 have H := Hp.startF (w := w) (S := S) (G := [Rp (Shape.slice (Shape.int .i64)) [.slice a6robject r.object.nodes.length k6robject] r.object.nodes, Rp (Shape.slice pcS) [.slice a3r r.pieces.length k3r] r.pieces, Rp (Shape.slice (Shape.int .i64)) [.slice a4r r.bad.length k4r] r.bad]) (.rp h6robject (.rp h3r (.rp h4r .nil)))
 refine qR 1 [.c [0], .c [1]] [(0, .agg (rdV r a6robject k6robject a3r k3r a4r k4r).toArray)] ?_
 refine qG (sq 0 3) ?_
 refine qB .seq 1 (sq 1 3) ((rdV r a6robject k6robject a3r k3r a4r k4r).toArray) 107 H ?_
 intro b1 w2 H
 refine qF 2 [(1, .P b1 0)] ?_
 refine qR 1 [.c [1, 0], .c [2]] [(1, .P b1 0)] ?_
 refine qG (sq 0 15) ?_
 refine qP 1 (sq 1 15) [(1, .P b1 0), (7, .P b1 9)] ?_
 refine qL .seq 8 (sq 2 15) 70 b1 9 9 (.slice a3r r.pieces.length k3r) (H.cells 0 rfl) ?_
 refine qP 2 (sq 4 15) [(1, .P b1 0), (8, .slice a3r r.pieces.length k3r), (10, .P b1 2)] ?_
 refine qL .seq 11 (sq 5 15) 3 b1 2 2 (.I r.object.size) (H.cells 0 rfl) ?_
 refine qP 1 (sq 6 15) [(1, .P b1 0), (8, .slice a3r r.pieces.length k3r), (11, .I r.object.size), (12, .P b1 7)] ?_
 refine qL .seq 13 (sq 7 15) 3 b1 7 7 (.I r.kk) (H.cells 0 rfl) ?_
 refine qP 1 (sq 8 15) [(1, .P b1 0), (8, .slice a3r r.pieces.length k3r), (11, .I r.object.size), (13, .I r.kk), (14, .P b1 8)] ?_
 refine qL .seq 15 (sq 9 15) 3 b1 8 8 (.I r.nn) (H.cells 0 rfl) ?_
 rw [hR.size, hR.kk, hR.nn]
 refine qK .seq (some 16) (sq 10 15) 31 #[.slice a3r r.pieces.length k3r, .I ((xs.length : Nat) : Int), .I k, .I n] (decode_few (S := fun _ => True) (ps := r.pieces) (H.viewF 1 rfl) (size := xs.length) (k := k) (n := n) (by omega) hR.hk hR.hkn hR.hn (hR.of.ok hR.hk hR.hkn) (by omega)) ?_
 rintro _ w3 hE4 rfl
 have H := H.ext hE4
 refine qF 5 [(1, .P b1 0), (4, .slice none 0 0), (5, .I 30)] ?_
 refine qR 2 [.c [2, 0, 0], .c [2, 0, 1], .c [3]] [(1, .P b1 0), (4, .slice none 0 0), (5, .I 30)] ?_
 refine WK.draw1 10 [(0, .qui), (1, .qui), (2, .qui), (3, .qui), (5, .qui), (6, .qui), (7, .qui), (4, .chn), (8, .qui), (9, .qui)] [(0, .qui), (1, .qui), (2, .qui), (3, .qui), (5, .qui), (6, .qui), (7, .qui), (4, .chn), (8, .qui), (9, .qui)] Try_mixed (by as_aux_lemma => kernel_rfl) (by as_aux_lemma => kernel_rfl) (by as_aux_lemma => kernel_rfl) ?_
 have H := H.draw
 generalize ({ w3 with drawn := w3.drawn + 1 } : World) = w5 at H ⊢
 refine qF 10 [(4, .slice none 0 0), (5, .I 30), (28, .bool false)] ?_
 refine qR 4 [.c [4]] [(2, .slice none 0 0), (3, .I 30)] ?_
 refine qT (.tuple #[.slice none 0 0, .I 30]) Try.func49 ?_
 exact ⟨_, rfl, H.done, rfl⟩

theorem judge_spec {S : Nat → Prop} {w : World} {r : Rd} {cs : List Value} (hr : rdS.rep S w cs r) {xs : List (BitVec 8)} {k n : Nat} (hR : RdOf xs k n r) :
 Calls Try.prog 85 #[.agg cs.toArray] w (Ret fun v w' => Ext w w' ∧ v = .I (judgeR r)) := by
 obtain ⟨cs0r, a3r, k3r, a4r, k4r, rfl, h0r, h1r, h2r, h3r, h4r, h5r, h6r, h7r⟩ := rd_open hr
 obtain ⟨a6robject, k6robject, rfl, h0robject, h1robject, h2robject, h4robject, h5robject, h6robject⟩ := obj_open h0r
 have hkk := hR.kk
 have hnn := hR.nn
 have hn9 := hR.hn
 refine qS (fn := Try.f85) (n := 37) (σ := [(0, .agg (rdV r a6robject k6robject a3r k3r a4r k4r).toArray)]) Try.func85 ?_
 have H := Hp.startF (w := w) (S := S) (G := [Rp (Shape.slice (Shape.int .i64)) [.slice a6robject r.object.nodes.length k6robject] r.object.nodes, Rp (Shape.slice pcS) [.slice a3r r.pieces.length k3r] r.pieces, Rp (Shape.slice (Shape.int .i64)) [.slice a4r r.bad.length k4r] r.bad]) (.rp h6robject (.rp h3r (.rp h4r .nil)))
 refine qR 1 [.c [0], .c [1]] [(0, .agg (rdV r a6robject k6robject a3r k3r a4r k4r).toArray)] ?_
 refine qG (sq 0 2) ?_
 refine qB .seq 1 (sq 1 2) ((rdV r a6robject k6robject a3r k3r a4r k4r).toArray) 107 H ?_
 intro b1 w2 H
 refine qF 1 [(1, .P b1 0)] ?_
 refine qR 2 [.c [1, 0, 0], .c [1, 0, 1], .c [2]] [(1, .P b1 0)] ?_
 refine qG (sq 0 6) ?_
 refine qP 1 (sq 1 6) [(1, .P b1 0), (7, .P b1 9)] ?_
 refine qL .seq 8 (sq 2 6) 70 b1 9 9 (.slice a3r r.pieces.length k3r) (H.cells 0 rfl) ?_
 refine qP 2 (sq 4 6) [(1, .P b1 0), (9, .I ((r.pieces.length : Nat) : Int)), (10, .P b1 7)] ?_
 refine qL .seq 11 (sq 5 6) 3 b1 7 7 (.I r.kk) (H.cells 0 rfl) ?_
 refine qF 1 [(1, .P b1 0), (12, .bool (decide ((((r.pieces.length : Nat) : Int) : Int) ≥ r.kk)))] ?_
 refine qD ((((r.pieces.length : Nat) : Int) : Int) ≥ r.kk) (fun h3 => ?_) (fun h3 => ?_)
 ·
  refine qR 2 [.c [1, 0, 1, 0, 0, 0], .c [1, 0, 1, 0, 0, 1], .c [1, 0, 1, 0, 1], .c [2]] [(1, .P b1 0)] ?_
  refine qG (sq 0 7) ?_
  refine qL .seq 14 (sq 1 7) 107 b1 0 0 (.agg (rdV r a6robject k6robject a3r k3r a4r k4r).toArray) (H.cells 0 rfl) ?_
  refine qK .seq (some 15) (sq 2 7) 49 #[.agg (rdV r a6robject k6robject a3r k3r a4r k4r).toArray] (bytes_ok (r := r) (rd_mkB (by unfold rdB; omega) (H.rp 0 rfl) (H.rp 1 rfl) (H.rp 2 rfl)) (hR) (by omega)) ?_
  rintro _ w4 hE7 ⟨a5, c6, rfl, hr8⟩
  have H := H.addN hE7 (F := Rp SB [.slice a5 xs.length c6] xs) hr8
  refine qF 5 [(4, .I 0)] ?_
  refine qR 5 [.c [1, 0, 1, 0, 0, 2, 0, 1], .c [1, 0, 1, 0, 1], .c [2]] [(2, .I 1)] ?_
  refine qT (.I 1) Try.func85 ?_
  refine ⟨_, rfl, H.done, ?_⟩
  congr 1
  symm
  unfold judgeR
  clear H
  rw [if_pos (by omega)]
 ·
  refine qR 5 [.c [3, 0, 0], .c [3, 0, 1], .c [4]] [(1, .P b1 0), (5, .I 0)] ?_
  refine qG (sq 0 3) ?_
  refine qP 1 (sq 1 3) [(1, .P b1 0), (5, .I 0), (20, .P b1 8)] ?_
  refine qL .seq 21 (sq 2 3) 3 b1 8 8 (.I r.nn) (H.cells 0 rfl) ?_
  refine qF 1 [(1, .P b1 0), (5, .I 0), (21, .I r.nn), (22, .I 0)] ?_
  refine qR 1 [.c [3, 0, 1, 0], .b 0, .c [4]] [(1, .P b1 0), (5, .I 0), (21, .I r.nn), (22, .I 0)] ?_
  refine WK.loop (α := Nat) (b := cd Try.prog 85 [3, 0, 1, 0, 0]) (by as_aux_lemma => kernel_rfl) (fun i => [(1, .P b1 0), (5, .I ((leftTo r.bad i : Nat) : Int)), (21, .I r.nn), (22, .I i)]) (fun i w' => Hp w S [] [(b1, .cells (rdV r a6robject k6robject a3r k3r a4r k4r).toArray 107 (0, 0))] [] [Rp (Shape.slice (Shape.int .i64)) [.slice a6robject r.object.nodes.length k6robject] r.object.nodes, Rp (Shape.slice pcS) [.slice a3r r.pieces.length k3r] r.pieces, Rp (Shape.slice (Shape.int .i64)) [.slice a4r r.bad.length k4r] r.bad] w' ∧ i ≤ n) (fun i => n - i) 0 ⟨H, Nat.zero_le _⟩ (by rfl) ?_
  rintro i w10 ⟨H, hinv0⟩ hback9
  have hll := leftTo_le r.bad i
  refine qR 3 [.c [3, 0, 1, 0, 0, 1, 0], .c [3, 0, 1, 0, 0, 2], .l [3, 0, 1, 0, 0], .b 0, .c [4]] [(1, .P b1 0), (5, .I ((leftTo r.bad i : Nat) : Int)), (21, .I r.nn), (22, .I i), (23, .bool (decide (((i : Int) : Int) < r.nn)))] ?_
  refine qD (((i : Int) : Int) < r.nn) (fun h11 => ?_) (fun h11 => ?_)
  ·
   refine qR 6 [.c [3, 0, 1, 0, 0, 2, 0, 0, 1, 0], .c [3, 0, 1, 0, 0, 2, 0, 0, 2], .b 1, .c [3, 0, 1, 0, 0, 3], .l [3, 0, 1, 0, 0], .b 0, .c [4]] [(1, .P b1 0), (5, .I ((leftTo r.bad i : Nat) : Int)), (6, .I i), (21, .I r.nn), (22, .I i)] ?_
   refine qG (sq 0 5) ?_
   refine qP 1 (sq 1 5) [(1, .P b1 0), (5, .I ((leftTo r.bad i : Nat) : Int)), (6, .I i), (21, .I r.nn), (22, .I i), (25, .P b1 10)] ?_
   refine qL .seq 26 (sq 2 5) 25 b1 10 10 (.slice a4r r.bad.length k4r) (H.cells 0 rfl) ?_
   refine qP 1 (sq 3 5) [(1, .P b1 0), (5, .I ((leftTo r.bad i : Nat) : Int)), (21, .I r.nn), (22, .I i), (26, .slice a4r r.bad.length k4r), (27, .I i)] ?_
   refine qK .seq (some 28) (sq 4 5) 61 #[.slice a4r r.bad.length k4r, .I i] (contains_spec (i : Int) (H.rp 2 rfl)) ?_
   rintro _ w12 hE13 rfl
   have H := H.ext hE13
   refine qF 1 [(1, .P b1 0), (5, .I ((leftTo r.bad i : Nat) : Int)), (21, .I r.nn), (22, .I i), (29, .bool (!(decide ((i : Int) ∈ r.bad))))] ?_
   refine qC (!(decide ((i : Int) ∈ r.bad))) (fun h14 => ?_) (fun h14 => ?_)
   ·
    replace h14 : (decide ((i : Int) ∈ r.bad)) = false := by revert h14; cases (decide ((i : Int) ∈ r.bad)) <;> simp
    replace h14 := of_decide_eq_false h14
    refine qG (sq 0 3) ?_
    refine qP 1 (sq 1 3) [(1, .P b1 0), (5, .I ((leftTo r.bad i : Nat) : Int)), (21, .I r.nn), (22, .I i), (30, .I ((leftTo r.bad i : Nat) : Int))] ?_
    refine qI .seq 31 (sq 2 3) (((leftTo r.bad i : Nat) : Int) + 1) ?_
    refine qF 1 [(1, .P b1 0), (5, .I (((leftTo r.bad i : Nat) : Int) + 1)), (21, .I r.nn), (22, .I i)] ?_
    refine qR 1 [.c [3, 0, 1, 0, 0, 3], .l [3, 0, 1, 0, 0], .b 0, .c [4]] [(1, .P b1 0), (5, .I (((leftTo r.bad i : Nat) : Int) + 1)), (21, .I r.nn), (22, .I i)] ?_
    refine qG (sq 0 2) ?_
    refine qI .seq 32 (sq 1 2) ((i : Int) + 1) ?_
    refine qF 1 [(1, .P b1 0), (5, .I (((leftTo r.bad i : Nat) : Int) + 1)), (21, .I r.nn), (22, .I ((i : Int) + 1))] ?_
    exact WK.back (hback9 (i + 1) _ ⟨H, by omega⟩ (by first | omega | (simp only []; omega))) (by first | (rw [← leftTo_yes (by assumption)]; rfl) | (rw [← leftTo_no (by assumption)]; rfl))
   ·
    replace h14 : (decide ((i : Int) ∈ r.bad)) = true := by revert h14; cases (decide ((i : Int) ∈ r.bad)) <;> simp
    replace h14 := of_decide_eq_true h14
    refine qR 2 [.c [3, 0, 1, 0, 0, 3], .l [3, 0, 1, 0, 0], .b 0, .c [4]] [(1, .P b1 0), (5, .I ((leftTo r.bad i : Nat) : Int)), (21, .I r.nn), (22, .I i)] ?_
    refine qG (sq 0 2) ?_
    refine qI .seq 32 (sq 1 2) ((i : Int) + 1) ?_
    refine qF 1 [(1, .P b1 0), (5, .I ((leftTo r.bad i : Nat) : Int)), (21, .I r.nn), (22, .I ((i : Int) + 1))] ?_
    exact WK.back (hback9 (i + 1) _ ⟨H, by omega⟩ (by first | omega | (simp only []; omega))) (by first | (rw [← leftTo_yes (by assumption)]; rfl) | (rw [← leftTo_no (by assumption)]; rfl))
  ·
   refine qR 3 [.c [4, 0, 0], .c [4, 0, 1], .c [5]] [(1, .P b1 0), (5, .I ((leftTo r.bad i : Nat) : Int))] ?_
   refine qG (sq 0 4) ?_
   refine qP 2 (sq 2 4) [(33, .I ((leftTo r.bad i : Nat) : Int)), (34, .P b1 7)] ?_
   refine qL .seq 35 (sq 3 4) 3 b1 7 7 (.I r.kk) (H.cells 0 rfl) ?_
   refine qF 1 [(36, .bool (decide ((((leftTo r.bad i : Nat) : Int) : Int) < r.kk)))] ?_
   refine qD ((((leftTo r.bad i : Nat) : Int) : Int) < r.kk) (fun h15 => ?_) (fun h15 => ?_)
   ·
    refine qR 2 [.c [4, 0, 1, 0, 1], .c [5]] [(2, .I 2)] ?_
    refine qT (.I 2) Try.func85 ?_
    refine ⟨_, rfl, H.done, ?_⟩
    congr 1
    symm
    unfold judgeR
    clear H
    have hie : i = n := by omega
    have hnt : r.nn.toNat = n := by omega
    rw [hnt, ← hie]
    rw [if_neg (by omega), if_pos (by omega)]
   ·
    refine qR 3 [.c [6]] [(2, .I 0)] ?_
    refine qT (.I 0) Try.func85 ?_
    refine ⟨_, rfl, H.done, ?_⟩
    congr 1
    symm
    unfold judgeR
    clear H
    have hie : i = n := by omega
    have hnt : r.nn.toNat = n := by omega
    rw [hnt, ← hie]
    rw [if_neg (by omega), if_neg (by omega)]

theorem judgeR_bd (r : Rd) : 0 ≤ judgeR r ∧ judgeR r ≤ 2 := by
 unfold judgeR
 split
 · omega
 · split <;> omega


end Go.Proofs.Ytppcdmbkgficiaa
