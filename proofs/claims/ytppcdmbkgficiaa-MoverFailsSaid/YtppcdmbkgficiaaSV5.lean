import Derived.Test.YtppcdmbkgficiaaSV4
namespace Go.Proofs.Ytppcdmbkgficiaa
open Go.BX

theorem mfails_bad {S : Nat → Prop} {w : World} {xs : List (BitVec 8)} {a : Option Addr} {c : Nat} (h : SB.rep S w [.slice a xs.length c] xs) (k n fi : Int) (hb : ¬ (1 ≤ k ∧ k ≤ n ∧ n ≤ 12 ∧ xs.length ≤ 2000 ∧ 0 ≤ fi)) :
 Calls Try.prog 17 #[.slice a xs.length c, .I k, .I n, .I fi] w (Ret fun v w' => Ext w w' ∧ v = .bool true) := by
 refine qS (fn := Try.f17) (n := 126) (σ := [(0, .slice a xs.length c), (1, .I k), (2, .I n), (3, .I fi)]) Try.func17 ?_
 have H := Hp.startF (w := w) (S := S) (G := [Rp SB [.slice a xs.length c] xs]) (.rp h .nil)
 refine qR 4 [.c [1, 0, 0], .c [1, 0, 1], .c [2]] [(0, .slice a xs.length c), (1, .I k), (2, .I n), (3, .I fi)] ?_
 refine WK.join (fun b_ : Bool => b_ = decide (k < 1 ∨ k > n ∨ n > 12 ∨ xs.length > 2000 ∨ fi < 0)) (fun b_ => [(0, .slice a xs.length c), (1, .I k), (2, .I n), (3, .I fi), (42, .bool b_)]) [Cq Try.prog 17 [1, 0, 1], Cq Try.prog 17 [2]] (fun hJ1 => ?_) (fun bj2 hbj3 => ?_)
 ·
  refine qG (sq 0 20) ?_
  refine qP 3 (sq 3 20) [(0, .slice a xs.length c), (1, .I k), (2, .I n), (3, .I fi), (25, .bool (decide ((k : Int) < 1)))] ?_
  refine tD (fun b_ => [(0, .slice a xs.length c), (1, .I k), (2, .I n), (3, .I fi), (25, .bool b_)]) ((k : Int) < 1) (fun h4 => ?_) (fun h4 => ?_)
  ·
   refine qF 17 [(0, .slice a xs.length c), (1, .I k), (2, .I n), (3, .I fi), (42, .bool true)] ?_
   exact hJ1 true ((decide_eq_true (by omega)).symm)
  ·
   refine qP 5 (sq 8 20) [(0, .slice a xs.length c), (1, .I k), (2, .I n), (3, .I fi), (30, .bool (decide ((k : Int) > n)))] ?_
   refine tD (fun b_ => [(0, .slice a xs.length c), (1, .I k), (2, .I n), (3, .I fi), (30, .bool b_)]) ((k : Int) > n) (fun h5 => ?_) (fun h5 => ?_)
   ·
    refine qF 12 [(0, .slice a xs.length c), (1, .I k), (2, .I n), (3, .I fi), (42, .bool true)] ?_
    exact hJ1 true ((decide_eq_true (by omega)).symm)
   ·
    refine qP 4 (sq 12 20) [(0, .slice a xs.length c), (1, .I k), (2, .I n), (3, .I fi), (34, .bool (decide ((n : Int) > 12)))] ?_
    refine tD (fun b_ => [(0, .slice a xs.length c), (1, .I k), (2, .I n), (3, .I fi), (34, .bool b_)]) ((n : Int) > 12) (fun h6 => ?_) (fun h6 => ?_)
    ·
     refine qF 8 [(0, .slice a xs.length c), (1, .I k), (2, .I n), (3, .I fi), (42, .bool true)] ?_
     exact hJ1 true ((decide_eq_true (by omega)).symm)
    ·
     refine qP 5 (sq 17 20) [(0, .slice a xs.length c), (1, .I k), (2, .I n), (3, .I fi), (39, .bool (decide ((((xs.length : Nat) : Int) : Int) > 2000)))] ?_
     refine tD (fun b_ => [(0, .slice a xs.length c), (1, .I k), (2, .I n), (3, .I fi), (39, .bool b_)]) ((((xs.length : Nat) : Int) : Int) > 2000) (fun h7 => ?_) (fun h7 => ?_)
     ·
      refine qF 3 [(0, .slice a xs.length c), (1, .I k), (2, .I n), (3, .I fi), (42, .bool true)] ?_
      exact hJ1 true ((decide_eq_true (by omega)).symm)
     ·
      refine qF 3 [(0, .slice a xs.length c), (1, .I k), (2, .I n), (3, .I fi), (42, .bool (decide ((fi : Int) < 0)))] ?_
      exact hJ1 (decide ((fi : Int) < 0)) (decide_eq_decide.2 (by constructor <;> intro _ <;> omega))
 ·
  refine qC bj2 (fun h8 => ?_) (fun h8 => ?_)
  ·
   rw [hbj3] at h8
   replace h8 := of_decide_eq_true h8
   refine qR 1 [.c [1, 0, 1, 0, 0], .c [1, 0, 1, 0, 1], .c [2]] [] ?_
   refine qG (sq 0 2) ?_
   refine qK .seq (some 43) (sq 1 2) 51 #[] (heads22_spec (S := fun _ => True)) ?_
   rintro _ w9 hE10 rfl
   have H := H.ext hE10
   refine qF 1 [(8, .bool true)] ?_
   refine qT (.bool true) Try.func17 ?_
   exact ⟨_, rfl, H.done, rfl⟩
  ·
   rw [hbj3] at h8
   replace h8 := of_decide_eq_false h8
   exact absurd (by omega) hb

set_option maxHeartbeats 4000000 in
theorem mfails_ok {S : Nat → Prop} {w : World} {xs : List (BitVec 8)} {a : Option Addr} {c : Nat} (h : SB.rep S w [.slice a xs.length c] xs) {k n fi : Nat} (hk : 1 ≤ k) (hkn : k ≤ n) (hn : n ≤ 12) (hs : xs.length ≤ 2000) :
 Calls Try.prog 17 #[.slice a xs.length c, .I k, .I n, .I fi] w (Ret fun v w' => Ext w w' ∧ v = .bool true) := by
 obtain ⟨q0, hq0⟩ : ∃ i : Nat, (fi : Int) % (n : Int) = (i : Int) := ⟨fi % n, rfl⟩
 have hl0 : (q0 : Int) < (n : Int) := hq0 ▸ Int.emod_lt_of_pos _ (by omega)
 have hnl : (objOf xs n).nodes.length = n := nodesTo_len n
 refine qS (fn := Try.f17) (n := 126) (σ := [(0, .slice a xs.length c), (1, .I k), (2, .I n), (3, .I fi)]) Try.func17 ?_
 have H := Hp.startF (w := w) (S := S) (G := [Rp SB [.slice a xs.length c] xs]) (.rp h .nil)
 refine qR 4 [.c [1, 0, 0], .c [1, 0, 1], .c [2]] [(0, .slice a xs.length c), (1, .I k), (2, .I n), (3, .I fi)] ?_
 refine qG (sq 0 20) ?_
 refine qP 3 (sq 3 20) [(0, .slice a xs.length c), (1, .I k), (2, .I n), (3, .I fi), (25, .bool (decide (((k : Int) : Int) < 1)))] ?_
 refine tD (fun b_ => [(0, .slice a xs.length c), (1, .I k), (2, .I n), (3, .I fi), (25, .bool b_)]) (((k : Int) : Int) < 1) (fun h1 => ?_) (fun h1 => ?_)
 ·
  omega
 ·
  refine qP 5 (sq 8 20) [(0, .slice a xs.length c), (1, .I k), (2, .I n), (3, .I fi), (30, .bool (decide (((k : Int) : Int) > (n : Int))))] ?_
  refine tD (fun b_ => [(0, .slice a xs.length c), (1, .I k), (2, .I n), (3, .I fi), (30, .bool b_)]) (((k : Int) : Int) > (n : Int)) (fun h2 => ?_) (fun h2 => ?_)
  ·
   omega
  ·
   refine qP 4 (sq 12 20) [(0, .slice a xs.length c), (1, .I k), (2, .I n), (3, .I fi), (34, .bool (decide (((n : Int) : Int) > 12)))] ?_
   refine tD (fun b_ => [(0, .slice a xs.length c), (1, .I k), (2, .I n), (3, .I fi), (34, .bool b_)]) (((n : Int) : Int) > 12) (fun h3 => ?_) (fun h3 => ?_)
   ·
    omega
   ·
    refine qP 5 (sq 17 20) [(0, .slice a xs.length c), (1, .I k), (2, .I n), (3, .I fi), (39, .bool (decide ((((xs.length : Nat) : Int) : Int) > 2000)))] ?_
    refine tD (fun b_ => [(0, .slice a xs.length c), (1, .I k), (2, .I n), (3, .I fi), (39, .bool b_)]) ((((xs.length : Nat) : Int) : Int) > 2000) (fun h4 => ?_) (fun h4 => ?_)
    ·
     omega
    ·
     refine qF 3 [(0, .slice a xs.length c), (1, .I k), (2, .I n), (3, .I fi), (42, .bool (decide (((fi : Int) : Int) < 0)))] ?_
     refine qD (((fi : Int) : Int) < 0) (fun h5 => ?_) (fun h5 => ?_)
     ·
      omega
     ·
      refine qR 2 [.c [2, 0], .c [3]] [(0, .slice a xs.length c), (1, .I k), (2, .I n), (3, .I fi)] ?_
      refine qG (sq 0 12) ?_
      refine qP 3 (sq 3 12) [(1, .I k), (2, .I n), (3, .I fi), (45, .slice a xs.length c), (46, .I k), (47, .I n)] ?_
      refine qK .seq (some 48) (sq 4 12) 52 #[.slice a xs.length c, .I k, .I n] (object22_ok (S := Av S w [] (idsOf [] [])) (xs := xs) (H.rp 0 rfl) (k := k) (n := n) (by omega) (by omega) (by omega) (by omega)) ?_
      rintro _ w6 hE10 ⟨cs7, a8, c9, rfl, hr11, hr12⟩
      have H0s := H
      obtain ⟨a6q13, k6q13, rfl, hf14, hf15, hf16, hf17, hf18, hf19⟩ := obj_open hr11
      have H := H.addN hE10 (F := Rp (Shape.slice chkS) [.slice a8 (chksOf xs k n).length c9] (chksOf xs k n)) hr12
      have H := H.add (F := Rp (Shape.slice (Shape.int .i64)) [.slice a6q13 ((objOf xs n).nodes.length) k6q13] ((objOf xs n).nodes)) ((H0s.addN hE10 (F := Rp (Shape.slice (Shape.int .i64)) [.slice a6q13 ((objOf xs n).nodes.length) k6q13] ((objOf xs n).nodes)) hf19).rp 0 rfl)
      refine qP 4 (sq 8 12) [(1, .I k), (2, .I n), (3, .I fi), (49, .agg (objV (objOf xs n) a6q13 k6q13).toArray), (50, .slice a8 (chksOf xs k n).length c9), (51, .bool true)] ?_
      refine qB .seq 9 (sq 9 12) #[.string (⟨#[]⟩), .int .u64 0, .I 0, .int .u32 0, .I 0, .int .u64 0, .slice none 0 0] 102 H ?_
      intro b20 w21 H
      refine qW 102 b20 0 (sq 10 12) (.agg (objV (objOf xs n) a6q13 k6q13).toArray) [(b20, .cells (objV (objOf xs n) a6q13 k6q13).toArray 102 (0, 0))] H 0 rfl rfl ?_
      intro w22 H
      refine qF 2 [(1, .I k), (2, .I n), (3, .I fi), (9, .P b20 0), (10, .slice a8 (chksOf xs k n).length c9), (11, .bool true)] ?_
      refine qR 1 [.c [3, 0], .c [4]] [(1, .I k), (2, .I n), (3, .I fi), (9, .P b20 0), (10, .slice a8 (chksOf xs k n).length c9), (11, .bool true)] ?_
      refine qG (sq 0 14) ?_
      refine qL .seq 53 (sq 1 14) 102 b20 0 0 (.agg (objV (objOf xs n) a6q13 k6q13).toArray) (H.cells 0 rfl) ?_
      refine qP 3 (sq 4 14) [(1, .I k), (2, .I n), (3, .I fi), (10, .slice a8 (chksOf xs k n).length c9), (11, .bool true), (53, .agg (objV (objOf xs n) a6q13 k6q13).toArray), (54, .I k), (55, .I n), (56, .P b20 6)] ?_
      refine qL .seq 57 (sq 5 14) 25 b20 6 6 (.slice a6q13 ((objOf xs n).nodes.length) k6q13) (H.cells 0 rfl) ?_
      refine qK .seq (some 58) (sq 6 14) 53 #[.agg (objV (objOf xs n) a6q13 k6q13).toArray, .I k, .I n, .slice a6q13 ((objOf xs n).nodes.length) k6q13, .int .u64 3, .I 100] (mbegin_ok (O := (objOf xs n)) (obj_mk (y0 := (objOf xs n).key) (y1 := (objOf xs n).version) (y2 := (objOf xs n).size) (y3 := (objOf xs n).sum) (y4 := (objOf xs n).group) (y5 := (objOf xs n).epoch) (y6 := (objOf xs n).nodes) ⟨rfl, by first | assumption | (simp [maxLen]; done) | decide⟩ u64a i64a Shape.bv_mk i64a u64a (H.rp 0 rfl)) (k : Int) (n : Int) 3 100 (to := (objOf xs n).nodes) (H.rp 0 rfl) (by omega) (okB_begin hk hkn (by omega) (by omega)) (by rw [hnl])) ?_
      rintro _ w23 hE27 ⟨cs24, a25, c26, rfl, hr28, hr29⟩
      have H0s := H
      obtain ⟨s30, hs31⟩ : ∃ s_ : Shf, s_ = mbegR (objOf xs n) (k : Int) (n : Int) ((objOf xs n).nodes) 3 100 := ⟨_, rfl⟩
      rw [← hs31] at hr28
      obtain ⟨cs0q32, a1q32, k1q32, cs3q32, rfl, hf33, hf34, hf35, hf36, hf37⟩ := shf_open hr28
      obtain ⟨cs0q38, a3q38, k3q38, a4q38, k4q38, rfl, hf39, hf40, hf41, hf42, hf43, hf44, hf45, hf46⟩ := rd_open hf33
      obtain ⟨a6q47, k6q47, rfl, hf48, hf49, hf50, hf51, hf52, hf53⟩ := obj_open hf39
      obtain ⟨a3q54, k3q54, a4q54, k4q54, a5q54, k5q54, a6q54, k6q54, rfl, hf55, hf56, hf57, hf58, hf59, hf60, hf61, hf62, hf63, hf64⟩ := wr_open hf36
      have H := H.addN hE27 (F := Rp (Shape.slice msgS) [.slice a25 ((asksR (beginR (objOf xs n) (k : Int) (n : Int) 100)).length) c26] (asksR (beginR (objOf xs n) (k : Int) (n : Int) 100))) hr29
      have H := H.add (F := Rp (Shape.slice (Shape.int .i64)) [.slice a6q47 s30.read.object.nodes.length k6q47] s30.read.object.nodes) ((H0s.addN hE27 (F := Rp (Shape.slice (Shape.int .i64)) [.slice a6q47 s30.read.object.nodes.length k6q47] s30.read.object.nodes) hf53).rp 0 rfl)
      have H := H.add (F := Rp (Shape.slice pcS) [.slice a3q38 s30.read.pieces.length k3q38] s30.read.pieces) ((H0s.addN hE27 (F := Rp (Shape.slice pcS) [.slice a3q38 s30.read.pieces.length k3q38] s30.read.pieces) hf42).rp 0 rfl)
      have H := H.add (F := Rp (Shape.slice (Shape.int .i64)) [.slice a4q38 s30.read.bad.length k4q38] s30.read.bad) ((H0s.addN hE27 (F := Rp (Shape.slice (Shape.int .i64)) [.slice a4q38 s30.read.bad.length k4q38] s30.read.bad) hf43).rp 0 rfl)
      have H := H.add (F := Rp (Shape.slice (Shape.int .i64)) [.slice a1q32 s30.to.length k1q32] s30.to) ((H0s.addN hE27 (F := Rp (Shape.slice (Shape.int .i64)) [.slice a1q32 s30.to.length k1q32] s30.to) hf34).rp 0 rfl)
      have H := H.add (F := Rp (Shape.slice hdrS) [.slice a3q54 s30.write.heads.length k3q54] s30.write.heads) ((H0s.addN hE27 (F := Rp (Shape.slice hdrS) [.slice a3q54 s30.write.heads.length k3q54] s30.write.heads) hf58).rp 0 rfl)
      have H := H.add (F := Rp (Shape.slice SB) [.slice a4q54 s30.write.chunks.length k4q54] s30.write.chunks) ((H0s.addN hE27 (F := Rp (Shape.slice SB) [.slice a4q54 s30.write.chunks.length k4q54] s30.write.chunks) hf59).rp 0 rfl)
      have H := H.add (F := Rp (Shape.slice (Shape.int .i64)) [.slice a5q54 s30.write.nodes.length k5q54] s30.write.nodes) ((H0s.addN hE27 (F := Rp (Shape.slice (Shape.int .i64)) [.slice a5q54 s30.write.nodes.length k5q54] s30.write.nodes) hf60).rp 0 rfl)
      have H := H.add (F := Rp (Shape.slice (Shape.int .i64)) [.slice a6q54 s30.write.acks.length k6q54] s30.write.acks) ((H0s.addN hE27 (F := Rp (Shape.slice (Shape.int .i64)) [.slice a6q54 s30.write.acks.length k6q54] s30.write.acks) hf61).rp 0 rfl)
      refine qP 4 (sq 10 14) [(1, .I k), (2, .I n), (3, .I fi), (10, .slice a8 (chksOf xs k n).length c9), (11, .bool true), (59, .agg (shfV s30 a6q47 k6q47 a3q38 k3q38 a4q38 k4q38 a1q32 k1q32 a3q54 k3q54 a4q54 k4q54 a5q54 k5q54 a6q54 k6q54).toArray), (60, .slice a25 ((asksR (beginR (objOf xs n) (k : Int) (n : Int) 100)).length) c26), (61, .I 0)] ?_
      refine qB .seq 12 (sq 11 14) ((shfZ).toArray) 118 H ?_
      intro b65 w66 H
      refine qW 118 b65 0 (sq 12 14) (.agg (shfV s30 a6q47 k6q47 a3q38 k3q38 a4q38 k4q38 a1q32 k1q32 a3q54 k3q54 a4q54 k4q54 a5q54 k5q54 a6q54 k6q54).toArray) [(b65, .cells (shfV s30 a6q47 k6q47 a3q38 k3q38 a4q38 k4q38 a1q32 k1q32 a3q54 k3q54 a4q54 k4q54 a5q54 k5q54 a6q54 k6q54).toArray 118 (0, 0)), (b20, .cells (objV (objOf xs n) a6q13 k6q13).toArray 102 (0, 0))] H 0 rfl rfl ?_
      intro w67 H
      refine qF 2 [(1, .I k), (2, .I n), (3, .I fi), (10, .slice a8 (chksOf xs k n).length c9), (11, .bool true), (12, .P b65 0), (14, .I 0)] ?_
      refine qR 9 [.c [5, 0, 1, 0], .b 0, .c [6]] [(1, .I k), (2, .I n), (3, .I fi), (10, .slice a8 (chksOf xs k n).length c9), (12, .P b65 0), (15, .I 0)] ?_
      have H := H.pick [7, 6, 5, 4, 3, 2, 1, 0, 10] rfl
      have H := H.drop (M' := [(b65, .cells (shfV s30 a6q47 k6q47 a3q38 k3q38 a4q38 k4q38 a1q32 k1q32 a3q54 k3q54 a4q54 k4q54 a5q54 k5q54 a6q54 k6q54).toArray 118 (0, 0))]) (W' := []) (by repeat (first | exact List.Sublist.refl _ | exact List.nil_sublist _ | apply List.Sublist.cons_cons | apply List.Sublist.cons)) (by repeat (first | exact List.Sublist.refl _ | exact List.nil_sublist _ | apply List.Sublist.cons_cons | apply List.Sublist.cons))
      refine WK.loop (α := Nat × Shf × Option Addr × Nat × Option Addr × Nat × Option Addr × Nat × Option Addr × Nat × Option Addr × Nat × Option Addr × Nat × Option Addr × Nat × Option Addr × Nat) (b := cd Try.prog 17 [5, 0, 1, 0, 0]) (by as_aux_lemma => kernel_rfl) (fun st_ => match st_ with | (x, s, a006q, k006q, a03q, k03q, a04q, k04q, a1q, k1q, a33q, k33q, a34q, k34q, a35q, k35q, a36q, k36q) => [(1, .I k), (2, .I n), (3, .I fi), (10, .slice a8 (chksOf xs k n).length c9), (12, .P b65 0), (15, .I x)]) (fun st_ w' => match st_ with | (x, s, a006q, k006q, a03q, k03q, a04q, k04q, a1q, k1q, a33q, k33q, a34q, k34q, a35q, k35q, a36q, k36q) => Hp w S [] [(b65, .cells (shfV s a006q k006q a03q k03q a04q k04q a1q k1q a33q k33q a34q k34q a35q k35q a36q k36q).toArray 118 (0, 0))] [] [Rp (Shape.slice (Shape.int .i64)) [.slice a006q s.read.object.nodes.length k006q] s.read.object.nodes, Rp (Shape.slice pcS) [.slice a03q s.read.pieces.length k03q] s.read.pieces, Rp (Shape.slice (Shape.int .i64)) [.slice a04q s.read.bad.length k04q] s.read.bad, Rp (Shape.slice (Shape.int .i64)) [.slice a1q s.to.length k1q] s.to, Rp (Shape.slice hdrS) [.slice a33q s.write.heads.length k33q] s.write.heads, Rp (Shape.slice SB) [.slice a34q s.write.chunks.length k34q] s.write.chunks, Rp (Shape.slice (Shape.int .i64)) [.slice a35q s.write.nodes.length k35q] s.write.nodes, Rp (Shape.slice (Shape.int .i64)) [.slice a36q s.write.acks.length k36q] s.write.acks, Rp (Shape.slice chkS) [.slice a8 (chksOf xs k n).length c9] (chksOf xs k n)] w' ∧ x ≤ n - k + 1 ∧ Fv xs k n (tAt q0 n) s x ∧ shB s) (fun st_ => match st_ with | (x, s, a006q, k006q, a03q, k03q, a04q, k04q, a1q, k1q, a33q, k33q, a34q, k34q, a35q, k35q, a36q, k36q) => n - k + 1 - x) (0, s30, a6q47, k6q47, a3q38, k3q38, a4q38, k4q38, a1q32, k1q32, a3q54, k3q54, a4q54, k4q54, a5q54, k5q54, a6q54, k6q54) ⟨H, by omega, hs31 ▸ Fv.begin _ hk hkn (by omega) (by omega) hnl, by unfold shB wrB rdB; omega⟩ (rfl) ?_
      rintro ⟨x, s, a006q, k006q, a03q, k03q, a04q, k04q, a1q, k1q, a33q, k33q, a34q, k34q, a35q, k35q, a36q, k36q⟩ w69 ⟨H, hinv0⟩ hback68
      obtain ⟨hx1, hfv, hBs⟩ := hinv0
      have hBq := hBs
      unfold shB wrB rdB at hBq
      have hsq := hBq.1.1
      have hsqw := hBq.2.2.1.1
      refine qR 2 [.c [5, 0, 1, 0, 0, 0, 0], .c [5, 0, 1, 0, 0, 0, 1], .c [5, 0, 1, 0, 0, 1], .l [5, 0, 1, 0, 0], .b 0, .c [6]] [(1, .I k), (2, .I n), (3, .I fi), (10, .slice a8 (chksOf xs k n).length c9), (12, .P b65 0), (15, .I x)] ?_
      refine qG (sq 0 5) ?_
      refine qP 3 (sq 3 5) [(1, .I k), (2, .I n), (3, .I fi), (10, .slice a8 (chksOf xs k n).length c9), (12, .P b65 0), (15, .I x), (68, .I x), (69, .I n), (70, .I k)] ?_
      refine qI .seq 71 (sq 4 5) ((n : Int) - (k : Int)) ?_
      refine qF 1 [(1, .I k), (2, .I n), (3, .I fi), (10, .slice a8 (chksOf xs k n).length c9), (12, .P b65 0), (15, .I x), (72, .bool (decide (((x : Int) : Int) ≤ (n : Int) - (k : Int))))] ?_
      refine qD (((x : Int) : Int) ≤ (n : Int) - (k : Int)) (fun h70 => ?_) (fun h70 => ?_)
      ·
       have htl : tAt q0 n x < n := tAt_lt (by omega)
       have htn := tAt_ne (s0 := q0) (n := n) (x := x) (by omega) (by omega)
       refine qR 4 [.c [5, 0, 1, 0, 0, 1, 0, 0, 0], .c [5, 0, 1, 0, 0, 1, 0, 0, 1], .b 1, .c [5, 0, 1, 0, 0, 2], .l [5, 0, 1, 0, 0], .b 0, .c [6]] [(1, .I k), (2, .I n), (3, .I fi), (10, .slice a8 (chksOf xs k n).length c9), (12, .P b65 0), (15, .I x)] ?_
       refine qG (sq 0 8) ?_
       refine qP 2 (sq 2 8) [(1, .I k), (2, .I n), (3, .I fi), (10, .slice a8 (chksOf xs k n).length c9), (12, .P b65 0), (15, .I x), (75, .I fi), (76, .I n)] ?_
       refine RW.readS (κ := .seq) (d := some 77) (r := (sq 3 8)) (s := semV (Op.intDiv .rem .i64 (fi : Int) (n : Int))) (v := .I q0) (by as_aux_lemma => kernel_rfl) (fun w' _ => semV_run (rem_nat (r := q0) (by omega) (by omega) (hq0))) ?_
       refine qP 1 (sq 4 8) [(1, .I k), (2, .I n), (3, .I fi), (10, .slice a8 (chksOf xs k n).length c9), (12, .P b65 0), (15, .I x), (77, .I q0), (78, .I x)] ?_
       refine qI .seq 79 (sq 5 8) ((q0 : Int) + (x : Int)) ?_
       refine qP 1 (sq 6 8) [(1, .I k), (2, .I n), (3, .I fi), (10, .slice a8 (chksOf xs k n).length c9), (12, .P b65 0), (15, .I x), (79, .I ((q0 : Int) + (x : Int))), (80, .I n)] ?_
       refine RW.readS (κ := .seq) (d := some 81) (r := (sq 7 8)) (s := semV (Op.intDiv .rem .i64 ((q0 : Int) + (x : Int)) (n : Int))) (v := .I ((tAt q0 n x : Nat) : Int)) (by as_aux_lemma => kernel_rfl) (fun w' _ => semV_run (rem_nat (r := tAt q0 n x) (by omega) (by omega) (rfl))) ?_
       refine qF 1 [(1, .I k), (2, .I n), (3, .I fi), (10, .slice a8 (chksOf xs k n).length c9), (12, .P b65 0), (15, .I x), (16, .I ((tAt q0 n x : Nat) : Int))] ?_
       refine qR 1 [.c [5, 0, 1, 0, 0, 1, 0, 0, 1, 0], .c [5, 0, 1, 0, 0, 1, 0, 0, 2], .b 1, .c [5, 0, 1, 0, 0, 2], .l [5, 0, 1, 0, 0], .b 0, .c [6]] [(1, .I k), (2, .I n), (3, .I fi), (10, .slice a8 (chksOf xs k n).length c9), (12, .P b65 0), (15, .I x), (16, .I ((tAt q0 n x : Nat) : Int))] ?_
       refine WK.joinV (α := Nat × Shf × Option Addr × Nat × Option Addr × Nat × Option Addr × Nat × Option Addr × Nat × Option Addr × Nat × Option Addr × Nat × Option Addr × Nat × Option Addr × Nat) (fun x_ w_ => match x_ with | (bj, sj, a006j, k006j, a03j, k03j, a04j, k04j, a1j, k1j, a33j, k33j, a34j, k34j, a35j, k35j, a36j, k36j) => Hp w S [] [(bj, .cells (shfV sj a006j k006j a03j k03j a04j k04j a1j k1j a33j k33j a34j k34j a35j k35j a36j k36j).toArray 118 (0, 0)), (b65, .cells (shfV s a006q k006q a03q k03q a04q k04q a1q k1q a33q k33q a34q k34q a35q k35q a36q k36q).toArray 118 (0, 0))] [] [Rp (Shape.slice (Shape.int .i64)) [.slice a006j sj.read.object.nodes.length k006j] sj.read.object.nodes, Rp (Shape.slice pcS) [.slice a03j sj.read.pieces.length k03j] sj.read.pieces, Rp (Shape.slice (Shape.int .i64)) [.slice a04j sj.read.bad.length k04j] sj.read.bad, Rp (Shape.slice (Shape.int .i64)) [.slice a1j sj.to.length k1j] sj.to, Rp (Shape.slice hdrS) [.slice a33j sj.write.heads.length k33j] sj.write.heads, Rp (Shape.slice SB) [.slice a34j sj.write.chunks.length k34j] sj.write.chunks, Rp (Shape.slice (Shape.int .i64)) [.slice a35j sj.write.nodes.length k35j] sj.write.nodes, Rp (Shape.slice (Shape.int .i64)) [.slice a36j sj.write.acks.length k36j] sj.write.acks, Rp (Shape.slice (Shape.int .i64)) [.slice a006q s.read.object.nodes.length k006q] s.read.object.nodes, Rp (Shape.slice pcS) [.slice a03q s.read.pieces.length k03q] s.read.pieces, Rp (Shape.slice (Shape.int .i64)) [.slice a04q s.read.bad.length k04q] s.read.bad, Rp (Shape.slice (Shape.int .i64)) [.slice a1q s.to.length k1q] s.to, Rp (Shape.slice hdrS) [.slice a33q s.write.heads.length k33q] s.write.heads, Rp (Shape.slice SB) [.slice a34q s.write.chunks.length k34q] s.write.chunks, Rp (Shape.slice (Shape.int .i64)) [.slice a35q s.write.nodes.length k35q] s.write.nodes, Rp (Shape.slice (Shape.int .i64)) [.slice a36q s.write.acks.length k36q] s.write.acks, Rp (Shape.slice chkS) [.slice a8 (chksOf xs k n).length c9] (chksOf xs k n)] w_ ∧ (sj = mstepR s ((((tAt q0 n x) : Nat) : Int) + 1) (chkAt xs k n (tAt q0 n x)).head [] false) ∧ shB sj ∧ True) (fun x_ => match x_ with | (bj, sj, a006j, k006j, a03j, k03j, a04j, k04j, a1j, k1j, a33j, k33j, a34j, k34j, a35j, k35j, a36j, k36j) => [(1, .I k), (2, .I n), (3, .I fi), (10, .slice a8 (chksOf xs k n).length c9), (12, .P b65 0), (15, .I x), (17, .P bj 0), (18, .slice none 0 0), (19, .I sj.done)]) [Cq Try.prog 17 [5, 0, 1, 0, 0, 1, 0, 0, 2], .inBlock 1, Cq Try.prog 17 [5, 0, 1, 0, 0, 2], Lq Try.prog 17 [5, 0, 1, 0, 0], .inBlock 0, Cq Try.prog 17 [6]] (fun hJ71 => ?_) ?_
       ·
        refine WK.drawH1 [] (.node (qs [0, 1, 2, 3, 4, 5, 6, 7, 8]) (.cons 9 (.leaf [(10, .qui), (11, .qui), (12, .qui), (13, .qui), (14, .seq), (15, .seq), (16, .qui), (17, .qui)]) (.cons 14 (.leaf [(9, .seq), (10, .qui), (11, .qui), (12, .qui), (13, .qui), (15, .seq), (16, .qui), (17, .qui)]) .nil))) Try_mixed (by as_aux_lemma => kernel_rfl) (by as_aux_lemma => kernel_rfl) ?_
        intro w73 hw74
        have H := H.draw
        rw [← hw74] at H
        clear hw74
        have hS := Chg.refl w73 []
        refine RG.node' (qs [0, 1, 2, 3, 4, 5, 6, 7, 8]) (by as_aux_lemma => kernel_rfl) ?_
        refine RH.load (d := some 83) (r := (qs [1, 2, 3, 4, 5, 6, 7, 8])) (T := 118) (b := b65) (o' := 0) (k := 0) (v := .agg (shfV s a006q k006q a03q k03q a04q k04q a1q k1q a33q k33q a34q k34q a35q k35q a36q k36q).toArray) (by as_aux_lemma => kernel_rfl) hS (H.cells 0 rfl) (by simp) (by simp) rfl (by as_aux_lemma => kernel_rfl) ?_
        refine qHP hS 1 (qs [2, 3, 4, 5, 6, 7, 8]) [(1, .I k), (2, .I n), (3, .I fi), (10, .slice a8 (chksOf xs k n).length c9), (12, .P b65 0), (15, .I x), (16, .I ((tAt q0 n x : Nat) : Int)), (83, .agg (shfV s a006q k006q a03q k03q a04q k04q a1q k1q a33q k33q a34q k34q a35q k35q a36q k36q).toArray), (84, .I ((tAt q0 n x : Nat) : Int))] ?_
        refine RH.pv (d := some 85) (r := (qs [3, 4, 5, 6, 7, 8])) (v := .I (IntKind.i64.wrap (((tAt q0 n x : Nat) : Int) + 1))) (v' := .I (((tAt q0 n x : Nat) : Int) + 1)) (by as_aux_lemma => kernel_rfl) hS (wr_i64 (by omega)) ?_
        refine qHP hS 2 (qs [5, 6, 7, 8]) [(1, .I k), (2, .I n), (3, .I fi), (10, .slice a8 (chksOf xs k n).length c9), (12, .P b65 0), (15, .I x), (83, .agg (shfV s a006q k006q a03q k03q a04q k04q a1q k1q a33q k33q a34q k34q a35q k35q a36q k36q).toArray), (85, .I (((tAt q0 n x : Nat) : Int) + 1)), (86, .slice a8 (chksOf xs k n).length c9), (87, .I ((tAt q0 n x : Nat) : Int))] ?_
        have hx75 : (tAt q0 n x) < (chksOf xs k n).length := by rw [chksOf_len]; exact htl
        refine RH.index (d := some 88) (r := (qs [6, 7, 8])) (T := 103) (e := 92) (ik := .i64) (ix := ((tAt q0 n x : Nat) : Int)) (sh := chkS) (x := (chkAt xs k n (tAt q0 n x))) (by as_aux_lemma => kernel_rfl) hS (by as_aux_lemma => kernel_rfl) H 8 rfl (tAt q0 n x) (by omega) (chksOf_get htl) ?_
        intro b76 o77 es78 hr79 H
        obtain ⟨cs0q80, a1q80, k1q80, rfl, hf81, hf82⟩ := chk_open hr79
        obtain ⟨cs0q83, rfl, hf84, hf85, hf86, hf87⟩ := hdr_open hf81
        obtain ⟨rfl, hf89, hf90, hf91⟩ := cid_open hf84
        have H := H.add (F := Rp SB [.slice a1q80 ((chkAt xs k n (tAt q0 n x)).data.length) k1q80] ((chkAt xs k n (tAt q0 n x)).data)) hf82
        refine qHP hS 1 (qs [7, 8]) [(1, .I k), (2, .I n), (3, .I fi), (10, .slice a8 (chksOf xs k n).length c9), (12, .P b65 0), (15, .I x), (83, .agg (shfV s a006q k006q a03q k03q a04q k04q a1q k1q a33q k33q a34q k34q a35q k35q a36q k36q).toArray), (85, .I (((tAt q0 n x : Nat) : Int) + 1)), (89, .P b76 o77)] ?_
        refine RH.load (d := some 90) (r := [(8, .qui)]) (T := 53) (b := b76) (o' := o77) (k := 0) (v := .agg (hdrV ((chkAt xs k n (tAt q0 n x)).head)).toArray) (by as_aux_lemma => kernel_rfl) hS (H.fc 1 rfl) (by simp) (by simp) rfl (by as_aux_lemma => kernel_rfl) ?_
        refine RH.finB hS 1 [1, 2, 3, 10, 12, 15, 83, 91] [(1, .I k), (2, .I n), (3, .I fi), (10, .slice a8 (chksOf xs k n).length c9), (12, .P b65 0), (15, .I x), (83, .agg (shfV s a006q k006q a03q k03q a04q k04q a1q k1q a33q k33q a34q k34q a35q k35q a36q k36q).toArray), (91, .agg #[.I 15, .I (((tAt q0 n x : Nat) : Int) + 1), .I 0, .int .u64 0, .int .u64 0, .int .u64 0, .int .u64 0, .int .u64 0, .bool false, .bool false, .slice none 0 0, .slice none 0 0, .slice none 0 0, .int .u64 ((((chkAt xs k n (tAt q0 n x)).head).id).version), .I ((((chkAt xs k n (tAt q0 n x)).head).id).index), .int .u64 ((((chkAt xs k n (tAt q0 n x)).head).id).epoch), .I (((chkAt xs k n (tAt q0 n x)).head).kk), .I (((chkAt xs k n (tAt q0 n x)).head).nn), .I (((chkAt xs k n (tAt q0 n x)).head).size), .int .u32 (((((chkAt xs k n (tAt q0 n x)).head).sum).toNat : Nat) : Int), .slice none 0 0, .int .u64 0, .int .u64 0, .I 0, .string (⟨#[]⟩), .I 0, .slice none 0 0])] (by as_aux_lemma => kernel_rfl) ?_
        refine (RGB.cons' ?_ (RGB.cons' ?_ RGB.nil'))
        ·
         refine RG.leaf' [(9, .seq), (10, .qui), (11, .qui), (12, .qui), (13, .qui), (14, .seq), (15, .seq), (16, .qui), (17, .qui)] (by as_aux_lemma => kernel_rfl) ?_
         have Hr := H
         refine RH.chn hS ?_
         refine qK .chn (some 92) [] 54 #[.agg (shfV s a006q k006q a03q k03q a04q k04q a1q k1q a33q k33q a34q k34q a35q k35q a36q k36q).toArray, .agg #[.I 15, .I (((tAt q0 n x : Nat) : Int) + 1), .I 0, .int .u64 0, .int .u64 0, .int .u64 0, .int .u64 0, .int .u64 0, .bool false, .bool false, .slice none 0 0, .slice none 0 0, .slice none 0 0, .int .u64 ((((chkAt xs k n (tAt q0 n x)).head).id).version), .I ((((chkAt xs k n (tAt q0 n x)).head).id).index), .int .u64 ((((chkAt xs k n (tAt q0 n x)).head).id).epoch), .I (((chkAt xs k n (tAt q0 n x)).head).kk), .I (((chkAt xs k n (tAt q0 n x)).head).nn), .I (((chkAt xs k n (tAt q0 n x)).head).size), .int .u32 (((((chkAt xs k n (tAt q0 n x)).head).sum).toNat : Nat) : Int), .slice none 0 0, .int .u64 0, .int .u64 0, .I 0, .string (⟨#[]⟩), .I 0, .slice none 0 0]] (mgot_step (s := s) (shf_mk (y0 := s.read) (y3 := s.write) (rd_mkB (by unfold rdB; omega) (H.rp 2 rfl) (H.rp 3 rfl) (H.rp 4 rfl)) (H.rp 5 rfl) u64a (wr_mkV u64a u64a ⟨rfl, hsqw⟩ (H.rp 6 rfl) (H.rp 7 rfl) (H.rp 8 rfl) (H.rp 9 rfl) i64a i64a i64a) Shape.bool_mk i64a) (xs := xs) (k := k) (n := n) (hfv.rd.of) (hfv.d0 (by omega)) (hfv.ry) (((tAt q0 n x : Nat) : Int) + 1) ((chkAt xs k n (tAt q0 n x)).head) false (dt := []) Shape.slice_nil (.I 0) (.int .u64 0) (.int .u64 0) (.int .u64 0) (.int .u64 0) (.int .u64 0) (.bool false) (.slice none 0 0) (.slice none 0 0) (.slice none 0 0) (.int .u64 0) (.int .u64 0) (.I 0) (.string (⟨#[]⟩)) (.I 0) (.slice none 0 0) (by rw [hfv.rd.len]; omega) (by decide) (good_not) (hfv.ne (by omega) htl htn rfl)) ?_
         rintro _ w93 hE95 ⟨cs94, D100, rfl, hr96, hD101⟩
         have H0s := H
         obtain ⟨s97, hs98⟩ : ∃ s_ : Shf, s_ = { s with read := D100, done := if D100.done = 2 then D100.done else s.done } := ⟨_, rfl⟩
         rw [← hs98] at hr96
         have hlaw99 : s97 = mstepR s (((tAt q0 n x : Nat) : Int) + 1) ((chkAt xs k n (tAt q0 n x)).head) [] false := by rw [hs98, hD101]; rfl
         rw [show (if D100.done = 2 then D100.done else s.done) = s97.done by rw [hs98]]
         obtain ⟨cs0q102, a1q102, k1q102, cs3q102, rfl, hf103, hf104, hf105, hf106, hf107⟩ := shf_open hr96
         obtain ⟨cs0q108, a3q108, k3q108, a4q108, k4q108, rfl, hf109, hf110, hf111, hf112, hf113, hf114, hf115, hf116⟩ := rd_open hf103
         obtain ⟨a6q117, k6q117, rfl, hf118, hf119, hf120, hf121, hf122, hf123⟩ := obj_open hf109
         obtain ⟨a3q124, k3q124, a4q124, k4q124, a5q124, k5q124, a6q124, k6q124, rfl, hf125, hf126, hf127, hf128, hf129, hf130, hf131, hf132, hf133, hf134⟩ := wr_open hf106
         have H := H.addN hE95 (F := Rp (Shape.slice (Shape.int .i64)) [.slice a6q117 s97.read.object.nodes.length k6q117] s97.read.object.nodes) hf123
         have H := H.add (F := Rp (Shape.slice pcS) [.slice a3q108 s97.read.pieces.length k3q108] s97.read.pieces) ((H0s.addN hE95 (F := Rp (Shape.slice pcS) [.slice a3q108 s97.read.pieces.length k3q108] s97.read.pieces) hf112).rp 0 rfl)
         have H := H.add (F := Rp (Shape.slice (Shape.int .i64)) [.slice a4q108 s97.read.bad.length k4q108] s97.read.bad) ((H0s.addN hE95 (F := Rp (Shape.slice (Shape.int .i64)) [.slice a4q108 s97.read.bad.length k4q108] s97.read.bad) hf113).rp 0 rfl)
         have H := H.add (F := Rp (Shape.slice (Shape.int .i64)) [.slice a1q102 s97.to.length k1q102] s97.to) ((H0s.addN hE95 (F := Rp (Shape.slice (Shape.int .i64)) [.slice a1q102 s97.to.length k1q102] s97.to) hf104).rp 0 rfl)
         have H := H.add (F := Rp (Shape.slice hdrS) [.slice a3q124 s97.write.heads.length k3q124] s97.write.heads) ((H0s.addN hE95 (F := Rp (Shape.slice hdrS) [.slice a3q124 s97.write.heads.length k3q124] s97.write.heads) hf128).rp 0 rfl)
         have H := H.add (F := Rp (Shape.slice SB) [.slice a4q124 s97.write.chunks.length k4q124] s97.write.chunks) ((H0s.addN hE95 (F := Rp (Shape.slice SB) [.slice a4q124 s97.write.chunks.length k4q124] s97.write.chunks) hf129).rp 0 rfl)
         have H := H.add (F := Rp (Shape.slice (Shape.int .i64)) [.slice a5q124 s97.write.nodes.length k5q124] s97.write.nodes) ((H0s.addN hE95 (F := Rp (Shape.slice (Shape.int .i64)) [.slice a5q124 s97.write.nodes.length k5q124] s97.write.nodes) hf130).rp 0 rfl)
         have H := H.add (F := Rp (Shape.slice (Shape.int .i64)) [.slice a6q124 s97.write.acks.length k6q124] s97.write.acks) ((H0s.addN hE95 (F := Rp (Shape.slice (Shape.int .i64)) [.slice a6q124 s97.write.acks.length k6q124] s97.write.acks) hf131).rp 0 rfl)
         intro hS
         refine qHP hS 4 [(14, .seq), (15, .seq), (16, .qui), (17, .qui)] [(1, .I k), (2, .I n), (3, .I fi), (10, .slice a8 (chksOf xs k n).length c9), (12, .P b65 0), (15, .I x), (93, .agg (shfV s97 a6q117 k6q117 a3q108 k3q108 a4q108 k4q108 a1q102 k1q102 a3q124 k3q124 a4q124 k4q124 a5q124 k5q124 a6q124 k6q124).toArray), (94, .slice none 0 0), (95, .I s97.done)] ?_
         refine RH.chn hS ?_
         refine RW.newC (κ := .chn) (d := some 17) (r := []) (o := .cells (shfZ).toArray 118 (0, 0)) (v := fun b => .P b 0) (fun b => by as_aux_lemma => kernel_rfl) (nofun) H ?_
         intro b136 w137 hnw135 H
         have hnb138 := Nat.le_trans hS.size hnw135
         intro hS
         refine RH.sto ?_
         refine qWC 118 b136 0 [] (.agg (shfV s97 a6q117 k6q117 a3q108 k3q108 a4q108 k4q108 a1q102 k1q102 a3q124 k3q124 a4q124 k4q124 a5q124 k5q124 a6q124 k6q124).toArray) [(b136, .cells (shfV s97 a6q117 k6q117 a3q108 k3q108 a4q108 k4q108 a1q102 k1q102 a3q124 k3q124 a4q124 k4q124 a5q124 k5q124 a6q124 k6q124).toArray 118 (0, 0)), (b65, .cells (shfV s a006q k006q a03q k03q a04q k04q a1q k1q a33q k33q a34q k34q a35q k35q a36q k36q).toArray 118 (0, 0))] H 0 rfl rfl ?_
         intro w140 hch139 H
         have hS141 := hS.sto hch139 (.inl hnb138)
         refine ⟨hS141, ?_⟩
         have hS := hS141
         refine RH.fin hS 2 [1, 2, 3, 10, 12, 15, 17, 18, 19] [(1, .I k), (2, .I n), (3, .I fi), (10, .slice a8 (chksOf xs k n).length c9), (12, .P b65 0), (15, .I x), (17, .P b136 0), (18, .slice none 0 0), (19, .I s97.done)] (by as_aux_lemma => kernel_rfl) ?_
         have H := H.pick [7, 6, 5, 4, 3, 2, 1, 0, 10, 11, 12, 13, 14, 15, 16, 17, 18] rfl
         exact hJ71 (b136, s97, a6q117, k6q117, a3q108, k3q108, a4q108, k4q108, a1q102, k1q102, a3q124, k3q124, a4q124, k4q124, a5q124, k5q124, a6q124, k6q124) _ ⟨H, hlaw99, by unfold shB wrB rdB; omega, trivial⟩
        ·
         refine RG.leaf' [(14, .seq), (9, .seq), (10, .qui), (11, .qui), (12, .qui), (13, .qui), (15, .seq), (16, .qui), (17, .qui)] (by as_aux_lemma => kernel_rfl) ?_
         have Hr := H
         refine RH.chn hS ?_
         refine RW.newC (κ := .chn) (d := some 17) (r := []) (o := .cells (shfZ).toArray 118 (0, 0)) (v := fun b => .P b 0) (fun b => by as_aux_lemma => kernel_rfl) (nofun) H ?_
         intro b143 w144 hnw142 H
         have hnb145 := Nat.le_trans hS.size hnw142
         intro hS
         refine RH.chn hS ?_
         refine qK .chn (some 92) [] 54 #[.agg (shfV s a006q k006q a03q k03q a04q k04q a1q k1q a33q k33q a34q k34q a35q k35q a36q k36q).toArray, .agg #[.I 15, .I (((tAt q0 n x : Nat) : Int) + 1), .I 0, .int .u64 0, .int .u64 0, .int .u64 0, .int .u64 0, .int .u64 0, .bool false, .bool false, .slice none 0 0, .slice none 0 0, .slice none 0 0, .int .u64 ((((chkAt xs k n (tAt q0 n x)).head).id).version), .I ((((chkAt xs k n (tAt q0 n x)).head).id).index), .int .u64 ((((chkAt xs k n (tAt q0 n x)).head).id).epoch), .I (((chkAt xs k n (tAt q0 n x)).head).kk), .I (((chkAt xs k n (tAt q0 n x)).head).nn), .I (((chkAt xs k n (tAt q0 n x)).head).size), .int .u32 (((((chkAt xs k n (tAt q0 n x)).head).sum).toNat : Nat) : Int), .slice none 0 0, .int .u64 0, .int .u64 0, .I 0, .string (⟨#[]⟩), .I 0, .slice none 0 0]] (mgot_step (s := s) (shf_mk (y0 := s.read) (y3 := s.write) (rd_mkB (by unfold rdB; omega) (H.rp 2 rfl) (H.rp 3 rfl) (H.rp 4 rfl)) (H.rp 5 rfl) u64a (wr_mkV u64a u64a ⟨rfl, hsqw⟩ (H.rp 6 rfl) (H.rp 7 rfl) (H.rp 8 rfl) (H.rp 9 rfl) i64a i64a i64a) Shape.bool_mk i64a) (xs := xs) (k := k) (n := n) (hfv.rd.of) (hfv.d0 (by omega)) (hfv.ry) (((tAt q0 n x : Nat) : Int) + 1) ((chkAt xs k n (tAt q0 n x)).head) false (dt := []) Shape.slice_nil (.I 0) (.int .u64 0) (.int .u64 0) (.int .u64 0) (.int .u64 0) (.int .u64 0) (.bool false) (.slice none 0 0) (.slice none 0 0) (.slice none 0 0) (.int .u64 0) (.int .u64 0) (.I 0) (.string (⟨#[]⟩)) (.I 0) (.slice none 0 0) (by rw [hfv.rd.len]; omega) (by decide) (good_not) (hfv.ne (by omega) htl htn rfl)) ?_
         rintro _ w147 hE149 ⟨cs148, D154, rfl, hr150, hD155⟩
         have H0s := H
         obtain ⟨s151, hs152⟩ : ∃ s_ : Shf, s_ = { s with read := D154, done := if D154.done = 2 then D154.done else s.done } := ⟨_, rfl⟩
         rw [← hs152] at hr150
         have hlaw153 : s151 = mstepR s (((tAt q0 n x : Nat) : Int) + 1) ((chkAt xs k n (tAt q0 n x)).head) [] false := by rw [hs152, hD155]; rfl
         rw [show (if D154.done = 2 then D154.done else s.done) = s151.done by rw [hs152]]
         obtain ⟨cs0q156, a1q156, k1q156, cs3q156, rfl, hf157, hf158, hf159, hf160, hf161⟩ := shf_open hr150
         obtain ⟨cs0q162, a3q162, k3q162, a4q162, k4q162, rfl, hf163, hf164, hf165, hf166, hf167, hf168, hf169, hf170⟩ := rd_open hf157
         obtain ⟨a6q171, k6q171, rfl, hf172, hf173, hf174, hf175, hf176, hf177⟩ := obj_open hf163
         obtain ⟨a3q178, k3q178, a4q178, k4q178, a5q178, k5q178, a6q178, k6q178, rfl, hf179, hf180, hf181, hf182, hf183, hf184, hf185, hf186, hf187, hf188⟩ := wr_open hf160
         have H := H.addN hE149 (F := Rp (Shape.slice (Shape.int .i64)) [.slice a6q171 s151.read.object.nodes.length k6q171] s151.read.object.nodes) hf177
         have H := H.add (F := Rp (Shape.slice pcS) [.slice a3q162 s151.read.pieces.length k3q162] s151.read.pieces) ((H0s.addN hE149 (F := Rp (Shape.slice pcS) [.slice a3q162 s151.read.pieces.length k3q162] s151.read.pieces) hf166).rp 0 rfl)
         have H := H.add (F := Rp (Shape.slice (Shape.int .i64)) [.slice a4q162 s151.read.bad.length k4q162] s151.read.bad) ((H0s.addN hE149 (F := Rp (Shape.slice (Shape.int .i64)) [.slice a4q162 s151.read.bad.length k4q162] s151.read.bad) hf167).rp 0 rfl)
         have H := H.add (F := Rp (Shape.slice (Shape.int .i64)) [.slice a1q156 s151.to.length k1q156] s151.to) ((H0s.addN hE149 (F := Rp (Shape.slice (Shape.int .i64)) [.slice a1q156 s151.to.length k1q156] s151.to) hf158).rp 0 rfl)
         have H := H.add (F := Rp (Shape.slice hdrS) [.slice a3q178 s151.write.heads.length k3q178] s151.write.heads) ((H0s.addN hE149 (F := Rp (Shape.slice hdrS) [.slice a3q178 s151.write.heads.length k3q178] s151.write.heads) hf182).rp 0 rfl)
         have H := H.add (F := Rp (Shape.slice SB) [.slice a4q178 s151.write.chunks.length k4q178] s151.write.chunks) ((H0s.addN hE149 (F := Rp (Shape.slice SB) [.slice a4q178 s151.write.chunks.length k4q178] s151.write.chunks) hf183).rp 0 rfl)
         have H := H.add (F := Rp (Shape.slice (Shape.int .i64)) [.slice a5q178 s151.write.nodes.length k5q178] s151.write.nodes) ((H0s.addN hE149 (F := Rp (Shape.slice (Shape.int .i64)) [.slice a5q178 s151.write.nodes.length k5q178] s151.write.nodes) hf184).rp 0 rfl)
         have H := H.add (F := Rp (Shape.slice (Shape.int .i64)) [.slice a6q178 s151.write.acks.length k6q178] s151.write.acks) ((H0s.addN hE149 (F := Rp (Shape.slice (Shape.int .i64)) [.slice a6q178 s151.write.acks.length k6q178] s151.write.acks) hf185).rp 0 rfl)
         intro hS
         refine qHP hS 4 [(15, .seq), (16, .qui), (17, .qui)] [(1, .I k), (2, .I n), (3, .I fi), (10, .slice a8 (chksOf xs k n).length c9), (12, .P b65 0), (15, .I x), (17, .P b143 0), (93, .agg (shfV s151 a6q171 k6q171 a3q162 k3q162 a4q162 k4q162 a1q156 k1q156 a3q178 k3q178 a4q178 k4q178 a5q178 k5q178 a6q178 k6q178).toArray), (94, .slice none 0 0), (95, .I s151.done)] ?_
         refine RH.sto ?_
         refine qWC 118 b143 0 [] (.agg (shfV s151 a6q171 k6q171 a3q162 k3q162 a4q162 k4q162 a1q156 k1q156 a3q178 k3q178 a4q178 k4q178 a5q178 k5q178 a6q178 k6q178).toArray) [(b143, .cells (shfV s151 a6q171 k6q171 a3q162 k3q162 a4q162 k4q162 a1q156 k1q156 a3q178 k3q178 a4q178 k4q178 a5q178 k5q178 a6q178 k6q178).toArray 118 (0, 0)), (b65, .cells (shfV s a006q k006q a03q k03q a04q k04q a1q k1q a33q k33q a34q k34q a35q k35q a36q k36q).toArray 118 (0, 0))] H 0 rfl rfl ?_
         intro w190 hch189 H
         have hS191 := hS.sto hch189 (.inl hnb145)
         refine ⟨hS191, ?_⟩
         have hS := hS191
         refine RH.fin hS 2 [1, 2, 3, 10, 12, 15, 17, 18, 19] [(1, .I k), (2, .I n), (3, .I fi), (10, .slice a8 (chksOf xs k n).length c9), (12, .P b65 0), (15, .I x), (17, .P b143 0), (18, .slice none 0 0), (19, .I s151.done)] (by as_aux_lemma => kernel_rfl) ?_
         have H := H.pick [7, 6, 5, 4, 3, 2, 1, 0, 10, 11, 12, 13, 14, 15, 16, 17, 18] rfl
         exact hJ71 (b143, s151, a6q171, k6q171, a3q162, k3q162, a4q162, k4q162, a1q156, k1q156, a3q178, k3q178, a4q178, k4q178, a5q178, k5q178, a6q178, k6q178) _ ⟨H, hlaw153, by unfold shB wrB rdB; omega, trivial⟩
       ·
        rintro ⟨bj, sj, a006j, k006j, a03j, k03j, a04j, k04j, a1j, k1j, a33j, k33j, a34j, k34j, a35j, k35j, a36j, k36j⟩ w72 ⟨H, hij⟩
        obtain ⟨hlj, hBsj, hxj⟩ := hij
        have hBj := hBsj
        unfold shB wrB rdB at hBj
        have hsj := hBj.1.1
        have hsjw := hBj.2.2.1.1
        refine qR 2 [.c [5, 0, 1, 0, 0, 1, 0, 0, 2, 0, 0], .c [5, 0, 1, 0, 0, 1, 0, 0, 2, 0, 1], .c [5, 0, 1, 0, 0, 1, 0, 0, 3], .b 1, .c [5, 0, 1, 0, 0, 2], .l [5, 0, 1, 0, 0], .b 0, .c [6]] [(1, .I k), (2, .I n), (3, .I fi), (10, .slice a8 (chksOf xs k n).length c9), (12, .P b65 0), (15, .I x), (17, .P bj 0), (18, .slice none 0 0), (19, .I sj.done)] ?_
        refine qG (sq 0 13) ?_
        refine qP 9 (sq 9 13) [(1, .I k), (2, .I n), (3, .I fi), (10, .slice a8 (chksOf xs k n).length c9), (12, .P b65 0), (15, .I x), (17, .P bj 0), (99, .bool false), (101, .bool (sj.done == 2)), (102, .I x), (103, .I n), (104, .I k)] ?_
        refine qI .seq 105 (sq 10 13) ((n : Int) - (k : Int)) ?_
        refine qF 3 [(1, .I k), (2, .I n), (3, .I fi), (10, .slice a8 (chksOf xs k n).length c9), (12, .P b65 0), (15, .I x), (17, .P bj 0), (108, .bool (!((sj.done == 2) == ((x : Int) == ((n : Int) - (k : Int))))))] ?_
        refine qC (!((sj.done == 2) == ((x : Int) == ((n : Int) - (k : Int))))) (fun h192 => ?_) (fun h192 => ?_)
        ·
         replace h192 : (((sj.done == 2) == ((x : Int) == ((n : Int) - (k : Int))))) = false := by revert h192; cases (((sj.done == 2) == ((x : Int) == ((n : Int) - (k : Int))))) <;> simp
         replace h192 := ne_of_beq_false h192
         have hfv2 := Fv.step hfv (by omega) htl htn rfl rfl hlj
         exact absurd (fails_v hfv2.dl (by omega)) h192
        ·
         replace h192 : (((sj.done == 2) == ((x : Int) == ((n : Int) - (k : Int))))) = true := by revert h192; cases (((sj.done == 2) == ((x : Int) == ((n : Int) - (k : Int))))) <;> simp
         replace h192 := eq_of_beq h192
         refine qR 1 [.c [5, 0, 1, 0, 0, 1, 0, 0, 3], .b 1, .c [5, 0, 1, 0, 0, 2], .l [5, 0, 1, 0, 0], .b 0, .c [6]] [(1, .I k), (2, .I n), (3, .I fi), (10, .slice a8 (chksOf xs k n).length c9), (12, .P b65 0), (15, .I x), (17, .P bj 0)] ?_
         refine qG (sq 0 2) ?_
         refine qL .seq 109 (sq 1 2) 118 bj 0 0 (.agg (shfV sj a006j k006j a03j k03j a04j k04j a1j k1j a33j k33j a34j k34j a35j k35j a36j k36j).toArray) (H.cells 0 rfl) ?_
         refine qW 118 b65 0 (sq 2 2) (.agg (shfV sj a006j k006j a03j k03j a04j k04j a1j k1j a33j k33j a34j k34j a35j k35j a36j k36j).toArray) [(bj, .cells (shfV sj a006j k006j a03j k03j a04j k04j a1j k1j a33j k33j a34j k34j a35j k35j a36j k36j).toArray 118 (0, 0)), (b65, .cells (shfV sj a006j k006j a03j k03j a04j k04j a1j k1j a33j k33j a34j k34j a35j k35j a36j k36j).toArray 118 (0, 0))] H 1 rfl rfl ?_
         intro w193 H
         refine qF 0 [(1, .I k), (2, .I n), (3, .I fi), (10, .slice a8 (chksOf xs k n).length c9), (12, .P b65 0), (15, .I x)] ?_
         refine qR 1 [.c [5, 0, 1, 0, 0, 2], .l [5, 0, 1, 0, 0], .b 0, .c [6]] [(1, .I k), (2, .I n), (3, .I fi), (10, .slice a8 (chksOf xs k n).length c9), (12, .P b65 0), (15, .I x)] ?_
         refine qG (sq 0 3) ?_
         refine qP 1 (sq 1 3) [(1, .I k), (2, .I n), (3, .I fi), (10, .slice a8 (chksOf xs k n).length c9), (12, .P b65 0), (15, .I x), (73, .I x)] ?_
         refine qI .seq 74 (sq 2 3) ((x : Int) + 1) ?_
         refine qF 1 [(1, .I k), (2, .I n), (3, .I fi), (10, .slice a8 (chksOf xs k n).length c9), (12, .P b65 0), (15, .I ((x : Int) + 1))] ?_
         have hfv2 := Fv.step hfv (by omega) htl htn rfl rfl hlj
         have H := H.pick [0, 1, 2, 3, 4, 5, 6, 7, 16] rfl
         have H := H.frontM 1 (M' := [(b65, .cells (shfV sj a006j k006j a03j k03j a04j k04j a1j k1j a33j k33j a34j k34j a35j k35j a36j k36j).toArray 118 (0, 0)), (bj, .cells (shfV sj a006j k006j a03j k03j a04j k04j a1j k1j a33j k33j a34j k34j a35j k35j a36j k36j).toArray 118 (0, 0))]) rfl
         have H := H.drop (M' := [(b65, .cells (shfV sj a006j k006j a03j k03j a04j k04j a1j k1j a33j k33j a34j k34j a35j k35j a36j k36j).toArray 118 (0, 0))]) (W' := []) (by repeat (first | exact List.Sublist.refl _ | apply List.Sublist.cons_cons | apply List.Sublist.cons)) (by repeat (first | exact List.Sublist.refl _ | apply List.Sublist.cons_cons | apply List.Sublist.cons))
         exact WK.back (hback68 (x + 1, sj, a006j, k006j, a03j, k03j, a04j, k04j, a1j, k1j, a33j, k33j, a34j, k34j, a35j, k35j, a36j, k36j) _ ⟨H, by omega, hfv2, hBsj⟩ (by simp only []; omega)) (by as_aux_lemma => kernel_rfl)
      ·
       refine qR 2 [.c [6, 0], .c [7]] [(12, .P b65 0)] ?_
       refine qG (sq 0 10) ?_
       refine qL .seq 111 (sq 1 10) 118 b65 0 0 (.agg (shfV s a006q k006q a03q k03q a04q k04q a1q k1q a33q k33q a34q k34q a35q k35q a36q k36q).toArray) (H.cells 0 rfl) ?_
       refine qK .seq (some 112) (sq 2 10) 55 #[.agg (shfV s a006q k006q a03q k03q a04q k04q a1q k1q a33q k33q a34q k34q a35q k35q a36q k36q).toArray] (mtick_done (s := s) (shf_mk (y0 := s.read) (y3 := s.write) (rd_mkB (by unfold rdB; omega) (H.rp 0 rfl) (H.rp 1 rfl) (H.rp 2 rfl)) (H.rp 3 rfl) u64a (wr_mkV u64a u64a ⟨rfl, hsqw⟩ (H.rp 4 rfl) (H.rp 5 rfl) (H.rp 6 rfl) (H.rp 7 rfl) i64a i64a i64a) Shape.bool_mk i64a) (by rw [hfv.dl, if_pos (by omega)]; decide)) ?_
       rintro _ w194 hE196 ⟨cs195, rfl, hr197⟩
       have H0s := H
       obtain ⟨cs0q198, a1q198, k1q198, cs3q198, rfl, hf199, hf200, hf201, hf202, hf203⟩ := shf_open hr197
       obtain ⟨cs0q204, a3q204, k3q204, a4q204, k4q204, rfl, hf205, hf206, hf207, hf208, hf209, hf210, hf211, hf212⟩ := rd_open hf199
       obtain ⟨a6q213, k6q213, rfl, hf214, hf215, hf216, hf217, hf218, hf219⟩ := obj_open hf205
       obtain ⟨a3q220, k3q220, a4q220, k4q220, a5q220, k5q220, a6q220, k6q220, rfl, hf221, hf222, hf223, hf224, hf225, hf226, hf227, hf228, hf229, hf230⟩ := wr_open hf202
       have H := H.addN hE196 (F := Rp (Shape.slice (Shape.int .i64)) [.slice a6q213 s.read.object.nodes.length k6q213] s.read.object.nodes) hf219
       have H := H.add (F := Rp (Shape.slice pcS) [.slice a3q204 s.read.pieces.length k3q204] s.read.pieces) ((H0s.addN hE196 (F := Rp (Shape.slice pcS) [.slice a3q204 s.read.pieces.length k3q204] s.read.pieces) hf208).rp 0 rfl)
       have H := H.add (F := Rp (Shape.slice (Shape.int .i64)) [.slice a4q204 s.read.bad.length k4q204] s.read.bad) ((H0s.addN hE196 (F := Rp (Shape.slice (Shape.int .i64)) [.slice a4q204 s.read.bad.length k4q204] s.read.bad) hf209).rp 0 rfl)
       have H := H.add (F := Rp (Shape.slice (Shape.int .i64)) [.slice a1q198 s.to.length k1q198] s.to) ((H0s.addN hE196 (F := Rp (Shape.slice (Shape.int .i64)) [.slice a1q198 s.to.length k1q198] s.to) hf200).rp 0 rfl)
       have H := H.add (F := Rp (Shape.slice hdrS) [.slice a3q220 s.write.heads.length k3q220] s.write.heads) ((H0s.addN hE196 (F := Rp (Shape.slice hdrS) [.slice a3q220 s.write.heads.length k3q220] s.write.heads) hf224).rp 0 rfl)
       have H := H.add (F := Rp (Shape.slice SB) [.slice a4q220 s.write.chunks.length k4q220] s.write.chunks) ((H0s.addN hE196 (F := Rp (Shape.slice SB) [.slice a4q220 s.write.chunks.length k4q220] s.write.chunks) hf225).rp 0 rfl)
       have H := H.add (F := Rp (Shape.slice (Shape.int .i64)) [.slice a5q220 s.write.nodes.length k5q220] s.write.nodes) ((H0s.addN hE196 (F := Rp (Shape.slice (Shape.int .i64)) [.slice a5q220 s.write.nodes.length k5q220] s.write.nodes) hf226).rp 0 rfl)
       have H := H.add (F := Rp (Shape.slice (Shape.int .i64)) [.slice a6q220 s.write.acks.length k6q220] s.write.acks) ((H0s.addN hE196 (F := Rp (Shape.slice (Shape.int .i64)) [.slice a6q220 s.write.acks.length k6q220] s.write.acks) hf227).rp 0 rfl)
       refine qP 4 (sq 6 10) [(113, .agg (shfV s a6q213 k6q213 a3q204 k3q204 a4q204 k4q204 a1q198 k1q198 a3q220 k3q220 a4q220 k4q220 a5q220 k5q220 a6q220 k6q220).toArray), (114, .slice none 0 0), (115, .I s.done)] ?_
       refine qB .seq 20 (sq 7 10) ((shfZ).toArray) 118 H ?_
       intro b231 w232 H
       refine qW 118 b231 0 (sq 8 10) (.agg (shfV s a6q213 k6q213 a3q204 k3q204 a4q204 k4q204 a1q198 k1q198 a3q220 k3q220 a4q220 k4q220 a5q220 k5q220 a6q220 k6q220).toArray) [(b231, .cells (shfV s a6q213 k6q213 a3q204 k3q204 a4q204 k4q204 a1q198 k1q198 a3q220 k3q220 a4q220 k4q220 a5q220 k5q220 a6q220 k6q220).toArray 118 (0, 0)), (b65, .cells (shfV s a006q k006q a03q k03q a04q k04q a1q k1q a33q k33q a34q k34q a35q k35q a36q k36q).toArray 118 (0, 0))] H 0 rfl rfl ?_
       intro w233 H
       refine qF 2 [(21, .slice none 0 0), (22, .I s.done)] ?_
       refine qR 1 [.c [7, 0], .c [8]] [(21, .slice none 0 0), (22, .I s.done)] ?_
       refine qG (sq 0 11) ?_
       refine qP 8 (sq 8 11) [(123, .bool (s.done == 2))] ?_
       refine tE (fun b_ => [(123, .bool b_)]) s.done 2 (fun h234 => ?_) (fun h234 => ?_)
       ·
        refine qK .seq (some 124) (sq 9 11) 51 #[] (heads22_spec (S := fun _ => True)) ?_
        rintro _ w235 hE236 rfl
        have H := H.ext hE236
        refine qF 2 [(8, .bool true)] ?_
        refine qT (.bool true) Try.func17 ?_
        exact ⟨_, rfl, H.done, rfl⟩
       ·
        exact absurd (by rw [hfv.dl, if_pos (by omega)]) h234


end Go.Proofs.Ytppcdmbkgficiaa
