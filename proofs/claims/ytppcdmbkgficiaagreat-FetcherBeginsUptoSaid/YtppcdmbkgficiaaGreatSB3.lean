import Derived.Test.YtppcdmbkgficiaaGreatSB1
import Derived.Test.YtppcdmbkgficiaaGreatSB2
namespace Go.Proofs.YtppcdmbkgficiaaGreat
open Go.BX
set_option maxHeartbeats 2000000 in
theorem rsame_spec {S : Nat → Prop} {w : World} {r : Rd} {cs : List Value} (hr : rdS.rep S w cs r) {cs2 : List Value} (h2 : rdS.rep S w cs2 r) (hps : r.pieces = []) (hok : ObjOk r.object) :
 Calls Tryz.prog 7 #[.agg cs.toArray, .agg cs2.toArray] w (Ret fun v w' => Ext w w' ∧ v = .bool true) := by
 obtain ⟨cs0r, a3r, k3r, a4r, k4r, rfl, h0r, h1r, h2r, h3r, h4r, h5r, h6r, h7r⟩ := rd_open hr
 obtain ⟨a6rO, k6rO, rfl, h0rO, h1rO, h2rO, h4rO, h5rO, h6rO⟩ := obj_open h0r
 obtain ⟨cs0rq, a3rq, k3rq, a4rq, k4rq, rfl, h0rq, h1rq, h2rq, h3rq, h4rq, h5rq, h6rq, h7rq⟩ := rd_open h2
 obtain ⟨a6robjectq, k6robjectq, rfl, h0robjectq, h1robjectq, h2robjectq, h4robjectq, h5robjectq, h6robjectq⟩ := obj_open h0rq
 have hpl : r.pieces.length = 0 := by rw [hps]; rfl
 refine qS (fn := Tryz.f7) (n := 101) (σ := [(0, .agg (rdV r a6rO k6rO a3r k3r a4r k4r).toArray), (1, .agg (rdV r a6robjectq k6robjectq a3rq k3rq a4rq k4rq).toArray)]) Tryz.func7 ?_
 have H := Hp.startF (w := w) (S := S) (G := [Rp Li [.slice a6rO r.object.nodes.length k6rO] r.object.nodes, Rp (Shape.slice pcS) [.slice a3r r.pieces.length k3r] r.pieces, Rp Li [.slice a4r r.bad.length k4r] r.bad, Rp Li [.slice a6robjectq r.object.nodes.length k6robjectq] r.object.nodes, Rp (Shape.slice pcS) [.slice a3rq r.pieces.length k3rq] r.pieces, Rp Li [.slice a4rq r.bad.length k4rq] r.bad]) (.rp h6rO (.rp h3r (.rp h4r (.rp h6robjectq (.rp h3rq (.rp h4rq .nil))))))
 refine qR 1 [.c [0], .c [1]] [(0, .agg (rdV r a6rO k6rO a3r k3r a4r k4r).toArray), (1, .agg (rdV r a6robjectq k6robjectq a3rq k3rq a4rq k4rq).toArray)] ?_
 refine qG (sq 0 3) ?_
 refine qB .seq 2 (sq 1 3) ((rdV r a6rO k6rO a3r k3r a4r k4r).toArray) 30 H ?_
 intro b1 w2 H
 refine qB .seq 3 (sq 2 3) ((rdV r a6robjectq k6robjectq a3rq k3rq a4rq k4rq).toArray) 30 H ?_
 intro b3 w4 H
 refine qF 1 [(2, .P b1 0), (3, .P b3 0)] ?_
 refine qR 2 [.c [1, 0, 0], .c [1, 0, 1], .c [2]] [(2, .P b1 0), (3, .P b3 0)] ?_
 refine qG (sq 0 50) ?_
 refine qP 1 (sq 1 50) [(2, .P b1 0), (3, .P b3 0), (6, .P b1 7)] ?_
 refine qL .seq 7 (sq 2 50) 3 b1 7 7 (.I r.kk) (H.cells 1 rfl) ?_
 refine qP 1 (sq 3 50) [(2, .P b1 0), (3, .P b3 0), (7, .I r.kk), (8, .P b3 7)] ?_
 refine qL .seq 9 (sq 4 50) 3 b3 7 7 (.I r.kk) (H.cells 0 rfl) ?_
 refine qP 2 (sq 6 50) [(2, .P b1 0), (3, .P b3 0), (11, .bool (r.kk != r.kk))] ?_
 refine tN (fun b_ => [(2, .P b1 0), (3, .P b3 0), (11, .bool b_)]) r.kk r.kk (fun h5 => ?_) (fun h5 => ?_)
 ·
  exact absurd rfl h5
 ·
  refine qP 1 (sq 7 50) [(2, .P b1 0), (3, .P b3 0), (11, .bool false), (12, .P b1 8)] ?_
  refine qL .seq 13 (sq 8 50) 3 b1 8 8 (.I r.nn) (H.cells 1 rfl) ?_
  refine qP 1 (sq 9 50) [(2, .P b1 0), (3, .P b3 0), (11, .bool false), (13, .I r.nn), (14, .P b3 8)] ?_
  refine qL .seq 15 (sq 10 50) 3 b3 8 8 (.I r.nn) (H.cells 0 rfl) ?_
  refine qP 3 (sq 13 50) [(2, .P b1 0), (3, .P b3 0), (18, .bool (r.nn != r.nn))] ?_
  refine tN (fun b_ => [(2, .P b1 0), (3, .P b3 0), (18, .bool b_)]) r.nn r.nn (fun h6 => ?_) (fun h6 => ?_)
  ·
   exact absurd rfl h6
  ·
   refine qP 1 (sq 14 50) [(2, .P b1 0), (3, .P b3 0), (18, .bool false), (19, .P b1 11)] ?_
   refine qL .seq 20 (sq 15 50) 3 b1 11 11 (.I r.waited) (H.cells 1 rfl) ?_
   refine qP 1 (sq 16 50) [(2, .P b1 0), (3, .P b3 0), (18, .bool false), (20, .I r.waited), (21, .P b3 11)] ?_
   refine qL .seq 22 (sq 17 50) 3 b3 11 11 (.I r.waited) (H.cells 0 rfl) ?_
   refine qP 3 (sq 20 50) [(2, .P b1 0), (3, .P b3 0), (25, .bool (r.waited != r.waited))] ?_
   refine tN (fun b_ => [(2, .P b1 0), (3, .P b3 0), (25, .bool b_)]) r.waited r.waited (fun h7 => ?_) (fun h7 => ?_)
   ·
    exact absurd rfl h7
   ·
    refine qP 1 (sq 21 50) [(2, .P b1 0), (3, .P b3 0), (25, .bool false), (26, .P b1 12)] ?_
    refine qL .seq 27 (sq 22 50) 3 b1 12 12 (.I r.limit) (H.cells 1 rfl) ?_
    refine qP 1 (sq 23 50) [(2, .P b1 0), (3, .P b3 0), (25, .bool false), (27, .I r.limit), (28, .P b3 12)] ?_
    refine qL .seq 29 (sq 24 50) 3 b3 12 12 (.I r.limit) (H.cells 0 rfl) ?_
    refine qP 3 (sq 27 50) [(2, .P b1 0), (3, .P b3 0), (32, .bool (r.limit != r.limit))] ?_
    refine tN (fun b_ => [(2, .P b1 0), (3, .P b3 0), (32, .bool b_)]) r.limit r.limit (fun h8 => ?_) (fun h8 => ?_)
    ·
     exact absurd rfl h8
    ·
     refine qP 1 (sq 28 50) [(2, .P b1 0), (3, .P b3 0), (32, .bool false), (33, .P b1 13)] ?_
     refine qL .seq 34 (sq 29 50) 28 b1 13 13 (.I r.done) (H.cells 1 rfl) ?_
     refine qP 1 (sq 30 50) [(2, .P b1 0), (3, .P b3 0), (32, .bool false), (34, .I r.done), (35, .P b3 13)] ?_
     refine qL .seq 36 (sq 31 50) 28 b3 13 13 (.I r.done) (H.cells 0 rfl) ?_
     refine qP 3 (sq 34 50) [(2, .P b1 0), (3, .P b3 0), (39, .bool (r.done != r.done))] ?_
     refine tN (fun b_ => [(2, .P b1 0), (3, .P b3 0), (39, .bool b_)]) r.done r.done (fun h9 => ?_) (fun h9 => ?_)
     ·
      exact absurd rfl h9
     ·
      refine qP 1 (sq 35 50) [(2, .P b1 0), (3, .P b3 0), (39, .bool false), (40, .P b1 10)] ?_
      refine qL .seq 41 (sq 36 50) 24 b1 10 10 (.slice a4r r.bad.length k4r) (H.cells 1 rfl) ?_
      refine qP 1 (sq 37 50) [(2, .P b1 0), (3, .P b3 0), (39, .bool false), (41, .slice a4r r.bad.length k4r), (42, .P b3 10)] ?_
      refine qL .seq 43 (sq 38 50) 24 b3 10 10 (.slice a4rq r.bad.length k4rq) (H.cells 0 rfl) ?_
      refine qK .seq (some 44) (sq 39 50) 20 #[.slice a4r r.bad.length k4r, .slice a4rq r.bad.length k4rq] (ints_eq (S := fun _ => True) (xs := r.bad) (H.viewF 2 rfl) (H.viewF 5 rfl)) ?_
      rintro _ w10 hE11 rfl
      have H := H.ext hE11
      refine qP 4 (sq 43 50) [(2, .P b1 0), (3, .P b3 0), (47, .bool false), (48, .P b1 9)] ?_
      refine qL .seq 49 (sq 44 50) 27 b1 9 9 (.slice a3r r.pieces.length k3r) (H.cells 1 rfl) ?_
      refine qP 2 (sq 46 50) [(2, .P b1 0), (3, .P b3 0), (47, .bool false), (50, .I ((r.pieces.length : Nat) : Int)), (51, .P b3 9)] ?_
      refine qL .seq 52 (sq 47 50) 27 b3 9 9 (.slice a3rq r.pieces.length k3rq) (H.cells 0 rfl) ?_
      refine qF 3 [(2, .P b1 0), (3, .P b3 0), (55, .bool (((r.pieces.length : Nat) : Int) != ((r.pieces.length : Nat) : Int)))] ?_
      refine qN ((r.pieces.length : Nat) : Int) ((r.pieces.length : Nat) : Int) (fun h12 => ?_) (fun h12 => ?_)
      ·
       exact absurd rfl h12
      ·
       refine qR 5 [.c [2, 0, 1, 0], .b 0, .c [3]] [(2, .P b1 0), (3, .P b3 0), (5, .I 0)] ?_
       refine WK.loop (α := Unit) (b := cd Tryz.prog 7 [2, 0, 1, 0, 0]) (by as_aux_lemma => kernel_rfl) (fun _ => [(2, .P b1 0), (3, .P b3 0), (5, .I 0)]) (fun _ w' => Hp w S [] [(b3, .cells (rdV r a6robjectq k6robjectq a3rq k3rq a4rq k4rq).toArray 30 (0, 0)), (b1, .cells (rdV r a6rO k6rO a3r k3r a4r k4r).toArray 30 (0, 0))] [] [Rp Li [.slice a6rO r.object.nodes.length k6rO] r.object.nodes, Rp (Shape.slice pcS) [.slice a3r r.pieces.length k3r] r.pieces, Rp Li [.slice a4r r.bad.length k4r] r.bad, Rp Li [.slice a6robjectq r.object.nodes.length k6robjectq] r.object.nodes, Rp (Shape.slice pcS) [.slice a3rq r.pieces.length k3rq] r.pieces, Rp Li [.slice a4rq r.bad.length k4rq] r.bad] w' ∧ True) (fun _ => 0) (()) ⟨H, trivial⟩ (rfl) ?_
       rintro _ w14 ⟨H, hinv0⟩ hback13
       refine qR 2 [.c [2, 0, 1, 0, 0, 0, 0], .c [2, 0, 1, 0, 0, 0, 1], .c [2, 0, 1, 0, 0, 1], .l [2, 0, 1, 0, 0], .b 0, .c [3]] [(2, .P b1 0), (3, .P b3 0), (5, .I 0)] ?_
       refine qG (sq 0 5) ?_
       refine qP 2 (sq 2 5) [(2, .P b1 0), (3, .P b3 0), (5, .I 0), (56, .I 0), (57, .P b1 9)] ?_
       refine qL .seq 58 (sq 3 5) 27 b1 9 9 (.slice a3r r.pieces.length k3r) (H.cells 1 rfl) ?_
       refine qF 2 [(2, .P b1 0), (3, .P b3 0), (5, .I 0), (60, .bool (decide ((0 : Int) < ((r.pieces.length : Nat) : Int))))] ?_
       refine qD ((0 : Int) < ((r.pieces.length : Nat) : Int)) (fun h15 => ?_) (fun h15 => ?_)
       ·
        omega
       ·
        refine qR 2 [.c [3, 0], .c [4]] [(2, .P b1 0), (3, .P b3 0)] ?_
        refine qG (sq 0 10) ?_
        refine qP 1 (sq 1 10) [(3, .P b3 0), (92, .P b1 0)] ?_
        refine qL .seq 93 (sq 2 10) 26 b1 0 0 (.agg (objV r.object a6rO k6rO).toArray) (H.cells 1 rfl) ?_
        refine RW.new (κ := .seq) (d := some 94) (r := (sq 3 10)) (o := .cells (objV r.object a6rO k6rO).toArray 26 (0, 0)) (v := fun b => .slice (some ⟨b, 0, none⟩) 1 1) (fun b => by as_aux_lemma => kernel_rfl) (nofun) H ?_
        intro b16 w17 H
        refine qP 2 (sq 5 10) [(95, .agg #[.I 0, .I 0, .I 0, .int .u64 0, .slice none 0 0, .int .u64 0, .slice none 0 0, .slice none 0 0, .slice (some ⟨b16, 0, none⟩) 1 1, .slice none 0 0, .slice none 0 0, .slice none 0 0, .slice none 0 0, .int .u64 0]), (96, .P b3 0)] ?_
        refine qL .seq 97 (sq 6 10) 26 b3 0 0 (.agg (objV r.object a6robjectq k6robjectq).toArray) (H.cells 1 rfl) ?_
        refine RW.new (κ := .seq) (d := some 98) (r := (sq 7 10)) (o := .cells (objV r.object a6robjectq k6robjectq).toArray 26 (0, 0)) (v := fun b => .slice (some ⟨b, 0, none⟩) 1 1) (fun b => by as_aux_lemma => kernel_rfl) (nofun) H ?_
        intro b18 w19 H
        refine qP 1 (sq 8 10) [(95, .agg #[.I 0, .I 0, .I 0, .int .u64 0, .slice none 0 0, .int .u64 0, .slice none 0 0, .slice none 0 0, .slice (some ⟨b16, 0, none⟩) 1 1, .slice none 0 0, .slice none 0 0, .slice none 0 0, .slice none 0 0, .int .u64 0]), (99, .agg #[.I 0, .I 0, .I 0, .int .u64 0, .slice none 0 0, .int .u64 0, .slice none 0 0, .slice none 0 0, .slice (some ⟨b18, 0, none⟩) 1 1, .slice none 0 0, .slice none 0 0, .slice none 0 0, .slice none 0 0, .int .u64 0])] ?_
        have H := H.freeze 1 rfl objS ([r.object] : List ObjD) 1 (by simp [maxLen]) (by first | exact Nat.le_refl _ | simp) (EsP.cons (c := [.string r.object.key, .int .u64 r.object.version, .I r.object.size, .int .u32 ((r.object.sum.toNat : Nat) : Int), .I r.object.group, .int .u64 r.object.epoch, .slice a6rO r.object.nodes.length k6rO]) (obj_mk (y0 := r.object.key) (y1 := r.object.version) (y2 := r.object.size) (y3 := r.object.sum) (y4 := r.object.group) (y5 := r.object.epoch) (y6 := r.object.nodes) ⟨rfl, h0rO⟩ u64a i64a Shape.bv_mk i64a u64a (H.rp 0 rfl)) EsP.nil)
        have H : Hp w S [] [(b18, .cells (objV r.object a6robjectq k6robjectq).toArray 26 (0, 0)), (b3, .cells (rdV r a6robjectq k6robjectq a3rq k3rq a4rq k4rq).toArray 30 (0, 0)), (b1, .cells (rdV r a6rO k6rO a3r k3r a4r k4r).toArray 30 (0, 0))] [] [Rp (Shape.slice objS) [.slice (some ⟨b16, 0, none⟩) 1 1] ([r.object] : List ObjD), Rp Li [.slice a6rO r.object.nodes.length k6rO] r.object.nodes, Rp (Shape.slice pcS) [.slice a3r r.pieces.length k3r] r.pieces, Rp Li [.slice a4r r.bad.length k4r] r.bad, Rp Li [.slice a6robjectq r.object.nodes.length k6robjectq] r.object.nodes, Rp (Shape.slice pcS) [.slice a3rq r.pieces.length k3rq] r.pieces, Rp Li [.slice a4rq r.bad.length k4rq] r.bad] _ := H
        have H := H.freeze 0 rfl objS ([r.object] : List ObjD) 1 (by simp [maxLen]) (by first | exact Nat.le_refl _ | simp) (EsP.cons (c := [.string r.object.key, .int .u64 r.object.version, .I r.object.size, .int .u32 ((r.object.sum.toNat : Nat) : Int), .I r.object.group, .int .u64 r.object.epoch, .slice a6robjectq r.object.nodes.length k6robjectq]) (obj_mk (y0 := r.object.key) (y1 := r.object.version) (y2 := r.object.size) (y3 := r.object.sum) (y4 := r.object.group) (y5 := r.object.epoch) (y6 := r.object.nodes) ⟨rfl, h0robjectq⟩ u64a i64a Shape.bv_mk i64a u64a (H.rp 4 rfl)) EsP.nil)
        have H : Hp w S [] [(b3, .cells (rdV r a6robjectq k6robjectq a3rq k3rq a4rq k4rq).toArray 30 (0, 0)), (b1, .cells (rdV r a6rO k6rO a3r k3r a4r k4r).toArray 30 (0, 0))] [] [Rp (Shape.slice objS) [.slice (some ⟨b18, 0, none⟩) 1 1] ([r.object] : List ObjD), Rp (Shape.slice objS) [.slice (some ⟨b16, 0, none⟩) 1 1] ([r.object] : List ObjD), Rp Li [.slice a6rO r.object.nodes.length k6rO] r.object.nodes, Rp (Shape.slice pcS) [.slice a3r r.pieces.length k3r] r.pieces, Rp Li [.slice a4r r.bad.length k4r] r.bad, Rp Li [.slice a6robjectq r.object.nodes.length k6robjectq] r.object.nodes, Rp (Shape.slice pcS) [.slice a3rq r.pieces.length k3rq] r.pieces, Rp Li [.slice a4rq r.bad.length k4rq] r.bad] _ := H
        refine qK .seq (some 100) (sq 9 10) 22 #[.agg #[.I 0, .I 0, .I 0, .int .u64 0, .slice none 0 0, .int .u64 0, .slice none 0 0, .slice none 0 0, .slice (some ⟨b16, 0, none⟩) 1 1, .slice none 0 0, .slice none 0 0, .slice none 0 0, .slice none 0 0, .int .u64 0], .agg #[.I 0, .I 0, .I 0, .int .u64 0, .slice none 0 0, .int .u64 0, .slice none 0 0, .slice none 0 0, .slice (some ⟨b18, 0, none⟩) 1 1, .slice none 0 0, .slice none 0 0, .slice none 0 0, .slice none 0 0, .int .u64 0]] (samemeta_spec (S := Av S w [] (idsOf [(b3, .cells (rdV r a6robjectq k6robjectq a3rq k3rq a4rq k4rq).toArray 30 (0, 0)), (b1, .cells (rdV r a6rO k6rO a3r k3r a4r k4r).toArray 30 (0, 0))] [])) (D := r.object) (hok) (H.rp 1 rfl) (H.rp 0 rfl)) ?_
        rintro _ w20 hE21 rfl
        have H := H.ext hE21
        refine qF 1 [(4, .bool true)] ?_
        refine qT (.bool true) Tryz.func7 ?_
        exact ⟨_, rfl, H.done, rfl⟩
theorem rows_eq {S : Nat → Prop} {w : World} {ms : List Msg} {a b : Option Addr} {c d : Nat} (hok : ∀ m ∈ ms, MsgOk m) (h : (Shape.slice msgS).rep S w [.slice a ms.length c] ms) (h2 : (Shape.slice msgS).rep S w [.slice b ms.length d] ms) :
 Calls Tryz.prog 8 #[.slice a ms.length c, .slice b ms.length d] w (Ret fun v w' => Ext w w' ∧ v = .bool true) := by
 have hxl := Shape.slice_len h
 refine qS (fn := Tryz.f8) (n := 27) (σ := [(0, .slice a ms.length c), (1, .slice b ms.length d)]) Tryz.func8 ?_
 have H := Hp.startF (w := w) (S := S) (G := [Rp (Shape.slice msgS) [.slice a ms.length c] ms, Rp (Shape.slice msgS) [.slice b ms.length d] ms]) (.rp h (.rp h2 .nil))
 refine qR 5 [.c [1, 0, 1], .c [2]] [(0, .slice a ms.length c), (1, .slice b ms.length d), (10, .bool (((ms.length : Nat) : Int) != ((ms.length : Nat) : Int)))] ?_
 refine qN ((ms.length : Nat) : Int) ((ms.length : Nat) : Int) (fun h1 => ?_) (fun h1 => ?_)
 ·
  exact absurd rfl h1
 ·
  refine qR 5 [.c [2, 0, 1, 0], .b 0, .c [3]] [(0, .slice a ms.length c), (1, .slice b ms.length d), (5, .I 0)] ?_
  refine WK.loop (α := Nat) (b := cd Tryz.prog 8 [2, 0, 1, 0, 0]) (by as_aux_lemma => kernel_rfl) (fun i => [(0, .slice a ms.length c), (1, .slice b ms.length d), (5, .I i)]) (fun i w' => Hp w S [] [] [] [Rp (Shape.slice msgS) [.slice a ms.length c] ms, Rp (Shape.slice msgS) [.slice b ms.length d] ms] w' ∧ i ≤ ms.length) (fun i => ms.length - i) 0 ⟨H, Nat.zero_le _⟩ (rfl) ?_
  rintro i w3 ⟨H, hinv0⟩ hback2
  refine qR 3 [.c [2, 0, 1, 0, 0, 0, 1], .c [2, 0, 1, 0, 0, 1], .l [2, 0, 1, 0, 0], .b 0, .c [3]] [(0, .slice a ms.length c), (1, .slice b ms.length d), (5, .I i), (14, .bool (decide (((i : Int) : Int) < ((ms.length : Nat) : Int))))] ?_
  refine qD (((i : Int) : Int) < ((ms.length : Nat) : Int)) (fun h4 => ?_) (fun h4 => ?_)
  ·
   obtain ⟨m1, hm1⟩ : ∃ m, ms[i]? = some m := ⟨ms[i], List.getElem?_eq_getElem (by omega)⟩
   refine qR 4 [.c [2, 0, 1, 0, 0, 1, 0, 0, 0], .c [2, 0, 1, 0, 0, 1, 0, 0, 1], .b 1, .c [2, 0, 1, 0, 0, 2], .l [2, 0, 1, 0, 0], .b 0, .c [3]] [(0, .slice a ms.length c), (1, .slice b ms.length d), (5, .I i)] ?_
   refine WK.draw1 10 [(0, .qui), (1, .qui), (2, .qui), (3, .qui), (4, .qui), (5, .qui), (6, .qui), (7, .qui), (8, .chn), (9, .qui)] [(0, .qui), (1, .qui), (2, .qui), (3, .qui), (4, .qui), (5, .qui), (6, .qui), (7, .qui), (8, .chn), (9, .qui)] Try_mixed (by as_aux_lemma => kernel_rfl) (by as_aux_lemma => kernel_rfl) (by as_aux_lemma => kernel_rfl) ?_
   have H := H.draw
   generalize ({ w3 with drawn := w3.drawn + 1 } : World) = w5 at H ⊢
   refine qP 2 [(2, .qui), (3, .qui), (4, .qui), (5, .qui), (6, .qui), (7, .qui), (8, .chn), (9, .qui)] [(0, .slice a ms.length c), (1, .slice b ms.length d), (5, .I i), (17, .slice a ms.length c), (18, .I i)] ?_
   have hx6 : i < ms.length := by omega
   refine qX .qui 19 [(3, .qui), (4, .qui), (5, .qui), (6, .qui), (7, .qui), (8, .chn), (9, .qui)] 31 89 (i : Int) msgS m1 H 0 rfl i (by omega) (hm1) ?_
   intro b7 o8 es9 hr10 H
   obtain ⟨a10q11, k10q11, cs11q11, cs12q11, a13q11, k13q11, a19q11, k19q11, rfl, hf12, hf13, hf14, hf15, hf16, hf17, hf18, hf19, hf20, hf21, hf22, hf23, hf24, hf25, hf26, hf27, hf28, hf29⟩ := msg_open hr10
   obtain ⟨a0q30, k0q30, a1q30, k1q30, rfl, hf31, hf32⟩ := conf_open hf21
   obtain ⟨cs0q33, rfl, hf34, hf35, hf36, hf37⟩ := hdr_open hf22
   obtain ⟨rfl, hf39, hf40, hf41⟩ := cid_open hf34
   have H := H.add (F := Rp (Shape.slice entS) [.slice a10q11 m1.entries.length k10q11] m1.entries) hf20
   have H := H.add (F := Rp Li [.slice a0q30 m1.conf.voters.length k0q30] m1.conf.voters) hf31
   have H := H.add (F := Rp Li [.slice a1q30 m1.conf.learners.length k1q30] m1.conf.learners) hf32
   have H := H.add (F := Rp SB [.slice a13q11 m1.data.length k13q11] m1.data) hf23
   have H := H.add (F := Rp (Shape.slice Shape.str) [.slice a19q11 m1.names.length k19q11] m1.names) hf29
   refine qL .qui 20 [(4, .qui), (5, .qui), (6, .qui), (7, .qui), (8, .chn), (9, .qui)] 89 b7 o8 0 (.agg (msgV m1 a10q11 k10q11 a0q30 k0q30 a1q30 k1q30 a13q11 k13q11 a19q11 k19q11).toArray) (H.fc 5 rfl) ?_
   refine qP 2 [(6, .qui), (7, .qui), (8, .chn), (9, .qui)] [(0, .slice a ms.length c), (1, .slice b ms.length d), (5, .I i), (20, .agg (msgV m1 a10q11 k10q11 a0q30 k0q30 a1q30 k1q30 a13q11 k13q11 a19q11 k19q11).toArray), (21, .slice b ms.length d), (22, .I i)] ?_
   have hx42 : i < ms.length := by omega
   refine qX .qui 23 [(7, .qui), (8, .chn), (9, .qui)] 31 89 (i : Int) msgS m1 H 7 rfl i (by omega) (hm1) ?_
   intro b43 o44 es45 hr46 H
   obtain ⟨a10q47, k10q47, cs11q47, cs12q47, a13q47, k13q47, a19q47, k19q47, rfl, hf48, hf49, hf50, hf51, hf52, hf53, hf54, hf55, hf56, hf57, hf58, hf59, hf60, hf61, hf62, hf63, hf64, hf65⟩ := msg_open hr46
   obtain ⟨a0q66, k0q66, a1q66, k1q66, rfl, hf67, hf68⟩ := conf_open hf57
   obtain ⟨cs0q69, rfl, hf70, hf71, hf72, hf73⟩ := hdr_open hf58
   obtain ⟨rfl, hf75, hf76, hf77⟩ := cid_open hf70
   have H := H.add (F := Rp (Shape.slice entS) [.slice a10q47 m1.entries.length k10q47] m1.entries) hf56
   have H := H.add (F := Rp Li [.slice a0q66 m1.conf.voters.length k0q66] m1.conf.voters) hf67
   have H := H.add (F := Rp Li [.slice a1q66 m1.conf.learners.length k1q66] m1.conf.learners) hf68
   have H := H.add (F := Rp SB [.slice a13q47 m1.data.length k13q47] m1.data) hf59
   have H := H.add (F := Rp (Shape.slice Shape.str) [.slice a19q47 m1.names.length k19q47] m1.names) hf65
   refine qL .qui 24 [(8, .chn), (9, .qui)] 89 b43 o44 0 (.agg (msgV m1 a10q47 k10q47 a0q66 k0q66 a1q66 k1q66 a13q47 k13q47 a19q47 k19q47).toArray) (H.fc 5 rfl) ?_
   refine qK .chn (some 25) [(9, .qui)] 23 #[.agg (msgV m1 a10q11 k10q11 a0q30 k0q30 a1q30 k1q30 a13q11 k13q11 a19q11 k19q11).toArray, .agg (msgV m1 a10q47 k10q47 a0q66 k0q66 a1q66 k1q66 a13q47 k13q47 a19q47 k19q47).toArray] (same_spec (S := Av S w [] (idsOf [] [])) (m := m1) (hok m1 (List.mem_of_getElem? hm1)) (H.rp 9 rfl) (H.rp 8 rfl) (H.rp 7 rfl) (H.rp 3 rfl) (H.rp 2 rfl) (H.rp 1 rfl)) ?_
   rintro _ w78 hE79 rfl
   have H := H.ext hE79
   refine qF 1 [(0, .slice a ms.length c), (1, .slice b ms.length d), (5, .I i), (26, .bool false)] ?_
   refine qR 3 [.c [2, 0, 1, 0, 0, 2], .l [2, 0, 1, 0, 0], .b 0, .c [3]] [(0, .slice a ms.length c), (1, .slice b ms.length d), (5, .I i)] ?_
   refine qG (sq 0 3) ?_
   refine qP 1 (sq 1 3) [(0, .slice a ms.length c), (1, .slice b ms.length d), (5, .I i), (15, .I i)] ?_
   refine qI .seq 16 (sq 2 3) ((i : Int) + 1) ?_
   refine qF 1 [(0, .slice a ms.length c), (1, .slice b ms.length d), (5, .I ((i : Int) + 1))] ?_
   have H := H.pick [12, 13] rfl
   exact WK.back (hback2 (i + 1) _ ⟨H, by omega⟩ (by first | omega | (simp only []; omega))) (by as_aux_lemma => kernel_rfl)
  ·
   refine qR 3 [.c [4]] [(4, .bool true)] ?_
   refine qT (.bool true) Tryz.func8 ?_
   exact ⟨_, rfl, H.done, rfl⟩
theorem ask_ok {r : Rd} (hO : ObjOk r.object) (hk : (-9223372036854775808 ≤ r.kk ∧ r.kk ≤ 9223372036854775807)) (hn : (-9223372036854775808 ≤ r.nn ∧ r.nn ≤ 9223372036854775807)) (hl : r.object.nodes.length ≤ 1000000) : ∀ m ∈ asksR r, MsgOk m := by
 intro m hm
 unfold asksR asksTo at hm
 obtain ⟨i, hi, he⟩ := List.mem_filterMap.1 hm
 have hi2 := List.mem_range.1 hi
 obtain ⟨hb0, hb1, hb2, hb3, hb4, hb5, hb6⟩ := hO
 split at he
 · obtain rfl := Option.some.inj he
   have hto := hb6 (r.object.nodes.getD i 0) (by rw [getD_at' 0 hi2]; exact List.getElem_mem _)
   refine ⟨rfl, rfl, ?_, ⟨⟨hb0, ?_, hb3⟩, hk, hn, hb1⟩, ?_, ?_, ?_⟩
   · refine ⟨?_, ?_, hto, ?_, ?_, ?_, ?_, ?_, ?_, ?_, ?_, ?_⟩ <;> (dsimp only [askOf]; omega)
   · show -9223372036854775808 ≤ (i : Int) ∧ (i : Int) ≤ 9223372036854775807
     omega
   · exact Nat.zero_le _
   · exact Nat.zero_le _
   · exact Nat.zero_le _
 · cases he
set_option maxHeartbeats 2000000 in
theorem begins_ok {S : Nat → Prop} {w : World} {O : ObjD} {os : List Value} (hO : objS.rep S w os O) (k n limit : Int) (hb : okB O k n limit) (hkey : O.key.size ≤ 1000000000) :
 Calls Tryz.prog 3 #[.agg os.toArray, .I k, .I n, .I limit] w (Ret fun v w' => Ext w w' ∧ v = .bool true) := by
 obtain ⟨a6O, k6O, rfl, h0O, h1O, h2O, h4O, h5O, h6O⟩ := obj_open hO
 obtain ⟨hb1, hb2, hb3, hb4, hb5, hb6⟩ := id hb
 have hbl := el_ok.1 hb1
 unfold okL at hbl
 have hOk : ObjOk O := ⟨h1O, h2O, h4O, h5O, hkey, by omega, rep_ints h6O⟩
 refine qS (fn := Tryz.f3) (n := 49) (σ := [(0, .agg (objV O a6O k6O).toArray), (1, .I k), (2, .I n), (3, .I limit)]) Tryz.func3 ?_
 have H := Hp.startF (w := w) (S := S) (G := [Rp Li [.slice a6O O.nodes.length k6O] O.nodes]) (.rp h6O .nil)
 refine qR 1 [.c [0], .c [1]] [(0, .agg (objV O a6O k6O).toArray), (1, .I k), (2, .I n), (3, .I limit)] ?_
 refine qG (sq 0 2) ?_
 refine qB .seq 4 (sq 1 2) ((objV O a6O k6O).toArray) 26 H ?_
 intro b1 w2 H
 refine qF 1 [(1, .I k), (2, .I n), (3, .I limit), (4, .P b1 0)] ?_
 refine qR 1 [.c [1, 0], .c [2]] [(1, .I k), (2, .I n), (3, .I limit), (4, .P b1 0)] ?_
 refine qG (sq 0 13) ?_
 refine qL .seq 16 (sq 1 13) 26 b1 0 0 (.agg (objV O a6O k6O).toArray) (H.cells 0 rfl) ?_
 refine qP 3 (sq 4 13) [(1, .I k), (2, .I n), (3, .I limit), (4, .P b1 0), (16, .agg (objV O a6O k6O).toArray), (17, .I k), (18, .I n), (19, .I limit)] ?_
 refine qK .seq (some 20) (sq 5 13) 5 #[.agg (objV O a6O k6O).toArray, .I k, .I n, .I limit] (fbegin_ok (O := O) (obj_mk (y0 := O.key) (y1 := O.version) (y2 := O.size) (y3 := O.sum) (y4 := O.group) (y5 := O.epoch) (y6 := O.nodes) ⟨rfl, h0O⟩ u64a i64a Shape.bv_mk i64a u64a (H.rp 0 rfl)) k n limit (hb)) ?_
 rintro _ w3 hE4 ⟨cs5, a6, c7, rfl, hr8, hr9⟩
 have H0s := H
 replace hr8 : rdS.rep _ _ cs5 (beginR O k n limit) := hr8
 replace hr9 : (Shape.slice msgS).rep _ _ [.slice a6 (asksR (beginR O k n limit)).length c7] (asksR (beginR O k n limit)) := hr9
 obtain ⟨cs0q10, a3q10, k3q10, a4q10, k4q10, rfl, hf11, hf12, hf13, hf14, hf15, hf16, hf17, hf18⟩ := rd_open hr8
 obtain ⟨a6q19, k6q19, rfl, hf20, hf21, hf22, hf23, hf24, hf25⟩ := obj_open hf11
 have H := H.addN hE4 (F := Rp (Shape.slice msgS) [.slice a6 ((asksR (beginR O k n limit)).length) c7] (asksR (beginR O k n limit))) hr9
 have H := H.add (F := Rp Li [.slice a6q19 (((beginR O k n limit).object).nodes.length) k6q19] (((beginR O k n limit).object).nodes)) ((H0s.addN hE4 (F := Rp Li [.slice a6q19 (((beginR O k n limit).object).nodes.length) k6q19] (((beginR O k n limit).object).nodes)) hf25).rp 0 rfl)
 have H := H.add (F := Rp (Shape.slice pcS) [.slice a3q10 ((beginR O k n limit).pieces.length) k3q10] ((beginR O k n limit).pieces)) ((H0s.addN hE4 (F := Rp (Shape.slice pcS) [.slice a3q10 ((beginR O k n limit).pieces.length) k3q10] ((beginR O k n limit).pieces)) hf14).rp 0 rfl)
 have H := H.add (F := Rp Li [.slice a4q10 ((beginR O k n limit).bad.length) k4q10] ((beginR O k n limit).bad)) ((H0s.addN hE4 (F := Rp Li [.slice a4q10 ((beginR O k n limit).bad.length) k4q10] ((beginR O k n limit).bad)) hf15).rp 0 rfl)
 refine qP 4 (sq 9 13) [(1, .I k), (2, .I n), (3, .I limit), (4, .P b1 0), (21, .agg (rdV (beginR O k n limit) a6q19 k6q19 a3q10 k3q10 a4q10 k4q10).toArray), (22, .slice a6 ((asksR (beginR O k n limit)).length) c7), (23, .I 0)] ?_
 refine qB .seq 9 (sq 10 13) ((rdZ).toArray) 30 H ?_
 intro b26 w27 H
 refine qW 30 b26 0 (sq 11 13) (.agg (rdV (beginR O k n limit) a6q19 k6q19 a3q10 k3q10 a4q10 k4q10).toArray) [(b26, .cells (rdV (beginR O k n limit) a6q19 k6q19 a3q10 k3q10 a4q10 k4q10).toArray 30 (0, 0)), (b1, .cells (objV O a6O k6O).toArray 26 (0, 0))] H 0 rfl rfl ?_
 intro w28 H
 refine qF 2 [(1, .I k), (2, .I n), (3, .I limit), (4, .P b1 0), (9, .P b26 0), (10, .slice a6 ((asksR (beginR O k n limit)).length) c7), (11, .I 0)] ?_
 refine qR 1 [.c [2, 0], .c [3]] [(1, .I k), (2, .I n), (3, .I limit), (4, .P b1 0), (9, .P b26 0), (10, .slice a6 ((asksR (beginR O k n limit)).length) c7), (11, .I 0)] ?_
 refine qG (sq 0 13) ?_
 refine qL .seq 25 (sq 1 13) 26 b1 0 0 (.agg (objV O a6O k6O).toArray) (H.cells 1 rfl) ?_
 refine qP 3 (sq 4 13) [(9, .P b26 0), (10, .slice a6 ((asksR (beginR O k n limit)).length) c7), (11, .I 0), (25, .agg (objV O a6O k6O).toArray), (26, .I k), (27, .I n), (28, .I limit)] ?_
 refine qK .seq (some 29) (sq 5 13) 6 #[.agg (objV O a6O k6O).toArray, .I k, .I n, .I limit] (rbegin_ok (O := O) (obj_mk (y0 := O.key) (y1 := O.version) (y2 := O.size) (y3 := O.sum) (y4 := O.group) (y5 := O.epoch) (y6 := O.nodes) ⟨rfl, h0O⟩ u64a i64a Shape.bv_mk i64a u64a (H.rp 4 rfl)) k n limit hb) ?_
 rintro _ w29 hE30 ⟨cs31, a32, c33, rfl, hr34, hr35⟩
 have H0s := H
 replace hr34 : rdS.rep _ _ cs31 (beginR O k n limit) := hr34
 replace hr35 : (Shape.slice msgS).rep _ _ [.slice a32 (asksR (beginR O k n limit)).length c33] (asksR (beginR O k n limit)) := hr35
 obtain ⟨cs0q36, a3q36, k3q36, a4q36, k4q36, rfl, hf37, hf38, hf39, hf40, hf41, hf42, hf43, hf44⟩ := rd_open hr34
 obtain ⟨a6q45, k6q45, rfl, hf46, hf47, hf48, hf49, hf50, hf51⟩ := obj_open hf37
 have H := H.addN hE30 (F := Rp (Shape.slice msgS) [.slice a32 ((asksR (beginR O k n limit)).length) c33] (asksR (beginR O k n limit))) hr35
 have H := H.add (F := Rp Li [.slice a6q45 (((beginR O k n limit).object).nodes.length) k6q45] (((beginR O k n limit).object).nodes)) ((H0s.addN hE30 (F := Rp Li [.slice a6q45 (((beginR O k n limit).object).nodes.length) k6q45] (((beginR O k n limit).object).nodes)) hf51).rp 0 rfl)
 have H := H.add (F := Rp (Shape.slice pcS) [.slice a3q36 ((beginR O k n limit).pieces.length) k3q36] ((beginR O k n limit).pieces)) ((H0s.addN hE30 (F := Rp (Shape.slice pcS) [.slice a3q36 ((beginR O k n limit).pieces.length) k3q36] ((beginR O k n limit).pieces)) hf40).rp 0 rfl)
 have H := H.add (F := Rp Li [.slice a4q36 ((beginR O k n limit).bad.length) k4q36] ((beginR O k n limit).bad)) ((H0s.addN hE30 (F := Rp Li [.slice a4q36 ((beginR O k n limit).bad.length) k4q36] ((beginR O k n limit).bad)) hf41).rp 0 rfl)
 refine qP 4 (sq 9 13) [(9, .P b26 0), (10, .slice a6 ((asksR (beginR O k n limit)).length) c7), (11, .I 0), (30, .agg (rdV (beginR O k n limit) a6q45 k6q45 a3q36 k3q36 a4q36 k4q36).toArray), (31, .slice a32 ((asksR (beginR O k n limit)).length) c33), (32, .I 0)] ?_
 refine qB .seq 12 (sq 10 13) ((rdZ).toArray) 30 H ?_
 intro b52 w53 H
 refine qW 30 b52 0 (sq 11 13) (.agg (rdV (beginR O k n limit) a6q45 k6q45 a3q36 k3q36 a4q36 k4q36).toArray) [(b52, .cells (rdV (beginR O k n limit) a6q45 k6q45 a3q36 k3q36 a4q36 k4q36).toArray 30 (0, 0)), (b26, .cells (rdV (beginR O k n limit) a6q19 k6q19 a3q10 k3q10 a4q10 k4q10).toArray 30 (0, 0)), (b1, .cells (objV O a6O k6O).toArray 26 (0, 0))] H 0 rfl rfl ?_
 intro w54 H
 refine qF 2 [(9, .P b26 0), (10, .slice a6 ((asksR (beginR O k n limit)).length) c7), (11, .I 0), (12, .P b52 0), (13, .slice a32 ((asksR (beginR O k n limit)).length) c33), (14, .I 0)] ?_
 refine qR 1 [.c [3, 0], .c [4]] [(9, .P b26 0), (10, .slice a6 ((asksR (beginR O k n limit)).length) c7), (11, .I 0), (12, .P b52 0), (13, .slice a32 ((asksR (beginR O k n limit)).length) c33), (14, .I 0)] ?_
 refine qG (sq 0 17) ?_
 refine qL .seq 33 (sq 1 17) 30 b26 0 0 (.agg (rdV (beginR O k n limit) a6q19 k6q19 a3q10 k3q10 a4q10 k4q10).toArray) (H.cells 1 rfl) ?_
 refine qL .seq 34 (sq 2 17) 30 b52 0 0 (.agg (rdV (beginR O k n limit) a6q45 k6q45 a3q36 k3q36 a4q36 k4q36).toArray) (H.cells 0 rfl) ?_
 refine qK .seq (some 35) (sq 3 17) 7 #[.agg (rdV (beginR O k n limit) a6q19 k6q19 a3q10 k3q10 a4q10 k4q10).toArray, .agg (rdV (beginR O k n limit) a6q45 k6q45 a3q36 k3q36 a4q36 k4q36).toArray] (rsame_spec (S := Av S w [] (idsOf [(b52, .cells (rdV (beginR O k n limit) a6q45 k6q45 a3q36 k3q36 a4q36 k4q36).toArray 30 (0, 0)), (b26, .cells (rdV (beginR O k n limit) a6q19 k6q19 a3q10 k3q10 a4q10 k4q10).toArray 30 (0, 0)), (b1, .cells (objV O a6O k6O).toArray 26 (0, 0))] [])) (r := (beginR O k n limit)) (rd_mkB (by unfold rdB; omega) (H.rp 6 rfl) (H.rp 5 rfl) (H.rp 4 rfl)) (rd_mkB (by unfold rdB; omega) (H.rp 2 rfl) (H.rp 1 rfl) (H.rp 0 rfl)) (rfl) (hOk)) ?_
 rintro _ w55 hE56 rfl
 have H := H.ext hE56
 refine qP 3 (sq 6 17) [(11, .I 0), (14, .I 0), (36, .bool true), (37, .slice a6 ((asksR (beginR O k n limit)).length) c7), (38, .slice a32 ((asksR (beginR O k n limit)).length) c33)] ?_
 refine qK .seq (some 39) (sq 7 17) 8 #[.slice a6 ((asksR (beginR O k n limit)).length) c7, .slice a32 ((asksR (beginR O k n limit)).length) c33] (rows_eq (S := Av S w [] (idsOf [(b52, .cells (rdV (beginR O k n limit) a6q45 k6q45 a3q36 k3q36 a4q36 k4q36).toArray 30 (0, 0)), (b26, .cells (rdV (beginR O k n limit) a6q19 k6q19 a3q10 k3q10 a4q10 k4q10).toArray 30 (0, 0)), (b1, .cells (objV O a6O k6O).toArray 26 (0, 0))] [])) (ms := asksR (beginR O k n limit)) (ask_ok hOk (by show _ ≤ k ∧ k ≤ _; omega) (by show _ ≤ n ∧ n ≤ _; omega) (by show O.nodes.length ≤ 1000000; omega)) (H.rp 7 rfl) (H.rp 3 rfl)) ?_
 rintro _ w57 hE58 rfl
 have H := H.ext hE58
 refine qP 7 (sq 14 17) [(46, .bool true)] ?_
 refine qK .seq (some 47) (sq 15 17) 9 #[] (heads21_spec (S := fun _ => True)) ?_
 rintro _ w59 hE60 rfl
 have H := H.ext hE60
 refine qF 2 [(8, .bool true)] ?_
 refine qT (.bool true) Tryz.func3 ?_
 exact ⟨_, rfl, H.done, rfl⟩
set_option maxHeartbeats 2000000 in
theorem begins_bad {S : Nat → Prop} {w : World} {O : ObjD} {os : List Value} (hO : objS.rep S w os O) (k n limit : Int) (hb : ¬ okB O k n limit) :
 Calls Tryz.prog 3 #[.agg os.toArray, .I k, .I n, .I limit] w (Ret fun v w' => Ext w w' ∧ v = .bool true) := by
 obtain ⟨a6O, k6O, rfl, h0O, h1O, h2O, h4O, h5O, h6O⟩ := obj_open hO
 refine qS (fn := Tryz.f3) (n := 49) (σ := [(0, .agg (objV O a6O k6O).toArray), (1, .I k), (2, .I n), (3, .I limit)]) Tryz.func3 ?_
 have H := Hp.startF (w := w) (S := S) (G := [Rp Li [.slice a6O O.nodes.length k6O] O.nodes]) (.rp h6O .nil)
 refine qR 1 [.c [0], .c [1]] [(0, .agg (objV O a6O k6O).toArray), (1, .I k), (2, .I n), (3, .I limit)] ?_
 refine qG (sq 0 2) ?_
 refine qB .seq 4 (sq 1 2) ((objV O a6O k6O).toArray) 26 H ?_
 intro b1 w2 H
 refine qF 1 [(1, .I k), (2, .I n), (3, .I limit), (4, .P b1 0)] ?_
 refine qR 1 [.c [1, 0], .c [2]] [(1, .I k), (2, .I n), (3, .I limit), (4, .P b1 0)] ?_
 refine qG (sq 0 13) ?_
 refine qL .seq 16 (sq 1 13) 26 b1 0 0 (.agg (objV O a6O k6O).toArray) (H.cells 0 rfl) ?_
 refine qP 3 (sq 4 13) [(1, .I k), (2, .I n), (3, .I limit), (4, .P b1 0), (16, .agg (objV O a6O k6O).toArray), (17, .I k), (18, .I n), (19, .I limit)] ?_
 refine qK .seq (some 20) (sq 5 13) 5 #[.agg (objV O a6O k6O).toArray, .I k, .I n, .I limit] (fbegin_bad (O := O) (obj_mk (y0 := O.key) (y1 := O.version) (y2 := O.size) (y3 := O.sum) (y4 := O.group) (y5 := O.epoch) (y6 := O.nodes) ⟨rfl, h0O⟩ u64a i64a Shape.bv_mk i64a u64a (H.rp 0 rfl)) k n limit (hb)) ?_
 rintro _ w3 hE4 rfl
 have H := H.ext hE4
 refine qP 4 (sq 9 13) [(1, .I k), (2, .I n), (3, .I limit), (4, .P b1 0), (21, .agg (rdZ).toArray), (22, .slice none 0 0), (23, .I 2)] ?_
 refine qB .seq 9 (sq 10 13) ((rdZ).toArray) 30 H ?_
 intro b5 w6 H
 refine qW 30 b5 0 (sq 11 13) (.agg (rdZ).toArray) [(b5, .cells (rdZ).toArray 30 (0, 0)), (b1, .cells (objV O a6O k6O).toArray 26 (0, 0))] H 0 rfl rfl ?_
 intro w7 H
 refine qF 2 [(1, .I k), (2, .I n), (3, .I limit), (4, .P b1 0), (9, .P b5 0), (10, .slice none 0 0), (11, .I 2)] ?_
 refine qR 1 [.c [2, 0], .c [3]] [(1, .I k), (2, .I n), (3, .I limit), (4, .P b1 0), (9, .P b5 0), (10, .slice none 0 0), (11, .I 2)] ?_
 refine qG (sq 0 13) ?_
 refine qL .seq 25 (sq 1 13) 26 b1 0 0 (.agg (objV O a6O k6O).toArray) (H.cells 1 rfl) ?_
 refine qP 3 (sq 4 13) [(9, .P b5 0), (10, .slice none 0 0), (11, .I 2), (25, .agg (objV O a6O k6O).toArray), (26, .I k), (27, .I n), (28, .I limit)] ?_
 refine qK .seq (some 29) (sq 5 13) 6 #[.agg (objV O a6O k6O).toArray, .I k, .I n, .I limit] (rbegin_bad (O := O) (obj_mk (y0 := O.key) (y1 := O.version) (y2 := O.size) (y3 := O.sum) (y4 := O.group) (y5 := O.epoch) (y6 := O.nodes) ⟨rfl, h0O⟩ u64a i64a Shape.bv_mk i64a u64a (H.rp 0 rfl)) k n limit hb) ?_
 rintro _ w8 hE9 rfl
 have H := H.ext hE9
 refine qP 4 (sq 9 13) [(9, .P b5 0), (10, .slice none 0 0), (11, .I 2), (30, .agg (rdZ).toArray), (31, .slice none 0 0), (32, .I 2)] ?_
 refine qB .seq 12 (sq 10 13) ((rdZ).toArray) 30 H ?_
 intro b10 w11 H
 refine qW 30 b10 0 (sq 11 13) (.agg (rdZ).toArray) [(b10, .cells (rdZ).toArray 30 (0, 0)), (b5, .cells (rdZ).toArray 30 (0, 0)), (b1, .cells (objV O a6O k6O).toArray 26 (0, 0))] H 0 rfl rfl ?_
 intro w12 H
 refine qF 2 [(9, .P b5 0), (10, .slice none 0 0), (11, .I 2), (12, .P b10 0), (13, .slice none 0 0), (14, .I 2)] ?_
 refine qR 1 [.c [3, 0], .c [4]] [(9, .P b5 0), (10, .slice none 0 0), (11, .I 2), (12, .P b10 0), (13, .slice none 0 0), (14, .I 2)] ?_
 refine qG (sq 0 17) ?_
 refine qL .seq 33 (sq 1 17) 30 b5 0 0 (.agg (rdZ).toArray) (H.cells 1 rfl) ?_
 refine qL .seq 34 (sq 2 17) 30 b10 0 0 (.agg (rdZ).toArray) (H.cells 0 rfl) ?_
 refine qK .seq (some 35) (sq 3 17) 7 #[.agg (rdZ).toArray, .agg (rdZ).toArray] (rsame_spec (S := Av S w [] (idsOf [(b10, .cells (rdZ).toArray 30 (0, 0)), (b5, .cells (rdZ).toArray 30 (0, 0)), (b1, .cells (objV O a6O k6O).toArray 26 (0, 0))] [])) (r := ⟨⟨⟨#[]⟩, 0, 0, 0#32, 0, 0, []⟩, 0, 0, [], [], 0, 0, 0⟩) (rd_mk (y0 := ⟨⟨#[]⟩, 0, 0, 0#32, 0, 0, []⟩) (obj_mk (y0 := ⟨#[]⟩) (y1 := 0) (y2 := 0) (y3 := 0#32) (y4 := 0) (y5 := 0) (y6 := []) ⟨rfl, by first | assumption | (simp [maxLen]; done) | decide⟩ (Shape.int_mk (by decide)) (Shape.int_mk (by decide)) (Shape.bv_lit (x := 0#32) (by decide)) (Shape.int_mk (by decide)) (Shape.int_mk (by decide)) Shape.slice_nil) (Shape.int_mk (by decide)) (Shape.int_mk (by decide)) Shape.slice_nil Shape.slice_nil (Shape.int_mk (by decide)) (Shape.int_mk (by decide)) (Shape.int_mk (by decide))) (rd_mk (y0 := ⟨⟨#[]⟩, 0, 0, 0#32, 0, 0, []⟩) (obj_mk (y0 := ⟨#[]⟩) (y1 := 0) (y2 := 0) (y3 := 0#32) (y4 := 0) (y5 := 0) (y6 := []) ⟨rfl, by first | assumption | (simp [maxLen]; done) | decide⟩ (Shape.int_mk (by decide)) (Shape.int_mk (by decide)) (Shape.bv_lit (x := 0#32) (by decide)) (Shape.int_mk (by decide)) (Shape.int_mk (by decide)) Shape.slice_nil) (Shape.int_mk (by decide)) (Shape.int_mk (by decide)) Shape.slice_nil Shape.slice_nil (Shape.int_mk (by decide)) (Shape.int_mk (by decide)) (Shape.int_mk (by decide))) (rfl) (by unfold ObjOk; decide)) ?_
 rintro _ w13 hE14 rfl
 have H := H.ext hE14
 refine qP 3 (sq 6 17) [(11, .I 2), (14, .I 2), (36, .bool true), (37, .slice none 0 0), (38, .slice none 0 0)] ?_
 refine qK .seq (some 39) (sq 7 17) 8 #[.slice none 0 0, .slice none 0 0] (rows_eq (S := Av S w [] (idsOf [(b10, .cells (rdZ).toArray 30 (0, 0)), (b5, .cells (rdZ).toArray 30 (0, 0)), (b1, .cells (objV O a6O k6O).toArray 26 (0, 0))] [])) (ms := ([] : List Msg)) (by intro m hm; cases hm) Shape.slice_nil Shape.slice_nil) ?_
 rintro _ w15 hE16 rfl
 have H := H.ext hE16
 refine qP 7 (sq 14 17) [(46, .bool true)] ?_
 refine qK .seq (some 47) (sq 15 17) 9 #[] (heads21_spec (S := fun _ => True)) ?_
 rintro _ w17 hE18 rfl
 have H := H.ext hE18
 refine qF 2 [(8, .bool true)] ?_
 refine qT (.bool true) Tryz.func3 ?_
 exact ⟨_, rfl, H.done, rfl⟩
end Go.Proofs.YtppcdmbkgficiaaGreat
