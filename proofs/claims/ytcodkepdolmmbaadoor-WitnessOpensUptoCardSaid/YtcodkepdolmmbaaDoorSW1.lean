import Derived.Test.YtcodkepdolmmbaaDoorSP2
namespace Go.Proofs.YtcodkepdolmmbaaDoor
open Go.BX
theorem open_spec {S : Nat → Prop} {w : World} {x : Wop} {xs : List Value} (hx : wopS.rep S w xs x) :
 Calls Tryd.prog 17 #[.agg xs.toArray] w (Ret fun v w' => Ext w w' ∧ v = .bool (opn x)) := by
 obtain ⟨a4x, k4x, a6x, k6x, a7x, k7x, rfl, h0x, h1x, h2x, h3x, h4x, h5x, h6x, h7x, h8x, h9x⟩ := wop_open hx
 refine qS (fn := Tryd.f17) (n := 21) (σ := [(0, .agg #[.int .u64 x.client, .int .u64 x.seq, .I x.kind, .string x.key, .slice a4x x.data.length k4x, .I x.code, .slice a6x x.answer.length k6x, .slice a7x x.names.length k7x, .I x.beg, .I x.fin])]) Tryd.func17 ?_
 have H := Hp.startF (w := w) (S := S) (G := [Rp SB [.slice a4x x.data.length k4x] x.data, Rp SB [.slice a6x x.answer.length k6x] x.answer, Rp (Shape.slice Shape.str) [.slice a7x x.names.length k7x] x.names]) (.rp h4x (.rp h6x (.rp h7x .nil)))
 refine qR 1 [.c [0], .c [1]] [(0, .agg #[.int .u64 x.client, .int .u64 x.seq, .I x.kind, .string x.key, .slice a4x x.data.length k4x, .I x.code, .slice a6x x.answer.length k6x, .slice a7x x.names.length k7x, .I x.beg, .I x.fin])] ?_
 refine qG (sq 0 2) ?_
 refine qB .seq 1 (sq 1 2) #[.int .u64 x.client, .int .u64 x.seq, .I x.kind, .string x.key, .slice a4x x.data.length k4x, .I x.code, .slice a6x x.answer.length k6x, .slice a7x x.names.length k7x, .I x.beg, .I x.fin] 33 H ?_
 intro b1 w2 H
 refine qF 1 [(1, .P b1 0)] ?_
 refine qR 1 [.c [1, 0], .c [2]] [(1, .P b1 0)] ?_
 refine qG (sq 0 19) ?_
 refine qP 1 (sq 1 19) [(1, .P b1 0), (3, .P b1 9)] ?_
 refine qL .seq 4 (sq 2 19) 3 b1 9 9 (.I x.fin) (H.cells 0 rfl) ?_
 refine qP 2 (sq 4 19) [(1, .P b1 0), (6, .bool (x.fin == 0))] ?_
 refine tE (fun b_ => [(1, .P b1 0), (6, .bool b_)]) x.fin 0 (fun h3 => ?_) (fun h3 => ?_)
 ·
  refine qF 15 [(2, .bool true)] ?_
  refine qT (.bool true) Tryd.func17 ?_
  refine ⟨_, rfl, H.done, ?_⟩
  congr 1
  rw [Bool.eq_iff_iff]
  unfold opn
  simp_all
 ·
  refine qP 1 (sq 5 19) [(1, .P b1 0), (6, .bool false), (7, .P b1 5)] ?_
  refine qL .seq 8 (sq 6 19) 30 b1 5 5 (.I x.code) (H.cells 0 rfl) ?_
  refine qP 3 (sq 9 19) [(1, .P b1 0), (11, .bool (x.code == 0))] ?_
  refine tE (fun b_ => [(1, .P b1 0), (11, .bool b_)]) x.code 0 (fun h4 => ?_) (fun h4 => ?_)
  ·
   refine qF 10 [(2, .bool true)] ?_
   refine qT (.bool true) Tryd.func17 ?_
   refine ⟨_, rfl, H.done, ?_⟩
   congr 1
   rw [Bool.eq_iff_iff]
   unfold opn
   simp_all
  ·
   refine qP 1 (sq 10 19) [(1, .P b1 0), (11, .bool false), (12, .P b1 5)] ?_
   refine qL .seq 13 (sq 11 19) 30 b1 5 5 (.I x.code) (H.cells 0 rfl) ?_
   refine qP 3 (sq 14 19) [(1, .P b1 0), (16, .bool (x.code == 5))] ?_
   refine tE (fun b_ => [(1, .P b1 0), (16, .bool b_)]) x.code 5 (fun h5 => ?_) (fun h5 => ?_)
   ·
    refine qF 5 [(2, .bool true)] ?_
    refine qT (.bool true) Tryd.func17 ?_
    refine ⟨_, rfl, H.done, ?_⟩
    congr 1
    rw [Bool.eq_iff_iff]
    unfold opn
    simp_all
   ·
    refine qP 1 (sq 15 19) [(16, .bool false), (17, .P b1 5)] ?_
    refine qL .seq 18 (sq 16 19) 30 b1 5 5 (.I x.code) (H.cells 0 rfl) ?_
    refine qF 3 [(2, .bool (x.code == 6))] ?_
    refine qT (.bool (x.code == 6)) Tryd.func17 ?_
    refine ⟨_, rfl, H.done, ?_⟩
    congr 1
    rw [Bool.eq_iff_iff]
    unfold opn
    simp_all
theorem idle_spec {S : Nat → Prop} {w : World} {x : Wop} {xs : List Value} (hx : wopS.rep S w xs x) :
 Calls Tryd.prog 15 #[.agg xs.toArray] w (Ret fun v w' => Ext w w' ∧ v = .bool (idl x)) := by
 obtain ⟨a4x, k4x, a6x, k6x, a7x, k7x, rfl, h0x, h1x, h2x, h3x, h4x, h5x, h6x, h7x, h8x, h9x⟩ := wop_open hx
 refine qS (fn := Tryd.f15) (n := 16) (σ := [(0, .agg #[.int .u64 x.client, .int .u64 x.seq, .I x.kind, .string x.key, .slice a4x x.data.length k4x, .I x.code, .slice a6x x.answer.length k6x, .slice a7x x.names.length k7x, .I x.beg, .I x.fin])]) Tryd.func15 ?_
 have H := Hp.startF (w := w) (S := S) (G := [Rp SB [.slice a4x x.data.length k4x] x.data, Rp SB [.slice a6x x.answer.length k6x] x.answer, Rp (Shape.slice Shape.str) [.slice a7x x.names.length k7x] x.names]) (.rp h4x (.rp h6x (.rp h7x .nil)))
 refine qR 1 [.c [0], .c [1]] [(0, .agg #[.int .u64 x.client, .int .u64 x.seq, .I x.kind, .string x.key, .slice a4x x.data.length k4x, .I x.code, .slice a6x x.answer.length k6x, .slice a7x x.names.length k7x, .I x.beg, .I x.fin])] ?_
 refine qG (sq 0 2) ?_
 refine qB .seq 1 (sq 1 2) #[.int .u64 x.client, .int .u64 x.seq, .I x.kind, .string x.key, .slice a4x x.data.length k4x, .I x.code, .slice a6x x.answer.length k6x, .slice a7x x.names.length k7x, .I x.beg, .I x.fin] 33 H ?_
 intro b1 w2 H
 refine qF 1 [(1, .P b1 0)] ?_
 refine qR 1 [.c [1, 0], .c [2]] [(1, .P b1 0)] ?_
 refine qG (sq 0 14) ?_
 refine qL .seq 3 (sq 1 14) 33 b1 0 0 (.agg #[.int .u64 x.client, .int .u64 x.seq, .I x.kind, .string x.key, .slice a4x x.data.length k4x, .I x.code, .slice a6x x.answer.length k6x, .slice a7x x.names.length k7x, .I x.beg, .I x.fin]) (H.cells 0 rfl) ?_
 refine qK .seq (some 4) (sq 2 14) 17 #[.agg #[.int .u64 x.client, .int .u64 x.seq, .I x.kind, .string x.key, .slice a4x x.data.length k4x, .I x.code, .slice a6x x.answer.length k6x, .slice a7x x.names.length k7x, .I x.beg, .I x.fin]] (open_spec (x := x) (wop_mk (l0 := [.int .u64 x.client]) (y0 := x.client) (l1 := [.int .u64 x.seq]) (y1 := x.seq) (l2 := [.I x.kind]) (y2 := x.kind) (l3 := [.string x.key]) (y3 := x.key) (l4 := [.slice a4x x.data.length k4x]) (y4 := x.data) (l5 := [.I x.code]) (y5 := x.code) (l6 := [.slice a6x x.answer.length k6x]) (y6 := x.answer) (l7 := [.slice a7x x.names.length k7x]) (y7 := x.names) (l8 := [.I x.beg]) (y8 := x.beg) (l9 := [.I x.fin]) (y9 := x.fin) u64a u64a i64a ⟨rfl, h3x⟩ (H.rp 0 rfl) i64a (H.rp 1 rfl) (H.rp 2 rfl) i64a i64a)) ?_
 rintro _ w3 hE4 rfl
 have H := H.ext hE4
 refine qP 2 (sq 4 14) [(1, .P b1 0), (6, .bool (!(opn x)))] ?_
 refine RW.test (fun b_ => [(1, .P b1 0), (6, .bool b_)]) (!(opn x)) (fun h5 => ?_) (fun h5 => ?_)
 ·
  replace h5 : (opn x) = false := by revert h5; cases (opn x) <;> simp
  refine qP 1 (sq 5 14) [(1, .P b1 0), (6, .bool true), (7, .P b1 5)] ?_
  refine qL .seq 8 (sq 6 14) 30 b1 5 5 (.I x.code) (H.cells 0 rfl) ?_
  refine qP 2 (sq 8 14) [(1, .P b1 0), (6, .bool true), (10, .bool (x.code == 3))] ?_
  refine tE (fun b_ => [(1, .P b1 0), (6, .bool true), (10, .bool b_)]) x.code 3 (fun h6 => ?_) (fun h6 => ?_)
  ·
   refine qF 6 [(2, .bool true)] ?_
   refine qT (.bool true) Tryd.func15 ?_
   refine ⟨_, rfl, H.done, ?_⟩
   congr 1
   rw [Bool.eq_iff_iff]
   unfold idl
   simp_all
  ·
   refine qP 1 (sq 9 14) [(6, .bool true), (10, .bool false), (11, .P b1 5)] ?_
   refine qL .seq 12 (sq 10 14) 30 b1 5 5 (.I x.code) (H.cells 0 rfl) ?_
   refine qF 4 [(2, .bool (x.code == 4))] ?_
   refine qT (.bool (x.code == 4)) Tryd.func15 ?_
   refine ⟨_, rfl, H.done, ?_⟩
   congr 1
   rw [Bool.eq_iff_iff]
   unfold idl
   simp_all
 ·
  replace h5 : (opn x) = true := by revert h5; cases (opn x) <;> simp
  refine qF 10 [(2, .bool false)] ?_
  refine qT (.bool false) Tryd.func15 ?_
  refine ⟨_, rfl, H.done, ?_⟩
  congr 1
  rw [Bool.eq_iff_iff]
  unfold idl
  simp_all
end Go.Proofs.YtcodkepdolmmbaaDoor
