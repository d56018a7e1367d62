import Derived.Test.YtppcdmbkgficiaaF2
namespace Go.Proofs.Ytppcdmbkgficiaa
open Go.BX

def askOf (r : Rd) (i : Nat) : Msg := ⟨14, 0, r.object.nodes.getD i 0, 0, 0, 0, 0, 0, false, false, [], ⟨[], []⟩, headR r (i : Int), [], 0, 0, 0, ⟨#[]⟩, 0, []⟩
def asksTo (r : Rd) (n : Nat) : List Msg := (List.range n).filterMap fun (i : Nat) => if openR r (i : Int) = true then some (askOf r i) else none
def asksR (r : Rd) : List Msg := asksTo r r.object.nodes.length
theorem asksTo_yes {r : Rd} {i : Nat} (h : openR r (i : Int) = true) : asksTo r i ++ [askOf r i] = asksTo r (i + 1) := by
 unfold asksTo
 rw [List.range_succ, List.filterMap_append]
 simp [h]
theorem asksTo_no {r : Rd} {i : Nat} (h : openR r (i : Int) = false) : asksTo r i = asksTo r (i + 1) := by
 unfold asksTo
 rw [List.range_succ, List.filterMap_append]
 simp [h]
theorem asksTo_le (r : Rd) (i : Nat) : (asksTo r i).length ≤ i := by
 have := List.length_filterMap_le (fun i : Nat => if openR r (i : Int) = true then some (askOf r i) else none) (List.range i)
 rwa [List.length_range] at this
theorem getD_at' {α : Type} {l : List α} {i : Nat} (d : α) (h : i < l.length) : l.getD i d = l[i] := by
 simp [h]

set_option maxHeartbeats 4000000 in
theorem asks_spec {S : Nat → Prop} {w : World} {r : Rd} {cs : List Value} (hr : rdS.rep S w cs r) (hn : r.object.nodes.length ≤ 1000000) :
 Calls Try.prog 78 #[.agg cs.toArray, .func (.func 79) #[] #[]] w (Ret fun v w' => Ext w w' ∧ ∃ (a : Option Addr) (c : Nat), v = .slice a (asksR r).length c ∧ (Shape.slice msgS).rep (Nw S w) w' [.slice a (asksR r).length c] (asksR r)) := by
 obtain ⟨cs0r, a3r, k3r, a4r, k4r, rfl, h0r, h1r, h2r, h3r, h4r, h5r, h6r, h7r⟩ := rd_open hr
 obtain ⟨a6robject, k6robject, rfl, h0robject, h1robject, h2robject, h4robject, h5robject, h6robject⟩ := obj_open h0r
 refine qS (fn := Try.f78) (n := 31) (σ := [(0, .agg (rdV r a6robject k6robject a3r k3r a4r k4r).toArray), (1, .func (.func 79) #[] #[])]) Try.func78 ?_
 have H := Hp.startF (w := w) (S := S) (G := [Rp (Shape.slice (Shape.int .i64)) [.slice a6robject r.object.nodes.length k6robject] r.object.nodes, Rp (Shape.slice pcS) [.slice a3r r.pieces.length k3r] r.pieces, Rp (Shape.slice (Shape.int .i64)) [.slice a4r r.bad.length k4r] r.bad]) (.rp h6robject (.rp h3r (.rp h4r .nil)))
 refine qR 1 [.c [0], .c [1]] [(0, .agg (rdV r a6robject k6robject a3r k3r a4r k4r).toArray), (1, .func (.func 79) #[] #[])] ?_
 refine qG (sq 0 2) ?_
 refine qB .seq 2 (sq 1 2) ((rdV r a6robject k6robject a3r k3r a4r k4r).toArray) 107 H ?_
 intro b1 w2 H
 refine qF 1 [(1, .func (.func 79) #[] #[]), (2, .P b1 0)] ?_
 refine qR 4 [.c [2, 0, 0], .c [2, 0, 1], .c [3]] [(1, .func (.func 79) #[] #[]), (2, .P b1 0), (5, .slice none 0 0)] ?_
 refine qG (sq 0 5) ?_
 refine qP 2 (sq 2 5) [(1, .func (.func 79) #[] #[]), (2, .P b1 0), (5, .slice none 0 0), (9, .P b1 6)] ?_
 refine qL .seq 10 (sq 3 5) 25 b1 6 6 (.slice a6robject r.object.nodes.length k6robject) (H.cells 0 rfl) ?_
 refine qF 2 [(1, .func (.func 79) #[] #[]), (2, .P b1 0), (5, .slice none 0 0), (10, .slice a6robject r.object.nodes.length k6robject), (11, .I ((r.object.nodes.length : Nat) : Int)), (12, .I 0)] ?_
 refine qR 1 [.c [2, 0, 1, 0], .b 0, .c [3]] [(1, .func (.func 79) #[] #[]), (2, .P b1 0), (5, .slice none 0 0), (10, .slice a6robject r.object.nodes.length k6robject), (11, .I ((r.object.nodes.length : Nat) : Int)), (12, .I 0)] ?_
 have H := H.ownNil msgS 57
 refine WK.loop (α := Nat × Option Addr × Nat) (b := cd Try.prog 78 [2, 0, 1, 0, 0]) (by as_aux_lemma => kernel_rfl) (fun st_ => match st_ with | (i, ao, co) => [(1, .func (.func 79) #[] #[]), (2, .P b1 0), (5, .slice ao (asksTo r i).length co), (10, .slice a6robject r.object.nodes.length k6robject), (11, .I ((r.object.nodes.length : Nat) : Int)), (12, .I i)]) (fun st_ w' => match st_ with | (i, ao, co) => Hp w S [] [(b1, .cells (rdV r a6robject k6robject a3r k3r a4r k4r).toArray 107 (0, 0))] [⟨msgS, 57, .slice ao (asksTo r i).length co, asksTo r i⟩] [Rp (Shape.slice (Shape.int .i64)) [.slice a6robject r.object.nodes.length k6robject] r.object.nodes, Rp (Shape.slice pcS) [.slice a3r r.pieces.length k3r] r.pieces, Rp (Shape.slice (Shape.int .i64)) [.slice a4r r.bad.length k4r] r.bad] w' ∧ i ≤ r.object.nodes.length) (fun st_ => match st_ with | (i, ao, co) => r.object.nodes.length - i) (0, none, 0) ⟨H, Nat.zero_le _⟩ (rfl) ?_
 rintro ⟨i, ao, co⟩ w4 ⟨H, hinv0⟩ hback3
 have hml := asksTo_le r i
 refine qR 3 [.c [2, 0, 1, 0, 0, 1, 0], .c [2, 0, 1, 0, 0, 2], .l [2, 0, 1, 0, 0], .b 0, .c [3]] [(1, .func (.func 79) #[] #[]), (2, .P b1 0), (5, .slice ao (asksTo r i).length co), (10, .slice a6robject r.object.nodes.length k6robject), (11, .I ((r.object.nodes.length : Nat) : Int)), (12, .I i), (13, .bool (decide (((i : Int) : Int) < ((r.object.nodes.length : Nat) : Int))))] ?_
 refine qD (((i : Int) : Int) < ((r.object.nodes.length : Nat) : Int)) (fun h5 => ?_) (fun h5 => ?_)
 ·
  refine qR 4 [.c [2, 0, 1, 0, 0, 2, 0, 0, 0], .c [2, 0, 1, 0, 0, 2, 0, 0, 1], .b 1, .c [2, 0, 1, 0, 0, 3], .l [2, 0, 1, 0, 0], .b 0, .c [3]] [(1, .func (.func 79) #[] #[]), (2, .P b1 0), (5, .slice ao (asksTo r i).length co), (10, .slice a6robject r.object.nodes.length k6robject), (11, .I ((r.object.nodes.length : Nat) : Int)), (12, .I i)] ?_
  refine qG (sq 0 5) ?_
  refine qP 1 (sq 1 5) [(1, .func (.func 79) #[] #[]), (2, .P b1 0), (5, .slice ao (asksTo r i).length co), (10, .slice a6robject r.object.nodes.length k6robject), (11, .I ((r.object.nodes.length : Nat) : Int)), (12, .I i), (14, .I i)] ?_
  have hx6 : i < r.object.nodes.length := by omega
  refine qX .seq 15 (sq 2 5) 25 3 (i : Int) (Shape.int .i64) (r.object.nodes[i]) H 0 rfl i (by omega) (List.getElem?_eq_getElem hx6) ?_
  intro b7 o8 es9 hr10 H
  have hb11 := Shape.i64_bd hr10
  obtain ⟨rfl, -⟩ := hr10
  refine qL .seq 16 (sq 3 5) 3 b7 o8 0 (.I (r.object.nodes[i])) (H.fc 0 rfl) ?_
  refine qF 2 [(1, .func (.func 79) #[] #[]), (2, .P b1 0), (5, .slice ao (asksTo r i).length co), (6, .I i), (7, .I (r.object.nodes[i])), (10, .slice a6robject r.object.nodes.length k6robject), (11, .I ((r.object.nodes.length : Nat) : Int)), (12, .I i)] ?_
  refine qR 1 [.c [2, 0, 1, 0, 0, 2, 0, 0, 1, 0], .c [2, 0, 1, 0, 0, 2, 0, 0, 2], .b 1, .c [2, 0, 1, 0, 0, 3], .l [2, 0, 1, 0, 0], .b 0, .c [3]] [(1, .func (.func 79) #[] #[]), (2, .P b1 0), (5, .slice ao (asksTo r i).length co), (6, .I i), (7, .I (r.object.nodes[i])), (10, .slice a6robject r.object.nodes.length k6robject), (11, .I ((r.object.nodes.length : Nat) : Int)), (12, .I i)] ?_
  refine qG (sq 0 4) ?_
  refine qP 1 (sq 1 4) [(1, .func (.func 79) #[] #[]), (2, .P b1 0), (5, .slice ao (asksTo r i).length co), (6, .I i), (7, .I (r.object.nodes[i])), (10, .slice a6robject r.object.nodes.length k6robject), (11, .I ((r.object.nodes.length : Nat) : Int)), (12, .I i), (17, .func (.func 79) #[] #[])] ?_
  refine qL .seq 18 (sq 2 4) 107 b1 0 0 (.agg (rdV r a6robject k6robject a3r k3r a4r k4r).toArray) (H.cells 0 rfl) ?_
  refine qP 1 (sq 3 4) [(1, .func (.func 79) #[] #[]), (2, .P b1 0), (5, .slice ao (asksTo r i).length co), (6, .I i), (7, .I (r.object.nodes[i])), (10, .slice a6robject r.object.nodes.length k6robject), (11, .I ((r.object.nodes.length : Nat) : Int)), (12, .I i), (17, .func (.func 79) #[] #[]), (18, .agg (rdV r a6robject k6robject a3r k3r a4r k4r).toArray), (19, .I i)] ?_
  refine qK .seq (some 20) (sq 4 4) 79 #[.agg (rdV r a6robject k6robject a3r k3r a4r k4r).toArray, .I i] (open_spec (r := r) (rd_mkB (by unfold rdB; omega) (H.rp 1 rfl) (H.rp 2 rfl) (H.rp 3 rfl)) (i : Int)) ?_
  rintro _ w12 hE13 rfl
  have H := H.ext hE13
  refine qF 0 [(1, .func (.func 79) #[] #[]), (2, .P b1 0), (5, .slice ao (asksTo r i).length co), (6, .I i), (7, .I (r.object.nodes[i])), (10, .slice a6robject r.object.nodes.length k6robject), (11, .I ((r.object.nodes.length : Nat) : Int)), (12, .I i), (20, .bool (openR r (i : Int)))] ?_
  refine qC (openR r (i : Int)) (fun h14 => ?_) (fun h14 => ?_)
  ·
   refine qG (sq 0 9) ?_
   refine qP 2 (sq 2 9) [(1, .func (.func 79) #[] #[]), (2, .P b1 0), (5, .slice ao (asksTo r i).length co), (6, .I i), (10, .slice a6robject r.object.nodes.length k6robject), (11, .I ((r.object.nodes.length : Nat) : Int)), (12, .I i), (21, .slice ao (asksTo r i).length co), (22, .I (r.object.nodes[i]))] ?_
   refine qL .seq 23 (sq 3 9) 107 b1 0 0 (.agg (rdV r a6robject k6robject a3r k3r a4r k4r).toArray) (H.cells 0 rfl) ?_
   refine qP 1 (sq 4 9) [(1, .func (.func 79) #[] #[]), (2, .P b1 0), (5, .slice ao (asksTo r i).length co), (10, .slice a6robject r.object.nodes.length k6robject), (11, .I ((r.object.nodes.length : Nat) : Int)), (12, .I i), (21, .slice ao (asksTo r i).length co), (22, .I (r.object.nodes[i])), (23, .agg (rdV r a6robject k6robject a3r k3r a4r k4r).toArray), (24, .I i)] ?_
   refine qK .seq (some 25) (sq 5 9) 81 #[.agg (rdV r a6robject k6robject a3r k3r a4r k4r).toArray, .I i] (head_spec (r := r) (rd_mkB (by unfold rdB; omega) (H.rp 1 rfl) (H.rp 2 rfl) (H.rp 3 rfl)) (i : Int)) ?_
   rintro _ w15 hE16 rfl
   have H := H.ext hE16
   refine qP 1 (sq 6 9) [(1, .func (.func 79) #[] #[]), (2, .P b1 0), (5, .slice ao (asksTo r i).length co), (10, .slice a6robject r.object.nodes.length k6robject), (11, .I ((r.object.nodes.length : Nat) : Int)), (12, .I i), (21, .slice ao (asksTo r i).length co), (26, .agg #[.I 14, .I 0, .I (r.object.nodes[i]), .int .u64 0, .int .u64 0, .int .u64 0, .int .u64 0, .int .u64 0, .bool false, .bool false, .slice none 0 0, .slice none 0 0, .slice none 0 0, .int .u64 r.object.version, .I i, .int .u64 r.object.epoch, .I r.kk, .I r.nn, .I r.object.size, .int .u32 0, .slice none 0 0, .int .u64 0, .int .u64 0, .I 0, .string (⟨#[]⟩), .I 0, .slice none 0 0])] ?_
   refine RW.new (κ := .seq) (d := some 27) (r := (sq 7 9)) (o := .cells #[.I 14, .I 0, .I (r.object.nodes[i]), .int .u64 0, .int .u64 0, .int .u64 0, .int .u64 0, .int .u64 0, .bool false, .bool false, .slice none 0 0, .slice none 0 0, .slice none 0 0, .int .u64 r.object.version, .I i, .int .u64 r.object.epoch, .I r.kk, .I r.nn, .I r.object.size, .int .u32 0, .slice none 0 0, .int .u64 0, .int .u64 0, .I 0, .string (⟨#[]⟩), .I 0, .slice none 0 0] 57 (0, 0)) (v := fun b => .slice (some ⟨b, 0, none⟩) 1 1) (fun b => by as_aux_lemma => kernel_rfl) (nofun) H ?_
   intro b17 w18 H
   have H := H.freeze 0 rfl msgS ([⟨14, 0, r.object.nodes[i], 0, 0, 0, 0, 0, false, false, [], ⟨[], []⟩, ⟨⟨r.object.version, (i : Int), r.object.epoch⟩, r.kk, r.nn, r.object.size, 0#32⟩, [], 0, 0, 0, ⟨#[]⟩, 0, []⟩] : List Msg) 1 (by simp [maxLen]) (by first | exact Nat.le_refl _ | simp) (EsP.cons (c := [.I 14, .I 0, .I (r.object.nodes[i]), .int .u64 0, .int .u64 0, .int .u64 0, .int .u64 0, .int .u64 0, .bool false, .bool false, .slice none 0 0, .slice none 0 0, .slice none 0 0, .int .u64 r.object.version, .I i, .int .u64 r.object.epoch, .I r.kk, .I r.nn, .I r.object.size, .int .u32 0, .slice none 0 0, .int .u64 0, .int .u64 0, .I 0, .string (⟨#[]⟩), .I 0, .slice none 0 0]) (msg_mk (l0 := [.I 14]) (y0 := 14) (l1 := [.I 0]) (y1 := 0) (l2 := [.I (r.object.nodes[i])]) (y2 := r.object.nodes[i]) (l3 := [.int .u64 0]) (y3 := 0) (l4 := [.int .u64 0]) (y4 := 0) (l5 := [.int .u64 0]) (y5 := 0) (l6 := [.int .u64 0]) (y6 := 0) (l7 := [.int .u64 0]) (y7 := 0) (l8 := [.bool false]) (y8 := false) (l9 := [.bool false]) (y9 := false) (l10 := [.slice none 0 0]) (y10 := []) (l11 := [.slice none 0 0, .slice none 0 0]) (y11 := ⟨[], []⟩) (l12 := [.int .u64 r.object.version, .I i, .int .u64 r.object.epoch, .I r.kk, .I r.nn, .I r.object.size, .int .u32 0]) (y12 := ⟨⟨r.object.version, (i : Int), r.object.epoch⟩, r.kk, r.nn, r.object.size, 0#32⟩) (l13 := [.slice none 0 0]) (y13 := []) (l14 := [.int .u64 0]) (y14 := 0) (l15 := [.int .u64 0]) (y15 := 0) (l16 := [.I 0]) (y16 := 0) (l17 := [.string (⟨#[]⟩)]) (y17 := ⟨#[]⟩) (l18 := [.I 0]) (y18 := 0) (l19 := [.slice none 0 0]) (y19 := []) (Shape.int_mk (by decide)) (Shape.int_mk (by decide)) i64a (Shape.int_mk (by decide)) (Shape.int_mk (by decide)) (Shape.int_mk (by decide)) (Shape.int_mk (by decide)) (Shape.int_mk (by decide)) Shape.bool_mk Shape.bool_mk Shape.slice_nil (conf_mk Shape.slice_nil Shape.slice_nil) (hdr_mk (cid_mk u64a i64a u64a) i64a i64a i64a (Shape.bv_lit (x := 0#32) (by decide))) Shape.slice_nil (Shape.int_mk (by decide)) (Shape.int_mk (by decide)) (Shape.int_mk (by decide)) ⟨rfl, by first | assumption | (simp [maxLen]; done) | decide⟩ (Shape.int_mk (by decide)) Shape.slice_nil) EsP.nil)
   have H : Hp w S [] [(b1, .cells (rdV r a6robject k6robject a3r k3r a4r k4r).toArray 107 (0, 0))] [⟨msgS, 57, .slice ao (asksTo r i).length co, asksTo r i⟩] [Rp (Shape.slice msgS) [.slice (some ⟨b17, 0, none⟩) 1 1] ([⟨14, 0, r.object.nodes[i], 0, 0, 0, 0, 0, false, false, [], ⟨[], []⟩, ⟨⟨r.object.version, (i : Int), r.object.epoch⟩, r.kk, r.nn, r.object.size, 0#32⟩, [], 0, 0, 0, ⟨#[]⟩, 0, []⟩] : List Msg), Fc b7 o8 [.I (r.object.nodes[i])], Rp (Shape.slice (Shape.int .i64)) [.slice a6robject r.object.nodes.length k6robject] r.object.nodes, Rp (Shape.slice pcS) [.slice a3r r.pieces.length k3r] r.pieces, Rp (Shape.slice (Shape.int .i64)) [.slice a4r r.bad.length k4r] r.bad] _ := H
   refine RW.appendW (d := some 28) (r := (sq 8 9)) (T := 33) (ty := 33) (e := 57) (m := 27) (by_ := 296) (v := .slice ao (asksTo r i).length co) (a2 := (some ⟨b17, 0, none⟩)) (l2 := 1) (c2 := 1) (zs := asksTo r (i + 1)) (by as_aux_lemma => kernel_rfl) (by as_aux_lemma => kernel_rfl) rfl H 0 rfl 0 rfl (by rw [← asksTo_yes (by first | assumption | simp_all)]; unfold askOf headR; rw [getD_at' _ (by omega)]) (by have := asksTo_le r (i + 1); omega) ?_
   intro a19 c20 w22 H hc21
   have H : Hp w S [] [(b1, .cells (rdV r a6robject k6robject a3r k3r a4r k4r).toArray 107 (0, 0))] [⟨msgS, 57, .slice a19 ((asksTo r (i + 1)).length) c20, asksTo r (i + 1)⟩] [Rp (Shape.slice msgS) [.slice (some ⟨b17, 0, none⟩) 1 1] ([⟨14, 0, r.object.nodes[i], 0, 0, 0, 0, 0, false, false, [], ⟨[], []⟩, ⟨⟨r.object.version, (i : Int), r.object.epoch⟩, r.kk, r.nn, r.object.size, 0#32⟩, [], 0, 0, 0, ⟨#[]⟩, 0, []⟩] : List Msg), Fc b7 o8 [.I (r.object.nodes[i])], Rp (Shape.slice (Shape.int .i64)) [.slice a6robject r.object.nodes.length k6robject] r.object.nodes, Rp (Shape.slice pcS) [.slice a3r r.pieces.length k3r] r.pieces, Rp (Shape.slice (Shape.int .i64)) [.slice a4r r.bad.length k4r] r.bad] _ := H
   refine qF 1 [(1, .func (.func 79) #[] #[]), (2, .P b1 0), (5, .slice a19 ((asksTo r (i + 1)).length) c20), (10, .slice a6robject r.object.nodes.length k6robject), (11, .I ((r.object.nodes.length : Nat) : Int)), (12, .I i)] ?_
   refine qR 1 [.c [2, 0, 1, 0, 0, 3], .l [2, 0, 1, 0, 0], .b 0, .c [3]] [(1, .func (.func 79) #[] #[]), (2, .P b1 0), (5, .slice a19 ((asksTo r (i + 1)).length) c20), (10, .slice a6robject r.object.nodes.length k6robject), (11, .I ((r.object.nodes.length : Nat) : Int)), (12, .I i)] ?_
   refine qG (sq 0 2) ?_
   refine qI .seq 29 (sq 1 2) ((i : Int) + 1) ?_
   refine qF 1 [(1, .func (.func 79) #[] #[]), (2, .P b1 0), (5, .slice a19 ((asksTo r (i + 1)).length) c20), (10, .slice a6robject r.object.nodes.length k6robject), (11, .I ((r.object.nodes.length : Nat) : Int)), (12, .I ((i : Int) + 1))] ?_

   have H := H.pick [2, 3, 4] (G' := [Rp (Shape.slice (Shape.int .i64)) [.slice a6robject r.object.nodes.length k6robject] r.object.nodes, Rp (Shape.slice pcS) [.slice a3r r.pieces.length k3r] r.pieces, Rp (Shape.slice (Shape.int .i64)) [.slice a4r r.bad.length k4r] r.bad]) rfl
   exact WK.back (hback3 (i + 1, a19, c20) _ ⟨H, by omega⟩ (by first | omega | (simp only []; omega))) (by first | rfl | (rw [asksTo_no hno9]; rfl))
  ·
   have hno9 : openR r (i : Int) = false := by first | exact h14 | (simpa using h14)
   refine qR 2 [.c [2, 0, 1, 0, 0, 3], .l [2, 0, 1, 0, 0], .b 0, .c [3]] [(1, .func (.func 79) #[] #[]), (2, .P b1 0), (5, .slice ao (asksTo r i).length co), (10, .slice a6robject r.object.nodes.length k6robject), (11, .I ((r.object.nodes.length : Nat) : Int)), (12, .I i)] ?_
   refine qG (sq 0 2) ?_
   refine qI .seq 29 (sq 1 2) ((i : Int) + 1) ?_
   refine qF 1 [(1, .func (.func 79) #[] #[]), (2, .P b1 0), (5, .slice ao (asksTo r i).length co), (10, .slice a6robject r.object.nodes.length k6robject), (11, .I ((r.object.nodes.length : Nat) : Int)), (12, .I ((i : Int) + 1))] ?_
   have H := H.reW (asksTo_no hno9) (by rw [asksTo_no hno9])
   have H := H.pick [1, 2, 3] (G' := [Rp (Shape.slice (Shape.int .i64)) [.slice a6robject r.object.nodes.length k6robject] r.object.nodes, Rp (Shape.slice pcS) [.slice a3r r.pieces.length k3r] r.pieces, Rp (Shape.slice (Shape.int .i64)) [.slice a4r r.bad.length k4r] r.bad]) rfl
   exact WK.back (hback3 (i + 1, ao, co) _ ⟨H, by omega⟩ (by first | omega | (simp only []; omega))) (by first | rfl | (rw [asksTo_no hno9]; rfl))
 ·
  refine qR 3 [.c [4]] [(4, .slice ao (asksTo r i).length co)] ?_
  refine qT (.slice ao (asksTo r i).length co) Try.func78 ?_
  have H : Hp w S [] [(b1, .cells (rdV r a6robject k6robject a3r k3r a4r k4r).toArray 107 (0, 0))] [] [Rp (Shape.slice msgS) [.slice ao (asksTo r i).length co] (asksTo r i), Rp (Shape.slice (Shape.int .i64)) [.slice a6robject r.object.nodes.length k6robject] r.object.nodes, Rp (Shape.slice pcS) [.slice a3r r.pieces.length k3r] r.pieces, Rp (Shape.slice (Shape.int .i64)) [.slice a4r r.bad.length k4r] r.bad] _ := H.freezeW 0 rfl
  have hi9 : i = r.object.nodes.length := by omega
  subst hi9
  exact ⟨_, rfl, H.done, _, _, rfl, H.out (H.rp 0 rfl)⟩

def okL (size k : Int) : Prop := 0 ≤ size ∧ size ≤ 65536 ∧ 1 ≤ k ∧ k ≤ 255
instance (size k : Int) : Decidable (okL size k) := by unfold okL; infer_instance
def llI (size k : Int) : Int := if okL size k then ((lenOf size.toNat k.toNat : Nat) : Int) else 0
def elI (size k : Int) : Int := if okL size k then 0 else 2
theorem el_ok {size k : Int} : elI size k = 0 ↔ okL size k := by
 unfold elI
 by_cases h : okL size k
 · rw [if_pos h]; exact ⟨fun _ => h, fun _ => rfl⟩
 · rw [if_neg h]; exact ⟨fun e => (by cases e), fun e => absurd e h⟩
theorem length_gen {S : Nat → Prop} {w : World} (size k : Int) : Calls Try.prog 35 #[.I size, .I k] w (Ret fun v w' => Ext w w' ∧ v = .tuple #[.I (llI size k), .I (elI size k)]) := by
 by_cases h : okL size k
 · have h2 := h
   unfold okL at h2
   obtain ⟨size, rfl⟩ : ∃ m : Nat, size = (m : Int) := ⟨size.toNat, by omega⟩
   obtain ⟨k, rfl⟩ : ∃ m : Nat, k = (m : Int) := ⟨k.toNat, by omega⟩
   unfold llI elI
   rw [if_pos h, if_pos h]
   exact length_ok (S := S) size k (by omega) (by omega) (by omega)
 · unfold llI elI
   rw [if_neg h, if_neg h]
   exact length_bad (S := S) size k h
def beginR (O : ObjD) (k n limit : Int) : Rd := ⟨O, k, n, [], [], 0, limit, 0⟩
def okB (O : ObjD) (k n limit : Int) : Prop := elI O.size k = 0 ∧ k ≤ n ∧ n ≤ 255 ∧ (O.nodes.length : Int) = n ∧ 1 ≤ limit ∧ limit ≤ 100000

set_option maxHeartbeats 2000000 in
theorem fbegin_ok {S : Nat → Prop} {w : World} {O : ObjD} {os : List Value} (hO : objS.rep S w os O) (k n limit : Int) (hb : okB O k n limit) :
 Calls Try.prog 47 #[.agg os.toArray, .I k, .I n, .I limit] w (Ret fun v w' => Ext w w' ∧ ∃ (ds : List Value) (a : Option Addr) (c : Nat), v = .tuple #[.agg ds.toArray, .slice a (asksR (beginR O k n limit)).length c, .I 0] ∧ rdS.rep (Nw S w) w' ds (beginR O k n limit) ∧ (Shape.slice msgS).rep (Nw S w) w' [.slice a (asksR (beginR O k n limit)).length c] (asksR (beginR O k n limit))) := by
 obtain ⟨a6O, k6O, rfl, h0O, h1O, h2O, h4O, h5O, h6O⟩ := obj_open hO
 obtain ⟨hb1, hb2, hb3, hb4, hb5, hb6⟩ := hb
 have hbl := el_ok.1 hb1
 unfold okL at hbl
 refine qS (fn := Try.f47) (n := 60) (σ := [(0, .agg (objV O a6O k6O).toArray), (1, .I k), (2, .I n), (3, .I limit)]) Try.func47 ?_
 have H := Hp.startF (w := w) (S := S) (G := [Rp (Shape.slice (Shape.int .i64)) [.slice a6O O.nodes.length k6O] O.nodes]) (.rp h6O .nil)
 refine qR 1 [.c [0], .c [1]] [(0, .agg (objV O a6O k6O).toArray), (1, .I k), (2, .I n), (3, .I limit)] ?_
 refine qG (sq 0 4) ?_
 refine qB .seq 4 (sq 1 4) ((objV O a6O k6O).toArray) 102 H ?_
 intro b1 w2 H
 refine qB .seq 8 (sq 2 4) ((rdZ).toArray) 107 H ?_
 intro b3 w4 H
 refine qF 2 [(1, .I k), (2, .I n), (3, .I limit), (4, .P b1 0), (8, .P b3 0)] ?_
 refine qR 2 [.c [1, 0, 0], .c [1, 0, 1], .c [2]] [(1, .I k), (2, .I n), (3, .I limit), (4, .P b1 0), (8, .P b3 0)] ?_
 refine qG (sq 0 9) ?_
 refine qP 1 (sq 1 9) [(1, .I k), (2, .I n), (3, .I limit), (4, .P b1 0), (8, .P b3 0), (15, .P b1 2)] ?_
 refine qL .seq 16 (sq 2 9) 3 b1 2 2 (.I O.size) (H.cells 1 rfl) ?_
 refine qP 1 (sq 3 9) [(1, .I k), (2, .I n), (3, .I limit), (4, .P b1 0), (8, .P b3 0), (16, .I O.size), (17, .I k)] ?_
 refine qK .seq (some 18) (sq 4 9) 35 #[.I O.size, .I k] (length_gen (S := fun _ => True) O.size k) ?_
 rintro _ w5 hE6 rfl
 have H := H.ext hE6
 refine qF 5 [(1, .I k), (2, .I n), (3, .I limit), (4, .P b1 0), (8, .P b3 0), (12, .I (elI O.size k))] ?_
 refine qR 1 [.c [1, 0, 1, 0], .c [1, 0, 2], .c [2]] [(1, .I k), (2, .I n), (3, .I limit), (4, .P b1 0), (8, .P b3 0), (12, .I (elI O.size k))] ?_
 refine qG (sq 0 26) ?_
 refine qP 3 (sq 3 26) [(1, .I k), (2, .I n), (3, .I limit), (4, .P b1 0), (8, .P b3 0), (23, .bool ((elI O.size k) != 0))] ?_
 refine tN (fun b_ => [(1, .I k), (2, .I n), (3, .I limit), (4, .P b1 0), (8, .P b3 0), (23, .bool b_)]) (elI O.size k) 0 (fun h7 => ?_) (fun h7 => ?_)
 ·
  omega
 ·
  refine qP 5 (sq 8 26) [(1, .I k), (2, .I n), (3, .I limit), (4, .P b1 0), (8, .P b3 0), (28, .bool (decide ((n : Int) < k)))] ?_
  refine tD (fun b_ => [(1, .I k), (2, .I n), (3, .I limit), (4, .P b1 0), (8, .P b3 0), (28, .bool b_)]) ((n : Int) < k) (fun h8 => ?_) (fun h8 => ?_)
  ·
   omega
  ·
   refine qP 4 (sq 12 26) [(1, .I k), (2, .I n), (3, .I limit), (4, .P b1 0), (8, .P b3 0), (32, .bool (decide ((n : Int) > 255)))] ?_
   refine tD (fun b_ => [(1, .I k), (2, .I n), (3, .I limit), (4, .P b1 0), (8, .P b3 0), (32, .bool b_)]) ((n : Int) > 255) (fun h9 => ?_) (fun h9 => ?_)
   ·
    omega
   ·
    refine qP 1 (sq 13 26) [(1, .I k), (2, .I n), (3, .I limit), (4, .P b1 0), (8, .P b3 0), (32, .bool false), (33, .P b1 6)] ?_
    refine qL .seq 34 (sq 14 26) 25 b1 6 6 (.slice a6O O.nodes.length k6O) (H.cells 1 rfl) ?_
    refine qP 5 (sq 19 26) [(1, .I k), (2, .I n), (3, .I limit), (4, .P b1 0), (8, .P b3 0), (39, .bool (((O.nodes.length : Nat) : Int) != n))] ?_
    refine tN (fun b_ => [(1, .I k), (2, .I n), (3, .I limit), (4, .P b1 0), (8, .P b3 0), (39, .bool b_)]) ((O.nodes.length : Nat) : Int) n (fun h10 => ?_) (fun h10 => ?_)
    ·
     omega
    ·
     refine qP 4 (sq 23 26) [(1, .I k), (2, .I n), (3, .I limit), (4, .P b1 0), (8, .P b3 0), (43, .bool (decide ((limit : Int) < 1)))] ?_
     refine tD (fun b_ => [(1, .I k), (2, .I n), (3, .I limit), (4, .P b1 0), (8, .P b3 0), (43, .bool b_)]) ((limit : Int) < 1) (fun h11 => ?_) (fun h11 => ?_)
     ·
      omega
     ·
      refine qF 3 [(1, .I k), (2, .I n), (3, .I limit), (4, .P b1 0), (8, .P b3 0), (46, .bool (decide ((limit : Int) > 100000)))] ?_
      refine qD ((limit : Int) > 100000) (fun h12 => ?_) (fun h12 => ?_)
      ·
       omega
      ·
       refine qR 2 [.c [2, 0], .c [3]] [(1, .I k), (2, .I n), (3, .I limit), (4, .P b1 0), (8, .P b3 0)] ?_
       refine qG (sq 0 5) ?_
       refine qP 1 (sq 1 5) [(1, .I k), (2, .I n), (3, .I limit), (4, .P b1 0), (8, .P b3 0), (48, .P b1 6)] ?_
       refine qL .seq 49 (sq 2 5) 25 b1 6 6 (.slice a6O O.nodes.length k6O) (H.cells 1 rfl) ?_
       refine qK .seq (some 50) (sq 3 5) 56 #[.slice a6O O.nodes.length k6O] (clone_spec (H.rp 0 rfl) (by omega)) ?_
       rintro v14 w13 - H'
       have H := H.back (M1 := []) (W1 := []) H'
       obtain ⟨a15, c16, rfl, hc17, hm18⟩ := H.ownForm 0 rfl
       have H : Hp w S [] [(b3, .cells (rdZ).toArray 107 (0, 0)), (b1, .cells (objV O a6O k6O).toArray 102 (0, 0))] [⟨Shape.int .i64, 3, .slice a15 O.nodes.length c16, O.nodes⟩] [Rp (Shape.slice (Shape.int .i64)) [.slice a6O O.nodes.length k6O] O.nodes] _ := H
       refine qP 1 (sq 4 5) [(1, .I k), (2, .I n), (3, .I limit), (4, .P b1 0), (8, .P b3 0), (50, .slice a15 O.nodes.length c16), (51, .P b1 6)] ?_
       refine RW.store (d := none) (r := (sq 5 5)) (T := 25) (b := b1) (k := 6) (v := .slice a15 O.nodes.length c16) (c' := (objV O a15 c16).toArray) (M' := [(b3, .cells (rdZ).toArray 107 (0, 0)), (b1, .cells (objV O a15 c16).toArray 102 (0, 0))]) (by as_aux_lemma => kernel_rfl) H 1 rfl (by as_aux_lemma => kernel_rfl) (by as_aux_lemma => kernel_rfl) ?_
       intro w19 H
       refine qF 0 [(1, .I k), (2, .I n), (3, .I limit), (4, .P b1 0), (8, .P b3 0)] ?_
       refine qR 1 [.c [3, 0], .c [4]] [(1, .I k), (2, .I n), (3, .I limit), (4, .P b1 0), (8, .P b3 0)] ?_
       refine qG (sq 0 7) ?_
       refine qL .seq 52 (sq 1 7) 102 b1 0 0 (.agg (objV O a15 c16).toArray) (H.cells 1 rfl) ?_
       refine qP 4 (sq 5 7) [(8, .P b3 0), (56, .agg #[.string O.key, .int .u64 O.version, .I O.size, .int .u32 ((O.sum.toNat : Nat) : Int), .I O.group, .int .u64 O.epoch, .slice a15 O.nodes.length c16, .I k, .I n, .slice none 0 0, .slice none 0 0, .I 0, .I limit, .I 0])] ?_
       refine qB .seq 13 (sq 6 7) ((rdZ).toArray) 107 H ?_
       intro b20 w21 H
       refine RW.store (d := none) (r := (sq 7 7)) (T := 107) (b := b20) (k := 0) (v := .agg #[.string O.key, .int .u64 O.version, .I O.size, .int .u32 ((O.sum.toNat : Nat) : Int), .I O.group, .int .u64 O.epoch, .slice a15 O.nodes.length c16, .I k, .I n, .slice none 0 0, .slice none 0 0, .I 0, .I limit, .I 0]) (c' := #[.string O.key, .int .u64 O.version, .I O.size, .int .u32 ((O.sum.toNat : Nat) : Int), .I O.group, .int .u64 O.epoch, .slice a15 O.nodes.length c16, .I k, .I n, .slice none 0 0, .slice none 0 0, .I 0, .I limit, .I 0]) (M' := [(b20, .cells #[.string O.key, .int .u64 O.version, .I O.size, .int .u32 ((O.sum.toNat : Nat) : Int), .I O.group, .int .u64 O.epoch, .slice a15 O.nodes.length c16, .I k, .I n, .slice none 0 0, .slice none 0 0, .I 0, .I limit, .I 0] 107 (0, 0)), (b3, .cells (rdZ).toArray 107 (0, 0)), (b1, .cells (objV O a15 c16).toArray 102 (0, 0))]) (by as_aux_lemma => kernel_rfl) H 0 rfl (by as_aux_lemma => kernel_rfl) (by as_aux_lemma => kernel_rfl) ?_
       intro w22 H
       refine qF 0 [(8, .P b3 0), (13, .P b20 0)] ?_
       refine qR 1 [.c [4, 0], .c [5]] [(8, .P b3 0), (13, .P b20 0)] ?_
       refine WK.draw1 3 [(0, .qui), (1, .qui), (2, .chn)] [(0, .qui), (1, .qui), (2, .chn), (3, .seq), (4, .seq), (5, .seq)] Try_mixed (by as_aux_lemma => kernel_rfl) (by as_aux_lemma => kernel_rfl) (by as_aux_lemma => kernel_rfl) ?_
       have H := H.draw
       generalize ({ w22 with drawn := w22.drawn + 1 } : World) = w23 at H ⊢
       refine qL .qui 57 [(1, .qui), (2, .chn), (3, .seq), (4, .seq), (5, .seq)] 107 b20 0 0 (.agg #[.string O.key, .int .u64 O.version, .I O.size, .int .u32 ((O.sum.toNat : Nat) : Int), .I O.group, .int .u64 O.epoch, .slice a15 O.nodes.length c16, .I k, .I n, .slice none 0 0, .slice none 0 0, .I 0, .I limit, .I 0]) (H.cells 0 rfl) ?_
       refine qL .qui 58 [(2, .chn), (3, .seq), (4, .seq), (5, .seq)] 107 b20 0 0 (.agg #[.string O.key, .int .u64 O.version, .I O.size, .int .u32 ((O.sum.toNat : Nat) : Int), .I O.group, .int .u64 O.epoch, .slice a15 O.nodes.length c16, .I k, .I n, .slice none 0 0, .slice none 0 0, .I 0, .I limit, .I 0]) (H.cells 0 rfl) ?_
       have H : Hp w S [] [(b20, .cells #[.string O.key, .int .u64 O.version, .I O.size, .int .u32 ((O.sum.toNat : Nat) : Int), .I O.group, .int .u64 O.epoch, .slice a15 O.nodes.length c16, .I k, .I n, .slice none 0 0, .slice none 0 0, .I 0, .I limit, .I 0] 107 (0, 0)), (b3, .cells (rdZ).toArray 107 (0, 0)), (b1, .cells (objV O a15 c16).toArray 102 (0, 0))] [] [Rp (Shape.slice (Shape.int .i64)) [.slice a15 O.nodes.length c16] O.nodes, Rp (Shape.slice (Shape.int .i64)) [.slice a6O O.nodes.length k6O] O.nodes] _ := H.freezeW 0 rfl
       refine qK .chn (some 59) [(3, .seq), (4, .seq), (5, .seq)] 78 #[.agg #[.string O.key, .int .u64 O.version, .I O.size, .int .u32 ((O.sum.toNat : Nat) : Int), .I O.group, .int .u64 O.epoch, .slice a15 O.nodes.length c16, .I k, .I n, .slice none 0 0, .slice none 0 0, .I 0, .I limit, .I 0], .func (.func 79) #[] #[]] (asks_spec (S := Av S w [] (idsOf [(b20, .cells #[.string O.key, .int .u64 O.version, .I O.size, .int .u32 ((O.sum.toNat : Nat) : Int), .I O.group, .int .u64 O.epoch, .slice a15 O.nodes.length c16, .I k, .I n, .slice none 0 0, .slice none 0 0, .I 0, .I limit, .I 0] 107 (0, 0)), (b3, .cells (rdZ).toArray 107 (0, 0)), (b1, .cells (objV O a15 c16).toArray 102 (0, 0))] [])) (r := ⟨O, k, n, [], [], 0, limit, 0⟩) (rd_mk (y0 := O) (obj_mk (y0 := O.key) (y1 := O.version) (y2 := O.size) (y3 := O.sum) (y4 := O.group) (y5 := O.epoch) (y6 := O.nodes) ⟨rfl, h0O⟩ u64a i64a Shape.bv_mk i64a u64a (H.rp 0 rfl)) i64a i64a Shape.slice_nil Shape.slice_nil (Shape.int_mk (by decide)) i64a (Shape.int_mk (by decide))) (by show O.nodes.length ≤ 1000000; omega)) ?_
       rintro _ w24 hE27 ⟨a25, c26, rfl, hr28⟩
       have H := H.addN hE27 (F := Rp (Shape.slice msgS) [.slice a25 ((asksR (⟨O, k, n, [], [], 0, limit, 0⟩)).length) c26] (asksR (⟨O, k, n, [], [], 0, limit, 0⟩))) hr28
       refine RW.store (d := none) (r := [(4, .seq), (5, .seq)]) (T := 107) (b := b3) (k := 0) (v := .agg #[.string O.key, .int .u64 O.version, .I O.size, .int .u32 ((O.sum.toNat : Nat) : Int), .I O.group, .int .u64 O.epoch, .slice a15 O.nodes.length c16, .I k, .I n, .slice none 0 0, .slice none 0 0, .I 0, .I limit, .I 0]) (c' := #[.string O.key, .int .u64 O.version, .I O.size, .int .u32 ((O.sum.toNat : Nat) : Int), .I O.group, .int .u64 O.epoch, .slice a15 O.nodes.length c16, .I k, .I n, .slice none 0 0, .slice none 0 0, .I 0, .I limit, .I 0]) (M' := [(b20, .cells #[.string O.key, .int .u64 O.version, .I O.size, .int .u32 ((O.sum.toNat : Nat) : Int), .I O.group, .int .u64 O.epoch, .slice a15 O.nodes.length c16, .I k, .I n, .slice none 0 0, .slice none 0 0, .I 0, .I limit, .I 0] 107 (0, 0)), (b3, .cells #[.string O.key, .int .u64 O.version, .I O.size, .int .u32 ((O.sum.toNat : Nat) : Int), .I O.group, .int .u64 O.epoch, .slice a15 O.nodes.length c16, .I k, .I n, .slice none 0 0, .slice none 0 0, .I 0, .I limit, .I 0] 107 (0, 0)), (b1, .cells (objV O a15 c16).toArray 102 (0, 0))]) (by as_aux_lemma => kernel_rfl) H 1 rfl (by as_aux_lemma => kernel_rfl) (by as_aux_lemma => kernel_rfl) ?_
       intro w29 H
       refine qF 2 [(8, .P b3 0), (9, .slice a25 ((asksR (⟨O, k, n, [], [], 0, limit, 0⟩)).length) c26), (10, .I 0)] ?_
       refine WK.retBy (v := .tuple #[.agg #[.string O.key, .int .u64 O.version, .I O.size, .int .u32 ((O.sum.toNat : Nat) : Int), .I O.group, .int .u64 O.epoch, .slice a15 O.nodes.length c16, .I k, .I n, .slice none 0 0, .slice none 0 0, .I 0, .I limit, .I 0], .slice a25 ((asksR (⟨O, k, n, [], [], 0, limit, 0⟩)).length) c26, .I 0]) Try.func47 (by as_aux_lemma => kernel_rfl) (RV.res3 (x := .cell 8 107) (y := .tmp 9) (z := .tmp 10) (by as_aux_lemma => kernel_rfl) (RV.cell (k := 0) (by as_aux_lemma => kernel_rfl) (H.cells 1 rfl) rfl (by as_aux_lemma => kernel_rfl)) (RV.tmp (by as_aux_lemma => kernel_rfl)) (RV.tmp (by as_aux_lemma => kernel_rfl))) ?_
       exact ⟨_, rfl, H.done, [.string O.key, .int .u64 O.version, .I O.size, .int .u32 ((O.sum.toNat : Nat) : Int), .I O.group, .int .u64 O.epoch, .slice a15 O.nodes.length c16, .I k, .I n, .slice none 0 0, .slice none 0 0, .I 0, .I limit, .I 0], _, _, rfl, H.out (rd_mk (y0 := O) (obj_mk (y0 := O.key) (y1 := O.version) (y2 := O.size) (y3 := O.sum) (y4 := O.group) (y5 := O.epoch) (y6 := O.nodes) ⟨rfl, h0O⟩ u64a i64a Shape.bv_mk i64a u64a (H.rp 1 rfl)) i64a i64a Shape.slice_nil Shape.slice_nil (Shape.int_mk (by decide)) i64a (Shape.int_mk (by decide))), H.out (H.rp 0 rfl)⟩

theorem fbegin_bad {S : Nat → Prop} {w : World} {O : ObjD} {os : List Value} (hO : objS.rep S w os O) (k n limit : Int) (hb : ¬ okB O k n limit) :
 Calls Try.prog 47 #[.agg os.toArray, .I k, .I n, .I limit] w (Ret fun v w' => Ext w w' ∧ v = .tuple #[.agg (rdZ).toArray, .slice none 0 0, .I 2]) := by
 obtain ⟨a6O, k6O, rfl, h0O, h1O, h2O, h4O, h5O, h6O⟩ := obj_open hO
 unfold okB at hb
 refine qS (fn := Try.f47) (n := 60) (σ := [(0, .agg (objV O a6O k6O).toArray), (1, .I k), (2, .I n), (3, .I limit)]) Try.func47 ?_
 have H := Hp.startF (w := w) (S := S) (G := [Rp (Shape.slice (Shape.int .i64)) [.slice a6O O.nodes.length k6O] O.nodes]) (.rp h6O .nil)
 refine qR 1 [.c [0], .c [1]] [(0, .agg (objV O a6O k6O).toArray), (1, .I k), (2, .I n), (3, .I limit)] ?_
 refine qG (sq 0 4) ?_
 refine qB .seq 4 (sq 1 4) ((objV O a6O k6O).toArray) 102 H ?_
 intro b1 w2 H
 refine qB .seq 8 (sq 2 4) ((rdZ).toArray) 107 H ?_
 intro b3 w4 H
 refine qF 2 [(1, .I k), (2, .I n), (3, .I limit), (4, .P b1 0), (8, .P b3 0)] ?_
 refine qR 2 [.c [1, 0, 0], .c [1, 0, 1], .c [2]] [(1, .I k), (2, .I n), (3, .I limit), (4, .P b1 0), (8, .P b3 0)] ?_
 refine qG (sq 0 9) ?_
 refine qP 1 (sq 1 9) [(1, .I k), (2, .I n), (3, .I limit), (4, .P b1 0), (8, .P b3 0), (15, .P b1 2)] ?_
 refine qL .seq 16 (sq 2 9) 3 b1 2 2 (.I O.size) (H.cells 1 rfl) ?_
 refine qP 1 (sq 3 9) [(1, .I k), (2, .I n), (3, .I limit), (4, .P b1 0), (8, .P b3 0), (16, .I O.size), (17, .I k)] ?_
 refine qK .seq (some 18) (sq 4 9) 35 #[.I O.size, .I k] (length_gen (S := fun _ => True) O.size k) ?_
 rintro _ w5 hE6 rfl
 have H := H.ext hE6
 refine qF 5 [(1, .I k), (2, .I n), (3, .I limit), (4, .P b1 0), (8, .P b3 0), (12, .I (elI O.size k))] ?_
 refine qR 1 [.c [1, 0, 1, 0], .c [1, 0, 2], .c [2]] [(1, .I k), (2, .I n), (3, .I limit), (4, .P b1 0), (8, .P b3 0), (12, .I (elI O.size k))] ?_
 refine qG (sq 0 26) ?_
 refine qP 3 (sq 3 26) [(1, .I k), (2, .I n), (3, .I limit), (4, .P b1 0), (8, .P b3 0), (23, .bool ((elI O.size k) != 0))] ?_
 refine tN (fun b_ => [(1, .I k), (2, .I n), (3, .I limit), (4, .P b1 0), (8, .P b3 0), (23, .bool b_)]) (elI O.size k) 0 (fun h7 => ?_) (fun h7 => ?_)
 ·
  refine qF 23 [(1, .I k), (2, .I n), (3, .I limit), (4, .P b1 0), (8, .P b3 0), (46, .bool true)] ?_
  refine qR 2 [.c [1, 0, 2, 0, 0], .c [1, 0, 2, 0, 1], .c [2]] [(8, .P b3 0)] ?_
  refine qG (sq 0 4) ?_
  refine qP 1 (sq 1 4) [(8, .P b3 0), (47, .agg (rdZ).toArray)] ?_
  refine RW.store (d := none) (r := (sq 2 4)) (T := 107) (b := b3) (k := 0) (v := .agg (rdZ).toArray) (c' := (rdZ).toArray) (M' := [(b3, .cells (rdZ).toArray 107 (0, 0)), (b1, .cells (objV O a6O k6O).toArray 102 (0, 0))]) (by as_aux_lemma => kernel_rfl) H 0 rfl (by as_aux_lemma => kernel_rfl) (by as_aux_lemma => kernel_rfl) ?_
  intro w8 H
  refine qF 2 [(8, .P b3 0), (9, .slice none 0 0), (10, .I 2)] ?_
  refine WK.retBy (v := .tuple #[.agg (rdZ).toArray, .slice none 0 0, .I 2]) Try.func47 (by as_aux_lemma => kernel_rfl) (RV.res3 (x := .cell 8 107) (y := .tmp 9) (z := .tmp 10) (by as_aux_lemma => kernel_rfl) (RV.cell (k := 0) (by as_aux_lemma => kernel_rfl) (H.cells 0 rfl) rfl (by as_aux_lemma => kernel_rfl)) (RV.tmp (by as_aux_lemma => kernel_rfl)) (RV.tmp (by as_aux_lemma => kernel_rfl))) ?_
  exact ⟨_, rfl, H.done, rfl⟩
 ·
  refine qP 5 (sq 8 26) [(1, .I k), (2, .I n), (3, .I limit), (4, .P b1 0), (8, .P b3 0), (28, .bool (decide ((n : Int) < k)))] ?_
  refine tD (fun b_ => [(1, .I k), (2, .I n), (3, .I limit), (4, .P b1 0), (8, .P b3 0), (28, .bool b_)]) ((n : Int) < k) (fun h9 => ?_) (fun h9 => ?_)
  ·
   refine qF 18 [(1, .I k), (2, .I n), (3, .I limit), (4, .P b1 0), (8, .P b3 0), (46, .bool true)] ?_
   refine qR 2 [.c [1, 0, 2, 0, 0], .c [1, 0, 2, 0, 1], .c [2]] [(8, .P b3 0)] ?_
   refine qG (sq 0 4) ?_
   refine qP 1 (sq 1 4) [(8, .P b3 0), (47, .agg (rdZ).toArray)] ?_
   refine RW.store (d := none) (r := (sq 2 4)) (T := 107) (b := b3) (k := 0) (v := .agg (rdZ).toArray) (c' := (rdZ).toArray) (M' := [(b3, .cells (rdZ).toArray 107 (0, 0)), (b1, .cells (objV O a6O k6O).toArray 102 (0, 0))]) (by as_aux_lemma => kernel_rfl) H 0 rfl (by as_aux_lemma => kernel_rfl) (by as_aux_lemma => kernel_rfl) ?_
   intro w10 H
   refine qF 2 [(8, .P b3 0), (9, .slice none 0 0), (10, .I 2)] ?_
   refine WK.retBy (v := .tuple #[.agg (rdZ).toArray, .slice none 0 0, .I 2]) Try.func47 (by as_aux_lemma => kernel_rfl) (RV.res3 (x := .cell 8 107) (y := .tmp 9) (z := .tmp 10) (by as_aux_lemma => kernel_rfl) (RV.cell (k := 0) (by as_aux_lemma => kernel_rfl) (H.cells 0 rfl) rfl (by as_aux_lemma => kernel_rfl)) (RV.tmp (by as_aux_lemma => kernel_rfl)) (RV.tmp (by as_aux_lemma => kernel_rfl))) ?_
   exact ⟨_, rfl, H.done, rfl⟩
  ·
   refine qP 4 (sq 12 26) [(1, .I k), (2, .I n), (3, .I limit), (4, .P b1 0), (8, .P b3 0), (32, .bool (decide ((n : Int) > 255)))] ?_
   refine tD (fun b_ => [(1, .I k), (2, .I n), (3, .I limit), (4, .P b1 0), (8, .P b3 0), (32, .bool b_)]) ((n : Int) > 255) (fun h11 => ?_) (fun h11 => ?_)
   ·
    refine qF 14 [(1, .I k), (2, .I n), (3, .I limit), (4, .P b1 0), (8, .P b3 0), (46, .bool true)] ?_
    refine qR 2 [.c [1, 0, 2, 0, 0], .c [1, 0, 2, 0, 1], .c [2]] [(8, .P b3 0)] ?_
    refine qG (sq 0 4) ?_
    refine qP 1 (sq 1 4) [(8, .P b3 0), (47, .agg (rdZ).toArray)] ?_
    refine RW.store (d := none) (r := (sq 2 4)) (T := 107) (b := b3) (k := 0) (v := .agg (rdZ).toArray) (c' := (rdZ).toArray) (M' := [(b3, .cells (rdZ).toArray 107 (0, 0)), (b1, .cells (objV O a6O k6O).toArray 102 (0, 0))]) (by as_aux_lemma => kernel_rfl) H 0 rfl (by as_aux_lemma => kernel_rfl) (by as_aux_lemma => kernel_rfl) ?_
    intro w12 H
    refine qF 2 [(8, .P b3 0), (9, .slice none 0 0), (10, .I 2)] ?_
    refine WK.retBy (v := .tuple #[.agg (rdZ).toArray, .slice none 0 0, .I 2]) Try.func47 (by as_aux_lemma => kernel_rfl) (RV.res3 (x := .cell 8 107) (y := .tmp 9) (z := .tmp 10) (by as_aux_lemma => kernel_rfl) (RV.cell (k := 0) (by as_aux_lemma => kernel_rfl) (H.cells 0 rfl) rfl (by as_aux_lemma => kernel_rfl)) (RV.tmp (by as_aux_lemma => kernel_rfl)) (RV.tmp (by as_aux_lemma => kernel_rfl))) ?_
    exact ⟨_, rfl, H.done, rfl⟩
   ·
    refine qP 1 (sq 13 26) [(1, .I k), (2, .I n), (3, .I limit), (4, .P b1 0), (8, .P b3 0), (32, .bool false), (33, .P b1 6)] ?_
    refine qL .seq 34 (sq 14 26) 25 b1 6 6 (.slice a6O O.nodes.length k6O) (H.cells 1 rfl) ?_
    refine qP 5 (sq 19 26) [(1, .I k), (2, .I n), (3, .I limit), (4, .P b1 0), (8, .P b3 0), (39, .bool (((O.nodes.length : Nat) : Int) != n))] ?_
    refine tN (fun b_ => [(1, .I k), (2, .I n), (3, .I limit), (4, .P b1 0), (8, .P b3 0), (39, .bool b_)]) ((O.nodes.length : Nat) : Int) n (fun h13 => ?_) (fun h13 => ?_)
    ·
     refine qF 7 [(1, .I k), (2, .I n), (3, .I limit), (4, .P b1 0), (8, .P b3 0), (46, .bool true)] ?_
     refine qR 2 [.c [1, 0, 2, 0, 0], .c [1, 0, 2, 0, 1], .c [2]] [(8, .P b3 0)] ?_
     refine qG (sq 0 4) ?_
     refine qP 1 (sq 1 4) [(8, .P b3 0), (47, .agg (rdZ).toArray)] ?_
     refine RW.store (d := none) (r := (sq 2 4)) (T := 107) (b := b3) (k := 0) (v := .agg (rdZ).toArray) (c' := (rdZ).toArray) (M' := [(b3, .cells (rdZ).toArray 107 (0, 0)), (b1, .cells (objV O a6O k6O).toArray 102 (0, 0))]) (by as_aux_lemma => kernel_rfl) H 0 rfl (by as_aux_lemma => kernel_rfl) (by as_aux_lemma => kernel_rfl) ?_
     intro w14 H
     refine qF 2 [(8, .P b3 0), (9, .slice none 0 0), (10, .I 2)] ?_
     refine WK.retBy (v := .tuple #[.agg (rdZ).toArray, .slice none 0 0, .I 2]) Try.func47 (by as_aux_lemma => kernel_rfl) (RV.res3 (x := .cell 8 107) (y := .tmp 9) (z := .tmp 10) (by as_aux_lemma => kernel_rfl) (RV.cell (k := 0) (by as_aux_lemma => kernel_rfl) (H.cells 0 rfl) rfl (by as_aux_lemma => kernel_rfl)) (RV.tmp (by as_aux_lemma => kernel_rfl)) (RV.tmp (by as_aux_lemma => kernel_rfl))) ?_
     exact ⟨_, rfl, H.done, rfl⟩
    ·
     refine qP 4 (sq 23 26) [(1, .I k), (2, .I n), (3, .I limit), (4, .P b1 0), (8, .P b3 0), (43, .bool (decide ((limit : Int) < 1)))] ?_
     refine tD (fun b_ => [(1, .I k), (2, .I n), (3, .I limit), (4, .P b1 0), (8, .P b3 0), (43, .bool b_)]) ((limit : Int) < 1) (fun h15 => ?_) (fun h15 => ?_)
     ·
      refine qF 3 [(1, .I k), (2, .I n), (3, .I limit), (4, .P b1 0), (8, .P b3 0), (46, .bool true)] ?_
      refine qR 2 [.c [1, 0, 2, 0, 0], .c [1, 0, 2, 0, 1], .c [2]] [(8, .P b3 0)] ?_
      refine qG (sq 0 4) ?_
      refine qP 1 (sq 1 4) [(8, .P b3 0), (47, .agg (rdZ).toArray)] ?_
      refine RW.store (d := none) (r := (sq 2 4)) (T := 107) (b := b3) (k := 0) (v := .agg (rdZ).toArray) (c' := (rdZ).toArray) (M' := [(b3, .cells (rdZ).toArray 107 (0, 0)), (b1, .cells (objV O a6O k6O).toArray 102 (0, 0))]) (by as_aux_lemma => kernel_rfl) H 0 rfl (by as_aux_lemma => kernel_rfl) (by as_aux_lemma => kernel_rfl) ?_
      intro w16 H
      refine qF 2 [(8, .P b3 0), (9, .slice none 0 0), (10, .I 2)] ?_
      refine WK.retBy (v := .tuple #[.agg (rdZ).toArray, .slice none 0 0, .I 2]) Try.func47 (by as_aux_lemma => kernel_rfl) (RV.res3 (x := .cell 8 107) (y := .tmp 9) (z := .tmp 10) (by as_aux_lemma => kernel_rfl) (RV.cell (k := 0) (by as_aux_lemma => kernel_rfl) (H.cells 0 rfl) rfl (by as_aux_lemma => kernel_rfl)) (RV.tmp (by as_aux_lemma => kernel_rfl)) (RV.tmp (by as_aux_lemma => kernel_rfl))) ?_
      exact ⟨_, rfl, H.done, rfl⟩
     ·
      refine qF 3 [(1, .I k), (2, .I n), (3, .I limit), (4, .P b1 0), (8, .P b3 0), (46, .bool (decide ((limit : Int) > 100000)))] ?_
      refine qD ((limit : Int) > 100000) (fun h17 => ?_) (fun h17 => ?_)
      ·
       refine qR 1 [.c [1, 0, 2, 0, 0], .c [1, 0, 2, 0, 1], .c [2]] [(8, .P b3 0)] ?_
       refine qG (sq 0 4) ?_
       refine qP 1 (sq 1 4) [(8, .P b3 0), (47, .agg (rdZ).toArray)] ?_
       refine RW.store (d := none) (r := (sq 2 4)) (T := 107) (b := b3) (k := 0) (v := .agg (rdZ).toArray) (c' := (rdZ).toArray) (M' := [(b3, .cells (rdZ).toArray 107 (0, 0)), (b1, .cells (objV O a6O k6O).toArray 102 (0, 0))]) (by as_aux_lemma => kernel_rfl) H 0 rfl (by as_aux_lemma => kernel_rfl) (by as_aux_lemma => kernel_rfl) ?_
       intro w18 H
       refine qF 2 [(8, .P b3 0), (9, .slice none 0 0), (10, .I 2)] ?_
       refine WK.retBy (v := .tuple #[.agg (rdZ).toArray, .slice none 0 0, .I 2]) Try.func47 (by as_aux_lemma => kernel_rfl) (RV.res3 (x := .cell 8 107) (y := .tmp 9) (z := .tmp 10) (by as_aux_lemma => kernel_rfl) (RV.cell (k := 0) (by as_aux_lemma => kernel_rfl) (H.cells 0 rfl) rfl (by as_aux_lemma => kernel_rfl)) (RV.tmp (by as_aux_lemma => kernel_rfl)) (RV.tmp (by as_aux_lemma => kernel_rfl))) ?_
       exact ⟨_, rfl, H.done, rfl⟩
      ·
       exact absurd (by omega) hb

/-- what waiting makes of a read -/
def tickR (r : Rd) : Rd × List Msg × Int :=
 if waitsR r = false ∨ r.waited = 9223372036854775807 then (r, [], r.done) else
 if r.waited + 1 > r.limit then ({ r with waited := r.waited + 1, done := 2 }, [], 2) else
 if (r.waited + 1) % 4 = 0 then ({ r with waited := r.waited + 1 }, asksR { r with waited := r.waited + 1 }, r.done) else ({ r with waited := r.waited + 1 }, [], r.done)

set_option maxHeartbeats 4000000 in
theorem ftick_spec {S : Nat → Prop} {w : World} {r : Rd} {cs : List Value} (hr : rdS.rep S w cs r) (hwt : 0 ≤ r.waited) (hn : r.object.nodes.length ≤ 1000000) :
 Calls Try.prog 50 #[.agg cs.toArray] w (Ret fun v w' => Ext w w' ∧ ∃ (ds : List Value) (a : Option Addr) (c : Nat) (D : Rd) (L : List Msg) (e : Int), v = .tuple #[.agg ds.toArray, .slice a L.length c, .I e] ∧ rdS.rep (Nw S w) w' ds D ∧ (Shape.slice msgS).rep (Nw S w) w' [.slice a L.length c] L ∧ (D, L, e) = tickR r) := by
 obtain ⟨cs0r, a3r, k3r, a4r, k4r, rfl, h0r, h1r, h2r, h3r, h4r, h5r, h6r, h7r⟩ := rd_open hr
 obtain ⟨a6robject, k6robject, rfl, h0robject, h1robject, h2robject, h4robject, h5robject, h6robject⟩ := obj_open h0r
 refine qS (fn := Try.f50) (n := 40) (σ := [(0, .agg (rdV r a6robject k6robject a3r k3r a4r k4r).toArray)]) Try.func50 ?_
 have H := Hp.startF (w := w) (S := S) (G := [Rp (Shape.slice (Shape.int .i64)) [.slice a6robject r.object.nodes.length k6robject] r.object.nodes, Rp (Shape.slice pcS) [.slice a3r r.pieces.length k3r] r.pieces, Rp (Shape.slice (Shape.int .i64)) [.slice a4r r.bad.length k4r] r.bad]) (.rp h6robject (.rp h3r (.rp h4r .nil)))
 refine qR 1 [.c [0], .c [1]] [(0, .agg (rdV r a6robject k6robject a3r k3r a4r k4r).toArray)] ?_
 refine qG (sq 0 4) ?_
 refine qB .seq 1 (sq 1 4) ((rdV r a6robject k6robject a3r k3r a4r k4r).toArray) 107 H ?_
 intro b1 w2 H
 refine qB .seq 2 (sq 2 4) ((rdZ).toArray) 107 H ?_
 intro b3 w4 H
 refine qF 2 [(1, .P b1 0), (2, .P b3 0)] ?_
 refine qR 2 [.c [1, 0, 0], .c [1, 0, 1], .c [2]] [(1, .P b1 0), (2, .P b3 0)] ?_
 refine qG (sq 0 8) ?_
 refine qL .seq 5 (sq 1 8) 107 b1 0 0 (.agg (rdV r a6robject k6robject a3r k3r a4r k4r).toArray) (H.cells 1 rfl) ?_
 refine qK .seq (some 6) (sq 2 8) 80 #[.agg (rdV r a6robject k6robject a3r k3r a4r k4r).toArray] (waits_spec (r := r) (rd_mkB (by unfold rdB; omega) (H.rp 0 rfl) (H.rp 1 rfl) (H.rp 2 rfl))) ?_
 rintro _ w5 hE6 rfl
 have H := H.ext hE6
 refine qP 2 (sq 4 8) [(1, .P b1 0), (2, .P b3 0), (8, .bool (!(waitsR r)))] ?_
 refine RW.test (fun b_ => [(1, .P b1 0), (2, .P b3 0), (8, .bool b_)]) (!(waitsR r)) (fun h7 => ?_) (fun h7 => ?_)
 ·
  replace h7 : (waitsR r) = false := by revert h7; cases (waitsR r) <;> simp
  have hw8 : waitsR r = false := by first | assumption | (simpa using h7)
  refine qF 4 [(1, .P b1 0), (2, .P b3 0), (12, .bool true)] ?_
  refine qR 2 [.c [1, 0, 1, 0, 0], .c [1, 0, 1, 0, 1], .c [2]] [(1, .P b1 0), (2, .P b3 0)] ?_
  refine WK.drawH1 [b3] (.leaf [(0, .qui), (1, .qui), (2, .qui), (3, .seq), (4, .qui), (5, .qui)]) Try_mixed (by as_aux_lemma => kernel_rfl) (by as_aux_lemma => kernel_rfl) ?_
  intro w8 hw9
  have H := H.draw
  rw [← hw9] at H
  clear hw9
  have hS := Chg.refl w8 [b3]
  refine RG.leaf' [(0, .qui), (1, .qui), (2, .qui), (3, .seq), (4, .qui), (5, .qui)] (by as_aux_lemma => kernel_rfl) ?_
  refine RH.load (d := some 13) (r := [(1, .qui), (2, .qui), (3, .seq), (4, .qui), (5, .qui)]) (T := 107) (b := b1) (o' := 0) (k := 0) (v := .agg (rdV r a6robject k6robject a3r k3r a4r k4r).toArray) (by as_aux_lemma => kernel_rfl) hS (H.cells 1 rfl) (by intro hq; simp only [List.mem_cons, List.not_mem_nil, or_false] at hq; exact H.raws 1 0 rfl rfl (by decide) hq) (by simp) rfl (by as_aux_lemma => kernel_rfl) ?_
  refine qHP hS 1 [(2, .qui), (3, .seq), (4, .qui), (5, .qui)] [(2, .P b3 0), (13, .agg (rdV r a6robject k6robject a3r k3r a4r k4r).toArray), (14, .P b1 13)] ?_
  refine RH.load (d := some 15) (r := [(3, .seq), (4, .qui), (5, .qui)]) (T := 30) (b := b1) (o' := 13) (k := 13) (v := .I r.done) (by as_aux_lemma => kernel_rfl) hS (H.cells 1 rfl) (by intro hq; simp only [List.mem_cons, List.not_mem_nil, or_false] at hq; exact H.raws 1 0 rfl rfl (by decide) hq) (by simp) rfl (by as_aux_lemma => kernel_rfl) ?_
  have Hr := H
  refine RH.sto ?_
  refine RW.storeC (d := none) (r := []) (T := 107) (b := b3) (k := 0) (v := .agg (rdV r a6robject k6robject a3r k3r a4r k4r).toArray) (c' := (rdV r a6robject k6robject a3r k3r a4r k4r).toArray) (M' := [(b3, .cells (rdV r a6robject k6robject a3r k3r a4r k4r).toArray 107 (0, 0)), (b1, .cells (rdV r a6robject k6robject a3r k3r a4r k4r).toArray 107 (0, 0))]) (by as_aux_lemma => kernel_rfl) H 0 rfl (by as_aux_lemma => kernel_rfl) (by as_aux_lemma => kernel_rfl) ?_
  intro w11 hch10 H
  have hS12 := hS.sto hch10 (.inr (by simp))
  refine ⟨hS12, ?_⟩
  have hS := hS12
  refine RH.fin hS 2 [2, 3, 4] [(2, .P b3 0), (3, .slice none 0 0), (4, .I r.done)] (by as_aux_lemma => kernel_rfl) ?_
  refine WK.retBy (v := .tuple #[.agg (rdV r a6robject k6robject a3r k3r a4r k4r).toArray, .slice none 0 0, .I r.done]) Try.func50 (by as_aux_lemma => kernel_rfl) (RV.res3 (x := .cell 2 107) (y := .tmp 3) (z := .tmp 4) (by as_aux_lemma => kernel_rfl) (RV.cell (k := 0) (by as_aux_lemma => kernel_rfl) (H.cells 0 rfl) rfl (by as_aux_lemma => kernel_rfl)) (RV.tmp (by as_aux_lemma => kernel_rfl)) (RV.tmp (by as_aux_lemma => kernel_rfl))) ?_
  have hpost : (r, ([] : List Msg), (r.done : Int)) = tickR r := by
   clear H
   symm
   unfold tickR
   rw [if_pos (by first | (left; simpa using hw8) | (left; assumption) | (right; assumption))]
  exact ⟨_, rfl, H.done, [.string r.object.key, .int .u64 r.object.version, .I r.object.size, .int .u32 ((r.object.sum.toNat : Nat) : Int), .I r.object.group, .int .u64 r.object.epoch, .slice a6robject r.object.nodes.length k6robject, .I r.kk, .I r.nn, .slice a3r r.pieces.length k3r, .slice a4r r.bad.length k4r, .I r.waited, .I r.limit, .I r.done], none, 0, r, [], r.done, rfl, H.out (rd_mkB (by unfold rdB; omega) (H.rp 0 rfl) (H.rp 1 rfl) (H.rp 2 rfl)), Shape.slice_nil, hpost⟩
 ·
  replace h7 : (waitsR r) = true := by revert h7; cases (waitsR r) <;> simp
  have hw9 : waitsR r = true := by first | assumption | (simpa using h7)
  refine qP 1 (sq 5 8) [(1, .P b1 0), (2, .P b3 0), (8, .bool false), (9, .P b1 11)] ?_
  refine qL .seq 10 (sq 6 8) 3 b1 11 11 (.I r.waited) (H.cells 1 rfl) ?_
  refine qF 2 [(1, .P b1 0), (2, .P b3 0), (12, .bool (r.waited == 9223372036854775807))] ?_
  refine qE r.waited 9223372036854775807 (fun h13 => ?_) (fun h13 => ?_)
  ·
   refine qR 1 [.c [1, 0, 1, 0, 0], .c [1, 0, 1, 0, 1], .c [2]] [(1, .P b1 0), (2, .P b3 0)] ?_
   refine WK.drawH1 [b3] (.leaf [(0, .qui), (1, .qui), (2, .qui), (3, .seq), (4, .qui), (5, .qui)]) Try_mixed (by as_aux_lemma => kernel_rfl) (by as_aux_lemma => kernel_rfl) ?_
   intro w14 hw15
   have H := H.draw
   rw [← hw15] at H
   clear hw15
   have hS := Chg.refl w14 [b3]
   refine RG.leaf' [(0, .qui), (1, .qui), (2, .qui), (3, .seq), (4, .qui), (5, .qui)] (by as_aux_lemma => kernel_rfl) ?_
   refine RH.load (d := some 13) (r := [(1, .qui), (2, .qui), (3, .seq), (4, .qui), (5, .qui)]) (T := 107) (b := b1) (o' := 0) (k := 0) (v := .agg (rdV r a6robject k6robject a3r k3r a4r k4r).toArray) (by as_aux_lemma => kernel_rfl) hS (H.cells 1 rfl) (by intro hq; simp only [List.mem_cons, List.not_mem_nil, or_false] at hq; exact H.raws 1 0 rfl rfl (by decide) hq) (by simp) rfl (by as_aux_lemma => kernel_rfl) ?_
   refine qHP hS 1 [(2, .qui), (3, .seq), (4, .qui), (5, .qui)] [(2, .P b3 0), (13, .agg (rdV r a6robject k6robject a3r k3r a4r k4r).toArray), (14, .P b1 13)] ?_
   refine RH.load (d := some 15) (r := [(3, .seq), (4, .qui), (5, .qui)]) (T := 30) (b := b1) (o' := 13) (k := 13) (v := .I r.done) (by as_aux_lemma => kernel_rfl) hS (H.cells 1 rfl) (by intro hq; simp only [List.mem_cons, List.not_mem_nil, or_false] at hq; exact H.raws 1 0 rfl rfl (by decide) hq) (by simp) rfl (by as_aux_lemma => kernel_rfl) ?_
   have Hr := H
   refine RH.sto ?_
   refine RW.storeC (d := none) (r := []) (T := 107) (b := b3) (k := 0) (v := .agg (rdV r a6robject k6robject a3r k3r a4r k4r).toArray) (c' := (rdV r a6robject k6robject a3r k3r a4r k4r).toArray) (M' := [(b3, .cells (rdV r a6robject k6robject a3r k3r a4r k4r).toArray 107 (0, 0)), (b1, .cells (rdV r a6robject k6robject a3r k3r a4r k4r).toArray 107 (0, 0))]) (by as_aux_lemma => kernel_rfl) H 0 rfl (by as_aux_lemma => kernel_rfl) (by as_aux_lemma => kernel_rfl) ?_
   intro w17 hch16 H
   have hS18 := hS.sto hch16 (.inr (by simp))
   refine ⟨hS18, ?_⟩
   have hS := hS18
   refine RH.fin hS 2 [2, 3, 4] [(2, .P b3 0), (3, .slice none 0 0), (4, .I r.done)] (by as_aux_lemma => kernel_rfl) ?_
   refine WK.retBy (v := .tuple #[.agg (rdV r a6robject k6robject a3r k3r a4r k4r).toArray, .slice none 0 0, .I r.done]) Try.func50 (by as_aux_lemma => kernel_rfl) (RV.res3 (x := .cell 2 107) (y := .tmp 3) (z := .tmp 4) (by as_aux_lemma => kernel_rfl) (RV.cell (k := 0) (by as_aux_lemma => kernel_rfl) (H.cells 0 rfl) rfl (by as_aux_lemma => kernel_rfl)) (RV.tmp (by as_aux_lemma => kernel_rfl)) (RV.tmp (by as_aux_lemma => kernel_rfl))) ?_
   have hpost : (r, ([] : List Msg), (r.done : Int)) = tickR r := by
    clear H
    symm
    unfold tickR
    rw [if_pos (by first | (left; simpa using hw8) | (left; assumption) | (right; assumption))]
   exact ⟨_, rfl, H.done, [.string r.object.key, .int .u64 r.object.version, .I r.object.size, .int .u32 ((r.object.sum.toNat : Nat) : Int), .I r.object.group, .int .u64 r.object.epoch, .slice a6robject r.object.nodes.length k6robject, .I r.kk, .I r.nn, .slice a3r r.pieces.length k3r, .slice a4r r.bad.length k4r, .I r.waited, .I r.limit, .I r.done], none, 0, r, [], r.done, rfl, H.out (rd_mkB (by unfold rdB; omega) (H.rp 0 rfl) (H.rp 1 rfl) (H.rp 2 rfl)), Shape.slice_nil, hpost⟩
  ·
   refine qR 2 [.c [2, 0], .c [3]] [(1, .P b1 0), (2, .P b3 0)] ?_
   refine qG (sq 0 5) ?_
   refine qP 1 (sq 1 5) [(1, .P b1 0), (2, .P b3 0), (16, .P b1 11)] ?_
   refine qL .seq 17 (sq 2 5) 3 b1 11 11 (.I r.waited) (H.cells 1 rfl) ?_
   refine qI .seq 18 (sq 3 5) (r.waited + 1) ?_
   refine qP 1 (sq 4 5) [(1, .P b1 0), (2, .P b3 0), (18, .I (r.waited + 1)), (19, .P b1 11)] ?_
   refine RW.store (d := none) (r := (sq 5 5)) (T := 3) (b := b1) (k := 11) (v := .I (r.waited + 1)) (c' := ((rdV r a6robject k6robject a3r k3r a4r k4r).set 11 (.I (r.waited + 1))).toArray) (M' := [(b3, .cells (rdZ).toArray 107 (0, 0)), (b1, .cells ((rdV r a6robject k6robject a3r k3r a4r k4r).set 11 (.I (r.waited + 1))).toArray 107 (0, 0))]) (by as_aux_lemma => kernel_rfl) H 1 rfl (by as_aux_lemma => kernel_rfl) (by as_aux_lemma => kernel_rfl) ?_
   intro w19 H
   refine qF 0 [(1, .P b1 0), (2, .P b3 0)] ?_
   refine qR 3 [.c [3, 0, 0, 0], .c [3, 0, 0, 1], .b 0, .c [4]] [(1, .P b1 0), (2, .P b3 0)] ?_
   refine qG (sq 0 6) ?_
   refine qP 1 (sq 1 6) [(1, .P b1 0), (2, .P b3 0), (21, .P b1 11)] ?_
   refine qL .seq 22 (sq 2 6) 3 b1 11 11 (.I (r.waited + 1)) (H.cells 1 rfl) ?_
   refine qP 1 (sq 3 6) [(1, .P b1 0), (2, .P b3 0), (22, .I (r.waited + 1)), (23, .P b1 12)] ?_
   refine qL .seq 24 (sq 4 6) 3 b1 12 12 (.I r.limit) (H.cells 1 rfl) ?_
   refine qF 2 [(1, .P b1 0), (2, .P b3 0), (20, .bool (decide ((r.waited + 1 : Int) > r.limit)))] ?_
   refine qD ((r.waited + 1 : Int) > r.limit) (fun h20 => ?_) (fun h20 => ?_)
   ·
    refine qG (sq 0 2) ?_
    refine qP 1 (sq 1 2) [(1, .P b1 0), (2, .P b3 0), (26, .P b1 13)] ?_
    refine RW.store (d := none) (r := (sq 2 2)) (T := 30) (b := b1) (k := 13) (v := .I 2) (c' := (((rdV r a6robject k6robject a3r k3r a4r k4r).set 11 (.I (r.waited + 1))).set 13 (.I 2)).toArray) (M' := [(b3, .cells (rdZ).toArray 107 (0, 0)), (b1, .cells (((rdV r a6robject k6robject a3r k3r a4r k4r).set 11 (.I (r.waited + 1))).set 13 (.I 2)).toArray 107 (0, 0))]) (by as_aux_lemma => kernel_rfl) H 1 rfl (by as_aux_lemma => kernel_rfl) (by as_aux_lemma => kernel_rfl) ?_
    intro w21 H
    refine qF 0 [(1, .P b1 0), (2, .P b3 0)] ?_
    refine qR 2 [.c [4, 0], .c [5]] [(1, .P b1 0), (2, .P b3 0)] ?_
    refine WK.drawH1 [b3] (.leaf [(0, .qui), (1, .qui), (2, .qui), (3, .seq), (4, .qui), (5, .qui)]) Try_mixed (by as_aux_lemma => kernel_rfl) (by as_aux_lemma => kernel_rfl) ?_
    intro w22 hw23
    have H := H.draw
    rw [← hw23] at H
    clear hw23
    have hS := Chg.refl w22 [b3]
    refine RG.leaf' [(0, .qui), (1, .qui), (2, .qui), (3, .seq), (4, .qui), (5, .qui)] (by as_aux_lemma => kernel_rfl) ?_
    refine RH.load (d := some 37) (r := [(1, .qui), (2, .qui), (3, .seq), (4, .qui), (5, .qui)]) (T := 107) (b := b1) (o' := 0) (k := 0) (v := .agg (((rdV r a6robject k6robject a3r k3r a4r k4r).set 11 (.I (r.waited + 1))).set 13 (.I 2)).toArray) (by as_aux_lemma => kernel_rfl) hS (H.cells 1 rfl) (by intro hq; simp only [List.mem_cons, List.not_mem_nil, or_false] at hq; exact H.raws 1 0 rfl rfl (by decide) hq) (by simp) rfl (by as_aux_lemma => kernel_rfl) ?_
    refine qHP hS 1 [(2, .qui), (3, .seq), (4, .qui), (5, .qui)] [(2, .P b3 0), (37, .agg (((rdV r a6robject k6robject a3r k3r a4r k4r).set 11 (.I (r.waited + 1))).set 13 (.I 2)).toArray), (38, .P b1 13)] ?_
    refine RH.load (d := some 39) (r := [(3, .seq), (4, .qui), (5, .qui)]) (T := 30) (b := b1) (o' := 13) (k := 13) (v := .I 2) (by as_aux_lemma => kernel_rfl) hS (H.cells 1 rfl) (by intro hq; simp only [List.mem_cons, List.not_mem_nil, or_false] at hq; exact H.raws 1 0 rfl rfl (by decide) hq) (by simp) rfl (by as_aux_lemma => kernel_rfl) ?_
    have Hr := H
    refine RH.sto ?_
    refine RW.storeC (d := none) (r := []) (T := 107) (b := b3) (k := 0) (v := .agg (((rdV r a6robject k6robject a3r k3r a4r k4r).set 11 (.I (r.waited + 1))).set 13 (.I 2)).toArray) (c' := (((rdV r a6robject k6robject a3r k3r a4r k4r).set 11 (.I (r.waited + 1))).set 13 (.I 2)).toArray) (M' := [(b3, .cells (((rdV r a6robject k6robject a3r k3r a4r k4r).set 11 (.I (r.waited + 1))).set 13 (.I 2)).toArray 107 (0, 0)), (b1, .cells (((rdV r a6robject k6robject a3r k3r a4r k4r).set 11 (.I (r.waited + 1))).set 13 (.I 2)).toArray 107 (0, 0))]) (by as_aux_lemma => kernel_rfl) H 0 rfl (by as_aux_lemma => kernel_rfl) (by as_aux_lemma => kernel_rfl) ?_
    intro w25 hch24 H
    have hS26 := hS.sto hch24 (.inr (by simp))
    refine ⟨hS26, ?_⟩
    have hS := hS26
    refine RH.fin hS 2 [2, 3, 4] [(2, .P b3 0), (3, .slice none 0 0), (4, .I 2)] (by as_aux_lemma => kernel_rfl) ?_
    refine WK.retBy (v := .tuple #[.agg (((rdV r a6robject k6robject a3r k3r a4r k4r).set 11 (.I (r.waited + 1))).set 13 (.I 2)).toArray, .slice none 0 0, .I 2]) Try.func50 (by as_aux_lemma => kernel_rfl) (RV.res3 (x := .cell 2 107) (y := .tmp 3) (z := .tmp 4) (by as_aux_lemma => kernel_rfl) (RV.cell (k := 0) (by as_aux_lemma => kernel_rfl) (H.cells 0 rfl) rfl (by as_aux_lemma => kernel_rfl)) (RV.tmp (by as_aux_lemma => kernel_rfl)) (RV.tmp (by as_aux_lemma => kernel_rfl))) ?_
    have hpost : (⟨r.object, r.kk, r.nn, r.pieces, r.bad, r.waited + 1, r.limit, 2⟩, ([] : List Msg), (2 : Int)) = tickR r := by
     clear H
     symm
     unfold tickR
     rw [if_neg (by rw [hw9]; simp; omega)]; rw [if_pos (by omega)]
    exact ⟨_, rfl, H.done, [.string r.object.key, .int .u64 r.object.version, .I r.object.size, .int .u32 ((r.object.sum.toNat : Nat) : Int), .I r.object.group, .int .u64 r.object.epoch, .slice a6robject r.object.nodes.length k6robject, .I r.kk, .I r.nn, .slice a3r r.pieces.length k3r, .slice a4r r.bad.length k4r, .I (r.waited + 1), .I r.limit, .I 2], none, 0, ⟨r.object, r.kk, r.nn, r.pieces, r.bad, r.waited + 1, r.limit, 2⟩, [], 2, rfl, H.out (rd_mk (y0 := r.object) (obj_mk (y0 := r.object.key) (y1 := r.object.version) (y2 := r.object.size) (y3 := r.object.sum) (y4 := r.object.group) (y5 := r.object.epoch) (y6 := r.object.nodes) ⟨rfl, h0robject⟩ u64a i64a Shape.bv_mk i64a u64a (H.rp 0 rfl)) i64a i64a (H.rp 1 rfl) (H.rp 2 rfl) i64a i64a (Shape.int_mk (by decide))), Shape.slice_nil, hpost⟩
   ·
    refine qR 1 [.c [3, 0, 0, 1, 1, 0], .c [3, 0, 0, 1, 1, 1], .b 0, .c [4]] [(1, .P b1 0), (2, .P b3 0)] ?_
    refine qG (sq 0 5) ?_
    refine qP 1 (sq 1 5) [(1, .P b1 0), (2, .P b3 0), (28, .P b1 11)] ?_
    refine qL .seq 29 (sq 2 5) 3 b1 11 11 (.I (r.waited + 1)) (H.cells 1 rfl) ?_
    refine RW.pv (κ := .seq) (d := some 30) (r := (sq 3 5)) (v := .I ((r.waited + 1).tmod 4)) (v' := .I ((r.waited + 1) % 4)) (by as_aux_lemma => kernel_rfl) (rem_id (by omega)) ?_
    refine qF 2 [(1, .P b1 0), (2, .P b3 0), (27, .bool (((r.waited + 1) % 4) == 0))] ?_
    refine qE ((r.waited + 1) % 4) 0 (fun h27 => ?_) (fun h27 => ?_)
    ·
     refine qR 1 [.c [3, 0, 0, 1, 1, 1, 0, 0], .c [3, 0, 0, 1, 1, 1, 0, 1], .b 0, .c [4]] [(1, .P b1 0), (2, .P b3 0)] ?_
     refine WK.drawH1 [b3] (.leaf [(0, .qui), (1, .qui), (3, .qui), (4, .qui), (2, .seq), (5, .seq), (6, .qui), (7, .qui)]) Try_mixed (by as_aux_lemma => kernel_rfl) (by as_aux_lemma => kernel_rfl) ?_
     intro w28 hw29
     have H := H.draw
     rw [← hw29] at H
     clear hw29
     have hS := Chg.refl w28 [b3]
     refine RG.leaf' [(0, .qui), (1, .qui), (3, .qui), (4, .qui), (2, .seq), (5, .seq), (6, .qui), (7, .qui)] (by as_aux_lemma => kernel_rfl) ?_
     refine RH.load (d := some 32) (r := [(1, .qui), (3, .qui), (4, .qui), (2, .seq), (5, .seq), (6, .qui), (7, .qui)]) (T := 107) (b := b1) (o' := 0) (k := 0) (v := .agg ((rdV r a6robject k6robject a3r k3r a4r k4r).set 11 (.I (r.waited + 1))).toArray) (by as_aux_lemma => kernel_rfl) hS (H.cells 1 rfl) (by intro hq; simp only [List.mem_cons, List.not_mem_nil, or_false] at hq; exact H.raws 1 0 rfl rfl (by decide) hq) (by simp) rfl (by as_aux_lemma => kernel_rfl) ?_
     refine RH.load (d := some 33) (r := [(3, .qui), (4, .qui), (2, .seq), (5, .seq), (6, .qui), (7, .qui)]) (T := 107) (b := b1) (o' := 0) (k := 0) (v := .agg ((rdV r a6robject k6robject a3r k3r a4r k4r).set 11 (.I (r.waited + 1))).toArray) (by as_aux_lemma => kernel_rfl) hS (H.cells 1 rfl) (by intro hq; simp only [List.mem_cons, List.not_mem_nil, or_false] at hq; exact H.raws 1 0 rfl rfl (by decide) hq) (by simp) rfl (by as_aux_lemma => kernel_rfl) ?_
     refine qHP hS 1 [(4, .qui), (2, .seq), (5, .seq), (6, .qui), (7, .qui)] [(2, .P b3 0), (32, .agg ((rdV r a6robject k6robject a3r k3r a4r k4r).set 11 (.I (r.waited + 1))).toArray), (33, .agg ((rdV r a6robject k6robject a3r k3r a4r k4r).set 11 (.I (r.waited + 1))).toArray), (35, .P b1 13)] ?_
     refine RH.load (d := some 36) (r := [(2, .seq), (5, .seq), (6, .qui), (7, .qui)]) (T := 30) (b := b1) (o' := 13) (k := 13) (v := .I r.done) (by as_aux_lemma => kernel_rfl) hS (H.cells 1 rfl) (by intro hq; simp only [List.mem_cons, List.not_mem_nil, or_false] at hq; exact H.raws 1 0 rfl rfl (by decide) hq) (by simp) rfl (by as_aux_lemma => kernel_rfl) ?_
     have Hr := H
     refine RH.chn hS ?_
     refine qK .chn (some 34) [] 78 #[.agg ((rdV r a6robject k6robject a3r k3r a4r k4r).set 11 (.I (r.waited + 1))).toArray, .func (.func 79) #[] #[]] (asks_spec (S := Av S w [] (idsOf [(b3, .cells (rdZ).toArray 107 (0, 0)), (b1, .cells ((rdV r a6robject k6robject a3r k3r a4r k4r).set 11 (.I (r.waited + 1))).toArray 107 (0, 0))] [])) (r := ⟨r.object, r.kk, r.nn, r.pieces, r.bad, r.waited + 1, r.limit, r.done⟩) (rd_mk (y0 := r.object) (obj_mk (y0 := r.object.key) (y1 := r.object.version) (y2 := r.object.size) (y3 := r.object.sum) (y4 := r.object.group) (y5 := r.object.epoch) (y6 := r.object.nodes) ⟨rfl, h0robject⟩ u64a i64a Shape.bv_mk i64a u64a (H.rp 0 rfl)) i64a i64a (H.rp 1 rfl) (H.rp 2 rfl) i64a i64a i64a) (by show r.object.nodes.length ≤ 1000000; omega)) ?_
     rintro _ w31 hE34 ⟨a32, c33, rfl, hr35⟩
     have H := H.addN hE34 (F := Rp (Shape.slice msgS) [.slice a32 ((asksR (⟨r.object, r.kk, r.nn, r.pieces, r.bad, r.waited + 1, r.limit, r.done⟩)).length) c33] (asksR (⟨r.object, r.kk, r.nn, r.pieces, r.bad, r.waited + 1, r.limit, r.done⟩))) hr35
     intro hS
     refine RH.sto ?_
     refine RW.storeC (d := none) (r := []) (T := 107) (b := b3) (k := 0) (v := .agg ((rdV r a6robject k6robject a3r k3r a4r k4r).set 11 (.I (r.waited + 1))).toArray) (c' := ((rdV r a6robject k6robject a3r k3r a4r k4r).set 11 (.I (r.waited + 1))).toArray) (M' := [(b3, .cells ((rdV r a6robject k6robject a3r k3r a4r k4r).set 11 (.I (r.waited + 1))).toArray 107 (0, 0)), (b1, .cells ((rdV r a6robject k6robject a3r k3r a4r k4r).set 11 (.I (r.waited + 1))).toArray 107 (0, 0))]) (by as_aux_lemma => kernel_rfl) H 0 rfl (by as_aux_lemma => kernel_rfl) (by as_aux_lemma => kernel_rfl) ?_
     intro w37 hch36 H
     have hS38 := hS.sto hch36 (.inr (by simp))
     refine ⟨hS38, ?_⟩
     have hS := hS38
     refine RH.fin hS 2 [2, 3, 4] [(2, .P b3 0), (3, .slice a32 ((asksR (⟨r.object, r.kk, r.nn, r.pieces, r.bad, r.waited + 1, r.limit, r.done⟩)).length) c33), (4, .I r.done)] (by as_aux_lemma => kernel_rfl) ?_
     refine WK.retBy (v := .tuple #[.agg ((rdV r a6robject k6robject a3r k3r a4r k4r).set 11 (.I (r.waited + 1))).toArray, .slice a32 ((asksR (⟨r.object, r.kk, r.nn, r.pieces, r.bad, r.waited + 1, r.limit, r.done⟩)).length) c33, .I r.done]) Try.func50 (by as_aux_lemma => kernel_rfl) (RV.res3 (x := .cell 2 107) (y := .tmp 3) (z := .tmp 4) (by as_aux_lemma => kernel_rfl) (RV.cell (k := 0) (by as_aux_lemma => kernel_rfl) (H.cells 0 rfl) rfl (by as_aux_lemma => kernel_rfl)) (RV.tmp (by as_aux_lemma => kernel_rfl)) (RV.tmp (by as_aux_lemma => kernel_rfl))) ?_
     have hpost : (⟨r.object, r.kk, r.nn, r.pieces, r.bad, r.waited + 1, r.limit, r.done⟩, (asksR (⟨r.object, r.kk, r.nn, r.pieces, r.bad, r.waited + 1, r.limit, r.done⟩) : List Msg), (r.done : Int)) = tickR r := by
      clear H
      symm
      unfold tickR
      rw [if_neg (by rw [hw9]; simp; omega)]; rw [if_neg (by omega)]; rw [if_pos (by omega)]
     exact ⟨_, rfl, H.done, [.string r.object.key, .int .u64 r.object.version, .I r.object.size, .int .u32 ((r.object.sum.toNat : Nat) : Int), .I r.object.group, .int .u64 r.object.epoch, .slice a6robject r.object.nodes.length k6robject, .I r.kk, .I r.nn, .slice a3r r.pieces.length k3r, .slice a4r r.bad.length k4r, .I (r.waited + 1), .I r.limit, .I r.done], a32, c33, ⟨r.object, r.kk, r.nn, r.pieces, r.bad, r.waited + 1, r.limit, r.done⟩, asksR (⟨r.object, r.kk, r.nn, r.pieces, r.bad, r.waited + 1, r.limit, r.done⟩), r.done, rfl, H.out (rd_mk (y0 := r.object) (obj_mk (y0 := r.object.key) (y1 := r.object.version) (y2 := r.object.size) (y3 := r.object.sum) (y4 := r.object.group) (y5 := r.object.epoch) (y6 := r.object.nodes) ⟨rfl, h0robject⟩ u64a i64a Shape.bv_mk i64a u64a (H.rp 1 rfl)) i64a i64a (H.rp 2 rfl) (H.rp 3 rfl) i64a i64a i64a), H.out (H.rp 0 rfl), hpost⟩
    ·
     refine qR 3 [.c [4, 0], .c [5]] [(1, .P b1 0), (2, .P b3 0)] ?_
     refine WK.drawH1 [b3] (.leaf [(0, .qui), (1, .qui), (2, .qui), (3, .seq), (4, .qui), (5, .qui)]) Try_mixed (by as_aux_lemma => kernel_rfl) (by as_aux_lemma => kernel_rfl) ?_
     intro w39 hw40
     have H := H.draw
     rw [← hw40] at H
     clear hw40
     have hS := Chg.refl w39 [b3]
     refine RG.leaf' [(0, .qui), (1, .qui), (2, .qui), (3, .seq), (4, .qui), (5, .qui)] (by as_aux_lemma => kernel_rfl) ?_
     refine RH.load (d := some 37) (r := [(1, .qui), (2, .qui), (3, .seq), (4, .qui), (5, .qui)]) (T := 107) (b := b1) (o' := 0) (k := 0) (v := .agg ((rdV r a6robject k6robject a3r k3r a4r k4r).set 11 (.I (r.waited + 1))).toArray) (by as_aux_lemma => kernel_rfl) hS (H.cells 1 rfl) (by intro hq; simp only [List.mem_cons, List.not_mem_nil, or_false] at hq; exact H.raws 1 0 rfl rfl (by decide) hq) (by simp) rfl (by as_aux_lemma => kernel_rfl) ?_
     refine qHP hS 1 [(2, .qui), (3, .seq), (4, .qui), (5, .qui)] [(2, .P b3 0), (37, .agg ((rdV r a6robject k6robject a3r k3r a4r k4r).set 11 (.I (r.waited + 1))).toArray), (38, .P b1 13)] ?_
     refine RH.load (d := some 39) (r := [(3, .seq), (4, .qui), (5, .qui)]) (T := 30) (b := b1) (o' := 13) (k := 13) (v := .I r.done) (by as_aux_lemma => kernel_rfl) hS (H.cells 1 rfl) (by intro hq; simp only [List.mem_cons, List.not_mem_nil, or_false] at hq; exact H.raws 1 0 rfl rfl (by decide) hq) (by simp) rfl (by as_aux_lemma => kernel_rfl) ?_
     have Hr := H
     refine RH.sto ?_
     refine RW.storeC (d := none) (r := []) (T := 107) (b := b3) (k := 0) (v := .agg ((rdV r a6robject k6robject a3r k3r a4r k4r).set 11 (.I (r.waited + 1))).toArray) (c' := ((rdV r a6robject k6robject a3r k3r a4r k4r).set 11 (.I (r.waited + 1))).toArray) (M' := [(b3, .cells ((rdV r a6robject k6robject a3r k3r a4r k4r).set 11 (.I (r.waited + 1))).toArray 107 (0, 0)), (b1, .cells ((rdV r a6robject k6robject a3r k3r a4r k4r).set 11 (.I (r.waited + 1))).toArray 107 (0, 0))]) (by as_aux_lemma => kernel_rfl) H 0 rfl (by as_aux_lemma => kernel_rfl) (by as_aux_lemma => kernel_rfl) ?_
     intro w42 hch41 H
     have hS43 := hS.sto hch41 (.inr (by simp))
     refine ⟨hS43, ?_⟩
     have hS := hS43
     refine RH.fin hS 2 [2, 3, 4] [(2, .P b3 0), (3, .slice none 0 0), (4, .I r.done)] (by as_aux_lemma => kernel_rfl) ?_
     refine WK.retBy (v := .tuple #[.agg ((rdV r a6robject k6robject a3r k3r a4r k4r).set 11 (.I (r.waited + 1))).toArray, .slice none 0 0, .I r.done]) Try.func50 (by as_aux_lemma => kernel_rfl) (RV.res3 (x := .cell 2 107) (y := .tmp 3) (z := .tmp 4) (by as_aux_lemma => kernel_rfl) (RV.cell (k := 0) (by as_aux_lemma => kernel_rfl) (H.cells 0 rfl) rfl (by as_aux_lemma => kernel_rfl)) (RV.tmp (by as_aux_lemma => kernel_rfl)) (RV.tmp (by as_aux_lemma => kernel_rfl))) ?_
     have hpost : (⟨r.object, r.kk, r.nn, r.pieces, r.bad, r.waited + 1, r.limit, r.done⟩, ([] : List Msg), (r.done : Int)) = tickR r := by
      clear H
      symm
      unfold tickR
      rw [if_neg (by rw [hw9]; simp; omega)]; rw [if_neg (by omega)]; rw [if_neg (by omega)]
     exact ⟨_, rfl, H.done, [.string r.object.key, .int .u64 r.object.version, .I r.object.size, .int .u32 ((r.object.sum.toNat : Nat) : Int), .I r.object.group, .int .u64 r.object.epoch, .slice a6robject r.object.nodes.length k6robject, .I r.kk, .I r.nn, .slice a3r r.pieces.length k3r, .slice a4r r.bad.length k4r, .I (r.waited + 1), .I r.limit, .I r.done], none, 0, ⟨r.object, r.kk, r.nn, r.pieces, r.bad, r.waited + 1, r.limit, r.done⟩, [], r.done, rfl, H.out (rd_mk (y0 := r.object) (obj_mk (y0 := r.object.key) (y1 := r.object.version) (y2 := r.object.size) (y3 := r.object.sum) (y4 := r.object.group) (y5 := r.object.epoch) (y6 := r.object.nodes) ⟨rfl, h0robject⟩ u64a i64a Shape.bv_mk i64a u64a (H.rp 0 rfl)) i64a i64a (H.rp 1 rfl) (H.rp 2 rfl) i64a i64a i64a), Shape.slice_nil, hpost⟩


end Go.Proofs.Ytppcdmbkgficiaa
