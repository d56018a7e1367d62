import Derived.Test.YtppcdmbkgficiaaGreatSF2
namespace Go.Proofs.YtppcdmbkgficiaaGreat
open Go.BX
def askOf (r : Rd) (i : Nat) : Msg := ⟨14, 0, r.object.nodes.getD i 0, 0, 0, 0, 0, 0, false, false, [], ⟨[], []⟩, headR r (i : Int), [], 0, 0, 0, ⟨#[]⟩, 0, []⟩
def asksTo (r : Rd) (n : Nat) : List Msg := (List.range n).filterMap fun (i : Nat) => if openR r (i : Int) = true then some (askOf r i) else none
def asksR (r : Rd) : List Msg := asksTo r r.object.nodes.length
theorem asksTo_yes {r : Rd} {i : Nat} (h : openR r (i : Int) = true) : asksTo r i ++ [askOf r i] = asksTo r (i + 1) := by
 unfold asksTo
 rw [List.range_succ, List.filterMap_append]
 simp [h]
theorem asksTo_no {r : Rd} {i : Nat} (h : openR r (i : Int) = false) : asksTo r i = asksTo r (i + 1) := by
 unfold asksTo
 rw [List.range_succ, List.filterMap_append]
 simp [h]
theorem asksTo_le (r : Rd) (i : Nat) : (asksTo r i).length ≤ i := by
 have := List.length_filterMap_le (fun i : Nat => if openR r (i : Int) = true then some (askOf r i) else none) (List.range i)
 rwa [List.length_range] at this
theorem getD_at' {α : Type} {l : List α} {i : Nat} (d : α) (h : i < l.length) : l.getD i d = l[i] := by
 simp [h]
set_option maxHeartbeats 4000000 in
theorem asks_spec {S : Nat → Prop} {w : World} {r : Rd} {cs : List Value} (hr : rdS.rep S w cs r) (hn : r.object.nodes.length ≤ 1000000) :
 Calls Tryz.prog 16 #[.agg cs.toArray, .func (.func 17) #[] #[]] w (Ret fun v w' => Ext w w' ∧ ∃ (a : Option Addr) (c : Nat), v = .slice a (asksR r).length c ∧ (Shape.slice msgS).rep (Nw S w) w' [.slice a (asksR r).length c] (asksR r)) := by
 obtain ⟨cs0r, a3r, k3r, a4r, k4r, rfl, h0r, h1r, h2r, h3r, h4r, h5r, h6r, h7r⟩ := rd_open hr
 obtain ⟨a6rO, k6rO, rfl, h0rO, h1rO, h2rO, h4rO, h5rO, h6rO⟩ := obj_open h0r
 refine qS (fn := Tryz.f16) (n := 31) (σ := [(0, .agg (rdV r a6rO k6rO a3r k3r a4r k4r).toArray), (1, .func (.func 17) #[] #[])]) Tryz.func16 ?_
 have H := Hp.startF (w := w) (S := S) (G := [Rp Li [.slice a6rO r.object.nodes.length k6rO] r.object.nodes, Rp (Shape.slice pcS) [.slice a3r r.pieces.length k3r] r.pieces, Rp Li [.slice a4r r.bad.length k4r] r.bad]) (.rp h6rO (.rp h3r (.rp h4r .nil)))
 refine qR 1 [.c [0], .c [1]] [(0, .agg (rdV r a6rO k6rO a3r k3r a4r k4r).toArray), (1, .func (.func 17) #[] #[])] ?_
 refine qG (sq 0 2) ?_
 refine qB .seq 2 (sq 1 2) ((rdV r a6rO k6rO a3r k3r a4r k4r).toArray) 30 H ?_
 intro b1 w2 H
 refine qF 1 [(1, .func (.func 17) #[] #[]), (2, .P b1 0)] ?_
 refine qR 4 [.c [2, 0, 0], .c [2, 0, 1], .c [3]] [(1, .func (.func 17) #[] #[]), (2, .P b1 0), (5, .slice none 0 0)] ?_
 refine qG (sq 0 5) ?_
 refine qP 2 (sq 2 5) [(1, .func (.func 17) #[] #[]), (2, .P b1 0), (5, .slice none 0 0), (9, .P b1 6)] ?_
 refine qL .seq 10 (sq 3 5) 24 b1 6 6 (.slice a6rO r.object.nodes.length k6rO) (H.cells 0 rfl) ?_
 refine qF 2 [(1, .func (.func 17) #[] #[]), (2, .P b1 0), (5, .slice none 0 0), (10, .slice a6rO r.object.nodes.length k6rO), (11, .I ((r.object.nodes.length : Nat) : Int)), (12, .I 0)] ?_
 refine qR 1 [.c [2, 0, 1, 0], .b 0, .c [3]] [(1, .func (.func 17) #[] #[]), (2, .P b1 0), (5, .slice none 0 0), (10, .slice a6rO r.object.nodes.length k6rO), (11, .I ((r.object.nodes.length : Nat) : Int)), (12, .I 0)] ?_
 have H := H.ownNil msgS 89
 refine WK.loop (α := Nat × Option Addr × Nat) (b := cd Tryz.prog 16 [2, 0, 1, 0, 0]) (by as_aux_lemma => kernel_rfl) (fun st_ => match st_ with | (i, ao, co) => [(1, .func (.func 17) #[] #[]), (2, .P b1 0), (5, .slice ao (asksTo r i).length co), (10, .slice a6rO r.object.nodes.length k6rO), (11, .I ((r.object.nodes.length : Nat) : Int)), (12, .I i)]) (fun st_ w' => match st_ with | (i, ao, co) => Hp w S [] [(b1, .cells (rdV r a6rO k6rO a3r k3r a4r k4r).toArray 30 (0, 0))] [⟨msgS, 89, .slice ao (asksTo r i).length co, asksTo r i⟩] [Rp Li [.slice a6rO r.object.nodes.length k6rO] r.object.nodes, Rp (Shape.slice pcS) [.slice a3r r.pieces.length k3r] r.pieces, Rp Li [.slice a4r r.bad.length k4r] r.bad] w' ∧ i ≤ r.object.nodes.length) (fun st_ => match st_ with | (i, ao, co) => r.object.nodes.length - i) (0, none, 0) ⟨H, Nat.zero_le _⟩ (rfl) ?_
 rintro ⟨i, ao, co⟩ w4 ⟨H, hinv0⟩ hback3
 have hml := asksTo_le r i
 refine qR 3 [.c [2, 0, 1, 0, 0, 1, 0], .c [2, 0, 1, 0, 0, 2], .l [2, 0, 1, 0, 0], .b 0, .c [3]] [(1, .func (.func 17) #[] #[]), (2, .P b1 0), (5, .slice ao (asksTo r i).length co), (10, .slice a6rO r.object.nodes.length k6rO), (11, .I ((r.object.nodes.length : Nat) : Int)), (12, .I i), (13, .bool (decide (((i : Int) : Int) < ((r.object.nodes.length : Nat) : Int))))] ?_
 refine qD (((i : Int) : Int) < ((r.object.nodes.length : Nat) : Int)) (fun h5 => ?_) (fun h5 => ?_)
 ·
  refine qR 4 [.c [2, 0, 1, 0, 0, 2, 0, 0, 0], .c [2, 0, 1, 0, 0, 2, 0, 0, 1], .b 1, .c [2, 0, 1, 0, 0, 3], .l [2, 0, 1, 0, 0], .b 0, .c [3]] [(1, .func (.func 17) #[] #[]), (2, .P b1 0), (5, .slice ao (asksTo r i).length co), (10, .slice a6rO r.object.nodes.length k6rO), (11, .I ((r.object.nodes.length : Nat) : Int)), (12, .I i)] ?_
  refine qG (sq 0 5) ?_
  refine qP 1 (sq 1 5) [(1, .func (.func 17) #[] #[]), (2, .P b1 0), (5, .slice ao (asksTo r i).length co), (10, .slice a6rO r.object.nodes.length k6rO), (11, .I ((r.object.nodes.length : Nat) : Int)), (12, .I i), (14, .I i)] ?_
  have hx6 : i < r.object.nodes.length := by omega
  refine qX .seq 15 (sq 2 5) 24 3 (i : Int) Si (r.object.nodes[i]) H 0 rfl i (by omega) (List.getElem?_eq_getElem hx6) ?_
  intro b7 o8 es9 hr10 H
  have hb11 := Shape.i64_bd hr10
  obtain ⟨rfl, -⟩ := hr10
  refine qL .seq 16 (sq 3 5) 3 b7 o8 0 (.I (r.object.nodes[i])) (H.fc 0 rfl) ?_
  refine qF 2 [(1, .func (.func 17) #[] #[]), (2, .P b1 0), (5, .slice ao (asksTo r i).length co), (6, .I i), (7, .I (r.object.nodes[i])), (10, .slice a6rO r.object.nodes.length k6rO), (11, .I ((r.object.nodes.length : Nat) : Int)), (12, .I i)] ?_
  refine qR 1 [.c [2, 0, 1, 0, 0, 2, 0, 0, 1, 0], .c [2, 0, 1, 0, 0, 2, 0, 0, 2], .b 1, .c [2, 0, 1, 0, 0, 3], .l [2, 0, 1, 0, 0], .b 0, .c [3]] [(1, .func (.func 17) #[] #[]), (2, .P b1 0), (5, .slice ao (asksTo r i).length co), (6, .I i), (7, .I (r.object.nodes[i])), (10, .slice a6rO r.object.nodes.length k6rO), (11, .I ((r.object.nodes.length : Nat) : Int)), (12, .I i)] ?_
  refine qG (sq 0 4) ?_
  refine qP 1 (sq 1 4) [(1, .func (.func 17) #[] #[]), (2, .P b1 0), (5, .slice ao (asksTo r i).length co), (6, .I i), (7, .I (r.object.nodes[i])), (10, .slice a6rO r.object.nodes.length k6rO), (11, .I ((r.object.nodes.length : Nat) : Int)), (12, .I i), (17, .func (.func 17) #[] #[])] ?_
  refine qL .seq 18 (sq 2 4) 30 b1 0 0 (.agg (rdV r a6rO k6rO a3r k3r a4r k4r).toArray) (H.cells 0 rfl) ?_
  refine qP 1 (sq 3 4) [(1, .func (.func 17) #[] #[]), (2, .P b1 0), (5, .slice ao (asksTo r i).length co), (6, .I i), (7, .I (r.object.nodes[i])), (10, .slice a6rO r.object.nodes.length k6rO), (11, .I ((r.object.nodes.length : Nat) : Int)), (12, .I i), (17, .func (.func 17) #[] #[]), (18, .agg (rdV r a6rO k6rO a3r k3r a4r k4r).toArray), (19, .I i)] ?_
  refine qK .seq (some 20) (sq 4 4) 17 #[.agg (rdV r a6rO k6rO a3r k3r a4r k4r).toArray, .I i] (open_spec (r := r) (rd_mkB (by unfold rdB; omega) (H.rp 1 rfl) (H.rp 2 rfl) (H.rp 3 rfl)) (i : Int)) ?_
  rintro _ w12 hE13 rfl
  have H := H.ext hE13
  refine qF 0 [(1, .func (.func 17) #[] #[]), (2, .P b1 0), (5, .slice ao (asksTo r i).length co), (6, .I i), (7, .I (r.object.nodes[i])), (10, .slice a6rO r.object.nodes.length k6rO), (11, .I ((r.object.nodes.length : Nat) : Int)), (12, .I i), (20, .bool (openR r (i : Int)))] ?_
  refine qC (openR r (i : Int)) (fun h14 => ?_) (fun h14 => ?_)
  ·
   refine qG (sq 0 9) ?_
   refine qP 2 (sq 2 9) [(1, .func (.func 17) #[] #[]), (2, .P b1 0), (5, .slice ao (asksTo r i).length co), (6, .I i), (10, .slice a6rO r.object.nodes.length k6rO), (11, .I ((r.object.nodes.length : Nat) : Int)), (12, .I i), (21, .slice ao (asksTo r i).length co), (22, .I (r.object.nodes[i]))] ?_
   refine qL .seq 23 (sq 3 9) 30 b1 0 0 (.agg (rdV r a6rO k6rO a3r k3r a4r k4r).toArray) (H.cells 0 rfl) ?_
   refine qP 1 (sq 4 9) [(1, .func (.func 17) #[] #[]), (2, .P b1 0), (5, .slice ao (asksTo r i).length co), (10, .slice a6rO r.object.nodes.length k6rO), (11, .I ((r.object.nodes.length : Nat) : Int)), (12, .I i), (21, .slice ao (asksTo r i).length co), (22, .I (r.object.nodes[i])), (23, .agg (rdV r a6rO k6rO a3r k3r a4r k4r).toArray), (24, .I i)] ?_
   refine qK .seq (some 25) (sq 5 9) 31 #[.agg (rdV r a6rO k6rO a3r k3r a4r k4r).toArray, .I i] (head_spec (r := r) (rd_mkB (by unfold rdB; omega) (H.rp 1 rfl) (H.rp 2 rfl) (H.rp 3 rfl)) (i : Int)) ?_
   rintro _ w15 hE16 rfl
   have H := H.ext hE16
   refine qP 1 (sq 6 9) [(1, .func (.func 17) #[] #[]), (2, .P b1 0), (5, .slice ao (asksTo r i).length co), (10, .slice a6rO r.object.nodes.length k6rO), (11, .I ((r.object.nodes.length : Nat) : Int)), (12, .I i), (21, .slice ao (asksTo r i).length co), (26, .agg #[.I 14, .I 0, .I (r.object.nodes[i]), .int .u64 0, .int .u64 0, .int .u64 0, .int .u64 0, .int .u64 0, .bool false, .bool false, .slice none 0 0, .slice none 0 0, .slice none 0 0, .int .u64 r.object.version, .I i, .int .u64 r.object.epoch, .I r.kk, .I r.nn, .I r.object.size, .int .u32 0, .slice none 0 0, .int .u64 0, .int .u64 0, .I 0, .string (⟨#[]⟩), .I 0, .slice none 0 0])] ?_
   refine RW.new (κ := .seq) (d := some 27) (r := (sq 7 9)) (o := .cells #[.I 14, .I 0, .I (r.object.nodes[i]), .int .u64 0, .int .u64 0, .int .u64 0, .int .u64 0, .int .u64 0, .bool false, .bool false, .slice none 0 0, .slice none 0 0, .slice none 0 0, .int .u64 r.object.version, .I i, .int .u64 r.object.epoch, .I r.kk, .I r.nn, .I r.object.size, .int .u32 0, .slice none 0 0, .int .u64 0, .int .u64 0, .I 0, .string (⟨#[]⟩), .I 0, .slice none 0 0] 89 (0, 0)) (v := fun b => .slice (some ⟨b, 0, none⟩) 1 1) (fun b => by as_aux_lemma => kernel_rfl) (nofun) H ?_
   intro b17 w18 H
   have H := H.freeze 0 rfl msgS ([⟨14, 0, r.object.nodes[i], 0, 0, 0, 0, 0, false, false, [], ⟨[], []⟩, ⟨⟨r.object.version, (i : Int), r.object.epoch⟩, r.kk, r.nn, r.object.size, 0#32⟩, [], 0, 0, 0, ⟨#[]⟩, 0, []⟩] : List Msg) 1 (by simp [maxLen]) (by first | exact Nat.le_refl _ | simp) (EsP.cons (c := [.I 14, .I 0, .I (r.object.nodes[i]), .int .u64 0, .int .u64 0, .int .u64 0, .int .u64 0, .int .u64 0, .bool false, .bool false, .slice none 0 0, .slice none 0 0, .slice none 0 0, .int .u64 r.object.version, .I i, .int .u64 r.object.epoch, .I r.kk, .I r.nn, .I r.object.size, .int .u32 0, .slice none 0 0, .int .u64 0, .int .u64 0, .I 0, .string (⟨#[]⟩), .I 0, .slice none 0 0]) (msg_mk (l0 := [.I 14]) (y0 := 14) (l1 := [.I 0]) (y1 := 0) (l2 := [.I (r.object.nodes[i])]) (y2 := r.object.nodes[i]) (l3 := [.int .u64 0]) (y3 := 0) (l4 := [.int .u64 0]) (y4 := 0) (l5 := [.int .u64 0]) (y5 := 0) (l6 := [.int .u64 0]) (y6 := 0) (l7 := [.int .u64 0]) (y7 := 0) (l8 := [.bool false]) (y8 := false) (l9 := [.bool false]) (y9 := false) (l10 := [.slice none 0 0]) (y10 := []) (l11 := [.slice none 0 0, .slice none 0 0]) (y11 := ⟨[], []⟩) (l12 := [.int .u64 r.object.version, .I i, .int .u64 r.object.epoch, .I r.kk, .I r.nn, .I r.object.size, .int .u32 0]) (y12 := ⟨⟨r.object.version, (i : Int), r.object.epoch⟩, r.kk, r.nn, r.object.size, 0#32⟩) (l13 := [.slice none 0 0]) (y13 := []) (l14 := [.int .u64 0]) (y14 := 0) (l15 := [.int .u64 0]) (y15 := 0) (l16 := [.I 0]) (y16 := 0) (l17 := [.string (⟨#[]⟩)]) (y17 := ⟨#[]⟩) (l18 := [.I 0]) (y18 := 0) (l19 := [.slice none 0 0]) (y19 := []) (Shape.int_mk (by decide)) (Shape.int_mk (by decide)) i64a (Shape.int_mk (by decide)) (Shape.int_mk (by decide)) (Shape.int_mk (by decide)) (Shape.int_mk (by decide)) (Shape.int_mk (by decide)) Shape.bool_mk Shape.bool_mk Shape.slice_nil (conf_mk Shape.slice_nil Shape.slice_nil) (hdr_mk (cid_mk u64a i64a u64a) i64a i64a i64a (Shape.bv_lit (x := 0#32) (by decide))) Shape.slice_nil (Shape.int_mk (by decide)) (Shape.int_mk (by decide)) (Shape.int_mk (by decide)) ⟨rfl, by first | assumption | (simp [maxLen]; done) | decide⟩ (Shape.int_mk (by decide)) Shape.slice_nil) EsP.nil)
   have H : Hp w S [] [(b1, .cells (rdV r a6rO k6rO a3r k3r a4r k4r).toArray 30 (0, 0))] [⟨msgS, 89, .slice ao (asksTo r i).length co, asksTo r i⟩] [Rp (Shape.slice msgS) [.slice (some ⟨b17, 0, none⟩) 1 1] ([⟨14, 0, r.object.nodes[i], 0, 0, 0, 0, 0, false, false, [], ⟨[], []⟩, ⟨⟨r.object.version, (i : Int), r.object.epoch⟩, r.kk, r.nn, r.object.size, 0#32⟩, [], 0, 0, 0, ⟨#[]⟩, 0, []⟩] : List Msg), Fc b7 o8 [.I (r.object.nodes[i])], Rp Li [.slice a6rO r.object.nodes.length k6rO] r.object.nodes, Rp (Shape.slice pcS) [.slice a3r r.pieces.length k3r] r.pieces, Rp Li [.slice a4r r.bad.length k4r] r.bad] _ := H
   refine RW.appendW (d := some 28) (r := (sq 8 9)) (T := 31) (ty := 31) (e := 89) (m := 27) (by_ := 296) (v := .slice ao (asksTo r i).length co) (a2 := (some ⟨b17, 0, none⟩)) (l2 := 1) (c2 := 1) (zs := asksTo r (i + 1)) (by as_aux_lemma => kernel_rfl) (by as_aux_lemma => kernel_rfl) rfl H 0 rfl 0 rfl (by rw [← asksTo_yes (by first | assumption | simp_all)]; unfold askOf headR; rw [getD_at' _ (by omega)]) (by have := asksTo_le r (i + 1); omega) ?_
   intro a19 c20 w22 H hc21
   have H : Hp w S [] [(b1, .cells (rdV r a6rO k6rO a3r k3r a4r k4r).toArray 30 (0, 0))] [⟨msgS, 89, .slice a19 ((asksTo r (i + 1)).length) c20, asksTo r (i + 1)⟩] [Rp (Shape.slice msgS) [.slice (some ⟨b17, 0, none⟩) 1 1] ([⟨14, 0, r.object.nodes[i], 0, 0, 0, 0, 0, false, false, [], ⟨[], []⟩, ⟨⟨r.object.version, (i : Int), r.object.epoch⟩, r.kk, r.nn, r.object.size, 0#32⟩, [], 0, 0, 0, ⟨#[]⟩, 0, []⟩] : List Msg), Fc b7 o8 [.I (r.object.nodes[i])], Rp Li [.slice a6rO r.object.nodes.length k6rO] r.object.nodes, Rp (Shape.slice pcS) [.slice a3r r.pieces.length k3r] r.pieces, Rp Li [.slice a4r r.bad.length k4r] r.bad] _ := H
   refine qF 1 [(1, .func (.func 17) #[] #[]), (2, .P b1 0), (5, .slice a19 ((asksTo r (i + 1)).length) c20), (10, .slice a6rO r.object.nodes.length k6rO), (11, .I ((r.object.nodes.length : Nat) : Int)), (12, .I i)] ?_
   refine qR 1 [.c [2, 0, 1, 0, 0, 3], .l [2, 0, 1, 0, 0], .b 0, .c [3]] [(1, .func (.func 17) #[] #[]), (2, .P b1 0), (5, .slice a19 ((asksTo r (i + 1)).length) c20), (10, .slice a6rO r.object.nodes.length k6rO), (11, .I ((r.object.nodes.length : Nat) : Int)), (12, .I i)] ?_
   refine qG (sq 0 2) ?_
   refine qI .seq 29 (sq 1 2) ((i : Int) + 1) ?_
   refine qF 1 [(1, .func (.func 17) #[] #[]), (2, .P b1 0), (5, .slice a19 ((asksTo r (i + 1)).length) c20), (10, .slice a6rO r.object.nodes.length k6rO), (11, .I ((r.object.nodes.length : Nat) : Int)), (12, .I ((i : Int) + 1))] ?_
   have H := H.pick [2, 3, 4] rfl
   exact WK.back (hback3 (i + 1, a19, c20) _ ⟨H, by omega⟩ (by first | omega | (simp only []; omega))) (by first | rfl | (rw [asksTo_no hno9]; rfl))
  ·
   have hno9 : openR r (i : Int) = false := by first | exact h14 | (simpa using h14)
   refine qR 2 [.c [2, 0, 1, 0, 0, 3], .l [2, 0, 1, 0, 0], .b 0, .c [3]] [(1, .func (.func 17) #[] #[]), (2, .P b1 0), (5, .slice ao (asksTo r i).length co), (10, .slice a6rO r.object.nodes.length k6rO), (11, .I ((r.object.nodes.length : Nat) : Int)), (12, .I i)] ?_
   refine qG (sq 0 2) ?_
   refine qI .seq 29 (sq 1 2) ((i : Int) + 1) ?_
   refine qF 1 [(1, .func (.func 17) #[] #[]), (2, .P b1 0), (5, .slice ao (asksTo r i).length co), (10, .slice a6rO r.object.nodes.length k6rO), (11, .I ((r.object.nodes.length : Nat) : Int)), (12, .I ((i : Int) + 1))] ?_
   have H := H.reW (asksTo_no hno9) (by rw [asksTo_no hno9])
   have H := H.pick [1, 2, 3] rfl
   exact WK.back (hback3 (i + 1, ao, co) _ ⟨H, by omega⟩ (by first | omega | (simp only []; omega))) (by first | rfl | (rw [asksTo_no hno9]; rfl))
 ·
  refine qR 3 [.c [4]] [(4, .slice ao (asksTo r i).length co)] ?_
  refine qT (.slice ao (asksTo r i).length co) Tryz.func16 ?_
  have H : Hp w S [] [(b1, .cells (rdV r a6rO k6rO a3r k3r a4r k4r).toArray 30 (0, 0))] [] [Rp (Shape.slice msgS) [.slice ao (asksTo r i).length co] (asksTo r i), Rp Li [.slice a6rO r.object.nodes.length k6rO] r.object.nodes, Rp (Shape.slice pcS) [.slice a3r r.pieces.length k3r] r.pieces, Rp Li [.slice a4r r.bad.length k4r] r.bad] _ := H.freezeW 0 rfl
  have hi9 : i = r.object.nodes.length := by omega
  subst hi9
  exact ⟨_, rfl, H.done, _, _, rfl, H.out (H.rp 0 rfl)⟩
def okL (size k : Int) : Prop := 0 ≤ size ∧ size ≤ 65536 ∧ 1 ≤ k ∧ k ≤ 255
instance (size k : Int) : Decidable (okL size k) := by unfold okL; infer_instance
def llI (size k : Int) : Int := if okL size k then ((lenOf size.toNat k.toNat : Nat) : Int) else 0
def elI (size k : Int) : Int := if okL size k then 0 else 2
theorem el_ok {size k : Int} : elI size k = 0 ↔ okL size k := by
 unfold elI
 by_cases h : okL size k
 · rw [if_pos h]; exact ⟨fun _ => h, fun _ => rfl⟩
 · rw [if_neg h]; exact ⟨fun e => (by cases e), fun e => absurd e h⟩
theorem length_gen {S : Nat → Prop} {w : World} (size k : Int) : Calls Tryz.prog 14 #[.I size, .I k] w (Ret fun v w' => Ext w w' ∧ v = .tuple #[.I (llI size k), .I (elI size k)]) := by
 by_cases h : okL size k
 · have h2 := h
   unfold okL at h2
   obtain ⟨size, rfl⟩ : ∃ m : Nat, size = (m : Int) := ⟨size.toNat, by omega⟩
   obtain ⟨k, rfl⟩ : ∃ m : Nat, k = (m : Int) := ⟨k.toNat, by omega⟩
   unfold llI elI
   rw [if_pos h, if_pos h]
   exact length_ok (S := S) size k (by omega) (by omega) (by omega)
 · unfold llI elI
   rw [if_neg h, if_neg h]
   exact length_bad (S := S) size k h
def beginR (O : ObjD) (k n limit : Int) : Rd := ⟨O, k, n, [], [], 0, limit, 0⟩
def okB (O : ObjD) (k n limit : Int) : Prop := elI O.size k = 0 ∧ k ≤ n ∧ n ≤ 255 ∧ (O.nodes.length : Int) = n ∧ 1 ≤ limit ∧ limit ≤ 100000
set_option maxHeartbeats 2000000 in
theorem fbegin_ok {S : Nat → Prop} {w : World} {O : ObjD} {os : List Value} (hO : objS.rep S w os O) (k n limit : Int) (hb : okB O k n limit) :
 Calls Tryz.prog 5 #[.agg os.toArray, .I k, .I n, .I limit] w (Ret fun v w' => Ext w w' ∧ ∃ (ds : List Value) (a : Option Addr) (c : Nat), v = .tuple #[.agg ds.toArray, .slice a (asksR (beginR O k n limit)).length c, .I 0] ∧ rdS.rep (Nw S w) w' ds (beginR O k n limit) ∧ (Shape.slice msgS).rep (Nw S w) w' [.slice a (asksR (beginR O k n limit)).length c] (asksR (beginR O k n limit))) := by
 obtain ⟨a6O, k6O, rfl, h0O, h1O, h2O, h4O, h5O, h6O⟩ := obj_open hO
 obtain ⟨hb1, hb2, hb3, hb4, hb5, hb6⟩ := hb
 have hbl := el_ok.1 hb1
 unfold okL at hbl
 refine qS (fn := Tryz.f5) (n := 60) (σ := [(0, .agg (objV O a6O k6O).toArray), (1, .I k), (2, .I n), (3, .I limit)]) Tryz.func5 ?_
 have H := Hp.startF (w := w) (S := S) (G := [Rp Li [.slice a6O O.nodes.length k6O] O.nodes]) (.rp h6O .nil)
 refine qR 1 [.c [0], .c [1]] [(0, .agg (objV O a6O k6O).toArray), (1, .I k), (2, .I n), (3, .I limit)] ?_
 refine qG (sq 0 4) ?_
 refine qB .seq 4 (sq 1 4) ((objV O a6O k6O).toArray) 26 H ?_
 intro b1 w2 H
 refine qB .seq 8 (sq 2 4) ((rdZ).toArray) 30 H ?_
 intro b3 w4 H
 refine qF 2 [(1, .I k), (2, .I n), (3, .I limit), (4, .P b1 0), (8, .P b3 0)] ?_
 refine qR 2 [.c [1, 0, 0], .c [1, 0, 1], .c [2]] [(1, .I k), (2, .I n), (3, .I limit), (4, .P b1 0), (8, .P b3 0)] ?_
 refine qG (sq 0 9) ?_
 refine qP 1 (sq 1 9) [(1, .I k), (2, .I n), (3, .I limit), (4, .P b1 0), (8, .P b3 0), (15, .P b1 2)] ?_
 refine qL .seq 16 (sq 2 9) 3 b1 2 2 (.I O.size) (H.cells 1 rfl) ?_
 refine qP 1 (sq 3 9) [(1, .I k), (2, .I n), (3, .I limit), (4, .P b1 0), (8, .P b3 0), (16, .I O.size), (17, .I k)] ?_
 refine qK .seq (some 18) (sq 4 9) 14 #[.I O.size, .I k] (length_gen (S := fun _ => True) O.size k) ?_
 rintro _ w5 hE6 rfl
 have H := H.ext hE6
 refine qF 5 [(1, .I k), (2, .I n), (3, .I limit), (4, .P b1 0), (8, .P b3 0), (12, .I (elI O.size k))] ?_
 refine qR 1 [.c [1, 0, 1, 0], .c [1, 0, 2], .c [2]] [(1, .I k), (2, .I n), (3, .I limit), (4, .P b1 0), (8, .P b3 0), (12, .I (elI O.size k))] ?_
 refine qG (sq 0 26) ?_
 refine qP 3 (sq 3 26) [(1, .I k), (2, .I n), (3, .I limit), (4, .P b1 0), (8, .P b3 0), (23, .bool ((elI O.size k) != 0))] ?_
 refine tN (fun b_ => [(1, .I k), (2, .I n), (3, .I limit), (4, .P b1 0), (8, .P b3 0), (23, .bool b_)]) (elI O.size k) 0 (fun h7 => ?_) (fun h7 => ?_)
 ·
  omega
 ·
  refine qP 5 (sq 8 26) [(1, .I k), (2, .I n), (3, .I limit), (4, .P b1 0), (8, .P b3 0), (28, .bool (decide ((n : Int) < k)))] ?_
  refine tD (fun b_ => [(1, .I k), (2, .I n), (3, .I limit), (4, .P b1 0), (8, .P b3 0), (28, .bool b_)]) ((n : Int) < k) (fun h8 => ?_) (fun h8 => ?_)
  ·
   omega
  ·
   refine qP 4 (sq 12 26) [(1, .I k), (2, .I n), (3, .I limit), (4, .P b1 0), (8, .P b3 0), (32, .bool (decide ((n : Int) > 255)))] ?_
   refine tD (fun b_ => [(1, .I k), (2, .I n), (3, .I limit), (4, .P b1 0), (8, .P b3 0), (32, .bool b_)]) ((n : Int) > 255) (fun h9 => ?_) (fun h9 => ?_)
   ·
    omega
   ·
    refine qP 1 (sq 13 26) [(1, .I k), (2, .I n), (3, .I limit), (4, .P b1 0), (8, .P b3 0), (32, .bool false), (33, .P b1 6)] ?_
    refine qL .seq 34 (sq 14 26) 24 b1 6 6 (.slice a6O O.nodes.length k6O) (H.cells 1 rfl) ?_
    refine qP 5 (sq 19 26) [(1, .I k), (2, .I n), (3, .I limit), (4, .P b1 0), (8, .P b3 0), (39, .bool (((O.nodes.length : Nat) : Int) != n))] ?_
    refine tN (fun b_ => [(1, .I k), (2, .I n), (3, .I limit), (4, .P b1 0), (8, .P b3 0), (39, .bool b_)]) ((O.nodes.length : Nat) : Int) n (fun h10 => ?_) (fun h10 => ?_)
    ·
     omega
    ·
     refine qP 4 (sq 23 26) [(1, .I k), (2, .I n), (3, .I limit), (4, .P b1 0), (8, .P b3 0), (43, .bool (decide ((limit : Int) < 1)))] ?_
     refine tD (fun b_ => [(1, .I k), (2, .I n), (3, .I limit), (4, .P b1 0), (8, .P b3 0), (43, .bool b_)]) ((limit : Int) < 1) (fun h11 => ?_) (fun h11 => ?_)
     ·
      omega
     ·
      refine qF 3 [(1, .I k), (2, .I n), (3, .I limit), (4, .P b1 0), (8, .P b3 0), (46, .bool (decide ((limit : Int) > 100000)))] ?_
      refine qD ((limit : Int) > 100000) (fun h12 => ?_) (fun h12 => ?_)
      ·
       omega
      ·
       refine qR 2 [.c [2, 0], .c [3]] [(1, .I k), (2, .I n), (3, .I limit), (4, .P b1 0), (8, .P b3 0)] ?_
       refine qG (sq 0 5) ?_
       refine qP 1 (sq 1 5) [(1, .I k), (2, .I n), (3, .I limit), (4, .P b1 0), (8, .P b3 0), (48, .P b1 6)] ?_
       refine qL .seq 49 (sq 2 5) 24 b1 6 6 (.slice a6O O.nodes.length k6O) (H.cells 1 rfl) ?_
       refine qK .seq (some 50) (sq 3 5) 15 #[.slice a6O O.nodes.length k6O] (clone_spec (H.rp 0 rfl) (by omega)) ?_
       rintro v14 w13 - H'
       have H := H.back (M1 := []) (W1 := []) H'
       obtain ⟨a15, c16, rfl, hc17, hm18⟩ := H.ownForm 0 rfl
       have H : Hp w S [] [(b3, .cells (rdZ).toArray 30 (0, 0)), (b1, .cells (objV O a6O k6O).toArray 26 (0, 0))] [⟨Shape.int .i64, 3, .slice a15 O.nodes.length c16, O.nodes⟩] [Rp Li [.slice a6O O.nodes.length k6O] O.nodes] _ := H
       refine qP 1 (sq 4 5) [(1, .I k), (2, .I n), (3, .I limit), (4, .P b1 0), (8, .P b3 0), (50, .slice a15 O.nodes.length c16), (51, .P b1 6)] ?_
       refine qW 24 b1 6 (sq 5 5) (.slice a15 O.nodes.length c16) [(b3, .cells (rdZ).toArray 30 (0, 0)), (b1, .cells (objV O a15 c16).toArray 26 (0, 0))] H 1 rfl rfl ?_
       intro w19 H
       refine qF 0 [(1, .I k), (2, .I n), (3, .I limit), (4, .P b1 0), (8, .P b3 0)] ?_
       refine qR 1 [.c [3, 0], .c [4]] [(1, .I k), (2, .I n), (3, .I limit), (4, .P b1 0), (8, .P b3 0)] ?_
       refine qG (sq 0 7) ?_
       refine qL .seq 52 (sq 1 7) 26 b1 0 0 (.agg (objV O a15 c16).toArray) (H.cells 1 rfl) ?_
       refine qP 4 (sq 5 7) [(8, .P b3 0), (56, .agg #[.string O.key, .int .u64 O.version, .I O.size, .int .u32 ((O.sum.toNat : Nat) : Int), .I O.group, .int .u64 O.epoch, .slice a15 O.nodes.length c16, .I k, .I n, .slice none 0 0, .slice none 0 0, .I 0, .I limit, .I 0])] ?_
       refine qB .seq 13 (sq 6 7) ((rdZ).toArray) 30 H ?_
       intro b20 w21 H
       refine qW 30 b20 0 (sq 7 7) (.agg #[.string O.key, .int .u64 O.version, .I O.size, .int .u32 ((O.sum.toNat : Nat) : Int), .I O.group, .int .u64 O.epoch, .slice a15 O.nodes.length c16, .I k, .I n, .slice none 0 0, .slice none 0 0, .I 0, .I limit, .I 0]) [(b20, .cells #[.string O.key, .int .u64 O.version, .I O.size, .int .u32 ((O.sum.toNat : Nat) : Int), .I O.group, .int .u64 O.epoch, .slice a15 O.nodes.length c16, .I k, .I n, .slice none 0 0, .slice none 0 0, .I 0, .I limit, .I 0] 30 (0, 0)), (b3, .cells (rdZ).toArray 30 (0, 0)), (b1, .cells (objV O a15 c16).toArray 26 (0, 0))] H 0 rfl rfl ?_
       intro w22 H
       refine qF 0 [(8, .P b3 0), (13, .P b20 0)] ?_
       refine qR 1 [.c [4, 0], .c [5]] [(8, .P b3 0), (13, .P b20 0)] ?_
       refine WK.draw1 3 [(0, .qui), (1, .qui), (2, .chn)] [(0, .qui), (1, .qui), (2, .chn), (3, .seq), (4, .seq), (5, .seq)] Try_mixed (by as_aux_lemma => kernel_rfl) (by as_aux_lemma => kernel_rfl) (by as_aux_lemma => kernel_rfl) ?_
       have H := H.draw
       generalize ({ w22 with drawn := w22.drawn + 1 } : World) = w23 at H ⊢
       refine qL .qui 57 [(1, .qui), (2, .chn), (3, .seq), (4, .seq), (5, .seq)] 30 b20 0 0 (.agg #[.string O.key, .int .u64 O.version, .I O.size, .int .u32 ((O.sum.toNat : Nat) : Int), .I O.group, .int .u64 O.epoch, .slice a15 O.nodes.length c16, .I k, .I n, .slice none 0 0, .slice none 0 0, .I 0, .I limit, .I 0]) (H.cells 0 rfl) ?_
       refine qL .qui 58 [(2, .chn), (3, .seq), (4, .seq), (5, .seq)] 30 b20 0 0 (.agg #[.string O.key, .int .u64 O.version, .I O.size, .int .u32 ((O.sum.toNat : Nat) : Int), .I O.group, .int .u64 O.epoch, .slice a15 O.nodes.length c16, .I k, .I n, .slice none 0 0, .slice none 0 0, .I 0, .I limit, .I 0]) (H.cells 0 rfl) ?_
       have H : Hp w S [] [(b20, .cells #[.string O.key, .int .u64 O.version, .I O.size, .int .u32 ((O.sum.toNat : Nat) : Int), .I O.group, .int .u64 O.epoch, .slice a15 O.nodes.length c16, .I k, .I n, .slice none 0 0, .slice none 0 0, .I 0, .I limit, .I 0] 30 (0, 0)), (b3, .cells (rdZ).toArray 30 (0, 0)), (b1, .cells (objV O a15 c16).toArray 26 (0, 0))] [] [Rp Li [.slice a15 O.nodes.length c16] O.nodes, Rp Li [.slice a6O O.nodes.length k6O] O.nodes] _ := H.freezeW 0 rfl
       refine qK .chn (some 59) [(3, .seq), (4, .seq), (5, .seq)] 16 #[.agg #[.string O.key, .int .u64 O.version, .I O.size, .int .u32 ((O.sum.toNat : Nat) : Int), .I O.group, .int .u64 O.epoch, .slice a15 O.nodes.length c16, .I k, .I n, .slice none 0 0, .slice none 0 0, .I 0, .I limit, .I 0], .func (.func 17) #[] #[]] (asks_spec (S := Av S w [] (idsOf [(b20, .cells #[.string O.key, .int .u64 O.version, .I O.size, .int .u32 ((O.sum.toNat : Nat) : Int), .I O.group, .int .u64 O.epoch, .slice a15 O.nodes.length c16, .I k, .I n, .slice none 0 0, .slice none 0 0, .I 0, .I limit, .I 0] 30 (0, 0)), (b3, .cells (rdZ).toArray 30 (0, 0)), (b1, .cells (objV O a15 c16).toArray 26 (0, 0))] [])) (r := ⟨O, k, n, [], [], 0, limit, 0⟩) (rd_mk (y0 := O) (obj_mk (y0 := O.key) (y1 := O.version) (y2 := O.size) (y3 := O.sum) (y4 := O.group) (y5 := O.epoch) (y6 := O.nodes) ⟨rfl, h0O⟩ u64a i64a Shape.bv_mk i64a u64a (H.rp 0 rfl)) i64a i64a Shape.slice_nil Shape.slice_nil (Shape.int_mk (by decide)) i64a (Shape.int_mk (by decide))) (by show O.nodes.length ≤ 1000000; omega)) ?_
       rintro _ w24 hE27 ⟨a25, c26, rfl, hr28⟩
       have H := H.addN hE27 (F := Rp (Shape.slice msgS) [.slice a25 ((asksR (⟨O, k, n, [], [], 0, limit, 0⟩)).length) c26] (asksR (⟨O, k, n, [], [], 0, limit, 0⟩))) hr28
       refine qW 30 b3 0 [(4, .seq), (5, .seq)] (.agg #[.string O.key, .int .u64 O.version, .I O.size, .int .u32 ((O.sum.toNat : Nat) : Int), .I O.group, .int .u64 O.epoch, .slice a15 O.nodes.length c16, .I k, .I n, .slice none 0 0, .slice none 0 0, .I 0, .I limit, .I 0]) [(b20, .cells #[.string O.key, .int .u64 O.version, .I O.size, .int .u32 ((O.sum.toNat : Nat) : Int), .I O.group, .int .u64 O.epoch, .slice a15 O.nodes.length c16, .I k, .I n, .slice none 0 0, .slice none 0 0, .I 0, .I limit, .I 0] 30 (0, 0)), (b3, .cells #[.string O.key, .int .u64 O.version, .I O.size, .int .u32 ((O.sum.toNat : Nat) : Int), .I O.group, .int .u64 O.epoch, .slice a15 O.nodes.length c16, .I k, .I n, .slice none 0 0, .slice none 0 0, .I 0, .I limit, .I 0] 30 (0, 0)), (b1, .cells (objV O a15 c16).toArray 26 (0, 0))] H 1 rfl rfl ?_
       intro w29 H
       refine qF 2 [(8, .P b3 0), (9, .slice a25 ((asksR (⟨O, k, n, [], [], 0, limit, 0⟩)).length) c26), (10, .I 0)] ?_
       refine qRB (.tuple #[.agg #[.string O.key, .int .u64 O.version, .I O.size, .int .u32 ((O.sum.toNat : Nat) : Int), .I O.group, .int .u64 O.epoch, .slice a15 O.nodes.length c16, .I k, .I n, .slice none 0 0, .slice none 0 0, .I 0, .I limit, .I 0], .slice a25 ((asksR (⟨O, k, n, [], [], 0, limit, 0⟩)).length) c26, .I 0]) Tryz.func5 (v3 (.cell 8 30) (.tmp 9) (.tmp 10) (vC (H.cells 1 rfl)) vT vT) ?_
       exact ⟨_, rfl, H.done, [.string O.key, .int .u64 O.version, .I O.size, .int .u32 ((O.sum.toNat : Nat) : Int), .I O.group, .int .u64 O.epoch, .slice a15 O.nodes.length c16, .I k, .I n, .slice none 0 0, .slice none 0 0, .I 0, .I limit, .I 0], _, _, rfl, H.out (rd_mk (y0 := O) (obj_mk (y0 := O.key) (y1 := O.version) (y2 := O.size) (y3 := O.sum) (y4 := O.group) (y5 := O.epoch) (y6 := O.nodes) ⟨rfl, h0O⟩ u64a i64a Shape.bv_mk i64a u64a (H.rp 1 rfl)) i64a i64a Shape.slice_nil Shape.slice_nil (Shape.int_mk (by decide)) i64a (Shape.int_mk (by decide))), H.out (H.rp 0 rfl)⟩
theorem fbegin_bad {S : Nat → Prop} {w : World} {O : ObjD} {os : List Value} (hO : objS.rep S w os O) (k n limit : Int) (hb : ¬ okB O k n limit) :
 Calls Tryz.prog 5 #[.agg os.toArray, .I k, .I n, .I limit] w (Ret fun v w' => Ext w w' ∧ v = .tuple #[.agg (rdZ).toArray, .slice none 0 0, .I 2]) := by
 obtain ⟨a6O, k6O, rfl, h0O, h1O, h2O, h4O, h5O, h6O⟩ := obj_open hO
 unfold okB at hb
 refine qS (fn := Tryz.f5) (n := 60) (σ := [(0, .agg (objV O a6O k6O).toArray), (1, .I k), (2, .I n), (3, .I limit)]) Tryz.func5 ?_
 have H := Hp.startF (w := w) (S := S) (G := [Rp Li [.slice a6O O.nodes.length k6O] O.nodes]) (.rp h6O .nil)
 refine qR 1 [.c [0], .c [1]] [(0, .agg (objV O a6O k6O).toArray), (1, .I k), (2, .I n), (3, .I limit)] ?_
 refine qG (sq 0 4) ?_
 refine qB .seq 4 (sq 1 4) ((objV O a6O k6O).toArray) 26 H ?_
 intro b1 w2 H
 refine qB .seq 8 (sq 2 4) ((rdZ).toArray) 30 H ?_
 intro b3 w4 H
 refine qF 2 [(1, .I k), (2, .I n), (3, .I limit), (4, .P b1 0), (8, .P b3 0)] ?_
 refine qR 2 [.c [1, 0, 0], .c [1, 0, 1], .c [2]] [(1, .I k), (2, .I n), (3, .I limit), (4, .P b1 0), (8, .P b3 0)] ?_
 refine qG (sq 0 9) ?_
 refine qP 1 (sq 1 9) [(1, .I k), (2, .I n), (3, .I limit), (4, .P b1 0), (8, .P b3 0), (15, .P b1 2)] ?_
 refine qL .seq 16 (sq 2 9) 3 b1 2 2 (.I O.size) (H.cells 1 rfl) ?_
 refine qP 1 (sq 3 9) [(1, .I k), (2, .I n), (3, .I limit), (4, .P b1 0), (8, .P b3 0), (16, .I O.size), (17, .I k)] ?_
 refine qK .seq (some 18) (sq 4 9) 14 #[.I O.size, .I k] (length_gen (S := fun _ => True) O.size k) ?_
 rintro _ w5 hE6 rfl
 have H := H.ext hE6
 refine qF 5 [(1, .I k), (2, .I n), (3, .I limit), (4, .P b1 0), (8, .P b3 0), (12, .I (elI O.size k))] ?_
 refine qR 1 [.c [1, 0, 1, 0], .c [1, 0, 2], .c [2]] [(1, .I k), (2, .I n), (3, .I limit), (4, .P b1 0), (8, .P b3 0), (12, .I (elI O.size k))] ?_
 refine qG (sq 0 26) ?_
 refine qP 3 (sq 3 26) [(1, .I k), (2, .I n), (3, .I limit), (4, .P b1 0), (8, .P b3 0), (23, .bool ((elI O.size k) != 0))] ?_
 refine tN (fun b_ => [(1, .I k), (2, .I n), (3, .I limit), (4, .P b1 0), (8, .P b3 0), (23, .bool b_)]) (elI O.size k) 0 (fun h7 => ?_) (fun h7 => ?_)
 ·
  refine qF 23 [(1, .I k), (2, .I n), (3, .I limit), (4, .P b1 0), (8, .P b3 0), (46, .bool true)] ?_
  refine qR 2 [.c [1, 0, 2, 0, 0], .c [1, 0, 2, 0, 1], .c [2]] [(8, .P b3 0)] ?_
  refine qG (sq 0 4) ?_
  refine qP 1 (sq 1 4) [(8, .P b3 0), (47, .agg (rdZ).toArray)] ?_
  refine qW 30 b3 0 (sq 2 4) (.agg (rdZ).toArray) [(b3, .cells (rdZ).toArray 30 (0, 0)), (b1, .cells (objV O a6O k6O).toArray 26 (0, 0))] H 0 rfl rfl ?_
  intro w8 H
  refine qF 2 [(8, .P b3 0), (9, .slice none 0 0), (10, .I 2)] ?_
  refine qRB (.tuple #[.agg (rdZ).toArray, .slice none 0 0, .I 2]) Tryz.func5 (v3 (.cell 8 30) (.tmp 9) (.tmp 10) (vC (H.cells 0 rfl)) vT vT) ?_
  exact ⟨_, rfl, H.done, rfl⟩
 ·
  refine qP 5 (sq 8 26) [(1, .I k), (2, .I n), (3, .I limit), (4, .P b1 0), (8, .P b3 0), (28, .bool (decide ((n : Int) < k)))] ?_
  refine tD (fun b_ => [(1, .I k), (2, .I n), (3, .I limit), (4, .P b1 0), (8, .P b3 0), (28, .bool b_)]) ((n : Int) < k) (fun h9 => ?_) (fun h9 => ?_)
  ·
   refine qF 18 [(1, .I k), (2, .I n), (3, .I limit), (4, .P b1 0), (8, .P b3 0), (46, .bool true)] ?_
   refine qR 2 [.c [1, 0, 2, 0, 0], .c [1, 0, 2, 0, 1], .c [2]] [(8, .P b3 0)] ?_
   refine qG (sq 0 4) ?_
   refine qP 1 (sq 1 4) [(8, .P b3 0), (47, .agg (rdZ).toArray)] ?_
   refine qW 30 b3 0 (sq 2 4) (.agg (rdZ).toArray) [(b3, .cells (rdZ).toArray 30 (0, 0)), (b1, .cells (objV O a6O k6O).toArray 26 (0, 0))] H 0 rfl rfl ?_
   intro w10 H
   refine qF 2 [(8, .P b3 0), (9, .slice none 0 0), (10, .I 2)] ?_
   refine qRB (.tuple #[.agg (rdZ).toArray, .slice none 0 0, .I 2]) Tryz.func5 (v3 (.cell 8 30) (.tmp 9) (.tmp 10) (vC (H.cells 0 rfl)) vT vT) ?_
   exact ⟨_, rfl, H.done, rfl⟩
  ·
   refine qP 4 (sq 12 26) [(1, .I k), (2, .I n), (3, .I limit), (4, .P b1 0), (8, .P b3 0), (32, .bool (decide ((n : Int) > 255)))] ?_
   refine tD (fun b_ => [(1, .I k), (2, .I n), (3, .I limit), (4, .P b1 0), (8, .P b3 0), (32, .bool b_)]) ((n : Int) > 255) (fun h11 => ?_) (fun h11 => ?_)
   ·
    refine qF 14 [(1, .I k), (2, .I n), (3, .I limit), (4, .P b1 0), (8, .P b3 0), (46, .bool true)] ?_
    refine qR 2 [.c [1, 0, 2, 0, 0], .c [1, 0, 2, 0, 1], .c [2]] [(8, .P b3 0)] ?_
    refine qG (sq 0 4) ?_
    refine qP 1 (sq 1 4) [(8, .P b3 0), (47, .agg (rdZ).toArray)] ?_
    refine qW 30 b3 0 (sq 2 4) (.agg (rdZ).toArray) [(b3, .cells (rdZ).toArray 30 (0, 0)), (b1, .cells (objV O a6O k6O).toArray 26 (0, 0))] H 0 rfl rfl ?_
    intro w12 H
    refine qF 2 [(8, .P b3 0), (9, .slice none 0 0), (10, .I 2)] ?_
    refine qRB (.tuple #[.agg (rdZ).toArray, .slice none 0 0, .I 2]) Tryz.func5 (v3 (.cell 8 30) (.tmp 9) (.tmp 10) (vC (H.cells 0 rfl)) vT vT) ?_
    exact ⟨_, rfl, H.done, rfl⟩
   ·
    refine qP 1 (sq 13 26) [(1, .I k), (2, .I n), (3, .I limit), (4, .P b1 0), (8, .P b3 0), (32, .bool false), (33, .P b1 6)] ?_
    refine qL .seq 34 (sq 14 26) 24 b1 6 6 (.slice a6O O.nodes.length k6O) (H.cells 1 rfl) ?_
    refine qP 5 (sq 19 26) [(1, .I k), (2, .I n), (3, .I limit), (4, .P b1 0), (8, .P b3 0), (39, .bool (((O.nodes.length : Nat) : Int) != n))] ?_
    refine tN (fun b_ => [(1, .I k), (2, .I n), (3, .I limit), (4, .P b1 0), (8, .P b3 0), (39, .bool b_)]) ((O.nodes.length : Nat) : Int) n (fun h13 => ?_) (fun h13 => ?_)
    ·
     refine qF 7 [(1, .I k), (2, .I n), (3, .I limit), (4, .P b1 0), (8, .P b3 0), (46, .bool true)] ?_
     refine qR 2 [.c [1, 0, 2, 0, 0], .c [1, 0, 2, 0, 1], .c [2]] [(8, .P b3 0)] ?_
     refine qG (sq 0 4) ?_
     refine qP 1 (sq 1 4) [(8, .P b3 0), (47, .agg (rdZ).toArray)] ?_
     refine qW 30 b3 0 (sq 2 4) (.agg (rdZ).toArray) [(b3, .cells (rdZ).toArray 30 (0, 0)), (b1, .cells (objV O a6O k6O).toArray 26 (0, 0))] H 0 rfl rfl ?_
     intro w14 H
     refine qF 2 [(8, .P b3 0), (9, .slice none 0 0), (10, .I 2)] ?_
     refine qRB (.tuple #[.agg (rdZ).toArray, .slice none 0 0, .I 2]) Tryz.func5 (v3 (.cell 8 30) (.tmp 9) (.tmp 10) (vC (H.cells 0 rfl)) vT vT) ?_
     exact ⟨_, rfl, H.done, rfl⟩
    ·
     refine qP 4 (sq 23 26) [(1, .I k), (2, .I n), (3, .I limit), (4, .P b1 0), (8, .P b3 0), (43, .bool (decide ((limit : Int) < 1)))] ?_
     refine tD (fun b_ => [(1, .I k), (2, .I n), (3, .I limit), (4, .P b1 0), (8, .P b3 0), (43, .bool b_)]) ((limit : Int) < 1) (fun h15 => ?_) (fun h15 => ?_)
     ·
      refine qF 3 [(1, .I k), (2, .I n), (3, .I limit), (4, .P b1 0), (8, .P b3 0), (46, .bool true)] ?_
      refine qR 2 [.c [1, 0, 2, 0, 0], .c [1, 0, 2, 0, 1], .c [2]] [(8, .P b3 0)] ?_
      refine qG (sq 0 4) ?_
      refine qP 1 (sq 1 4) [(8, .P b3 0), (47, .agg (rdZ).toArray)] ?_
      refine qW 30 b3 0 (sq 2 4) (.agg (rdZ).toArray) [(b3, .cells (rdZ).toArray 30 (0, 0)), (b1, .cells (objV O a6O k6O).toArray 26 (0, 0))] H 0 rfl rfl ?_
      intro w16 H
      refine qF 2 [(8, .P b3 0), (9, .slice none 0 0), (10, .I 2)] ?_
      refine qRB (.tuple #[.agg (rdZ).toArray, .slice none 0 0, .I 2]) Tryz.func5 (v3 (.cell 8 30) (.tmp 9) (.tmp 10) (vC (H.cells 0 rfl)) vT vT) ?_
      exact ⟨_, rfl, H.done, rfl⟩
     ·
      refine qF 3 [(1, .I k), (2, .I n), (3, .I limit), (4, .P b1 0), (8, .P b3 0), (46, .bool (decide ((limit : Int) > 100000)))] ?_
      refine qD ((limit : Int) > 100000) (fun h17 => ?_) (fun h17 => ?_)
      ·
       refine qR 1 [.c [1, 0, 2, 0, 0], .c [1, 0, 2, 0, 1], .c [2]] [(8, .P b3 0)] ?_
       refine qG (sq 0 4) ?_
       refine qP 1 (sq 1 4) [(8, .P b3 0), (47, .agg (rdZ).toArray)] ?_
       refine qW 30 b3 0 (sq 2 4) (.agg (rdZ).toArray) [(b3, .cells (rdZ).toArray 30 (0, 0)), (b1, .cells (objV O a6O k6O).toArray 26 (0, 0))] H 0 rfl rfl ?_
       intro w18 H
       refine qF 2 [(8, .P b3 0), (9, .slice none 0 0), (10, .I 2)] ?_
       refine qRB (.tuple #[.agg (rdZ).toArray, .slice none 0 0, .I 2]) Tryz.func5 (v3 (.cell 8 30) (.tmp 9) (.tmp 10) (vC (H.cells 0 rfl)) vT vT) ?_
       exact ⟨_, rfl, H.done, rfl⟩
      ·
       exact absurd (by omega) hb
structure RdOf (xs : List (BitVec 8)) (k n : Nat) (r : Rd) : Prop where
 kk : r.kk = (k : Int)
 nn : r.nn = (n : Int)
 size : r.object.size = (xs.length : Int)
 sum : r.object.sum = crcF xs
 nodes : r.object.nodes.length = n
 of : Of xs k n r.pieces
 hk : 1 ≤ k
 hkn : k ≤ n
 hn : n ≤ 255
 hs : xs.length ≤ 65536
def leftTo (bad : List Int) (n : Nat) : Nat := ((List.range n).filter fun j : Nat => decide (¬ (j : Int) ∈ bad)).length
theorem leftTo_yes {bad : List Int} {i : Nat} (h : ¬ (i : Int) ∈ bad) : leftTo bad i + 1 = leftTo bad (i + 1) := by
 unfold leftTo
 rw [List.range_succ, List.filter_append]
 simp [List.filter_cons, h]
theorem leftTo_no {bad : List Int} {i : Nat} (h : (i : Int) ∈ bad) : leftTo bad i = leftTo bad (i + 1) := by
 unfold leftTo
 rw [List.range_succ, List.filter_append]
 simp [List.filter_cons, h]
theorem leftTo_le (bad : List Int) (i : Nat) : leftTo bad i ≤ i := by
 have := List.length_filter_le (fun j : Nat => decide (¬ (j : Int) ∈ bad)) (List.range i)
 rwa [List.length_range] at this
def judgeR (r : Rd) : Int := if r.kk ≤ (r.pieces.length : Int) then 1 else if ((leftTo r.bad r.nn.toNat : Nat) : Int) < r.kk then 2 else 0
theorem bytes_ok {S : Nat → Prop} {w : World} {r : Rd} {cs : List Value} (hr : rdS.rep S w cs r) {xs : List (BitVec 8)} {k n : Nat} (hR : RdOf xs k n r) (hlen : k ≤ r.pieces.length) :
 Calls Tryz.prog 26 #[.agg cs.toArray] w (Ret fun v w' => Ext w w' ∧ ∃ (a : Option Addr) (c : Nat), v = .tuple #[.slice a xs.length c, .I 0] ∧ SB.rep (Nw S w) w' [.slice a xs.length c] xs) := by
 obtain ⟨cs0r, a3r, k3r, a4r, k4r, rfl, h0r, h1r, h2r, h3r, h4r, h5r, h6r, h7r⟩ := rd_open hr
 obtain ⟨a6rO, k6rO, rfl, h0rO, h1rO, h2rO, h4rO, h5rO, h6rO⟩ := obj_open h0r
 have hsz := hR.hs
 refine qS (fn := Tryz.f26) (n := 31) (σ := [(0, .agg (rdV r a6rO k6rO a3r k3r a4r k4r).toArray)]) Tryz.func26 ?_
 have H := Hp.startF (w := w) (S := S) (G := [Rp Li [.slice a6rO r.object.nodes.length k6rO] r.object.nodes, Rp (Shape.slice pcS) [.slice a3r r.pieces.length k3r] r.pieces, Rp Li [.slice a4r r.bad.length k4r] r.bad]) (.rp h6rO (.rp h3r (.rp h4r .nil)))
 refine qR 1 [.c [0], .c [1]] [(0, .agg (rdV r a6rO k6rO a3r k3r a4r k4r).toArray)] ?_
 refine qG (sq 0 3) ?_
 refine qB .seq 1 (sq 1 3) ((rdV r a6rO k6rO a3r k3r a4r k4r).toArray) 30 H ?_
 intro b1 w2 H
 refine qF 2 [(1, .P b1 0)] ?_
 refine qR 1 [.c [1, 0], .c [2]] [(1, .P b1 0)] ?_
 refine qG (sq 0 15) ?_
 refine qP 1 (sq 1 15) [(1, .P b1 0), (7, .P b1 9)] ?_
 refine qL .seq 8 (sq 2 15) 27 b1 9 9 (.slice a3r r.pieces.length k3r) (H.cells 0 rfl) ?_
 refine qP 2 (sq 4 15) [(1, .P b1 0), (8, .slice a3r r.pieces.length k3r), (10, .P b1 2)] ?_
 refine qL .seq 11 (sq 5 15) 3 b1 2 2 (.I r.object.size) (H.cells 0 rfl) ?_
 refine qP 1 (sq 6 15) [(1, .P b1 0), (8, .slice a3r r.pieces.length k3r), (11, .I r.object.size), (12, .P b1 7)] ?_
 refine qL .seq 13 (sq 7 15) 3 b1 7 7 (.I r.kk) (H.cells 0 rfl) ?_
 refine qP 1 (sq 8 15) [(1, .P b1 0), (8, .slice a3r r.pieces.length k3r), (11, .I r.object.size), (13, .I r.kk), (14, .P b1 8)] ?_
 refine qL .seq 15 (sq 9 15) 3 b1 8 8 (.I r.nn) (H.cells 0 rfl) ?_
 rw [hR.size, hR.kk, hR.nn]
 have hlk4 : k ≤ (r.pieces).length := by omega
 refine qK .seq (some 16) (sq 10 15) 50 #[.slice a3r r.pieces.length k3r, .I ((xs.length : Nat) : Int), .I k, .I n] (decode_ok (S := Av S w [] (idsOf [(b1, .cells (rdV r a6rO k6rO a3r k3r a4r k4r).toArray 30 (0, 0))] [])) (ps := r.pieces) (H.rp 1 rfl) (size := xs.length) (k := k) (n := n) (by omega) hR.hk hR.hkn hR.hn (hR.of.ok hR.hk hR.hkn) hlk4 (any_reg hlk4 hR.hkn hR.hn (hR.of.ok hR.hk hR.hkn))) ?_
 rintro _ w3 hE7 ⟨a5, c6, ys9, rfl, hys10, hord11, hr8⟩
 rw [objL_of (hR.of.perm hys10) hR.hk (by rw [hys10.length_eq]; exact hlk4) hR.hkn hR.hn] at hr8 ⊢
 have H := H.addN hE7 (F := Rp SB [.slice a5 xs.length c6] xs) hr8
 refine qF 5 [(1, .P b1 0), (4, .slice a5 xs.length c6), (5, .I 0)] ?_
 refine qR 2 [.c [2, 0, 0], .c [2, 0, 1], .c [3]] [(1, .P b1 0), (4, .slice a5 xs.length c6), (5, .I 0)] ?_
 refine WK.draw1 10 [(0, .qui), (1, .qui), (2, .qui), (3, .qui), (5, .qui), (6, .qui), (7, .qui), (4, .chn), (8, .qui), (9, .qui)] [(0, .qui), (1, .qui), (2, .qui), (3, .qui), (5, .qui), (6, .qui), (7, .qui), (4, .chn), (8, .qui), (9, .qui)] Try_mixed (by as_aux_lemma => kernel_rfl) (by as_aux_lemma => kernel_rfl) (by as_aux_lemma => kernel_rfl) ?_
 have H := H.draw
 generalize ({ w3 with drawn := w3.drawn + 1 } : World) = w12 at H ⊢
 refine qP 6 [(7, .qui), (4, .chn), (8, .qui), (9, .qui)] [(4, .slice a5 xs.length c6), (5, .I 0), (21, .bool true), (22, .slice a5 xs.length c6), (25, .P b1 3)] ?_
 refine qL .qui 26 [(4, .chn), (8, .qui), (9, .qui)] 23 b1 3 3 (.int .u32 ((r.object.sum.toNat : Nat) : Int)) (H.cells 0 rfl) ?_
 refine qK .chn (some 23) (qs [8, 9]) 43 #[.slice a5 xs.length c6] (crc_spec (H.rp 0 rfl)) ?_
 rintro _ w13 hE14 rfl
 have H := H.ext hE14
 refine qF 2 [(4, .slice a5 xs.length c6), (5, .I 0), (28, .bool ((((crcF xs).toNat : Nat) : Int) != ((r.object.sum.toNat : Nat) : Int)))] ?_
 refine qN (((crcF xs).toNat : Nat) : Int) ((r.object.sum.toNat : Nat) : Int) (fun h15 => ?_) (fun h15 => ?_)
 ·
  exact absurd (by rw [hR.sum]) h15
 ·
  refine qR 3 [.c [4]] [(2, .slice a5 xs.length c6), (3, .I 0)] ?_
  refine qT (.tuple #[.slice a5 xs.length c6, .I 0]) Tryz.func26 ?_
  exact ⟨_, rfl, H.done, _, _, rfl, H.out (H.rp 0 rfl)⟩
theorem judge_spec {S : Nat → Prop} {w : World} {r : Rd} {cs : List Value} (hr : rdS.rep S w cs r) {xs : List (BitVec 8)} {k n : Nat} (hR : RdOf xs k n r) :
 Calls Tryz.prog 49 #[.agg cs.toArray] w (Ret fun v w' => Ext w w' ∧ v = .I (judgeR r)) := by
 obtain ⟨cs0r, a3r, k3r, a4r, k4r, rfl, h0r, h1r, h2r, h3r, h4r, h5r, h6r, h7r⟩ := rd_open hr
 obtain ⟨a6rO, k6rO, rfl, h0rO, h1rO, h2rO, h4rO, h5rO, h6rO⟩ := obj_open h0r
 have hkk := hR.kk
 have hnn := hR.nn
 have hn9 := hR.hn
 refine qS (fn := Tryz.f49) (n := 37) (σ := [(0, .agg (rdV r a6rO k6rO a3r k3r a4r k4r).toArray)]) Tryz.func49 ?_
 have H := Hp.startF (w := w) (S := S) (G := [Rp Li [.slice a6rO r.object.nodes.length k6rO] r.object.nodes, Rp (Shape.slice pcS) [.slice a3r r.pieces.length k3r] r.pieces, Rp Li [.slice a4r r.bad.length k4r] r.bad]) (.rp h6rO (.rp h3r (.rp h4r .nil)))
 refine qR 1 [.c [0], .c [1]] [(0, .agg (rdV r a6rO k6rO a3r k3r a4r k4r).toArray)] ?_
 refine qG (sq 0 2) ?_
 refine qB .seq 1 (sq 1 2) ((rdV r a6rO k6rO a3r k3r a4r k4r).toArray) 30 H ?_
 intro b1 w2 H
 refine qF 1 [(1, .P b1 0)] ?_
 refine qR 2 [.c [1, 0, 0], .c [1, 0, 1], .c [2]] [(1, .P b1 0)] ?_
 refine qG (sq 0 6) ?_
 refine qP 1 (sq 1 6) [(1, .P b1 0), (7, .P b1 9)] ?_
 refine qL .seq 8 (sq 2 6) 27 b1 9 9 (.slice a3r r.pieces.length k3r) (H.cells 0 rfl) ?_
 refine qP 2 (sq 4 6) [(1, .P b1 0), (9, .I ((r.pieces.length : Nat) : Int)), (10, .P b1 7)] ?_
 refine qL .seq 11 (sq 5 6) 3 b1 7 7 (.I r.kk) (H.cells 0 rfl) ?_
 refine qF 1 [(1, .P b1 0), (12, .bool (decide ((((r.pieces.length : Nat) : Int) : Int) ≥ r.kk)))] ?_
 refine qD ((((r.pieces.length : Nat) : Int) : Int) ≥ r.kk) (fun h3 => ?_) (fun h3 => ?_)
 ·
  refine qR 2 [.c [1, 0, 1, 0, 0, 0], .c [1, 0, 1, 0, 0, 1], .c [1, 0, 1, 0, 1], .c [2]] [(1, .P b1 0)] ?_
  refine qG (sq 0 7) ?_
  refine qL .seq 14 (sq 1 7) 30 b1 0 0 (.agg (rdV r a6rO k6rO a3r k3r a4r k4r).toArray) (H.cells 0 rfl) ?_
  refine qK .seq (some 15) (sq 2 7) 26 #[.agg (rdV r a6rO k6rO a3r k3r a4r k4r).toArray] (bytes_ok (r := r) (rd_mkB (by unfold rdB; omega) (H.rp 0 rfl) (H.rp 1 rfl) (H.rp 2 rfl)) (hR) (by omega)) ?_
  rintro _ w4 hE7 ⟨a5, c6, rfl, hr8⟩
  have H := H.addN hE7 (F := Rp SB [.slice a5 xs.length c6] xs) hr8
  refine qF 5 [(4, .I 0)] ?_
  refine qR 5 [.c [1, 0, 1, 0, 0, 2, 0, 1], .c [1, 0, 1, 0, 1], .c [2]] [(2, .I 1)] ?_
  refine qT (.I 1) Tryz.func49 ?_
  refine ⟨_, rfl, H.done, ?_⟩
  congr 1
  symm
  unfold judgeR
  clear H
  rw [if_pos (by omega)]
 ·
  refine qR 5 [.c [3, 0, 0], .c [3, 0, 1], .c [4]] [(1, .P b1 0), (5, .I 0)] ?_
  refine qG (sq 0 3) ?_
  refine qP 1 (sq 1 3) [(1, .P b1 0), (5, .I 0), (20, .P b1 8)] ?_
  refine qL .seq 21 (sq 2 3) 3 b1 8 8 (.I r.nn) (H.cells 0 rfl) ?_
  refine qF 1 [(1, .P b1 0), (5, .I 0), (21, .I r.nn), (22, .I 0)] ?_
  refine qR 1 [.c [3, 0, 1, 0], .b 0, .c [4]] [(1, .P b1 0), (5, .I 0), (21, .I r.nn), (22, .I 0)] ?_
  refine WK.loop (α := Nat) (b := cd Tryz.prog 49 [3, 0, 1, 0, 0]) (by as_aux_lemma => kernel_rfl) (fun i => [(1, .P b1 0), (5, .I ((leftTo r.bad i : Nat) : Int)), (21, .I r.nn), (22, .I i)]) (fun i w' => Hp w S [] [(b1, .cells (rdV r a6rO k6rO a3r k3r a4r k4r).toArray 30 (0, 0))] [] [Rp Li [.slice a6rO r.object.nodes.length k6rO] r.object.nodes, Rp (Shape.slice pcS) [.slice a3r r.pieces.length k3r] r.pieces, Rp Li [.slice a4r r.bad.length k4r] r.bad] w' ∧ i ≤ n) (fun i => n - i) 0 ⟨H, Nat.zero_le _⟩ (by rfl) ?_
  rintro i w10 ⟨H, hinv0⟩ hback9
  have hll := leftTo_le r.bad i
  refine qR 3 [.c [3, 0, 1, 0, 0, 1, 0], .c [3, 0, 1, 0, 0, 2], .l [3, 0, 1, 0, 0], .b 0, .c [4]] [(1, .P b1 0), (5, .I ((leftTo r.bad i : Nat) : Int)), (21, .I r.nn), (22, .I i), (23, .bool (decide (((i : Int) : Int) < r.nn)))] ?_
  refine qD (((i : Int) : Int) < r.nn) (fun h11 => ?_) (fun h11 => ?_)
  ·
   refine qR 6 [.c [3, 0, 1, 0, 0, 2, 0, 0, 1, 0], .c [3, 0, 1, 0, 0, 2, 0, 0, 2], .b 1, .c [3, 0, 1, 0, 0, 3], .l [3, 0, 1, 0, 0], .b 0, .c [4]] [(1, .P b1 0), (5, .I ((leftTo r.bad i : Nat) : Int)), (6, .I i), (21, .I r.nn), (22, .I i)] ?_
   refine qG (sq 0 5) ?_
   refine qP 1 (sq 1 5) [(1, .P b1 0), (5, .I ((leftTo r.bad i : Nat) : Int)), (6, .I i), (21, .I r.nn), (22, .I i), (25, .P b1 10)] ?_
   refine qL .seq 26 (sq 2 5) 24 b1 10 10 (.slice a4r r.bad.length k4r) (H.cells 0 rfl) ?_
   refine qP 1 (sq 3 5) [(1, .P b1 0), (5, .I ((leftTo r.bad i : Nat) : Int)), (21, .I r.nn), (22, .I i), (26, .slice a4r r.bad.length k4r), (27, .I i)] ?_
   refine qK .seq (some 28) (sq 4 5) 32 #[.slice a4r r.bad.length k4r, .I i] (contains_spec (i : Int) (H.rp 2 rfl)) ?_
   rintro _ w12 hE13 rfl
   have H := H.ext hE13
   refine qF 1 [(1, .P b1 0), (5, .I ((leftTo r.bad i : Nat) : Int)), (21, .I r.nn), (22, .I i), (29, .bool (!(decide ((i : Int) ∈ r.bad))))] ?_
   refine qC (!(decide ((i : Int) ∈ r.bad))) (fun h14 => ?_) (fun h14 => ?_)
   ·
    replace h14 : (decide ((i : Int) ∈ r.bad)) = false := by revert h14; cases (decide ((i : Int) ∈ r.bad)) <;> simp
    replace h14 := of_decide_eq_false h14
    refine qG (sq 0 3) ?_
    refine qP 1 (sq 1 3) [(1, .P b1 0), (5, .I ((leftTo r.bad i : Nat) : Int)), (21, .I r.nn), (22, .I i), (30, .I ((leftTo r.bad i : Nat) : Int))] ?_
    refine qI .seq 31 (sq 2 3) (((leftTo r.bad i : Nat) : Int) + 1) ?_
    refine qF 1 [(1, .P b1 0), (5, .I (((leftTo r.bad i : Nat) : Int) + 1)), (21, .I r.nn), (22, .I i)] ?_
    refine qR 1 [.c [3, 0, 1, 0, 0, 3], .l [3, 0, 1, 0, 0], .b 0, .c [4]] [(1, .P b1 0), (5, .I (((leftTo r.bad i : Nat) : Int) + 1)), (21, .I r.nn), (22, .I i)] ?_
    refine qG (sq 0 2) ?_
    refine qI .seq 32 (sq 1 2) ((i : Int) + 1) ?_
    refine qF 1 [(1, .P b1 0), (5, .I (((leftTo r.bad i : Nat) : Int) + 1)), (21, .I r.nn), (22, .I ((i : Int) + 1))] ?_
    exact WK.back (hback9 (i + 1) _ ⟨H, by omega⟩ (by first | omega | (simp only []; omega))) (by first | (rw [← leftTo_yes (by assumption)]; rfl) | (rw [← leftTo_no (by assumption)]; rfl))
   ·
    replace h14 : (decide ((i : Int) ∈ r.bad)) = true := by revert h14; cases (decide ((i : Int) ∈ r.bad)) <;> simp
    replace h14 := of_decide_eq_true h14
    refine qR 2 [.c [3, 0, 1, 0, 0, 3], .l [3, 0, 1, 0, 0], .b 0, .c [4]] [(1, .P b1 0), (5, .I ((leftTo r.bad i : Nat) : Int)), (21, .I r.nn), (22, .I i)] ?_
    refine qG (sq 0 2) ?_
    refine qI .seq 32 (sq 1 2) ((i : Int) + 1) ?_
    refine qF 1 [(1, .P b1 0), (5, .I ((leftTo r.bad i : Nat) : Int)), (21, .I r.nn), (22, .I ((i : Int) + 1))] ?_
    exact WK.back (hback9 (i + 1) _ ⟨H, by omega⟩ (by first | omega | (simp only []; omega))) (by first | (rw [← leftTo_yes (by assumption)]; rfl) | (rw [← leftTo_no (by assumption)]; rfl))
  ·
   refine qR 3 [.c [4, 0, 0], .c [4, 0, 1], .c [5]] [(1, .P b1 0), (5, .I ((leftTo r.bad i : Nat) : Int))] ?_
   refine qG (sq 0 4) ?_
   refine qP 2 (sq 2 4) [(33, .I ((leftTo r.bad i : Nat) : Int)), (34, .P b1 7)] ?_
   refine qL .seq 35 (sq 3 4) 3 b1 7 7 (.I r.kk) (H.cells 0 rfl) ?_
   refine qF 1 [(36, .bool (decide ((((leftTo r.bad i : Nat) : Int) : Int) < r.kk)))] ?_
   refine qD ((((leftTo r.bad i : Nat) : Int) : Int) < r.kk) (fun h15 => ?_) (fun h15 => ?_)
   ·
    refine qR 2 [.c [4, 0, 1, 0, 1], .c [5]] [(2, .I 2)] ?_
    refine qT (.I 2) Tryz.func49 ?_
    refine ⟨_, rfl, H.done, ?_⟩
    congr 1
    symm
    unfold judgeR
    clear H
    have hie : i = n := by omega
    have hnt : r.nn.toNat = n := by omega
    rw [hnt, ← hie]
    rw [if_neg (by omega), if_pos (by omega)]
   ·
    refine qR 3 [.c [6]] [(2, .I 0)] ?_
    refine qT (.I 0) Tryz.func49 ?_
    refine ⟨_, rfl, H.done, ?_⟩
    congr 1
    symm
    unfold judgeR
    clear H
    have hie : i = n := by omega
    have hnt : r.nn.toNat = n := by omega
    rw [hnt, ← hie]
    rw [if_neg (by omega), if_neg (by omega)]
theorem judgeR_bd (r : Rd) : 0 ≤ judgeR r ∧ judgeR r ≤ 2 := by
 unfold judgeR
 split
 · omega
 · split <;> omega
end Go.Proofs.YtppcdmbkgficiaaGreat
