import Derived.Test.YtekgjnblidjloaaH2
namespace Go.Proofs.Ytekgjnblidjloaa
open Go.BX

structure Act where
 kind : Int
 name : ByteArray
 to : ByteArray
 sector : Int
 data : List (BitVec 8)

def actS : Shape Act := (Shape.pair (Shape.int .i64) (Shape.pair Shape.str (Shape.pair Shape.str (Shape.pair (Shape.int .i64) SB)))).map fun x => (x.kind, x.name, x.to, x.sector, x.data)
theorem act_open {S : Nat → Prop} {w : World} {cs : List Value} {x : Act} (h : actS.rep S w cs x) : ∃ a4 : Option Addr, ∃ k4 : Nat, cs = [.I x.kind, .string x.name, .string x.to, .I x.sector, .slice a4 x.data.length k4] ∧ ((-9223372036854775808) ≤ x.kind ∧ x.kind ≤ 9223372036854775807) ∧ x.name.size ≤ maxLen ∧ x.to.size ≤ maxLen ∧ ((-9223372036854775808) ≤ x.sector ∧ x.sector ≤ 9223372036854775807) ∧ SB.rep S w [.slice a4 x.data.length k4] x.data := by
 obtain ⟨c0, d0, rfl, h0, h⟩ := h
 obtain ⟨c1, d1, rfl, h1, h⟩ := h
 obtain ⟨c2, d2, rfl, h2, h⟩ := h
 obtain ⟨c3, d3, rfl, h3, h⟩ := h
 have h4 := h
 obtain ⟨e0, b0⟩ := h0
 obtain ⟨e1, b1⟩ := h1
 obtain ⟨e2, b2⟩ := h2
 obtain ⟨e3, b3⟩ := h3
 obtain ⟨a4, k4, e4⟩ := Shape.slice_form' h4
 exact ⟨a4, k4, (by simp [e0, e1, e2, e3, e4]), b0, b1, b2, b3, (e4 ▸ h4)⟩
theorem act_mk {S : Nat → Prop} {w : World} {y0 : Int} {l0 : List Value} (h0 : (Shape.int .i64).rep S w l0 y0) {y1 : ByteArray} {l1 : List Value} (h1 : (Shape.str).rep S w l1 y1) {y2 : ByteArray} {l2 : List Value} (h2 : (Shape.str).rep S w l2 y2) {y3 : Int} {l3 : List Value} (h3 : (Shape.int .i64).rep S w l3 y3) {y4 : List (BitVec 8)} {l4 : List Value} (h4 : SB.rep S w l4 y4) : actS.rep S w (l0 ++ (l1 ++ (l2 ++ (l3 ++ (l4))))) ⟨y0, y1, y2, y3, y4⟩ := ⟨_, _, rfl, h0, ⟨_, _, rfl, h1, ⟨_, _, rfl, h2, ⟨_, _, rfl, h3, h4⟩⟩⟩⟩
theorem nobody_spec {S : Nat → Prop} {w : World} {x : Act} {cs : List Value} (hx : actS.rep S w cs x) :
 Calls Try.prog 6 #[.agg cs.toArray] w (Ret fun v w' => Ext w w' ∧ v = .bool true) := by
 obtain ⟨a4x, k4x, rfl, h0x, h1x, h2x, h3x, h4x⟩ := act_open hx
 refine qS (fn := Try.f6) (n := 108) (σ := [(0, .agg #[.I x.kind, .string x.name, .string x.to, .I x.sector, .slice a4x x.data.length k4x])]) Try.func6 ?_
 have H := Hp.startF (w := w) (S := S) (G := [Rp SB [.slice a4x x.data.length k4x] x.data]) (.rp h4x .nil)
 refine qR 1 [.c [0], .c [1]] [(0, .agg #[.I x.kind, .string x.name, .string x.to, .I x.sector, .slice a4x x.data.length k4x])] ?_
 refine qG (sq 0 2) ?_
 refine qB .seq 1 (sq 1 2) #[.I x.kind, .string x.name, .string x.to, .I x.sector, .slice a4x x.data.length k4x] 40 H ?_
 intro b1 w2 H
 refine qF 1 [(1, .P b1 0)] ?_
 refine qR 3 [.c [2, 0], .c [3]] [(1, .P b1 0), (3, .pointer none)] ?_
 refine qG (sq 0 3) ?_
 refine qP 1 (sq 1 3) [(1, .P b1 0), (3, .pointer none), (12, .agg #[.bool false, .map none, .map none, .slice none 0 0, .bool false, .I 0, .bool false])] ?_
 refine qB .seq 13 (sq 2 3) #[.bool false, .map none, .map none, .slice none 0 0, .bool false, .I 0, .bool false] 51 H ?_
 intro b3 w4 H
 refine qF 1 [(1, .P b1 0), (3, .pointer none), (4, .P b3 0)] ?_
 refine qR 1 [.c [3, 0], .c [4]] [(1, .P b1 0), (3, .pointer none), (4, .P b3 0)] ?_
 refine qG (sq 0 4) ?_
 refine qP 2 (sq 2 4) [(1, .P b1 0), (14, .pointer none), (15, .P b3 0)] ?_
 refine RW.new (κ := .seq) (d := some 16) (r := (sq 3 4)) (o := .cells #[.pointer none, .P b3 0] 25 (0, 0)) (v := fun b => .slice (some ⟨b, 0, none⟩) 2 2) (fun b => by as_aux_lemma => kernel_rfl) (nofun) H ?_
 intro b5 w6 H
 refine qF 1 [(1, .P b1 0), (5, .slice (some ⟨b5, 0, none⟩) 2 2)] ?_
 refine qR 4 [.c [4, 0, 1, 0], .b 0, .c [5]] [(1, .P b1 0), (5, .slice (some ⟨b5, 0, none⟩) 2 2), (6, .I 0)] ?_
 refine WK.loop (α := Nat) (b := cd Try.prog 6 [4, 0, 1, 0, 0]) (by as_aux_lemma => kernel_rfl) (fun k => [(1, .P b1 0), (5, .slice (some ⟨b5, 0, none⟩) 2 2), (6, .I k)]) (fun k w' => Hp w S [] [(b5, .cells #[.pointer none, .P b3 0] 25 (0, 0)), (b3, .cells #[.bool false, .map none, .map none, .slice none 0 0, .bool false, .I 0, .bool false] 51 (0, 0)), (b1, .cells #[.I x.kind, .string x.name, .string x.to, .I x.sector, .slice a4x x.data.length k4x] 40 (0, 0))] [] [Rp SB [.slice a4x x.data.length k4x] x.data] w' ∧ k ≤ 2) (fun k => 2 - k) 0 ⟨H, by omega⟩ (rfl) ?_
 rintro k w8 ⟨H, hk⟩ hback7
 rcases (show k = 0 ∨ k = 1 ∨ k = 2 by omega) with rfl | rfl | rfl
 ·
  refine qR 8 [.c [4, 0, 1, 0, 0, 1, 0, 0, 0], .c [4, 0, 1, 0, 0, 1, 0, 0, 1], .b 1, .c [4, 0, 1, 0, 0, 2], .l [4, 0, 1, 0, 0], .b 0, .c [5]] [(1, .P b1 0), (5, .slice (some ⟨b5, 0, none⟩) 2 2), (6, .I 0)] ?_
  refine qG (sq 0 5) ?_
  refine qP 3 (sq 3 5) [(1, .P b1 0), (5, .slice (some ⟨b5, 0, none⟩) 2 2), (6, .I 0), (23, .P b5 0)] ?_
  refine qL .seq 24 (sq 4 5) 25 b5 0 0 (.pointer none) (H.cells 0 rfl) ?_
  refine qF 1 [(1, .P b1 0), (5, .slice (some ⟨b5, 0, none⟩) 2 2), (6, .I 0), (7, .pointer none)] ?_
  refine qR 1 [.c [4, 0, 1, 0, 0, 1, 0, 0, 1, 0], .c [4, 0, 1, 0, 0, 1, 0, 0, 2], .b 1, .c [4, 0, 1, 0, 0, 2], .l [4, 0, 1, 0, 0], .b 0, .c [5]] [(1, .P b1 0), (5, .slice (some ⟨b5, 0, none⟩) 2 2), (6, .I 0), (7, .pointer none)] ?_
  refine qG (sq 0 4) ?_
  refine qP 2 (sq 2 4) [(1, .P b1 0), (5, .slice (some ⟨b5, 0, none⟩) 2 2), (6, .I 0), (7, .pointer none), (25, .pointer none), (26, .P b1 4)] ?_
  refine qL .seq 27 (sq 3 4) 24 b1 4 4 (.slice a4x x.data.length k4x) (H.cells 2 rfl) ?_
  refine qK .seq (some 28) (sq 4 4) 10 #[.pointer none, .slice a4x x.data.length k4x] (noCrash_nil (S := fun _ => True) ) ?_
  rintro _ w9 hE10 rfl
  have H := H.ext hE10
  refine qF 0 [(1, .P b1 0), (5, .slice (some ⟨b5, 0, none⟩) 2 2), (6, .I 0), (7, .pointer none)] ?_
  refine qR 1 [.c [4, 0, 1, 0, 0, 1, 0, 0, 2, 0], .c [4, 0, 1, 0, 0, 1, 0, 0, 3], .b 1, .c [4, 0, 1, 0, 0, 2], .l [4, 0, 1, 0, 0], .b 0, .c [5]] [(1, .P b1 0), (5, .slice (some ⟨b5, 0, none⟩) 2 2), (6, .I 0), (7, .pointer none)] ?_
  refine qG (sq 0 2) ?_
  refine qP 1 (sq 1 2) [(1, .P b1 0), (5, .slice (some ⟨b5, 0, none⟩) 2 2), (6, .I 0), (7, .pointer none), (29, .pointer none)] ?_
  refine qK .seq (some 30) (sq 2 2) 21 #[.pointer none] (noWipe_nil (S := fun _ => True) ) ?_
  rintro _ w11 hE12 rfl
  have H := H.ext hE12
  refine qF 0 [(1, .P b1 0), (5, .slice (some ⟨b5, 0, none⟩) 2 2), (6, .I 0), (7, .pointer none)] ?_
  refine qR 1 [.c [4, 0, 1, 0, 0, 1, 0, 0, 3, 0], .c [4, 0, 1, 0, 0, 1, 0, 0, 4], .b 1, .c [4, 0, 1, 0, 0, 2], .l [4, 0, 1, 0, 0], .b 0, .c [5]] [(1, .P b1 0), (5, .slice (some ⟨b5, 0, none⟩) 2 2), (6, .I 0), (7, .pointer none)] ?_
  refine qG (sq 0 4) ?_
  refine qP 2 (sq 2 4) [(1, .P b1 0), (5, .slice (some ⟨b5, 0, none⟩) 2 2), (6, .I 0), (7, .pointer none), (31, .pointer none), (32, .P b1 3)] ?_
  refine qL .seq 33 (sq 3 4) 3 b1 3 3 (.I x.sector) (H.cells 2 rfl) ?_
  refine qK .seq (some 34) (sq 4 4) 16 #[.pointer none, .I x.sector] (noArm_nil (S := fun _ => True) x.sector) ?_
  rintro _ w13 hE14 rfl
  have H := H.ext hE14
  refine qF 0 [(1, .P b1 0), (5, .slice (some ⟨b5, 0, none⟩) 2 2), (6, .I 0), (7, .pointer none)] ?_
  refine qR 1 [.c [4, 0, 1, 0, 0, 1, 0, 0, 4, 0], .c [4, 0, 1, 0, 0, 1, 0, 0, 5], .b 1, .c [4, 0, 1, 0, 0, 2], .l [4, 0, 1, 0, 0], .b 0, .c [5]] [(1, .P b1 0), (5, .slice (some ⟨b5, 0, none⟩) 2 2), (6, .I 0), (7, .pointer none)] ?_
  refine qG (sq 0 11) ?_
  refine qP 2 (sq 2 11) [(1, .P b1 0), (5, .slice (some ⟨b5, 0, none⟩) 2 2), (6, .I 0), (7, .pointer none), (36, .pointer none), (37, .P b1 1)] ?_
  refine qL .seq 38 (sq 3 11) 9 b1 1 1 (.string x.name) (H.cells 2 rfl) ?_
  refine qP 1 (sq 4 11) [(1, .P b1 0), (5, .slice (some ⟨b5, 0, none⟩) 2 2), (6, .I 0), (7, .pointer none), (36, .pointer none), (38, .string x.name), (39, .P b1 3)] ?_
  refine qL .seq 40 (sq 5 11) 3 b1 3 3 (.I x.sector) (H.cells 2 rfl) ?_
  refine qK .seq (some 41) (sq 6 11) 13 #[.pointer none, .string x.name, .I x.sector] (noRead_nil (S := fun _ => True) x.name x.sector) ?_
  rintro _ w15 hE16 rfl
  have H := H.ext hE16
  refine qF 5 [(1, .P b1 0), (5, .slice (some ⟨b5, 0, none⟩) 2 2), (6, .I 0), (7, .pointer none), (9, .I 1)] ?_
  refine qR 1 [.c [4, 0, 1, 0, 0, 1, 0, 0, 5, 0], .c [4, 0, 1, 0, 0, 1, 0, 0, 6], .b 1, .c [4, 0, 1, 0, 0, 2], .l [4, 0, 1, 0, 0], .b 0, .c [5]] [(1, .P b1 0), (5, .slice (some ⟨b5, 0, none⟩) 2 2), (6, .I 0), (7, .pointer none), (9, .I 1)] ?_
  refine qG (sq 0 9) ?_
  refine qP 2 (sq 2 9) [(1, .P b1 0), (5, .slice (some ⟨b5, 0, none⟩) 2 2), (6, .I 0), (7, .pointer none), (9, .I 1), (45, .pointer none), (46, .P b1 1)] ?_
  refine qL .seq 47 (sq 3 9) 9 b1 1 1 (.string x.name) (H.cells 2 rfl) ?_
  refine qK .seq (some 48) (sq 4 9) 11 #[.pointer none, .string x.name] (noSize_nil (S := fun _ => True) x.name) ?_
  rintro _ w17 hE18 rfl
  have H := H.ext hE18
  refine qF 5 [(1, .P b1 0), (5, .slice (some ⟨b5, 0, none⟩) 2 2), (6, .I 0), (7, .pointer none), (9, .I 1), (11, .I 1)] ?_
  refine qR 1 [.c [4, 0, 1, 0, 0, 1, 0, 0, 6, 0], .c [4, 0, 1, 0, 0, 1, 0, 0, 7], .b 1, .c [4, 0, 1, 0, 0, 2], .l [4, 0, 1, 0, 0], .b 0, .c [5]] [(1, .P b1 0), (5, .slice (some ⟨b5, 0, none⟩) 2 2), (6, .I 0), (7, .pointer none), (9, .I 1), (11, .I 1)] ?_
  refine qG (sq 0 56) ?_
  refine qP 2 (sq 2 56) [(1, .P b1 0), (5, .slice (some ⟨b5, 0, none⟩) 2 2), (6, .I 0), (7, .pointer none), (9, .I 1), (11, .I 1), (51, .pointer none), (52, .P b1 1)] ?_
  refine qL .seq 53 (sq 3 56) 9 b1 1 1 (.string x.name) (H.cells 2 rfl) ?_
  refine qP 1 (sq 4 56) [(1, .P b1 0), (5, .slice (some ⟨b5, 0, none⟩) 2 2), (6, .I 0), (7, .pointer none), (9, .I 1), (11, .I 1), (51, .pointer none), (53, .string x.name), (54, .P b1 3)] ?_
  refine qL .seq 55 (sq 5 56) 3 b1 3 3 (.I x.sector) (H.cells 2 rfl) ?_
  refine qP 1 (sq 6 56) [(1, .P b1 0), (5, .slice (some ⟨b5, 0, none⟩) 2 2), (6, .I 0), (7, .pointer none), (9, .I 1), (11, .I 1), (51, .pointer none), (53, .string x.name), (55, .I x.sector), (56, .P b1 4)] ?_
  refine qL .seq 57 (sq 7 56) 24 b1 4 4 (.slice a4x x.data.length k4x) (H.cells 2 rfl) ?_
  refine qK .seq (some 58) (sq 8 56) 8 #[.pointer none, .string x.name, .I x.sector, .slice a4x x.data.length k4x] (noWrite_nil (S := fun _ => True) x.name x.sector) ?_
  rintro _ w19 hE20 rfl
  have H := H.ext hE20
  refine qP 12 (sq 20 56) [(1, .P b1 0), (5, .slice (some ⟨b5, 0, none⟩) 2 2), (6, .I 0), (7, .pointer none), (68, .bool false), (69, .pointer none), (70, .P b1 1)] ?_
  refine qL .seq 71 (sq 21 56) 9 b1 1 1 (.string x.name) (H.cells 2 rfl) ?_
  refine qK .seq (some 72) (sq 22 56) 9 #[.pointer none, .string x.name] (noSync_nil (S := fun _ => True) x.name) ?_
  rintro _ w21 hE22 rfl
  have H := H.ext hE22
  refine qP 5 (sq 27 56) [(1, .P b1 0), (5, .slice (some ⟨b5, 0, none⟩) 2 2), (6, .I 0), (7, .pointer none), (75, .bool false), (76, .pointer none), (77, .P b1 1)] ?_
  refine qL .seq 78 (sq 28 56) 9 b1 1 1 (.string x.name) (H.cells 2 rfl) ?_
  refine qP 1 (sq 29 56) [(1, .P b1 0), (5, .slice (some ⟨b5, 0, none⟩) 2 2), (6, .I 0), (7, .pointer none), (75, .bool false), (76, .pointer none), (78, .string x.name), (79, .P b1 2)] ?_
  refine qL .seq 80 (sq 30 56) 9 b1 2 2 (.string x.to) (H.cells 2 rfl) ?_
  refine qK .seq (some 81) (sq 31 56) 17 #[.pointer none, .string x.name, .string x.to] (noRename_nil (S := fun _ => True) x.name x.to) ?_
  rintro _ w23 hE24 rfl
  have H := H.ext hE24
  refine qP 5 (sq 36 56) [(1, .P b1 0), (5, .slice (some ⟨b5, 0, none⟩) 2 2), (6, .I 0), (7, .pointer none), (84, .bool false), (85, .pointer none), (86, .P b1 1)] ?_
  refine qL .seq 87 (sq 37 56) 9 b1 1 1 (.string x.name) (H.cells 2 rfl) ?_
  refine qK .seq (some 88) (sq 38 56) 18 #[.pointer none, .string x.name] (noRemove_nil (S := fun _ => True) x.name) ?_
  rintro _ w25 hE26 rfl
  have H := H.ext hE26
  refine qP 4 (sq 42 56) [(1, .P b1 0), (5, .slice (some ⟨b5, 0, none⟩) 2 2), (6, .I 0), (7, .pointer none), (91, .bool false), (92, .pointer none)] ?_
  refine qK .seq (some 93) (sq 43 56) 20 #[.pointer none] (noNames_nil (S := fun _ => True) ) ?_
  rintro _ w27 hE28 rfl
  have H := H.ext hE28
  refine qP 5 (sq 48 56) [(1, .P b1 0), (5, .slice (some ⟨b5, 0, none⟩) 2 2), (6, .I 0), (7, .pointer none), (97, .bool false), (98, .pointer none)] ?_
  refine qK .seq (some 99) (sq 49 56) 22 #[.pointer none] (noFiles_nil (S := fun _ => True) ) ?_
  rintro _ w29 hE30 rfl
  have H := H.ext hE30
  refine qP 5 (sq 54 56) [(1, .P b1 0), (5, .slice (some ⟨b5, 0, none⟩) 2 2), (6, .I 0), (103, .bool false), (104, .pointer none)] ?_
  refine qK .seq (some 105) (sq 55 56) 19 #[.pointer none] (noDead_nil (S := fun _ => True) ) ?_
  rintro _ w31 hE32 rfl
  have H := H.ext hE32
  refine qF 1 [(1, .P b1 0), (5, .slice (some ⟨b5, 0, none⟩) 2 2), (6, .I 0), (106, .bool false)] ?_
  refine qR 4 [.l [4, 0, 1, 0, 0], .b 0, .c [5]] [(1, .P b1 0), (5, .slice (some ⟨b5, 0, none⟩) 2 2), (6, .I 1)] ?_
  exact WK.back (hback7 1 _ ⟨H, by omega⟩ (by first | omega | (simp only []; omega))) (by as_aux_lemma => kernel_rfl)
 ·
  refine qR 8 [.c [4, 0, 1, 0, 0, 1, 0, 0, 0], .c [4, 0, 1, 0, 0, 1, 0, 0, 1], .b 1, .c [4, 0, 1, 0, 0, 2], .l [4, 0, 1, 0, 0], .b 0, .c [5]] [(1, .P b1 0), (5, .slice (some ⟨b5, 0, none⟩) 2 2), (6, .I 1)] ?_
  refine qG (sq 0 5) ?_
  refine qP 3 (sq 3 5) [(1, .P b1 0), (5, .slice (some ⟨b5, 0, none⟩) 2 2), (6, .I 1), (23, .P b5 1)] ?_
  refine qL .seq 24 (sq 4 5) 25 b5 1 1 (.P b3 0) (H.cells 0 rfl) ?_
  refine qF 1 [(1, .P b1 0), (5, .slice (some ⟨b5, 0, none⟩) 2 2), (6, .I 1), (7, .P b3 0)] ?_
  refine qR 1 [.c [4, 0, 1, 0, 0, 1, 0, 0, 1, 0], .c [4, 0, 1, 0, 0, 1, 0, 0, 2], .b 1, .c [4, 0, 1, 0, 0, 2], .l [4, 0, 1, 0, 0], .b 0, .c [5]] [(1, .P b1 0), (5, .slice (some ⟨b5, 0, none⟩) 2 2), (6, .I 1), (7, .P b3 0)] ?_
  refine qG (sq 0 4) ?_
  refine qP 2 (sq 2 4) [(1, .P b1 0), (5, .slice (some ⟨b5, 0, none⟩) 2 2), (6, .I 1), (7, .P b3 0), (25, .P b3 0), (26, .P b1 4)] ?_
  refine qL .seq 27 (sq 3 4) 24 b1 4 4 (.slice a4x x.data.length k4x) (H.cells 2 rfl) ?_
  refine qK .seq (some 28) (sq 4 4) 10 #[.P b3 0, .slice a4x x.data.length k4x] (noCrash_zero (S := fun _ => True)  (H.viewM 1 rfl (by simp))) ?_
  rintro _ w33 hE34 rfl
  have H := H.ext hE34
  refine qF 0 [(1, .P b1 0), (5, .slice (some ⟨b5, 0, none⟩) 2 2), (6, .I 1), (7, .P b3 0)] ?_
  refine qR 1 [.c [4, 0, 1, 0, 0, 1, 0, 0, 2, 0], .c [4, 0, 1, 0, 0, 1, 0, 0, 3], .b 1, .c [4, 0, 1, 0, 0, 2], .l [4, 0, 1, 0, 0], .b 0, .c [5]] [(1, .P b1 0), (5, .slice (some ⟨b5, 0, none⟩) 2 2), (6, .I 1), (7, .P b3 0)] ?_
  refine qG (sq 0 2) ?_
  refine qP 1 (sq 1 2) [(1, .P b1 0), (5, .slice (some ⟨b5, 0, none⟩) 2 2), (6, .I 1), (7, .P b3 0), (29, .P b3 0)] ?_
  refine qK .seq (some 30) (sq 2 2) 21 #[.P b3 0] (noWipe_zero (S := fun _ => True)  (H.viewM 1 rfl (by simp))) ?_
  rintro _ w35 hE36 rfl
  have H := H.ext hE36
  refine qF 0 [(1, .P b1 0), (5, .slice (some ⟨b5, 0, none⟩) 2 2), (6, .I 1), (7, .P b3 0)] ?_
  refine qR 1 [.c [4, 0, 1, 0, 0, 1, 0, 0, 3, 0], .c [4, 0, 1, 0, 0, 1, 0, 0, 4], .b 1, .c [4, 0, 1, 0, 0, 2], .l [4, 0, 1, 0, 0], .b 0, .c [5]] [(1, .P b1 0), (5, .slice (some ⟨b5, 0, none⟩) 2 2), (6, .I 1), (7, .P b3 0)] ?_
  refine qG (sq 0 4) ?_
  refine qP 2 (sq 2 4) [(1, .P b1 0), (5, .slice (some ⟨b5, 0, none⟩) 2 2), (6, .I 1), (7, .P b3 0), (31, .P b3 0), (32, .P b1 3)] ?_
  refine qL .seq 33 (sq 3 4) 3 b1 3 3 (.I x.sector) (H.cells 2 rfl) ?_
  refine qK .seq (some 34) (sq 4 4) 16 #[.P b3 0, .I x.sector] (noArm_zero (S := fun _ => True) x.sector (H.viewM 1 rfl (by simp))) ?_
  rintro _ w37 hE38 rfl
  have H := H.ext hE38
  refine qF 0 [(1, .P b1 0), (5, .slice (some ⟨b5, 0, none⟩) 2 2), (6, .I 1), (7, .P b3 0)] ?_
  refine qR 1 [.c [4, 0, 1, 0, 0, 1, 0, 0, 4, 0], .c [4, 0, 1, 0, 0, 1, 0, 0, 5], .b 1, .c [4, 0, 1, 0, 0, 2], .l [4, 0, 1, 0, 0], .b 0, .c [5]] [(1, .P b1 0), (5, .slice (some ⟨b5, 0, none⟩) 2 2), (6, .I 1), (7, .P b3 0)] ?_
  refine qG (sq 0 11) ?_
  refine qP 2 (sq 2 11) [(1, .P b1 0), (5, .slice (some ⟨b5, 0, none⟩) 2 2), (6, .I 1), (7, .P b3 0), (36, .P b3 0), (37, .P b1 1)] ?_
  refine qL .seq 38 (sq 3 11) 9 b1 1 1 (.string x.name) (H.cells 2 rfl) ?_
  refine qP 1 (sq 4 11) [(1, .P b1 0), (5, .slice (some ⟨b5, 0, none⟩) 2 2), (6, .I 1), (7, .P b3 0), (36, .P b3 0), (38, .string x.name), (39, .P b1 3)] ?_
  refine qL .seq 40 (sq 5 11) 3 b1 3 3 (.I x.sector) (H.cells 2 rfl) ?_
  refine qK .seq (some 41) (sq 6 11) 13 #[.P b3 0, .string x.name, .I x.sector] (noRead_zero (S := fun _ => True) x.name x.sector (H.viewM 1 rfl (by simp))) ?_
  rintro _ w39 hE40 rfl
  have H := H.ext hE40
  refine qF 5 [(1, .P b1 0), (5, .slice (some ⟨b5, 0, none⟩) 2 2), (6, .I 1), (7, .P b3 0), (9, .I 1)] ?_
  refine qR 1 [.c [4, 0, 1, 0, 0, 1, 0, 0, 5, 0], .c [4, 0, 1, 0, 0, 1, 0, 0, 6], .b 1, .c [4, 0, 1, 0, 0, 2], .l [4, 0, 1, 0, 0], .b 0, .c [5]] [(1, .P b1 0), (5, .slice (some ⟨b5, 0, none⟩) 2 2), (6, .I 1), (7, .P b3 0), (9, .I 1)] ?_
  refine qG (sq 0 9) ?_
  refine qP 2 (sq 2 9) [(1, .P b1 0), (5, .slice (some ⟨b5, 0, none⟩) 2 2), (6, .I 1), (7, .P b3 0), (9, .I 1), (45, .P b3 0), (46, .P b1 1)] ?_
  refine qL .seq 47 (sq 3 9) 9 b1 1 1 (.string x.name) (H.cells 2 rfl) ?_
  refine qK .seq (some 48) (sq 4 9) 11 #[.P b3 0, .string x.name] (noSize_zero (S := fun _ => True) x.name (H.viewM 1 rfl (by simp))) ?_
  rintro _ w41 hE42 rfl
  have H := H.ext hE42
  refine qF 5 [(1, .P b1 0), (5, .slice (some ⟨b5, 0, none⟩) 2 2), (6, .I 1), (7, .P b3 0), (9, .I 1), (11, .I 1)] ?_
  refine qR 1 [.c [4, 0, 1, 0, 0, 1, 0, 0, 6, 0], .c [4, 0, 1, 0, 0, 1, 0, 0, 7], .b 1, .c [4, 0, 1, 0, 0, 2], .l [4, 0, 1, 0, 0], .b 0, .c [5]] [(1, .P b1 0), (5, .slice (some ⟨b5, 0, none⟩) 2 2), (6, .I 1), (7, .P b3 0), (9, .I 1), (11, .I 1)] ?_
  refine qG (sq 0 56) ?_
  refine qP 2 (sq 2 56) [(1, .P b1 0), (5, .slice (some ⟨b5, 0, none⟩) 2 2), (6, .I 1), (7, .P b3 0), (9, .I 1), (11, .I 1), (51, .P b3 0), (52, .P b1 1)] ?_
  refine qL .seq 53 (sq 3 56) 9 b1 1 1 (.string x.name) (H.cells 2 rfl) ?_
  refine qP 1 (sq 4 56) [(1, .P b1 0), (5, .slice (some ⟨b5, 0, none⟩) 2 2), (6, .I 1), (7, .P b3 0), (9, .I 1), (11, .I 1), (51, .P b3 0), (53, .string x.name), (54, .P b1 3)] ?_
  refine qL .seq 55 (sq 5 56) 3 b1 3 3 (.I x.sector) (H.cells 2 rfl) ?_
  refine qP 1 (sq 6 56) [(1, .P b1 0), (5, .slice (some ⟨b5, 0, none⟩) 2 2), (6, .I 1), (7, .P b3 0), (9, .I 1), (11, .I 1), (51, .P b3 0), (53, .string x.name), (55, .I x.sector), (56, .P b1 4)] ?_
  refine qL .seq 57 (sq 7 56) 24 b1 4 4 (.slice a4x x.data.length k4x) (H.cells 2 rfl) ?_
  refine qK .seq (some 58) (sq 8 56) 8 #[.P b3 0, .string x.name, .I x.sector, .slice a4x x.data.length k4x] (noWrite_zero (S := fun _ => True) x.name x.sector (H.viewM 1 rfl (by simp))) ?_
  rintro _ w43 hE44 rfl
  have H := H.ext hE44
  refine qP 12 (sq 20 56) [(1, .P b1 0), (5, .slice (some ⟨b5, 0, none⟩) 2 2), (6, .I 1), (7, .P b3 0), (68, .bool false), (69, .P b3 0), (70, .P b1 1)] ?_
  refine qL .seq 71 (sq 21 56) 9 b1 1 1 (.string x.name) (H.cells 2 rfl) ?_
  refine qK .seq (some 72) (sq 22 56) 9 #[.P b3 0, .string x.name] (noSync_zero (S := fun _ => True) x.name (H.viewM 1 rfl (by simp))) ?_
  rintro _ w45 hE46 rfl
  have H := H.ext hE46
  refine qP 5 (sq 27 56) [(1, .P b1 0), (5, .slice (some ⟨b5, 0, none⟩) 2 2), (6, .I 1), (7, .P b3 0), (75, .bool false), (76, .P b3 0), (77, .P b1 1)] ?_
  refine qL .seq 78 (sq 28 56) 9 b1 1 1 (.string x.name) (H.cells 2 rfl) ?_
  refine qP 1 (sq 29 56) [(1, .P b1 0), (5, .slice (some ⟨b5, 0, none⟩) 2 2), (6, .I 1), (7, .P b3 0), (75, .bool false), (76, .P b3 0), (78, .string x.name), (79, .P b1 2)] ?_
  refine qL .seq 80 (sq 30 56) 9 b1 2 2 (.string x.to) (H.cells 2 rfl) ?_
  refine qK .seq (some 81) (sq 31 56) 17 #[.P b3 0, .string x.name, .string x.to] (noRename_zero (S := fun _ => True) x.name x.to (H.viewM 1 rfl (by simp))) ?_
  rintro _ w47 hE48 rfl
  have H := H.ext hE48
  refine qP 5 (sq 36 56) [(1, .P b1 0), (5, .slice (some ⟨b5, 0, none⟩) 2 2), (6, .I 1), (7, .P b3 0), (84, .bool false), (85, .P b3 0), (86, .P b1 1)] ?_
  refine qL .seq 87 (sq 37 56) 9 b1 1 1 (.string x.name) (H.cells 2 rfl) ?_
  refine qK .seq (some 88) (sq 38 56) 18 #[.P b3 0, .string x.name] (noRemove_zero (S := fun _ => True) x.name (H.viewM 1 rfl (by simp))) ?_
  rintro _ w49 hE50 rfl
  have H := H.ext hE50
  refine qP 4 (sq 42 56) [(1, .P b1 0), (5, .slice (some ⟨b5, 0, none⟩) 2 2), (6, .I 1), (7, .P b3 0), (91, .bool false), (92, .P b3 0)] ?_
  refine qK .seq (some 93) (sq 43 56) 20 #[.P b3 0] (noNames_zero (S := fun _ => True)  (H.viewM 1 rfl (by simp))) ?_
  rintro _ w51 hE52 rfl
  have H := H.ext hE52
  refine qP 5 (sq 48 56) [(1, .P b1 0), (5, .slice (some ⟨b5, 0, none⟩) 2 2), (6, .I 1), (7, .P b3 0), (97, .bool false), (98, .P b3 0)] ?_
  refine qK .seq (some 99) (sq 49 56) 22 #[.P b3 0] (noFiles_zero (S := fun _ => True)  (H.viewM 1 rfl (by simp))) ?_
  rintro _ w53 hE54 rfl
  have H := H.ext hE54
  refine qP 5 (sq 54 56) [(1, .P b1 0), (5, .slice (some ⟨b5, 0, none⟩) 2 2), (6, .I 1), (103, .bool false), (104, .P b3 0)] ?_
  refine qK .seq (some 105) (sq 55 56) 19 #[.P b3 0] (noDead_zero (S := fun _ => True)  (H.viewM 1 rfl (by simp))) ?_
  rintro _ w55 hE56 rfl
  have H := H.ext hE56
  refine qF 1 [(1, .P b1 0), (5, .slice (some ⟨b5, 0, none⟩) 2 2), (6, .I 1), (106, .bool false)] ?_
  refine qR 4 [.l [4, 0, 1, 0, 0], .b 0, .c [5]] [(1, .P b1 0), (5, .slice (some ⟨b5, 0, none⟩) 2 2), (6, .I 2)] ?_
  exact WK.back (hback7 2 _ ⟨H, by omega⟩ (by first | omega | (simp only []; omega))) (by as_aux_lemma => kernel_rfl)
 ·
  refine qR 6 [.c [5, 0], .c [6]] [] ?_
  refine qG (sq 0 2) ?_
  refine qK .seq (some 107) (sq 1 2) 12 #[] (heads_spec (S := fun _ => True)) ?_
  rintro _ w57 hE58 rfl
  have H := H.ext hE58
  refine qF 1 [(2, .bool true)] ?_
  refine qT (.bool true) Try.func6 ?_
  exact ⟨_, rfl, H.done, rfl⟩


end Go.Proofs.Ytekgjnblidjloaa
