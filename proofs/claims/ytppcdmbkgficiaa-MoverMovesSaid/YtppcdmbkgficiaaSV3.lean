import Derived.Test.YtppcdmbkgficiaaSF9
import Derived.Test.YtppcdmbkgficiaaSW6
namespace Go.Proofs.Ytppcdmbkgficiaa
open Go.BX
def wrZero : Wr := ⟨0, 0, ⟨#[]⟩, [], [], [], [], 0, 0, 0⟩
def mbegR (O : ObjD) (k n : Int) (to : List Int) (epoch limit : Int) : Shf := ⟨beginR O k n limit, to, epoch, wrZero, false, 0⟩
set_option maxHeartbeats 2000000 in
theorem mbegin_ok {S : Nat → Prop} {w : World} {O : ObjD} {os : List Value} (hO : objS.rep S w os O) (k n epoch limit : Int) {to : List Int} {ta : Option Addr} {tc : Nat} (hto : Li.rep S w [.slice ta to.length tc] to) (he : 0 ≤ epoch ∧ epoch ≤ 18446744073709551615) (hb : okB O k n limit) (htl : (to.length : Int) = n) :
 Calls Try.prog 53 #[.agg os.toArray, .I k, .I n, .slice ta to.length tc, .int .u64 epoch, .I limit] w (Ret fun v w' => Ext w w' ∧ ∃ (ds : List Value) (a : Option Addr) (c : Nat), v = .tuple #[.agg ds.toArray, .slice a (asksR (beginR O k n limit)).length c, .I 0] ∧ shfS.rep (Nw S w) w' ds (mbegR O k n to epoch limit) ∧ (Shape.slice msgS).rep (Nw S w) w' [.slice a (asksR (beginR O k n limit)).length c] (asksR (beginR O k n limit))) := by
 obtain ⟨a6O, k6O, rfl, h0O, h1O, h2O, h4O, h5O, h6O⟩ := obj_open hO
 have hb9 := hb
 obtain ⟨hb1, hb2, hb3, hb4, hb5, hb6⟩ := hb9
 refine qS (fn := Try.f53) (n := 42) (σ := [(0, .agg (objV O a6O k6O).toArray), (1, .I k), (2, .I n), (3, .slice ta to.length tc), (4, .int .u64 epoch), (5, .I limit)]) Try.func53 ?_
 have H := Hp.startF (w := w) (S := S) (G := [Rp Li [.slice a6O O.nodes.length k6O] O.nodes, Rp Li [.slice ta to.length tc] to]) (.rp h6O (.rp hto .nil))
 refine qR 1 [.c [0], .c [1]] [(0, .agg (objV O a6O k6O).toArray), (1, .I k), (2, .I n), (3, .slice ta to.length tc), (4, .int .u64 epoch), (5, .I limit)] ?_
 refine qG (sq 0 4) ?_
 refine qB .seq 6 (sq 1 4) ((objV O a6O k6O).toArray) 102 H ?_
 intro b1 w2 H
 refine qB .seq 12 (sq 2 4) ((shfZ).toArray) 118 H ?_
 intro b3 w4 H
 refine qF 2 [(1, .I k), (2, .I n), (3, .slice ta to.length tc), (4, .int .u64 epoch), (5, .I limit), (6, .P b1 0), (12, .P b3 0)] ?_
 refine qR 1 [.c [1, 0], .c [2]] [(1, .I k), (2, .I n), (3, .slice ta to.length tc), (4, .int .u64 epoch), (5, .I limit), (6, .P b1 0), (12, .P b3 0)] ?_
 refine qG (sq 0 13) ?_
 refine qL .seq 19 (sq 1 13) 102 b1 0 0 (.agg (objV O a6O k6O).toArray) (H.cells 1 rfl) ?_
 refine qP 3 (sq 4 13) [(2, .I n), (3, .slice ta to.length tc), (4, .int .u64 epoch), (12, .P b3 0), (19, .agg (objV O a6O k6O).toArray), (20, .I k), (21, .I n), (22, .I limit)] ?_
 refine qK .seq (some 23) (sq 5 13) 47 #[.agg (objV O a6O k6O).toArray, .I k, .I n, .I limit] (fbegin_ok (O := O) (obj_mk (y0 := O.key) (y1 := O.version) (y2 := O.size) (y3 := O.sum) (y4 := O.group) (y5 := O.epoch) (y6 := O.nodes) ⟨rfl, h0O⟩ u64a i64a Shape.bv_mk i64a u64a (H.rp 0 rfl)) k n limit (hb)) ?_
 rintro _ w5 hE6 ⟨cs7, a8, c9, rfl, hr10, hr11⟩
 have H0s := H
 replace hr10 : rdS.rep _ _ cs7 (beginR O k n limit) := hr10
 replace hr11 : (Shape.slice msgS).rep _ _ [.slice a8 (asksR (beginR O k n limit)).length c9] (asksR (beginR O k n limit)) := hr11
 obtain ⟨cs0q12, a3q12, k3q12, a4q12, k4q12, rfl, hf13, hf14, hf15, hf16, hf17, hf18, hf19, hf20⟩ := rd_open hr10
 obtain ⟨a6q21, k6q21, rfl, hf22, hf23, hf24, hf25, hf26, hf27⟩ := obj_open hf13
 have H := H.addN hE6 (F := Rp (Shape.slice msgS) [.slice a8 ((asksR (beginR O k n limit)).length) c9] (asksR (beginR O k n limit))) hr11
 have H := H.add (F := Rp Li [.slice a6q21 (((beginR O k n limit).object).nodes.length) k6q21] (((beginR O k n limit).object).nodes)) ((H0s.addN hE6 (F := Rp Li [.slice a6q21 (((beginR O k n limit).object).nodes.length) k6q21] (((beginR O k n limit).object).nodes)) hf27).rp 0 rfl)
 have H := H.add (F := Rp (Shape.slice pcS) [.slice a3q12 ((beginR O k n limit).pieces.length) k3q12] ((beginR O k n limit).pieces)) ((H0s.addN hE6 (F := Rp (Shape.slice pcS) [.slice a3q12 ((beginR O k n limit).pieces.length) k3q12] ((beginR O k n limit).pieces)) hf16).rp 0 rfl)
 have H := H.add (F := Rp Li [.slice a4q12 ((beginR O k n limit).bad.length) k4q12] ((beginR O k n limit).bad)) ((H0s.addN hE6 (F := Rp Li [.slice a4q12 ((beginR O k n limit).bad.length) k4q12] ((beginR O k n limit).bad)) hf17).rp 0 rfl)
 refine qP 4 (sq 9 13) [(2, .I n), (3, .slice ta to.length tc), (4, .int .u64 epoch), (12, .P b3 0), (24, .agg (rdV (beginR O k n limit) a6q21 k6q21 a3q12 k3q12 a4q12 k4q12).toArray), (25, .slice a8 ((asksR (beginR O k n limit)).length) c9), (26, .I 0)] ?_
 refine qB .seq 15 (sq 10 13) ((rdZ).toArray) 107 H ?_
 intro b28 w29 H
 refine qW 107 b28 0 (sq 11 13) (.agg (rdV (beginR O k n limit) a6q21 k6q21 a3q12 k3q12 a4q12 k4q12).toArray) [(b28, .cells (rdV (beginR O k n limit) a6q21 k6q21 a3q12 k3q12 a4q12 k4q12).toArray 107 (0, 0)), (b3, .cells (shfZ).toArray 118 (0, 0)), (b1, .cells (objV O a6O k6O).toArray 102 (0, 0))] H 0 rfl rfl ?_
 intro w30 H
 refine qF 2 [(2, .I n), (3, .slice ta to.length tc), (4, .int .u64 epoch), (12, .P b3 0), (15, .P b28 0), (16, .slice a8 ((asksR (beginR O k n limit)).length) c9), (17, .I 0)] ?_
 refine qR 8 [.c [3, 0, 1], .c [4]] [(3, .slice ta to.length tc), (4, .int .u64 epoch), (12, .P b3 0), (15, .P b28 0), (16, .slice a8 ((asksR (beginR O k n limit)).length) c9), (34, .bool (((to.length : Nat) : Int) != n))] ?_
 refine qN ((to.length : Nat) : Int) n (fun h31 => ?_) (fun h31 => ?_)
 ·
  omega
 ·
  refine qR 2 [.c [4, 0], .c [5]] [(3, .slice ta to.length tc), (4, .int .u64 epoch), (12, .P b3 0), (15, .P b28 0), (16, .slice a8 ((asksR (beginR O k n limit)).length) c9)] ?_
  refine WK.drawP1 6 [1, 3, 5] [(41, .slice a8 ((asksR (beginR O k n limit)).length) c9), (39, .int .u64 epoch), (37, .slice ta to.length tc), (3, .slice ta to.length tc), (4, .int .u64 epoch), (12, .P b3 0), (15, .P b28 0), (16, .slice a8 ((asksR (beginR O k n limit)).length) c9)] [(0, .qui), (2, .chn), (4, .qui)] [(0, .qui), (2, .chn), (4, .qui), (6, .seq), (7, .seq), (8, .seq)] Try_mixed (by as_aux_lemma => kernel_rfl) (by as_aux_lemma => kernel_rfl) (by as_aux_lemma => kernel_rfl) (by as_aux_lemma => kernel_rfl) ?_
  have H := H.draw
  generalize ({ w30 with drawn := w30.drawn + 1 } : World) = w32 at H ⊢
  refine qL .qui 36 [(2, .chn), (4, .qui), (6, .seq), (7, .seq), (8, .seq)] 107 b28 0 0 (.agg (rdV (beginR O k n limit) a6q21 k6q21 a3q12 k3q12 a4q12 k4q12).toArray) (H.cells 0 rfl) ?_
  refine qK .chn (some 38) [(4, .qui), (6, .seq), (7, .seq), (8, .seq)] 56 #[.slice ta to.length tc] (clone_spec (H.rp 5 rfl) (by omega)) ?_
  rintro v34 w33 - H'
  have H := H.back (M1 := []) (W1 := []) H'
  obtain ⟨a35, c36, rfl, hc37, hm38⟩ := H.ownForm 0 rfl
  have H : Hp w S [] [(b28, .cells (rdV (beginR O k n limit) a6q21 k6q21 a3q12 k3q12 a4q12 k4q12).toArray 107 (0, 0)), (b3, .cells (shfZ).toArray 118 (0, 0)), (b1, .cells (objV O a6O k6O).toArray 102 (0, 0))] [⟨Shape.int .i64, 3, .slice a35 to.length c36, to⟩] [Rp Li [.slice a4q12 ((beginR O k n limit).bad.length) k4q12] ((beginR O k n limit).bad), Rp (Shape.slice pcS) [.slice a3q12 ((beginR O k n limit).pieces.length) k3q12] ((beginR O k n limit).pieces), Rp Li [.slice a6q21 (((beginR O k n limit).object).nodes.length) k6q21] (((beginR O k n limit).object).nodes), Rp (Shape.slice msgS) [.slice a8 ((asksR (beginR O k n limit)).length) c9] (asksR (beginR O k n limit)), Rp Li [.slice a6O O.nodes.length k6O] O.nodes, Rp Li [.slice ta to.length tc] to] _ := H
  refine qP 1 [(6, .seq), (7, .seq), (8, .seq)] [(12, .P b3 0), (40, .agg ((rdV (beginR O k n limit) a6q21 k6q21 a3q12 k3q12 a4q12 k4q12) ++ ([.slice a35 to.length c36, .int .u64 epoch] : List Value) ++ (wrZ) ++ ([.bool false, .I 0] : List Value)).toArray), (41, .slice a8 ((asksR (beginR O k n limit)).length) c9)] ?_
  refine qW 118 b3 0 [(7, .seq), (8, .seq)] (.agg ((rdV (beginR O k n limit) a6q21 k6q21 a3q12 k3q12 a4q12 k4q12) ++ ([.slice a35 to.length c36, .int .u64 epoch] : List Value) ++ (wrZ) ++ ([.bool false, .I 0] : List Value)).toArray) [(b28, .cells (rdV (beginR O k n limit) a6q21 k6q21 a3q12 k3q12 a4q12 k4q12).toArray 107 (0, 0)), (b3, .cells ((rdV (beginR O k n limit) a6q21 k6q21 a3q12 k3q12 a4q12 k4q12) ++ ([.slice a35 to.length c36, .int .u64 epoch] : List Value) ++ (wrZ) ++ ([.bool false, .I 0] : List Value)).toArray 118 (0, 0)), (b1, .cells (objV O a6O k6O).toArray 102 (0, 0))] H 1 rfl rfl ?_
  intro w39 H
  refine qF 2 [(12, .P b3 0), (13, .slice a8 ((asksR (beginR O k n limit)).length) c9), (14, .I 0)] ?_
  refine qRB (.tuple #[.agg ((rdV (beginR O k n limit) a6q21 k6q21 a3q12 k3q12 a4q12 k4q12) ++ ([.slice a35 to.length c36, .int .u64 epoch] : List Value) ++ (wrZ) ++ ([.bool false, .I 0] : List Value)).toArray, .slice a8 ((asksR (beginR O k n limit)).length) c9, .I 0]) Try.func53 (v3 (.cell 12 118) (.tmp 13) (.tmp 14) (vC (H.cells 1 rfl)) vT vT) ?_
  have H : Hp w S [] [(b28, .cells (rdV (beginR O k n limit) a6q21 k6q21 a3q12 k3q12 a4q12 k4q12).toArray 107 (0, 0)), (b3, .cells ((rdV (beginR O k n limit) a6q21 k6q21 a3q12 k3q12 a4q12 k4q12) ++ ([.slice a35 to.length c36, .int .u64 epoch] : List Value) ++ (wrZ) ++ ([.bool false, .I 0] : List Value)).toArray 118 (0, 0)), (b1, .cells (objV O a6O k6O).toArray 102 (0, 0))] [] [Rp Li [.slice a35 to.length c36] to, Rp Li [.slice a4q12 ((beginR O k n limit).bad.length) k4q12] ((beginR O k n limit).bad), Rp (Shape.slice pcS) [.slice a3q12 ((beginR O k n limit).pieces.length) k3q12] ((beginR O k n limit).pieces), Rp Li [.slice a6q21 (((beginR O k n limit).object).nodes.length) k6q21] (((beginR O k n limit).object).nodes), Rp (Shape.slice msgS) [.slice a8 ((asksR (beginR O k n limit)).length) c9] (asksR (beginR O k n limit)), Rp Li [.slice a6O O.nodes.length k6O] O.nodes, Rp Li [.slice ta to.length tc] to] _ := H.freezeW 0 rfl
  exact ⟨_, rfl, H.done, [.string (((beginR O k n limit).object).key), .int .u64 (((beginR O k n limit).object).version), .I (((beginR O k n limit).object).size), .int .u32 (((((beginR O k n limit).object).sum).toNat : Nat) : Int), .I (((beginR O k n limit).object).group), .int .u64 (((beginR O k n limit).object).epoch), .slice a6q21 (((beginR O k n limit).object).nodes.length) k6q21, .I ((beginR O k n limit).kk), .I ((beginR O k n limit).nn), .slice a3q12 ((beginR O k n limit).pieces.length) k3q12, .slice a4q12 ((beginR O k n limit).bad.length) k4q12, .I ((beginR O k n limit).waited), .I ((beginR O k n limit).limit), .I ((beginR O k n limit).done), .slice a35 to.length c36, .int .u64 epoch, .int .u64 0, .int .u64 0, .string (⟨#[]⟩), .slice none 0 0, .slice none 0 0, .slice none 0 0, .slice none 0 0, .I 0, .I 0, .I 0, .bool false, .I 0], _, _, rfl, H.out (shf_mk (y0 := (beginR O k n limit)) (y3 := ⟨0, 0, ⟨#[]⟩, [], [], [], [], 0, 0, 0⟩) (rd_mkB (by unfold rdB; omega) (H.rp 3 rfl) (H.rp 2 rfl) (H.rp 1 rfl)) (H.rp 0 rfl) u64a (wr_mk (l0 := [.int .u64 0]) (y0 := 0) (l1 := [.int .u64 0]) (y1 := 0) (l2 := [.string (⟨#[]⟩)]) (y2 := ⟨#[]⟩) (l3 := [.slice none 0 0]) (y3 := []) (l4 := [.slice none 0 0]) (y4 := []) (l5 := [.slice none 0 0]) (y5 := []) (l6 := [.slice none 0 0]) (y6 := []) (l7 := [.I 0]) (y7 := 0) (l8 := [.I 0]) (y8 := 0) (l9 := [.I 0]) (y9 := 0) (Shape.int_mk (by decide)) (Shape.int_mk (by decide)) ⟨rfl, by first | assumption | (simp [maxLen]; done) | decide⟩ Shape.slice_nil Shape.slice_nil Shape.slice_nil Shape.slice_nil (Shape.int_mk (by decide)) (Shape.int_mk (by decide)) (Shape.int_mk (by decide))) Shape.bool_mk (Shape.int_mk (by decide))), H.out (H.rp 4 rfl)⟩
theorem gread_spec {S : Nat → Prop} {w : World} {O : List Nat} {bp : Nat} (x0 x1 x2 x3 x4 x5 x6 x7 x8 x9 x10 x11 x12 x13 x14 x15 x16 x17 x18 x19 x20 x21 x22 x23 x24 x25 x26 x28 : Value) (d0 : Int) (r : Rd) (a06y : Option Addr) (k06y : Nat) (a3y : Option Addr) (k3y : Nat) (a4y : Option Addr) (k4y : Nat) (v0 : Int) (H0 : Hp w S O [(bp, .cells (([x0, x1, x2, x3, x4, x5, x6, x7, x8, x9, x10, x11, x12, x13, x14, x15, x16, x17, x18, x19, x20, x21, x22, x23, x24, x25, x26, .I d0, x28] : List Value)).toArray 154 (0, 0))] [] [] w) :
 Calls Try.prog 86 #[.P bp 0, .agg (rdV r a06y k06y a3y k3y a4y k4y).toArray, .I v0] w (Ret fun v w' => v = v ∧ Hp w S O [(bp, .cells ((rdV r a06y k06y a3y k3y a4y k4y) ++ ([x14, x15, x16, x17, x18, x19, x20, x21, x22, x23, x24, x25, x26, .I (if v0 = 2 then v0 else d0), x28] : List Value)).toArray 154 (0, 0))] [] [] w') := by
 refine qS (fn := Try.f86) (n := 18) (σ := [(0, .P bp 0), (1, .agg (rdV r a06y k06y a3y k3y a4y k4y).toArray), (2, .I v0)]) Try.func86 ?_
 have H := H0
 refine qR 1 [.c [0], .c [1]] [(0, .P bp 0), (1, .agg (rdV r a06y k06y a3y k3y a4y k4y).toArray), (2, .I v0)] ?_
 refine qG (sq 0 1) ?_
 refine qB .seq 4 (sq 1 1) ((rdV r a06y k06y a3y k3y a4y k4y).toArray) 107 H ?_
 intro b1 w2 H
 refine qF 0 [(0, .P bp 0), (2, .I v0), (4, .P b1 0)] ?_
 refine qR 1 [.c [1, 0], .c [2]] [(0, .P bp 0), (2, .I v0), (4, .P b1 0)] ?_
 refine qG (sq 0 6) ?_
 refine qP 1 (sq 1 6) [(0, .P bp 0), (2, .I v0), (4, .P b1 0), (6, .P bp 0)] ?_
 refine qL .seq 7 (sq 2 6) 107 b1 0 0 (.agg (rdV r a06y k06y a3y k3y a4y k4y).toArray) (H.cells 0 rfl) ?_
 refine qP 3 (sq 5 6) [(0, .P bp 0), (2, .I v0), (7, .agg (rdV r a06y k06y a3y k3y a4y k4y).toArray), (10, .P bp 0)] ?_
 refine qW 107 bp 0 (sq 6 6) (.agg (rdV r a06y k06y a3y k3y a4y k4y).toArray) [(b1, .cells (rdV r a06y k06y a3y k3y a4y k4y).toArray 107 (0, 0)), (bp, .cells ((rdV r a06y k06y a3y k3y a4y k4y) ++ ([x14, x15, x16, x17, x18, x19, x20, x21, x22, x23, x24, x25, x26, .I d0, x28] : List Value)).toArray 154 (0, 0))] H 1 rfl rfl ?_
 intro w3 H
 refine qF 0 [(0, .P bp 0), (2, .I v0)] ?_
 refine qR 2 [.c [3]] [(0, .P bp 0), (2, .I v0), (12, .bool (v0 == 2))] ?_
 refine qE v0 2 (fun h4 => ?_) (fun h4 => ?_)
 ·
  refine qG (sq 0 6) ?_
  refine qP 5 (sq 5 6) [(14, .I v0), (17, .P bp 27)] ?_
  refine qW 30 bp 27 (sq 6 6) (.I v0) [(b1, .cells (rdV r a06y k06y a3y k3y a4y k4y).toArray 107 (0, 0)), (bp, .cells ((rdV r a06y k06y a3y k3y a4y k4y) ++ ([x14, x15, x16, x17, x18, x19, x20, x21, x22, x23, x24, x25, x26, .I v0, x28] : List Value)).toArray 154 (0, 0))] H 1 rfl rfl ?_
  intro w5 H
  refine qF 0 [] ?_
  refine WK.fin (v := .tuple #[]) Try.func86 (by as_aux_lemma => kernel_rfl) ?_
  have H := H.frontM 1 (M' := [(bp, .cells ((rdV r a06y k06y a3y k3y a4y k4y) ++ ([x14, x15, x16, x17, x18, x19, x20, x21, x22, x23, x24, x25, x26, .I v0, x28] : List Value)).toArray 154 (0, 0)), (b1, .cells (rdV r a06y k06y a3y k3y a4y k4y).toArray 107 (0, 0))]) rfl
  have H := H.drop (M' := [(bp, .cells ((rdV r a06y k06y a3y k3y a4y k4y) ++ ([x14, x15, x16, x17, x18, x19, x20, x21, x22, x23, x24, x25, x26, .I v0, x28] : List Value)).toArray 154 (0, 0))]) (W' := []) (by repeat (first | exact List.Sublist.refl _ | exact List.nil_sublist _ | apply List.Sublist.cons_cons | apply List.Sublist.cons)) (List.Sublist.refl _)
  refine ⟨_, rfl, rfl, ?_⟩
  rw [if_pos (by assumption)]
  exact H.pick [] rfl
 ·
  refine qR 1 [] [] ?_
  refine WK.fin (v := .tuple #[]) Try.func86 (by as_aux_lemma => kernel_rfl) ?_
  have H := H.frontM 1 (M' := [(bp, .cells ((rdV r a06y k06y a3y k3y a4y k4y) ++ ([x14, x15, x16, x17, x18, x19, x20, x21, x22, x23, x24, x25, x26, .I d0, x28] : List Value)).toArray 154 (0, 0)), (b1, .cells (rdV r a06y k06y a3y k3y a4y k4y).toArray 107 (0, 0))]) rfl
  have H := H.drop (M' := [(bp, .cells ((rdV r a06y k06y a3y k3y a4y k4y) ++ ([x14, x15, x16, x17, x18, x19, x20, x21, x22, x23, x24, x25, x26, .I d0, x28] : List Value)).toArray 154 (0, 0))]) (W' := []) (by repeat (first | exact List.Sublist.refl _ | exact List.nil_sublist _ | apply List.Sublist.cons_cons | apply List.Sublist.cons)) (List.Sublist.refl _)
  refine ⟨_, rfl, rfl, ?_⟩
  rw [if_neg (by assumption)]
  exact H.pick [] rfl
def wrOf (r : Rd) (to : List Int) (epoch : Int) (xs : List (BitVec 8)) (k n : Nat) : Wr := beginW 0 0 r.object.key xs k n ⟨0, r.object.version, to, epoch⟩ r.limit
theorem got_keep {r : Rd} {frm : Int} {hd : Hdr} {dt : List (BitVec 8)} {ok : Bool} : (gotR r frm hd dt ok).object = r.object ∧ (gotR r frm hd dt ok).limit = r.limit := by
 unfold gotR
 split
 · exact ⟨rfl, rfl⟩
 · split
   · exact ⟨rfl, rfl⟩
   · split
     · unfold stepR
       split <;> exact ⟨rfl, rfl⟩
     · exact ⟨rfl, rfl⟩
theorem got_full {xs : List (BitVec 8)} {k n : Nat} {r : Rd} {frm : Int} {hd : Hdr} {dt : List (BitVec 8)} {ok : Bool} (hR : RdOf xs k n r) (h0 : r.done = 0) (h : (gotR r frm hd dt ok).done = 1) : k ≤ (gotR r frm hd dt ok).pieces.length := by
 have hj : ∀ q : Rd, q.kk = (k : Int) → judgeR q = 1 → k ≤ q.pieces.length := by
  intro q e hq
  unfold judgeR at hq
  split at hq
  · omega
  · split at hq <;> cases hq
 unfold gotR at h ⊢
 split at h
 · rw [h0] at h; cases h
 · rename_i hw
   rw [if_neg hw]
   split at h
   · rw [h0] at h; cases h
   · split at h
     · rename_i ho
       rw [if_pos ho]
       unfold stepR at h ⊢
       split at h
       · rename_i hg
         rw [if_pos hg]
         exact hj (putR r _ dt) hR.kk h
       · rename_i hg
         rw [if_neg hg]
         exact hj (badR r _) hR.kk h
     · rw [h0] at h; cases h
set_option maxHeartbeats 4000000 in
theorem gwrite_spec {S : Nat → Prop} {w : World} {O : List Nat} {bp : Nat} {xs : List (BitVec 8)} {k n : Nat} {r : Rd} {to : List Int} {epoch : Int} {a06y : Option Addr} {k06y : Nat} {a3y : Option Addr} {k3y : Nat} {a4y : Option Addr} {k4y : Nat} {ta : Option Addr} {tc : Nat} (z0 z1 z2 z3 z4 z5 z6 z7 z8 z9 z10 z11 z12 : Value) (hR : RdOf xs k n r) (hbr : rdB r) (hlen : k ≤ r.pieces.length) (hto : to.length = n) (hlim : 1 ≤ r.limit ∧ r.limit ≤ 100000) (he : 0 ≤ epoch ∧ epoch ≤ 18446744073709551615) (H0 : Hp w S O [(bp, .cells ((rdV r a06y k06y a3y k3y a4y k4y) ++ ([.slice ta to.length tc, .int .u64 epoch, z0, z1, z2, z3, z4, z5, z6, z7, z8, z9, z10, z11, z12] : List Value)).toArray 154 (0, 0))] [] [Rp Li [.slice a06y r.object.nodes.length k06y] r.object.nodes, Rp (Shape.slice pcS) [.slice a3y r.pieces.length k3y] r.pieces, Rp Li [.slice a4y r.bad.length k4y] r.bad, Rp Li [.slice ta to.length tc] to] w) :
 Calls Try.prog 87 #[.P bp 0] w (Ret fun v w' => v = v ∧ ∃ (a3w : Option Addr) (k3w : Nat) (a4w : Option Addr) (k4w : Nat) (a5w : Option Addr) (k5w : Nat) (a6w : Option Addr) (k6w : Nat) (am : Option Addr) (cm : Nat), Hp w S O [(bp, .cells ((rdV r a06y k06y a3y k3y a4y k4y) ++ ([.slice ta to.length tc, .int .u64 epoch] : List Value) ++ (wrV (wrOf r to epoch xs k n) a3w k3w a4w k4w a5w k5w a6w k6w) ++ ([.bool true, z11, .slice am ((msgsOf (wrOf r to epoch xs k n)).length) cm] : List Value)).toArray 154 (0, 0))] [] [Rp (Shape.slice hdrS) [.slice a3w ((wrOf r to epoch xs k n).heads.length) k3w] ((wrOf r to epoch xs k n).heads), Rp (Shape.slice SB) [.slice a4w ((wrOf r to epoch xs k n).chunks.length) k4w] ((wrOf r to epoch xs k n).chunks), Rp Li [.slice a5w ((wrOf r to epoch xs k n).nodes.length) k5w] ((wrOf r to epoch xs k n).nodes), Rp Li [.slice a6w ((wrOf r to epoch xs k n).acks.length) k6w] ((wrOf r to epoch xs k n).acks), Rp (Shape.slice msgS) [.slice am ((msgsOf (wrOf r to epoch xs k n)).length) cm] (msgsOf (wrOf r to epoch xs k n))] w') := by
 have hbr9 := hbr
 unfold rdB at hbr9
 have hk9 := hbr9.1
 have h9 := hR.hs
 have h8 := hR.hk
 have h7 := hR.hkn
 have h6 := hR.hn
 refine qS (fn := Try.f87) (n := 66) (σ := [(0, .P bp 0)]) Try.func87 ?_
 have H := H0
 refine qR 1 [.c [0], .c [1]] [(0, .P bp 0)] ?_
 refine qG (sq 0 7) ?_
 refine qP 4 (sq 4 7) [(0, .P bp 0), (11, .P bp 0)] ?_
 refine qL .seq 12 (sq 5 7) 107 bp 0 0 (.agg (rdV r a06y k06y a3y k3y a4y k4y).toArray) (H.cells 0 rfl) ?_
 refine qB .seq 2 (sq 6 7) ((rdZ).toArray) 107 H ?_
 intro b1 w2 H
 refine qW 107 b1 0 (sq 7 7) (.agg (rdV r a06y k06y a3y k3y a4y k4y).toArray) [(b1, .cells (rdV r a06y k06y a3y k3y a4y k4y).toArray 107 (0, 0)), (bp, .cells ((rdV r a06y k06y a3y k3y a4y k4y) ++ ([.slice ta to.length tc, .int .u64 epoch, z0, z1, z2, z3, z4, z5, z6, z7, z8, z9, z10, z11, z12] : List Value)).toArray 154 (0, 0))] H 0 rfl rfl ?_
 intro w3 H
 refine qF 0 [(0, .P bp 0), (2, .P b1 0)] ?_
 refine qR 1 [.c [1, 0], .c [2]] [(0, .P bp 0), (2, .P b1 0)] ?_
 refine qG (sq 0 7) ?_
 refine qL .seq 14 (sq 1 7) 107 b1 0 0 (.agg (rdV r a06y k06y a3y k3y a4y k4y).toArray) (H.cells 0 rfl) ?_
 refine qK .seq (some 15) (sq 2 7) 49 #[.agg (rdV r a06y k06y a3y k3y a4y k4y).toArray] (bytes_ok (r := r) (rd_mkB (by unfold rdB; omega) (H.rp 0 rfl) (H.rp 1 rfl) (H.rp 2 rfl)) (hR) (hlen)) ?_
 rintro _ w4 hE7 ⟨a5, c6, rfl, hr8⟩
 have H := H.addN hE7 (F := Rp SB [.slice a5 xs.length c6] xs) hr8
 refine qF 5 [(0, .P bp 0), (2, .P b1 0), (3, .slice a5 xs.length c6)] ?_
 refine qR 1 [.c [2, 0], .c [3]] [(0, .P bp 0), (2, .P b1 0), (3, .slice a5 xs.length c6)] ?_
 refine WK.drawH1 [] (.node (qs [0, 1, 2, 3, 4, 5, 6, 7, 8, 9, 10, 11, 12, 13, 14, 15, 16, 17, 18, 19, 20, 21, 22, 23]) (.cons 24 (.leaf [(25, .qui), (26, .qui), (27, .qui), (28, .qui), (29, .seq), (30, .seq), (31, .qui), (32, .qui)]) (.cons 29 (.leaf [(24, .seq), (25, .qui), (26, .qui), (27, .qui), (28, .qui), (30, .seq), (31, .qui), (32, .qui)]) .nil))) Try_mixed (by as_aux_lemma => kernel_rfl) (by as_aux_lemma => kernel_rfl) ?_
 intro w9 hw10
 have H := H.draw
 rw [← hw10] at H
 clear hw10
 have hS := Chg.refl w9 []
 refine RG.node' (qs [0, 1, 2, 3, 4, 5, 6, 7, 8, 9, 10, 11, 12, 13, 14, 15, 16, 17, 18, 19, 20, 21, 22, 23]) (by as_aux_lemma => kernel_rfl) ?_
 refine qHP hS 2 (qs [2, 3, 4, 5, 6, 7, 8, 9, 10, 11, 12, 13, 14, 15, 16, 17, 18, 19, 20, 21, 22, 23]) [(0, .P bp 0), (2, .P b1 0), (3, .slice a5 xs.length c6), (20, .P b1 0)] ?_
 refine qHL 21 (qs [3, 4, 5, 6, 7, 8, 9, 10, 11, 12, 13, 14, 15, 16, 17, 18, 19, 20, 21, 22, 23]) 9 b1 0 0 (.string r.object.key) hS (H.cells 0 rfl) (by simp) ?_
 refine qHP hS 2 (qs [5, 6, 7, 8, 9, 10, 11, 12, 13, 14, 15, 16, 17, 18, 19, 20, 21, 22, 23]) [(0, .P bp 0), (2, .P b1 0), (21, .string r.object.key), (22, .slice a5 xs.length c6), (23, .P b1 7)] ?_
 refine qHL 24 (qs [6, 7, 8, 9, 10, 11, 12, 13, 14, 15, 16, 17, 18, 19, 20, 21, 22, 23]) 3 b1 7 7 (.I r.kk) hS (H.cells 0 rfl) (by simp) ?_
 refine qHP hS 1 (qs [7, 8, 9, 10, 11, 12, 13, 14, 15, 16, 17, 18, 19, 20, 21, 22, 23]) [(0, .P bp 0), (2, .P b1 0), (21, .string r.object.key), (22, .slice a5 xs.length c6), (24, .I r.kk), (25, .P b1 8)] ?_
 refine qHL 26 (qs [8, 9, 10, 11, 12, 13, 14, 15, 16, 17, 18, 19, 20, 21, 22, 23]) 3 b1 8 8 (.I r.nn) hS (H.cells 0 rfl) (by simp) ?_
 refine qHP hS 2 (qs [10, 11, 12, 13, 14, 15, 16, 17, 18, 19, 20, 21, 22, 23]) [(0, .P bp 0), (2, .P b1 0), (21, .string r.object.key), (22, .slice a5 xs.length c6), (24, .I r.kk), (26, .I r.nn), (28, .P b1 1)] ?_
 refine qHL 29 (qs [11, 12, 13, 14, 15, 16, 17, 18, 19, 20, 21, 22, 23]) 22 b1 1 1 (.int .u64 r.object.version) hS (H.cells 0 rfl) (by simp) ?_
 refine qHP hS 4 (qs [15, 16, 17, 18, 19, 20, 21, 22, 23]) [(0, .P bp 0), (2, .P b1 0), (21, .string r.object.key), (22, .slice a5 xs.length c6), (24, .I r.kk), (26, .I r.nn), (29, .int .u64 r.object.version), (33, .P bp 14)] ?_
 refine qHL 34 (qs [16, 17, 18, 19, 20, 21, 22, 23]) 25 bp 14 14 (.slice ta to.length tc) hS (H.cells 1 rfl) (by simp) ?_
 refine qHP hS 4 (qs [20, 21, 22, 23]) [(0, .P bp 0), (2, .P b1 0), (21, .string r.object.key), (22, .slice a5 xs.length c6), (24, .I r.kk), (26, .I r.nn), (29, .int .u64 r.object.version), (34, .slice ta to.length tc), (38, .P bp 15)] ?_
 refine qHL 39 (qs [21, 22, 23]) 22 bp 15 15 (.int .u64 epoch) hS (H.cells 1 rfl) (by simp) ?_
 refine qHP hS 2 [(23, .qui)] [(0, .P bp 0), (21, .string r.object.key), (22, .slice a5 xs.length c6), (24, .I r.kk), (26, .I r.nn), (40, .agg #[.I 0, .int .u64 r.object.version, .slice ta to.length tc, .int .u64 epoch]), (41, .P b1 12)] ?_
 refine qHL 42 [] 3 b1 12 12 (.I r.limit) hS (H.cells 0 rfl) (by simp) ?_
 refine RH.finB hS 0 [0, 21, 22, 24, 26, 40, 42] [(0, .P bp 0), (21, .string r.object.key), (22, .slice a5 xs.length c6), (24, .I r.kk), (26, .I r.nn), (40, .agg #[.I 0, .int .u64 r.object.version, .slice ta to.length tc, .int .u64 epoch]), (42, .I r.limit)] (by as_aux_lemma => kernel_rfl) ?_
 refine (RGB.cons' ?_ (RGB.cons' ?_ RGB.nil'))
 ·
  refine RG.leaf' [(24, .seq), (25, .qui), (26, .qui), (27, .qui), (28, .qui), (29, .seq), (30, .seq), (31, .qui), (32, .qui)] (by as_aux_lemma => kernel_rfl) ?_
  have Hr := H
  refine RH.chn hS ?_
  rw [hR.kk, hR.nn]
  refine qK .chn (some 43) [] 18 #[.int .u64 0, .int .u64 0, .string r.object.key, .slice a5 xs.length c6, .I k, .I n, .agg #[.I 0, .int .u64 r.object.version, .slice ta to.length tc, .int .u64 epoch], .I r.limit] (begin_ok (xs := xs) (R := ⟨0, r.object.version, to, epoch⟩) 0 0 r.object.key (H.rp 0 rfl) (res_mk (Shape.int_mk (by decide)) u64a (H.rp 4 rfl) u64a) r.limit (by first | assumption | decide | (simp [maxLen]; done)) (by omega) (by omega) k n (by first | omega | (simp; done)) (by omega) (by omega) (by omega) (hto) (by omega)) ?_
  rintro _ w12 hE16 ⟨cs13, a14, c15, rfl, hr17, hr18⟩
  have H0s := H
  replace hr17 : wrS.rep _ _ cs13 (wrOf r to epoch xs k n) := hr17
  obtain ⟨a3q19, k3q19, a4q19, k4q19, a5q19, k5q19, a6q19, k6q19, rfl, hf20, hf21, hf22, hf23, hf24, hf25, hf26, hf27, hf28, hf29⟩ := wr_open hr17
  have H := H.addN hE16 (F := Rp (Shape.slice msgS) [.slice a14 ((msgsOf (wrOf r to epoch xs k n)).length) c15] (msgsOf (wrOf r to epoch xs k n))) hr18
  have H := H.add (F := Rp (Shape.slice hdrS) [.slice a3q19 ((wrOf r to epoch xs k n).heads.length) k3q19] ((wrOf r to epoch xs k n).heads)) ((H0s.addN hE16 (F := Rp (Shape.slice hdrS) [.slice a3q19 ((wrOf r to epoch xs k n).heads.length) k3q19] ((wrOf r to epoch xs k n).heads)) hf23).rp 0 rfl)
  have H := H.add (F := Rp (Shape.slice SB) [.slice a4q19 ((wrOf r to epoch xs k n).chunks.length) k4q19] ((wrOf r to epoch xs k n).chunks)) ((H0s.addN hE16 (F := Rp (Shape.slice SB) [.slice a4q19 ((wrOf r to epoch xs k n).chunks.length) k4q19] ((wrOf r to epoch xs k n).chunks)) hf24).rp 0 rfl)
  have H := H.add (F := Rp Li [.slice a5q19 ((wrOf r to epoch xs k n).nodes.length) k5q19] ((wrOf r to epoch xs k n).nodes)) ((H0s.addN hE16 (F := Rp Li [.slice a5q19 ((wrOf r to epoch xs k n).nodes.length) k5q19] ((wrOf r to epoch xs k n).nodes)) hf25).rp 0 rfl)
  have H := H.add (F := Rp Li [.slice a6q19 ((wrOf r to epoch xs k n).acks.length) k6q19] ((wrOf r to epoch xs k n).acks)) ((H0s.addN hE16 (F := Rp Li [.slice a6q19 ((wrOf r to epoch xs k n).acks.length) k6q19] ((wrOf r to epoch xs k n).acks)) hf26).rp 0 rfl)
  intro hS
  refine qHP hS 4 [(29, .seq), (30, .seq), (31, .qui), (32, .qui)] [(0, .P bp 0), (44, .agg (wrV (wrOf r to epoch xs k n) a3q19 k3q19 a4q19 k4q19 a5q19 k5q19 a6q19 k6q19).toArray), (45, .slice a14 ((msgsOf (wrOf r to epoch xs k n)).length) c15), (46, .I 0)] ?_
  refine RH.chn hS ?_
  refine RW.newC (κ := .chn) (d := some 5) (r := []) (o := .cells (wrZ).toArray 32 (0, 0)) (v := fun b => .P b 0) (fun b => by as_aux_lemma => kernel_rfl) (nofun) H ?_
  intro b31 w32 hnw30 H
  have hnb33 := Nat.le_trans hS.size hnw30
  intro hS
  refine RH.sto ?_
  refine qWC 32 b31 0 [] (.agg (wrV (wrOf r to epoch xs k n) a3q19 k3q19 a4q19 k4q19 a5q19 k5q19 a6q19 k6q19).toArray) [(b31, .cells (wrV (wrOf r to epoch xs k n) a3q19 k3q19 a4q19 k4q19 a5q19 k5q19 a6q19 k6q19).toArray 32 (0, 0)), (b1, .cells (rdV r a06y k06y a3y k3y a4y k4y).toArray 107 (0, 0)), (bp, .cells ((rdV r a06y k06y a3y k3y a4y k4y) ++ ([.slice ta to.length tc, .int .u64 epoch, z0, z1, z2, z3, z4, z5, z6, z7, z8, z9, z10, z11, z12] : List Value)).toArray 154 (0, 0))] H 0 rfl rfl ?_
  intro w35 hch34 H
  have hS36 := hS.sto hch34 (.inl hnb33)
  refine ⟨hS36, ?_⟩
  have hS := hS36
  refine RH.fin hS 2 [0, 5, 6, 7] [(0, .P bp 0), (5, .P b31 0), (6, .slice a14 ((msgsOf (wrOf r to epoch xs k n)).length) c15), (7, .I 0)] (by as_aux_lemma => kernel_rfl) ?_
  refine qR 1 [.c [3, 0], .c [4]] [(0, .P bp 0), (5, .P b31 0), (6, .slice a14 ((msgsOf (wrOf r to epoch xs k n)).length) c15), (7, .I 0)] ?_
  refine WK.drawH1 [bp] (.leaf [(0, .qui), (1, .qui), (2, .qui), (3, .qui), (4, .qui), (5, .qui), (6, .qui), (7, .qui), (8, .seq), (9, .qui), (10, .qui), (11, .qui), (12, .seq), (13, .qui), (14, .qui), (15, .seq)]) Try_mixed (by as_aux_lemma => kernel_rfl) (by as_aux_lemma => kernel_rfl) ?_
  intro w37 hw38
  have H := H.draw
  rw [← hw38] at H
  clear hw38
  have hS := Chg.refl w37 [bp]
  refine RG.leaf' [(0, .qui), (1, .qui), (2, .qui), (3, .qui), (4, .qui), (5, .qui), (6, .qui), (7, .qui), (8, .seq), (9, .qui), (10, .qui), (11, .qui), (12, .seq), (13, .qui), (14, .qui), (15, .seq)] (by as_aux_lemma => kernel_rfl) ?_
  refine qHP hS 3 [(3, .qui), (4, .qui), (5, .qui), (6, .qui), (7, .qui), (8, .seq), (9, .qui), (10, .qui), (11, .qui), (12, .seq), (13, .qui), (14, .qui), (15, .seq)] [(0, .P bp 0), (5, .P b31 0), (6, .slice a14 ((msgsOf (wrOf r to epoch xs k n)).length) c15), (7, .I 0), (47, .P bp 0), (48, .P bp 0), (49, .P bp 0)] ?_
  refine qHL 50 [(4, .qui), (5, .qui), (6, .qui), (7, .qui), (8, .seq), (9, .qui), (10, .qui), (11, .qui), (12, .seq), (13, .qui), (14, .qui), (15, .seq)] 32 b31 0 0 (.agg (wrV (wrOf r to epoch xs k n) a3q19 k3q19 a4q19 k4q19 a5q19 k5q19 a6q19 k6q19).toArray) hS (H.cells 0 rfl) (nq1 (H.raws 0 2 rfl rfl (by decide))) ?_
  refine qHP hS 4 [(8, .seq), (9, .qui), (10, .qui), (11, .qui), (12, .seq), (13, .qui), (14, .qui), (15, .seq)] [(0, .P bp 0), (7, .I 0), (48, .P bp 0), (49, .P bp 0), (50, .agg (wrV (wrOf r to epoch xs k n) a3q19 k3q19 a4q19 k4q19 a5q19 k5q19 a6q19 k6q19).toArray), (51, .slice a14 ((msgsOf (wrOf r to epoch xs k n)).length) c15), (54, .P bp 26)] ?_
  have Hr := H
  refine RH.sto ?_
  refine qWC 4 bp 26 [] (.bool true) [(b31, .cells (wrV (wrOf r to epoch xs k n) a3q19 k3q19 a4q19 k4q19 a5q19 k5q19 a6q19 k6q19).toArray 32 (0, 0)), (b1, .cells (rdV r a06y k06y a3y k3y a4y k4y).toArray 107 (0, 0)), (bp, .cells ((rdV r a06y k06y a3y k3y a4y k4y) ++ ([.slice ta to.length tc, .int .u64 epoch, z0, z1, z2, z3, z4, z5, z6, z7, z8, z9, .bool true, z11, z12] : List Value)).toArray 154 (0, 0))] H 2 rfl rfl ?_
  intro w40 hch39 H
  have hS41 := hS.sto hch39 (.inr (by simp))
  refine ⟨hS41, ?_⟩
  have hS := hS41
  refine qHP hS 3 [(12, .seq), (13, .qui), (14, .qui), (15, .seq)] [(0, .P bp 0), (7, .I 0), (49, .P bp 0), (50, .agg (wrV (wrOf r to epoch xs k n) a3q19 k3q19 a4q19 k4q19 a5q19 k5q19 a6q19 k6q19).toArray), (51, .slice a14 ((msgsOf (wrOf r to epoch xs k n)).length) c15), (57, .P bp 16)] ?_
  refine RH.sto ?_
  refine qWC 32 bp 16 [] (.agg (wrV (wrOf r to epoch xs k n) a3q19 k3q19 a4q19 k4q19 a5q19 k5q19 a6q19 k6q19).toArray) [(b31, .cells (wrV (wrOf r to epoch xs k n) a3q19 k3q19 a4q19 k4q19 a5q19 k5q19 a6q19 k6q19).toArray 32 (0, 0)), (b1, .cells (rdV r a06y k06y a3y k3y a4y k4y).toArray 107 (0, 0)), (bp, .cells ((rdV r a06y k06y a3y k3y a4y k4y) ++ ([.slice ta to.length tc, .int .u64 epoch] : List Value) ++ (wrV (wrOf r to epoch xs k n) a3q19 k3q19 a4q19 k4q19 a5q19 k5q19 a6q19 k6q19) ++ ([.bool true, z11, z12] : List Value)).toArray 154 (0, 0))] H 2 rfl rfl ?_
  intro w43 hch42 H
  have hS44 := hS.sto hch42 (.inr (by simp))
  refine ⟨hS44, ?_⟩
  have hS := hS44
  refine qHP hS 2 [(15, .seq)] [(0, .P bp 0), (7, .I 0), (51, .slice a14 ((msgsOf (wrOf r to epoch xs k n)).length) c15), (59, .P bp 28)] ?_
  refine RH.sto ?_
  refine qWC 33 bp 28 [] (.slice a14 ((msgsOf (wrOf r to epoch xs k n)).length) c15) [(b31, .cells (wrV (wrOf r to epoch xs k n) a3q19 k3q19 a4q19 k4q19 a5q19 k5q19 a6q19 k6q19).toArray 32 (0, 0)), (b1, .cells (rdV r a06y k06y a3y k3y a4y k4y).toArray 107 (0, 0)), (bp, .cells ((rdV r a06y k06y a3y k3y a4y k4y) ++ ([.slice ta to.length tc, .int .u64 epoch] : List Value) ++ (wrV (wrOf r to epoch xs k n) a3q19 k3q19 a4q19 k4q19 a5q19 k5q19 a6q19 k6q19) ++ ([.bool true, z11, .slice a14 ((msgsOf (wrOf r to epoch xs k n)).length) c15] : List Value)).toArray 154 (0, 0))] H 2 rfl rfl ?_
  intro w46 hch45 H
  have hS47 := hS.sto hch45 (.inr (by simp))
  refine ⟨hS47, ?_⟩
  have hS := hS47
  refine RH.fin hS 0 [0, 7] [(0, .P bp 0), (7, .I 0)] (by as_aux_lemma => kernel_rfl) ?_
  refine qR 4 [] [] ?_
  refine WK.fin (v := .tuple #[]) Try.func87 (by as_aux_lemma => kernel_rfl) ?_
  have H := H.frontM 2 (M' := [(bp, .cells ((rdV r a06y k06y a3y k3y a4y k4y) ++ ([.slice ta to.length tc, .int .u64 epoch] : List Value) ++ (wrV (wrOf r to epoch xs k n) a3q19 k3q19 a4q19 k4q19 a5q19 k5q19 a6q19 k6q19) ++ ([.bool true, z11, .slice a14 ((msgsOf (wrOf r to epoch xs k n)).length) c15] : List Value)).toArray 154 (0, 0)), (b31, .cells (wrV (wrOf r to epoch xs k n) a3q19 k3q19 a4q19 k4q19 a5q19 k5q19 a6q19 k6q19).toArray 32 (0, 0)), (b1, .cells (rdV r a06y k06y a3y k3y a4y k4y).toArray 107 (0, 0))]) rfl
  have H := H.drop (M' := [(bp, .cells ((rdV r a06y k06y a3y k3y a4y k4y) ++ ([.slice ta to.length tc, .int .u64 epoch] : List Value) ++ (wrV (wrOf r to epoch xs k n) a3q19 k3q19 a4q19 k4q19 a5q19 k5q19 a6q19 k6q19) ++ ([.bool true, z11, .slice a14 ((msgsOf (wrOf r to epoch xs k n)).length) c15] : List Value)).toArray 154 (0, 0))]) (W' := []) (by repeat (first | exact List.Sublist.refl _ | exact List.nil_sublist _ | apply List.Sublist.cons_cons | apply List.Sublist.cons)) (List.nil_sublist _)
  exact ⟨_, rfl, rfl, a3q19, k3q19, a4q19, k4q19, a5q19, k5q19, a6q19, k6q19, a14, c15, H.pick [3, 2, 1, 0, 4] rfl⟩
 ·
  refine RG.leaf' [(29, .seq), (24, .seq), (25, .qui), (26, .qui), (27, .qui), (28, .qui), (30, .seq), (31, .qui), (32, .qui)] (by as_aux_lemma => kernel_rfl) ?_
  have Hr := H
  refine RH.chn hS ?_
  refine RW.newC (κ := .chn) (d := some 5) (r := []) (o := .cells (wrZ).toArray 32 (0, 0)) (v := fun b => .P b 0) (fun b => by as_aux_lemma => kernel_rfl) (nofun) H ?_
  intro b49 w50 hnw48 H
  have hnb51 := Nat.le_trans hS.size hnw48
  intro hS
  refine RH.chn hS ?_
  rw [hR.kk, hR.nn]
  refine qK .chn (some 43) [] 18 #[.int .u64 0, .int .u64 0, .string r.object.key, .slice a5 xs.length c6, .I k, .I n, .agg #[.I 0, .int .u64 r.object.version, .slice ta to.length tc, .int .u64 epoch], .I r.limit] (begin_ok (xs := xs) (R := ⟨0, r.object.version, to, epoch⟩) 0 0 r.object.key (H.rp 0 rfl) (res_mk (Shape.int_mk (by decide)) u64a (H.rp 4 rfl) u64a) r.limit (by first | assumption | decide | (simp [maxLen]; done)) (by omega) (by omega) k n (by first | omega | (simp; done)) (by omega) (by omega) (by omega) (hto) (by omega)) ?_
  rintro _ w53 hE57 ⟨cs54, a55, c56, rfl, hr58, hr59⟩
  have H0s := H
  replace hr58 : wrS.rep _ _ cs54 (wrOf r to epoch xs k n) := hr58
  obtain ⟨a3q60, k3q60, a4q60, k4q60, a5q60, k5q60, a6q60, k6q60, rfl, hf61, hf62, hf63, hf64, hf65, hf66, hf67, hf68, hf69, hf70⟩ := wr_open hr58
  have H := H.addN hE57 (F := Rp (Shape.slice msgS) [.slice a55 ((msgsOf (wrOf r to epoch xs k n)).length) c56] (msgsOf (wrOf r to epoch xs k n))) hr59
  have H := H.add (F := Rp (Shape.slice hdrS) [.slice a3q60 ((wrOf r to epoch xs k n).heads.length) k3q60] ((wrOf r to epoch xs k n).heads)) ((H0s.addN hE57 (F := Rp (Shape.slice hdrS) [.slice a3q60 ((wrOf r to epoch xs k n).heads.length) k3q60] ((wrOf r to epoch xs k n).heads)) hf64).rp 0 rfl)
  have H := H.add (F := Rp (Shape.slice SB) [.slice a4q60 ((wrOf r to epoch xs k n).chunks.length) k4q60] ((wrOf r to epoch xs k n).chunks)) ((H0s.addN hE57 (F := Rp (Shape.slice SB) [.slice a4q60 ((wrOf r to epoch xs k n).chunks.length) k4q60] ((wrOf r to epoch xs k n).chunks)) hf65).rp 0 rfl)
  have H := H.add (F := Rp Li [.slice a5q60 ((wrOf r to epoch xs k n).nodes.length) k5q60] ((wrOf r to epoch xs k n).nodes)) ((H0s.addN hE57 (F := Rp Li [.slice a5q60 ((wrOf r to epoch xs k n).nodes.length) k5q60] ((wrOf r to epoch xs k n).nodes)) hf66).rp 0 rfl)
  have H := H.add (F := Rp Li [.slice a6q60 ((wrOf r to epoch xs k n).acks.length) k6q60] ((wrOf r to epoch xs k n).acks)) ((H0s.addN hE57 (F := Rp Li [.slice a6q60 ((wrOf r to epoch xs k n).acks.length) k6q60] ((wrOf r to epoch xs k n).acks)) hf67).rp 0 rfl)
  intro hS
  refine qHP hS 4 [(30, .seq), (31, .qui), (32, .qui)] [(0, .P bp 0), (5, .P b49 0), (44, .agg (wrV (wrOf r to epoch xs k n) a3q60 k3q60 a4q60 k4q60 a5q60 k5q60 a6q60 k6q60).toArray), (45, .slice a55 ((msgsOf (wrOf r to epoch xs k n)).length) c56), (46, .I 0)] ?_
  refine RH.sto ?_
  refine qWC 32 b49 0 [] (.agg (wrV (wrOf r to epoch xs k n) a3q60 k3q60 a4q60 k4q60 a5q60 k5q60 a6q60 k6q60).toArray) [(b49, .cells (wrV (wrOf r to epoch xs k n) a3q60 k3q60 a4q60 k4q60 a5q60 k5q60 a6q60 k6q60).toArray 32 (0, 0)), (b1, .cells (rdV r a06y k06y a3y k3y a4y k4y).toArray 107 (0, 0)), (bp, .cells ((rdV r a06y k06y a3y k3y a4y k4y) ++ ([.slice ta to.length tc, .int .u64 epoch, z0, z1, z2, z3, z4, z5, z6, z7, z8, z9, z10, z11, z12] : List Value)).toArray 154 (0, 0))] H 0 rfl rfl ?_
  intro w72 hch71 H
  have hS73 := hS.sto hch71 (.inl hnb51)
  refine ⟨hS73, ?_⟩
  have hS := hS73
  refine RH.fin hS 2 [0, 5, 6, 7] [(0, .P bp 0), (5, .P b49 0), (6, .slice a55 ((msgsOf (wrOf r to epoch xs k n)).length) c56), (7, .I 0)] (by as_aux_lemma => kernel_rfl) ?_
  refine qR 1 [.c [3, 0], .c [4]] [(0, .P bp 0), (5, .P b49 0), (6, .slice a55 ((msgsOf (wrOf r to epoch xs k n)).length) c56), (7, .I 0)] ?_
  refine WK.drawH1 [bp] (.leaf [(0, .qui), (1, .qui), (2, .qui), (3, .qui), (4, .qui), (5, .qui), (6, .qui), (7, .qui), (8, .seq), (9, .qui), (10, .qui), (11, .qui), (12, .seq), (13, .qui), (14, .qui), (15, .seq)]) Try_mixed (by as_aux_lemma => kernel_rfl) (by as_aux_lemma => kernel_rfl) ?_
  intro w74 hw75
  have H := H.draw
  rw [← hw75] at H
  clear hw75
  have hS := Chg.refl w74 [bp]
  refine RG.leaf' [(0, .qui), (1, .qui), (2, .qui), (3, .qui), (4, .qui), (5, .qui), (6, .qui), (7, .qui), (8, .seq), (9, .qui), (10, .qui), (11, .qui), (12, .seq), (13, .qui), (14, .qui), (15, .seq)] (by as_aux_lemma => kernel_rfl) ?_
  refine qHP hS 3 [(3, .qui), (4, .qui), (5, .qui), (6, .qui), (7, .qui), (8, .seq), (9, .qui), (10, .qui), (11, .qui), (12, .seq), (13, .qui), (14, .qui), (15, .seq)] [(0, .P bp 0), (5, .P b49 0), (6, .slice a55 ((msgsOf (wrOf r to epoch xs k n)).length) c56), (7, .I 0), (47, .P bp 0), (48, .P bp 0), (49, .P bp 0)] ?_
  refine qHL 50 [(4, .qui), (5, .qui), (6, .qui), (7, .qui), (8, .seq), (9, .qui), (10, .qui), (11, .qui), (12, .seq), (13, .qui), (14, .qui), (15, .seq)] 32 b49 0 0 (.agg (wrV (wrOf r to epoch xs k n) a3q60 k3q60 a4q60 k4q60 a5q60 k5q60 a6q60 k6q60).toArray) hS (H.cells 0 rfl) (nq1 (H.raws 0 2 rfl rfl (by decide))) ?_
  refine qHP hS 4 [(8, .seq), (9, .qui), (10, .qui), (11, .qui), (12, .seq), (13, .qui), (14, .qui), (15, .seq)] [(0, .P bp 0), (7, .I 0), (48, .P bp 0), (49, .P bp 0), (50, .agg (wrV (wrOf r to epoch xs k n) a3q60 k3q60 a4q60 k4q60 a5q60 k5q60 a6q60 k6q60).toArray), (51, .slice a55 ((msgsOf (wrOf r to epoch xs k n)).length) c56), (54, .P bp 26)] ?_
  have Hr := H
  refine RH.sto ?_
  refine qWC 4 bp 26 [] (.bool true) [(b49, .cells (wrV (wrOf r to epoch xs k n) a3q60 k3q60 a4q60 k4q60 a5q60 k5q60 a6q60 k6q60).toArray 32 (0, 0)), (b1, .cells (rdV r a06y k06y a3y k3y a4y k4y).toArray 107 (0, 0)), (bp, .cells ((rdV r a06y k06y a3y k3y a4y k4y) ++ ([.slice ta to.length tc, .int .u64 epoch, z0, z1, z2, z3, z4, z5, z6, z7, z8, z9, .bool true, z11, z12] : List Value)).toArray 154 (0, 0))] H 2 rfl rfl ?_
  intro w77 hch76 H
  have hS78 := hS.sto hch76 (.inr (by simp))
  refine ⟨hS78, ?_⟩
  have hS := hS78
  refine qHP hS 3 [(12, .seq), (13, .qui), (14, .qui), (15, .seq)] [(0, .P bp 0), (7, .I 0), (49, .P bp 0), (50, .agg (wrV (wrOf r to epoch xs k n) a3q60 k3q60 a4q60 k4q60 a5q60 k5q60 a6q60 k6q60).toArray), (51, .slice a55 ((msgsOf (wrOf r to epoch xs k n)).length) c56), (57, .P bp 16)] ?_
  refine RH.sto ?_
  refine qWC 32 bp 16 [] (.agg (wrV (wrOf r to epoch xs k n) a3q60 k3q60 a4q60 k4q60 a5q60 k5q60 a6q60 k6q60).toArray) [(b49, .cells (wrV (wrOf r to epoch xs k n) a3q60 k3q60 a4q60 k4q60 a5q60 k5q60 a6q60 k6q60).toArray 32 (0, 0)), (b1, .cells (rdV r a06y k06y a3y k3y a4y k4y).toArray 107 (0, 0)), (bp, .cells ((rdV r a06y k06y a3y k3y a4y k4y) ++ ([.slice ta to.length tc, .int .u64 epoch] : List Value) ++ (wrV (wrOf r to epoch xs k n) a3q60 k3q60 a4q60 k4q60 a5q60 k5q60 a6q60 k6q60) ++ ([.bool true, z11, z12] : List Value)).toArray 154 (0, 0))] H 2 rfl rfl ?_
  intro w80 hch79 H
  have hS81 := hS.sto hch79 (.inr (by simp))
  refine ⟨hS81, ?_⟩
  have hS := hS81
  refine qHP hS 2 [(15, .seq)] [(0, .P bp 0), (7, .I 0), (51, .slice a55 ((msgsOf (wrOf r to epoch xs k n)).length) c56), (59, .P bp 28)] ?_
  refine RH.sto ?_
  refine qWC 33 bp 28 [] (.slice a55 ((msgsOf (wrOf r to epoch xs k n)).length) c56) [(b49, .cells (wrV (wrOf r to epoch xs k n) a3q60 k3q60 a4q60 k4q60 a5q60 k5q60 a6q60 k6q60).toArray 32 (0, 0)), (b1, .cells (rdV r a06y k06y a3y k3y a4y k4y).toArray 107 (0, 0)), (bp, .cells ((rdV r a06y k06y a3y k3y a4y k4y) ++ ([.slice ta to.length tc, .int .u64 epoch] : List Value) ++ (wrV (wrOf r to epoch xs k n) a3q60 k3q60 a4q60 k4q60 a5q60 k5q60 a6q60 k6q60) ++ ([.bool true, z11, .slice a55 ((msgsOf (wrOf r to epoch xs k n)).length) c56] : List Value)).toArray 154 (0, 0))] H 2 rfl rfl ?_
  intro w83 hch82 H
  have hS84 := hS.sto hch82 (.inr (by simp))
  refine ⟨hS84, ?_⟩
  have hS := hS84
  refine RH.fin hS 0 [0, 7] [(0, .P bp 0), (7, .I 0)] (by as_aux_lemma => kernel_rfl) ?_
  refine qR 4 [] [] ?_
  refine WK.fin (v := .tuple #[]) Try.func87 (by as_aux_lemma => kernel_rfl) ?_
  have H := H.frontM 2 (M' := [(bp, .cells ((rdV r a06y k06y a3y k3y a4y k4y) ++ ([.slice ta to.length tc, .int .u64 epoch] : List Value) ++ (wrV (wrOf r to epoch xs k n) a3q60 k3q60 a4q60 k4q60 a5q60 k5q60 a6q60 k6q60) ++ ([.bool true, z11, .slice a55 ((msgsOf (wrOf r to epoch xs k n)).length) c56] : List Value)).toArray 154 (0, 0)), (b49, .cells (wrV (wrOf r to epoch xs k n) a3q60 k3q60 a4q60 k4q60 a5q60 k5q60 a6q60 k6q60).toArray 32 (0, 0)), (b1, .cells (rdV r a06y k06y a3y k3y a4y k4y).toArray 107 (0, 0))]) rfl
  have H := H.drop (M' := [(bp, .cells ((rdV r a06y k06y a3y k3y a4y k4y) ++ ([.slice ta to.length tc, .int .u64 epoch] : List Value) ++ (wrV (wrOf r to epoch xs k n) a3q60 k3q60 a4q60 k4q60 a5q60 k5q60 a6q60 k6q60) ++ ([.bool true, z11, .slice a55 ((msgsOf (wrOf r to epoch xs k n)).length) c56] : List Value)).toArray 154 (0, 0))]) (W' := []) (by repeat (first | exact List.Sublist.refl _ | exact List.nil_sublist _ | apply List.Sublist.cons_cons | apply List.Sublist.cons)) (List.nil_sublist _)
  exact ⟨_, rfl, rfl, a3q60, k3q60, a4q60, k4q60, a5q60, k5q60, a6q60, k6q60, a55, c56, H.pick [3, 2, 1, 0, 4] rfl⟩
def mstepR (s : Shf) (frm : Int) (hd : Hdr) (dt : List (BitVec 8)) (ok : Bool) : Shf := { s with read := gotR s.read frm hd dt ok, done := if (gotR s.read frm hd dt ok).done = 2 then (gotR s.read frm hd dt ok).done else s.done }
def mdoneR (s : Shf) (frm : Int) (hd : Hdr) (dt : List (BitVec 8)) (ok : Bool) (xs : List (BitVec 8)) (k n : Nat) : Shf := { mstepR s frm hd dt ok with write := wrOf (gotR s.read frm hd dt ok) s.to s.epoch xs k n, ready := true }
def mgotR (s : Shf) (frm : Int) (hd : Hdr) (dt : List (BitVec 8)) (ok : Bool) (xs : List (BitVec 8)) (k n : Nat) : Shf := if (gotR s.read frm hd dt ok).done = 1 then mdoneR s frm hd dt ok xs k n else mstepR s frm hd dt ok
def mgotL (s : Shf) (frm : Int) (hd : Hdr) (dt : List (BitVec 8)) (ok : Bool) (xs : List (BitVec 8)) (k n : Nat) : List Msg := if (gotR s.read frm hd dt ok).done = 1 then msgsOf (mdoneR s frm hd dt ok xs k n).write else []
set_option maxHeartbeats 4000000 in
theorem mgot_any {S : Nat → Prop} {w : World} {s : Shf} {cs : List Value} (hs : shfS.rep S w cs s) {xs : List (BitVec 8)} {k n : Nat} (hR : RdOf xs k n s.read) (hd0 : s.done = 0) (hy0 : s.ready = false) (frm : Int) (hd : Hdr) (ok : Bool) {dt : List (BitVec 8)} {ad : Option Addr} {ce : Nat} (hdt : SB.rep S w [.slice ad dt.length ce] dt) (x2 x3 x4 x5 x6 x7 x9 x10 x11 x12 x21 x22 x23 x24 x25 x26 : Value) (hbl : s.read.bad.length ≤ 1000000) (hdl : dt.length ≤ 1000000) (hgood : ∀ i : Nat, hitR s.read frm hd i = true → goodR s.read i hd dt ok → dt = rowAt (enc xs k n) i) (hrd0 : s.read.done = 0) (hto : s.to.length = n) (hlim : 1 ≤ s.read.limit ∧ s.read.limit ≤ 100000) :
 Calls Try.prog 54 #[.agg cs.toArray, .agg #[.I 15, .I frm, x2, x3, x4, x5, x6, x7, .bool ok, x9, x10, x11, x12, .int .u64 hd.id.version, .I hd.id.index, .int .u64 hd.id.epoch, .I hd.kk, .I hd.nn, .I hd.size, .int .u32 ((hd.sum.toNat : Nat) : Int), .slice ad dt.length ce, x21, x22, x23, x24, x25, x26]] w (Ret fun v w' => Ext w w' ∧ ∃ (ds : List Value) (a : Option Addr) (c : Nat) (s2 : Shf) (L : List Msg), v = .tuple #[.agg ds.toArray, .slice a L.length c, .I s2.done] ∧ shfS.rep (Nw S w) w' ds s2 ∧ (Shape.slice msgS).rep (Nw S w) w' [.slice a L.length c] L ∧ s2 = mgotR s frm hd dt ok xs k n ∧ L = mgotL s frm hd dt ok xs k n) := by
 obtain ⟨cs0s, a1s, k1s, cs3s, rfl, h0s, h1s, h2s, h3s, h5s⟩ := shf_open hs
 obtain ⟨cs0sread, a3sR, k3sR, a4sR, k4sR, rfl, h0sR, h1sR, h2sR, h3sR, h4sR, h5sR, h6sR, h7sR⟩ := rd_open h0s
 obtain ⟨a6sO, k6sO, rfl, h0sO, h1sO, h2sO, h4sO, h5sO, h6sO⟩ := obj_open h0sR
 obtain ⟨a3sW, k3sW, a4sW, k4sW, a5sW, k5sW, a6sW, k6sW, rfl, h0sW, h1sW, h2sW, h3sW, h4sW, h5sW, h6sW, h7sW, h8sW, h9sW⟩ := wr_open h3s
 refine qS (fn := Try.f54) (n := 75) (σ := [(0, .agg (shfV s a6sO k6sO a3sR k3sR a4sR k4sR a1s k1s a3sW k3sW a4sW k4sW a5sW k5sW a6sW k6sW).toArray), (1, .agg #[.I 15, .I frm, x2, x3, x4, x5, x6, x7, .bool ok, x9, x10, x11, x12, .int .u64 hd.id.version, .I hd.id.index, .int .u64 hd.id.epoch, .I hd.kk, .I hd.nn, .I hd.size, .int .u32 ((hd.sum.toNat : Nat) : Int), .slice ad dt.length ce, x21, x22, x23, x24, x25, x26])]) Try.func54 ?_
 have H := Hp.startF (w := w) (S := S) (G := [Rp Li [.slice a6sO s.read.object.nodes.length k6sO] s.read.object.nodes, Rp (Shape.slice pcS) [.slice a3sR s.read.pieces.length k3sR] s.read.pieces, Rp Li [.slice a4sR s.read.bad.length k4sR] s.read.bad, Rp Li [.slice a1s s.to.length k1s] s.to, Rp (Shape.slice hdrS) [.slice a3sW s.write.heads.length k3sW] s.write.heads, Rp (Shape.slice SB) [.slice a4sW s.write.chunks.length k4sW] s.write.chunks, Rp Li [.slice a5sW s.write.nodes.length k5sW] s.write.nodes, Rp Li [.slice a6sW s.write.acks.length k6sW] s.write.acks, Rp SB [.slice ad dt.length ce] dt]) (.rp h6sO (.rp h3sR (.rp h4sR (.rp h1s (.rp h3sW (.rp h4sW (.rp h5sW (.rp h6sW (.rp hdt .nil)))))))))
 refine qR 1 [.c [0], .c [1]] [(0, .agg (shfV s a6sO k6sO a3sR k3sR a4sR k4sR a1s k1s a3sW k3sW a4sW k4sW a5sW k5sW a6sW k6sW).toArray), (1, .agg #[.I 15, .I frm, x2, x3, x4, x5, x6, x7, .bool ok, x9, x10, x11, x12, .int .u64 hd.id.version, .I hd.id.index, .int .u64 hd.id.epoch, .I hd.kk, .I hd.nn, .I hd.size, .int .u32 ((hd.sum.toNat : Nat) : Int), .slice ad dt.length ce, x21, x22, x23, x24, x25, x26])] ?_
 refine qG (sq 0 5) ?_
 refine qB .seq 2 (sq 1 5) ((shfV s a6sO k6sO a3sR k3sR a4sR k4sR a1s k1s a3sW k3sW a4sW k4sW a5sW k5sW a6sW k6sW).toArray) 118 H ?_
 intro b1 w2 H
 refine qB .seq 3 (sq 2 5) #[.I 15, .I frm, x2, x3, x4, x5, x6, x7, .bool ok, x9, x10, x11, x12, .int .u64 hd.id.version, .I hd.id.index, .int .u64 hd.id.epoch, .I hd.kk, .I hd.nn, .I hd.size, .int .u32 ((hd.sum.toNat : Nat) : Int), .slice ad dt.length ce, x21, x22, x23, x24, x25, x26] 57 H ?_
 intro b3 w4 H
 refine qB .seq 4 (sq 3 5) ((shfZ).toArray) 118 H ?_
 intro b5 w6 H
 refine qF 2 [(2, .P b1 0), (3, .P b3 0), (4, .P b5 0)] ?_
 refine qR 1 [.c [1, 0], .c [2]] [(2, .P b1 0), (3, .P b3 0), (4, .P b5 0)] ?_
 refine qG (sq 0 4) ?_
 refine qL .seq 10 (sq 1 4) 118 b1 0 0 (.agg (shfV s a6sO k6sO a3sR k3sR a4sR k4sR a1s k1s a3sW k3sW a4sW k4sW a5sW k5sW a6sW k6sW).toArray) (H.cells 2 rfl) ?_
 refine qP 1 (sq 2 4) [(3, .P b3 0), (4, .P b5 0), (11, .agg ((rdV s.read a6sO k6sO a3sR k3sR a4sR k4sR) ++ ([.slice a1s s.to.length k1s, .int .u64 s.epoch] : List Value) ++ (wrV s.write a3sW k3sW a4sW k4sW a5sW k5sW a6sW k6sW) ++ ([.bool s.ready, .I s.done, .slice none 0 0] : List Value)).toArray)] ?_
 refine qB .seq 12 (sq 3 4) (((rdV s.read a6sO k6sO a3sR k3sR a4sR k4sR) ++ ([.slice a1s s.to.length k1s, .int .u64 s.epoch] : List Value) ++ (wrV s.write a3sW k3sW a4sW k4sW a5sW k5sW a6sW k6sW) ++ ([.bool s.ready, .I s.done, .slice none 0 0] : List Value)).toArray) 154 H ?_
 intro b7 w8 H
 refine qF 1 [(3, .P b3 0), (4, .P b5 0), (7, .P b7 0)] ?_
 refine qR 3 [.c [2, 0, 0, 0], .c [2, 0, 0, 1], .b 0, .c [3]] [(3, .P b3 0), (4, .P b5 0), (7, .P b7 0)] ?_
 refine qG (sq 0 7) ?_
 refine qP 4 (sq 4 7) [(3, .P b3 0), (4, .P b5 0), (7, .P b7 0), (35, .P b7 27)] ?_
 refine qL .seq 36 (sq 5 7) 30 b7 27 27 (.I s.done) (H.cells 0 rfl) ?_
 refine qF 2 [(3, .P b3 0), (4, .P b5 0), (7, .P b7 0), (31, .bool (s.done != 0))] ?_
 refine qN s.done 0 (fun h9 => ?_) (fun h9 => ?_)
 ·
  exact absurd hd0 h9
 ·
  refine qR 1 [.c [2, 0, 0, 1, 1, 0], .c [2, 0, 0, 1, 1, 1], .b 0, .c [3]] [(3, .P b3 0), (4, .P b5 0), (7, .P b7 0)] ?_
  refine qG (sq 0 6) ?_
  refine qP 4 (sq 4 6) [(3, .P b3 0), (4, .P b5 0), (7, .P b7 0), (42, .P b7 26)] ?_
  refine qL .seq 43 (sq 5 6) 4 b7 26 26 (.bool s.ready) (H.cells 0 rfl) ?_
  refine qF 1 [(3, .P b3 0), (4, .P b5 0), (7, .P b7 0), (38, .bool s.ready)] ?_
  refine qC s.ready (fun h10 => ?_) (fun h10 => ?_)
  ·
   exact absurd (hy0.symm.trans h10) (by decide)
  ·
   refine qR 1 [.c [2, 0, 0, 1, 1, 1, 1, 0], .c [2, 0, 0, 1, 1, 1, 1, 1], .b 0, .c [3]] [(3, .P b3 0), (4, .P b5 0), (7, .P b7 0)] ?_
   refine WK.joinV (α := Nat × Rd × Option Addr × Nat × Option Addr × Nat × Option Addr × Nat) (fun x_ w_ => match x_ with | (bj, Dj, a06j, k06j, a3j, k3j, a4j, k4j) => Hp w S [] [(bj, .cells (rdV Dj a06j k06j a3j k3j a4j k4j).toArray 107 (0, 0)), (b7, .cells ((rdV s.read a6sO k6sO a3sR k3sR a4sR k4sR) ++ ([.slice a1s s.to.length k1s, .int .u64 s.epoch] : List Value) ++ (wrV s.write a3sW k3sW a4sW k4sW a5sW k5sW a6sW k6sW) ++ ([.bool s.ready, .I s.done, .slice none 0 0] : List Value)).toArray 154 (0, 0)), (b5, .cells (shfZ).toArray 118 (0, 0)), (b3, .cells #[.I 15, .I frm, x2, x3, x4, x5, x6, x7, .bool ok, x9, x10, x11, x12, .int .u64 hd.id.version, .I hd.id.index, .int .u64 hd.id.epoch, .I hd.kk, .I hd.nn, .I hd.size, .int .u32 ((hd.sum.toNat : Nat) : Int), .slice ad dt.length ce, x21, x22, x23, x24, x25, x26] 57 (0, 0)), (b1, .cells (shfV s a6sO k6sO a3sR k3sR a4sR k4sR a1s k1s a3sW k3sW a4sW k4sW a5sW k5sW a6sW k6sW).toArray 118 (0, 0))] [] [Rp Li [.slice a06j Dj.object.nodes.length k06j] Dj.object.nodes, Rp (Shape.slice pcS) [.slice a3j Dj.pieces.length k3j] Dj.pieces, Rp Li [.slice a4j Dj.bad.length k4j] Dj.bad, Rp Li [.slice a6sO s.read.object.nodes.length k6sO] s.read.object.nodes, Rp (Shape.slice pcS) [.slice a3sR s.read.pieces.length k3sR] s.read.pieces, Rp Li [.slice a4sR s.read.bad.length k4sR] s.read.bad, Rp Li [.slice a1s s.to.length k1s] s.to, Rp (Shape.slice hdrS) [.slice a3sW s.write.heads.length k3sW] s.write.heads, Rp (Shape.slice SB) [.slice a4sW s.write.chunks.length k4sW] s.write.chunks, Rp Li [.slice a5sW s.write.nodes.length k5sW] s.write.nodes, Rp Li [.slice a6sW s.write.acks.length k6sW] s.write.acks, Rp SB [.slice ad dt.length ce] dt] w_ ∧ (Dj = gotR s.read frm hd dt ok) ∧ RdOf xs k n Dj ∧ rdB Dj) (fun x_ => match x_ with | (bj, Dj, a06j, k06j, a3j, k3j, a4j, k4j) => [(4, .P b5 0), (7, .P b7 0), (8, .P bj 0), (9, .I Dj.done)]) [Cq Try.prog 54 [2, 0, 0, 1, 1, 1, 1, 1], .inBlock 0, Cq Try.prog 54 [3]] (fun hJ11 => ?_) ?_
   ·
    refine WK.drawH1 [] (.node (qs [0, 1, 2, 3, 4, 5]) (.cons 6 (.leaf [(7, .qui), (8, .qui), (9, .qui), (10, .seq), (11, .seq), (12, .qui)]) (.cons 10 (.leaf [(6, .seq), (7, .qui), (8, .qui), (9, .qui), (11, .seq), (12, .qui)]) .nil))) Try_mixed (by as_aux_lemma => kernel_rfl) (by as_aux_lemma => kernel_rfl) ?_
    intro w13 hw14
    have H := H.draw
    rw [← hw14] at H
    clear hw14
    have hS := Chg.refl w13 []
    refine RG.node' (qs [0, 1, 2, 3, 4, 5]) (by as_aux_lemma => kernel_rfl) ?_
    refine qHP hS 4 (qs [4, 5]) [(3, .P b3 0), (4, .P b5 0), (7, .P b7 0), (17, .P b7 0)] ?_
    refine qHL 18 [(5, .qui)] 107 b7 0 0 (.agg (rdV s.read a6sO k6sO a3sR k3sR a4sR k4sR).toArray) hS (H.cells 0 rfl) (by simp) ?_
    refine qHL 19 [] 57 b3 0 0 (.agg #[.I 15, .I frm, x2, x3, x4, x5, x6, x7, .bool ok, x9, x10, x11, x12, .int .u64 hd.id.version, .I hd.id.index, .int .u64 hd.id.epoch, .I hd.kk, .I hd.nn, .I hd.size, .int .u32 ((hd.sum.toNat : Nat) : Int), .slice ad dt.length ce, x21, x22, x23, x24, x25, x26]) hS (H.cells 2 rfl) (by simp) ?_
    refine RH.finB hS 0 [4, 7, 18, 19] [(4, .P b5 0), (7, .P b7 0), (18, .agg (rdV s.read a6sO k6sO a3sR k3sR a4sR k4sR).toArray), (19, .agg #[.I 15, .I frm, x2, x3, x4, x5, x6, x7, .bool ok, x9, x10, x11, x12, .int .u64 hd.id.version, .I hd.id.index, .int .u64 hd.id.epoch, .I hd.kk, .I hd.nn, .I hd.size, .int .u32 ((hd.sum.toNat : Nat) : Int), .slice ad dt.length ce, x21, x22, x23, x24, x25, x26])] (by as_aux_lemma => kernel_rfl) ?_
    refine (RGB.cons' ?_ (RGB.cons' ?_ RGB.nil'))
    ·
     refine RG.leaf' [(6, .seq), (7, .qui), (8, .qui), (9, .qui), (10, .seq), (11, .seq), (12, .qui)] (by as_aux_lemma => kernel_rfl) ?_
     have Hr := H
     refine RH.chn hS ?_
     have hgo18 : ∀ i : Nat, hitR s.read frm hd i = true → goodR s.read i hd dt ok → dt = rowAt (enc xs k n) i := hgood
     refine qK .chn (some 20) [] 48 #[.agg (rdV s.read a6sO k6sO a3sR k3sR a4sR k4sR).toArray, .agg #[.I 15, .I frm, x2, x3, x4, x5, x6, x7, .bool ok, x9, x10, x11, x12, .int .u64 hd.id.version, .I hd.id.index, .int .u64 hd.id.epoch, .I hd.kk, .I hd.nn, .I hd.size, .int .u32 ((hd.sum.toNat : Nat) : Int), .slice ad dt.length ce, x21, x22, x23, x24, x25, x26]] (fgot_spec (r := s.read) (rd_mkB (by unfold rdB; omega) (H.rp 0 rfl) (H.rp 1 rfl) (H.rp 2 rfl)) (hR) frm hd ok (dt := dt) (H.rp 8 rfl) x2 x3 x4 x5 x6 x7 x9 x10 x11 x12 x21 x22 x23 x24 x25 x26 (hbl) (hdl) hgo18) ?_
     rintro _ w16 hE17 ⟨cs19, D20, rfl, hr21, hlaw22⟩
     have H0s := H
     obtain ⟨cs0q23, a3q23, k3q23, a4q23, k4q23, rfl, hf24, hf25, hf26, hf27, hf28, hf29, hf30, hf31⟩ := rd_open hr21
     obtain ⟨a6q32, k6q32, rfl, hf33, hf34, hf35, hf36, hf37, hf38⟩ := obj_open hf24
     have H := H.addN hE17 (F := Rp Li [.slice a6q32 D20.object.nodes.length k6q32] D20.object.nodes) hf38
     have H := H.add (F := Rp (Shape.slice pcS) [.slice a3q23 D20.pieces.length k3q23] D20.pieces) ((H0s.addN hE17 (F := Rp (Shape.slice pcS) [.slice a3q23 D20.pieces.length k3q23] D20.pieces) hf27).rp 0 rfl)
     have H := H.add (F := Rp Li [.slice a4q23 D20.bad.length k4q23] D20.bad) ((H0s.addN hE17 (F := Rp Li [.slice a4q23 D20.bad.length k4q23] D20.bad) hf28).rp 0 rfl)
     have hRD20 : RdOf xs k n D20 := hlaw22 ▸ RdOf.got (hR) hgo18
     have hBD20 : D20.bad.length ≤ s.read.bad.length + 1 := hlaw22 ▸ got_bad_le
     intro hS
     refine qHP hS 3 [(10, .seq), (11, .seq), (12, .qui)] [(4, .P b5 0), (7, .P b7 0), (21, .agg (rdV D20 a6q32 k6q32 a3q23 k3q23 a4q23 k4q23).toArray), (22, .I D20.done)] ?_
     refine RH.chn hS ?_
     refine RW.newC (κ := .chn) (d := some 8) (r := []) (o := .cells (rdZ).toArray 107 (0, 0)) (v := fun b => .P b 0) (fun b => by as_aux_lemma => kernel_rfl) (nofun) H ?_
     intro b40 w41 hnw39 H
     have hnb42 := Nat.le_trans hS.size hnw39
     intro hS
     refine RH.sto ?_
     refine qWC 107 b40 0 [] (.agg (rdV D20 a6q32 k6q32 a3q23 k3q23 a4q23 k4q23).toArray) [(b40, .cells (rdV D20 a6q32 k6q32 a3q23 k3q23 a4q23 k4q23).toArray 107 (0, 0)), (b7, .cells ((rdV s.read a6sO k6sO a3sR k3sR a4sR k4sR) ++ ([.slice a1s s.to.length k1s, .int .u64 s.epoch] : List Value) ++ (wrV s.write a3sW k3sW a4sW k4sW a5sW k5sW a6sW k6sW) ++ ([.bool s.ready, .I s.done, .slice none 0 0] : List Value)).toArray 154 (0, 0)), (b5, .cells (shfZ).toArray 118 (0, 0)), (b3, .cells #[.I 15, .I frm, x2, x3, x4, x5, x6, x7, .bool ok, x9, x10, x11, x12, .int .u64 hd.id.version, .I hd.id.index, .int .u64 hd.id.epoch, .I hd.kk, .I hd.nn, .I hd.size, .int .u32 ((hd.sum.toNat : Nat) : Int), .slice ad dt.length ce, x21, x22, x23, x24, x25, x26] 57 (0, 0)), (b1, .cells (shfV s a6sO k6sO a3sR k3sR a4sR k4sR a1s k1s a3sW k3sW a4sW k4sW a5sW k5sW a6sW k6sW).toArray 118 (0, 0))] H 0 rfl rfl ?_
     intro w44 hch43 H
     have hS45 := hS.sto hch43 (.inl hnb42)
     refine ⟨hS45, ?_⟩
     have hS := hS45
     refine RH.fin hS 1 [4, 7, 8, 9] [(4, .P b5 0), (7, .P b7 0), (8, .P b40 0), (9, .I D20.done)] (by as_aux_lemma => kernel_rfl) ?_
     have H := H.pick [2, 1, 0, 3, 4, 5, 6, 7, 8, 9, 10, 11] rfl
     exact hJ11 (b40, D20, a6q32, k6q32, a3q23, k3q23, a4q23, k4q23) _ ⟨H, hlaw22, hRD20, (by unfold rdB; omega)⟩
    ·
     refine RG.leaf' [(10, .seq), (6, .seq), (7, .qui), (8, .qui), (9, .qui), (11, .seq), (12, .qui)] (by as_aux_lemma => kernel_rfl) ?_
     have Hr := H
     refine RH.chn hS ?_
     refine RW.newC (κ := .chn) (d := some 8) (r := []) (o := .cells (rdZ).toArray 107 (0, 0)) (v := fun b => .P b 0) (fun b => by as_aux_lemma => kernel_rfl) (nofun) H ?_
     intro b47 w48 hnw46 H
     have hnb49 := Nat.le_trans hS.size hnw46
     intro hS
     refine RH.chn hS ?_
     have hgo53 : ∀ i : Nat, hitR s.read frm hd i = true → goodR s.read i hd dt ok → dt = rowAt (enc xs k n) i := hgood
     refine qK .chn (some 20) [] 48 #[.agg (rdV s.read a6sO k6sO a3sR k3sR a4sR k4sR).toArray, .agg #[.I 15, .I frm, x2, x3, x4, x5, x6, x7, .bool ok, x9, x10, x11, x12, .int .u64 hd.id.version, .I hd.id.index, .int .u64 hd.id.epoch, .I hd.kk, .I hd.nn, .I hd.size, .int .u32 ((hd.sum.toNat : Nat) : Int), .slice ad dt.length ce, x21, x22, x23, x24, x25, x26]] (fgot_spec (r := s.read) (rd_mkB (by unfold rdB; omega) (H.rp 0 rfl) (H.rp 1 rfl) (H.rp 2 rfl)) (hR) frm hd ok (dt := dt) (H.rp 8 rfl) x2 x3 x4 x5 x6 x7 x9 x10 x11 x12 x21 x22 x23 x24 x25 x26 (hbl) (hdl) hgo53) ?_
     rintro _ w51 hE52 ⟨cs54, D55, rfl, hr56, hlaw57⟩
     have H0s := H
     obtain ⟨cs0q58, a3q58, k3q58, a4q58, k4q58, rfl, hf59, hf60, hf61, hf62, hf63, hf64, hf65, hf66⟩ := rd_open hr56
     obtain ⟨a6q67, k6q67, rfl, hf68, hf69, hf70, hf71, hf72, hf73⟩ := obj_open hf59
     have H := H.addN hE52 (F := Rp Li [.slice a6q67 D55.object.nodes.length k6q67] D55.object.nodes) hf73
     have H := H.add (F := Rp (Shape.slice pcS) [.slice a3q58 D55.pieces.length k3q58] D55.pieces) ((H0s.addN hE52 (F := Rp (Shape.slice pcS) [.slice a3q58 D55.pieces.length k3q58] D55.pieces) hf62).rp 0 rfl)
     have H := H.add (F := Rp Li [.slice a4q58 D55.bad.length k4q58] D55.bad) ((H0s.addN hE52 (F := Rp Li [.slice a4q58 D55.bad.length k4q58] D55.bad) hf63).rp 0 rfl)
     have hRD55 : RdOf xs k n D55 := hlaw57 ▸ RdOf.got (hR) hgo53
     have hBD55 : D55.bad.length ≤ s.read.bad.length + 1 := hlaw57 ▸ got_bad_le
     intro hS
     refine qHP hS 3 [(11, .seq), (12, .qui)] [(4, .P b5 0), (7, .P b7 0), (8, .P b47 0), (21, .agg (rdV D55 a6q67 k6q67 a3q58 k3q58 a4q58 k4q58).toArray), (22, .I D55.done)] ?_
     refine RH.sto ?_
     refine qWC 107 b47 0 [] (.agg (rdV D55 a6q67 k6q67 a3q58 k3q58 a4q58 k4q58).toArray) [(b47, .cells (rdV D55 a6q67 k6q67 a3q58 k3q58 a4q58 k4q58).toArray 107 (0, 0)), (b7, .cells ((rdV s.read a6sO k6sO a3sR k3sR a4sR k4sR) ++ ([.slice a1s s.to.length k1s, .int .u64 s.epoch] : List Value) ++ (wrV s.write a3sW k3sW a4sW k4sW a5sW k5sW a6sW k6sW) ++ ([.bool s.ready, .I s.done, .slice none 0 0] : List Value)).toArray 154 (0, 0)), (b5, .cells (shfZ).toArray 118 (0, 0)), (b3, .cells #[.I 15, .I frm, x2, x3, x4, x5, x6, x7, .bool ok, x9, x10, x11, x12, .int .u64 hd.id.version, .I hd.id.index, .int .u64 hd.id.epoch, .I hd.kk, .I hd.nn, .I hd.size, .int .u32 ((hd.sum.toNat : Nat) : Int), .slice ad dt.length ce, x21, x22, x23, x24, x25, x26] 57 (0, 0)), (b1, .cells (shfV s a6sO k6sO a3sR k3sR a4sR k4sR a1s k1s a3sW k3sW a4sW k4sW a5sW k5sW a6sW k6sW).toArray 118 (0, 0))] H 0 rfl rfl ?_
     intro w75 hch74 H
     have hS76 := hS.sto hch74 (.inl hnb49)
     refine ⟨hS76, ?_⟩
     have hS := hS76
     refine RH.fin hS 1 [4, 7, 8, 9] [(4, .P b5 0), (7, .P b7 0), (8, .P b47 0), (9, .I D55.done)] (by as_aux_lemma => kernel_rfl) ?_
     have H := H.pick [2, 1, 0, 3, 4, 5, 6, 7, 8, 9, 10, 11] rfl
     exact hJ11 (b47, D55, a6q67, k6q67, a3q58, k3q58, a4q58, k4q58) _ ⟨H, hlaw57, hRD55, (by unfold rdB; omega)⟩
   ·
    rintro ⟨bj, Dj, a06j, k06j, a3j, k3j, a4j, k4j⟩ w12 ⟨H, hij⟩
    obtain ⟨hlj, hRDj, hBDj⟩ := hij
    have hBj := hBDj
    unfold rdB at hBj
    have hsj := hBj.1
    refine qR 1 [.c [2, 0, 0, 1, 1, 1, 1, 1, 0], .c [2, 0, 0, 1, 1, 1, 1, 2], .b 0, .c [3]] [(4, .P b5 0), (7, .P b7 0), (8, .P bj 0), (9, .I Dj.done)] ?_
    refine qG (sq 0 4) ?_
    refine qP 1 (sq 1 4) [(4, .P b5 0), (7, .P b7 0), (8, .P bj 0), (9, .I Dj.done), (23, .P b7 0)] ?_
    refine qL .seq 24 (sq 2 4) 107 bj 0 0 (.agg (rdV Dj a06j k06j a3j k3j a4j k4j).toArray) (H.cells 0 rfl) ?_
    refine qP 1 (sq 3 4) [(4, .P b5 0), (7, .P b7 0), (9, .I Dj.done), (23, .P b7 0), (24, .agg (rdV Dj a06j k06j a3j k3j a4j k4j).toArray), (25, .I Dj.done)] ?_
    have H := H.frontM 1 (M' := [(b7, .cells ((rdV s.read a6sO k6sO a3sR k3sR a4sR k4sR) ++ ([.slice a1s s.to.length k1s, .int .u64 s.epoch] : List Value) ++ (wrV s.write a3sW k3sW a4sW k4sW a5sW k5sW a6sW k6sW) ++ ([.bool s.ready, .I s.done, .slice none 0 0] : List Value)).toArray 154 (0, 0)), (bj, .cells (rdV Dj a06j k06j a3j k3j a4j k4j).toArray 107 (0, 0)), (b5, .cells (shfZ).toArray 118 (0, 0)), (b3, .cells #[.I 15, .I frm, x2, x3, x4, x5, x6, x7, .bool ok, x9, x10, x11, x12, .int .u64 hd.id.version, .I hd.id.index, .int .u64 hd.id.epoch, .I hd.kk, .I hd.nn, .I hd.size, .int .u32 ((hd.sum.toNat : Nat) : Int), .slice ad dt.length ce, x21, x22, x23, x24, x25, x26] 57 (0, 0)), (b1, .cells (shfV s a6sO k6sO a3sR k3sR a4sR k4sR a1s k1s a3sW k3sW a4sW k4sW a5sW k5sW a6sW k6sW).toArray 118 (0, 0))]) rfl
    refine RW.callS (d := some 26) (r := (sq 4 4)) (g := 86) (args := #[.P b7 0, .agg (rdV Dj a06j k06j a3j k3j a4j k4j).toArray, .I Dj.done]) (by as_aux_lemma => kernel_rfl) (gread_spec (.string s.read.object.key) (.int .u64 s.read.object.version) (.I s.read.object.size) (.int .u32 ((s.read.object.sum.toNat : Nat) : Int)) (.I s.read.object.group) (.int .u64 s.read.object.epoch) (.slice a6sO s.read.object.nodes.length k6sO) (.I s.read.kk) (.I s.read.nn) (.slice a3sR s.read.pieces.length k3sR) (.slice a4sR s.read.bad.length k4sR) (.I s.read.waited) (.I s.read.limit) (.I s.read.done) (.slice a1s s.to.length k1s) (.int .u64 s.epoch) (.int .u64 s.write.client) (.int .u64 s.write.seq) (.string s.write.key) (.slice a3sW s.write.heads.length k3sW) (.slice a4sW s.write.chunks.length k4sW) (.slice a5sW s.write.nodes.length k5sW) (.slice a6sW s.write.acks.length k6sW) (.I s.write.waited) (.I s.write.limit) (.I s.write.done) (.bool s.ready) (.slice none 0 0) s.done Dj a06j k06j a3j k3j a4j k4j Dj.done ((H.lend (M1 := [(b7, .cells ((rdV s.read a6sO k6sO a3sR k3sR a4sR k4sR) ++ ([.slice a1s s.to.length k1s, .int .u64 s.epoch] : List Value) ++ (wrV s.write a3sW k3sW a4sW k4sW a5sW k5sW a6sW k6sW) ++ ([.bool s.ready, .I s.done, .slice none 0 0] : List Value)).toArray 154 (0, 0))]) (W1 := [])).pick [] rfl)) ?_
    rintro _ w77 ⟨-, H'⟩
    have H := H.back (M1 := [(b7, .cells ((rdV s.read a6sO k6sO a3sR k3sR a4sR k4sR) ++ ([.slice a1s s.to.length k1s, .int .u64 s.epoch] : List Value) ++ (wrV s.write a3sW k3sW a4sW k4sW a5sW k5sW a6sW k6sW) ++ ([.bool s.ready, .I s.done, .slice none 0 0] : List Value)).toArray 154 (0, 0))]) (W1 := []) H'
    have hdb9 : -9223372036854775808 ≤ (if Dj.done = 2 then Dj.done else s.done : Int) ∧ (if Dj.done = 2 then Dj.done else s.done : Int) ≤ 9223372036854775807 := by split <;> omega
    refine qF 0 [(4, .P b5 0), (7, .P b7 0), (9, .I Dj.done)] ?_
    refine qR 2 [.c [2, 0, 0, 1, 1, 1, 1, 3], .b 0, .c [3]] [(4, .P b5 0), (7, .P b7 0), (28, .bool (Dj.done == 1))] ?_
    refine qE Dj.done 1 (fun h78 => ?_) (fun h78 => ?_)
    ·
     have hv9 := h78
     refine qG (sq 0 2) ?_
     refine qP 1 (sq 1 2) [(4, .P b5 0), (7, .P b7 0), (29, .P b7 0)] ?_
     refine RW.callS (d := some 30) (r := (sq 2 2)) (g := 87) (args := #[.P b7 0]) (by as_aux_lemma => kernel_rfl) (gwrite_spec (r := Dj) (to := s.to) (epoch := s.epoch) (.int .u64 s.write.client) (.int .u64 s.write.seq) (.string s.write.key) (.slice a3sW s.write.heads.length k3sW) (.slice a4sW s.write.chunks.length k4sW) (.slice a5sW s.write.nodes.length k5sW) (.slice a6sW s.write.acks.length k6sW) (.I s.write.waited) (.I s.write.limit) (.I s.write.done) (.bool s.ready) (.I (if Dj.done = 2 then Dj.done else s.done)) (.slice none 0 0) hRDj (by unfold rdB; omega) (by rw [hlj]; exact got_full hR hrd0 (by rw [← hlj]; exact hv9)) hto (by rw [hlj, got_keep.2]; exact hlim) (by omega) ((H.lend (M1 := [(b7, .cells ((rdV Dj a06j k06j a3j k3j a4j k4j) ++ ([.slice a1s s.to.length k1s, .int .u64 s.epoch] : List Value) ++ (wrV s.write a3sW k3sW a4sW k4sW a5sW k5sW a6sW k6sW) ++ ([.bool s.ready, .I (if Dj.done = 2 then Dj.done else s.done), .slice none 0 0] : List Value)).toArray 154 (0, 0))]) (W1 := [])).pick [0, 1, 2, 6] rfl)) ?_
     rintro _ w79 ⟨-, a3q80, k3q80, a4q80, k4q80, a5q80, k5q80, a6q80, k6q80, a81, c82, H'⟩
     have H := H.back (M1 := [(b7, .cells ((rdV Dj a06j k06j a3j k3j a4j k4j) ++ ([.slice a1s s.to.length k1s, .int .u64 s.epoch] : List Value) ++ (wrV s.write a3sW k3sW a4sW k4sW a5sW k5sW a6sW k6sW) ++ ([.bool s.ready, .I (if Dj.done = 2 then Dj.done else s.done), .slice none 0 0] : List Value)).toArray 154 (0, 0))]) (W1 := []) H'
     have hwclient : (wrOf Dj s.to s.epoch xs k n).client = 0 := rfl
     have hwseq : (wrOf Dj s.to s.epoch xs k n).seq = 0 := rfl
     have hwwaited : (wrOf Dj s.to s.epoch xs k n).waited = 0 := rfl
     have hwlimit : (wrOf Dj s.to s.epoch xs k n).limit = Dj.limit := rfl
     have hwdone : (wrOf Dj s.to s.epoch xs k n).done = 0 := rfl
     have hwkey : (wrOf Dj s.to s.epoch xs k n).key.size = Dj.object.key.size := rfl
     refine qF 0 [(4, .P b5 0), (7, .P b7 0)] ?_
     refine qR 2 [.c [3, 0], .c [4]] [(4, .P b5 0), (7, .P b7 0)] ?_
     refine WK.drawH1 [b5] (.leaf [(0, .qui), (1, .qui), (2, .qui), (3, .qui), (4, .qui), (5, .qui), (6, .qui), (7, .qui), (8, .qui), (9, .qui), (10, .qui), (11, .qui), (12, .qui), (13, .seq), (14, .qui), (15, .qui)]) Try_mixed (by as_aux_lemma => kernel_rfl) (by as_aux_lemma => kernel_rfl) ?_
     intro w83 hw84
     have H := H.draw
     rw [← hw84] at H
     clear hw84
     have hS := Chg.refl w83 [b5]
     refine RG.leaf' [(0, .qui), (1, .qui), (2, .qui), (3, .qui), (4, .qui), (5, .qui), (6, .qui), (7, .qui), (8, .qui), (9, .qui), (10, .qui), (11, .qui), (12, .qui), (13, .seq), (14, .qui), (15, .qui)] (by as_aux_lemma => kernel_rfl) ?_
     refine qHP hS 3 [(3, .qui), (4, .qui), (5, .qui), (6, .qui), (7, .qui), (8, .qui), (9, .qui), (10, .qui), (11, .qui), (12, .qui), (13, .seq), (14, .qui), (15, .qui)] [(4, .P b5 0), (7, .P b7 0), (64, .P b7 0)] ?_
     refine qHL 65 [(4, .qui), (5, .qui), (6, .qui), (7, .qui), (8, .qui), (9, .qui), (10, .qui), (11, .qui), (12, .qui), (13, .seq), (14, .qui), (15, .qui)] 118 b7 0 0 (.agg ((rdV Dj a06j k06j a3j k3j a4j k4j) ++ ([.slice a1s s.to.length k1s, .int .u64 s.epoch] : List Value) ++ (wrV (wrOf Dj s.to s.epoch xs k n) a3q80 k3q80 a4q80 k4q80 a5q80 k5q80 a6q80 k6q80) ++ ([.bool true, .I (if Dj.done = 2 then Dj.done else s.done)] : List Value)).toArray) hS (H.cells 0 rfl) (nq1 (H.raws 0 2 rfl rfl (by decide))) ?_
     refine qHP hS 3 [(7, .qui), (8, .qui), (9, .qui), (10, .qui), (11, .qui), (12, .qui), (13, .seq), (14, .qui), (15, .qui)] [(4, .P b5 0), (7, .P b7 0), (65, .agg ((rdV Dj a06j k06j a3j k3j a4j k4j) ++ ([.slice a1s s.to.length k1s, .int .u64 s.epoch] : List Value) ++ (wrV (wrOf Dj s.to s.epoch xs k n) a3q80 k3q80 a4q80 k4q80 a5q80 k5q80 a6q80 k6q80) ++ ([.bool true, .I (if Dj.done = 2 then Dj.done else s.done)] : List Value)).toArray), (68, .P b7 28)] ?_
     refine qHL 69 [(8, .qui), (9, .qui), (10, .qui), (11, .qui), (12, .qui), (13, .seq), (14, .qui), (15, .qui)] 33 b7 28 28 (.slice a81 ((msgsOf (wrOf Dj s.to s.epoch xs k n)).length) c82) hS (H.cells 0 rfl) (nq1 (H.raws 0 2 rfl rfl (by decide))) ?_
     refine qHP hS 4 [(12, .qui), (13, .seq), (14, .qui), (15, .qui)] [(4, .P b5 0), (65, .agg ((rdV Dj a06j k06j a3j k3j a4j k4j) ++ ([.slice a1s s.to.length k1s, .int .u64 s.epoch] : List Value) ++ (wrV (wrOf Dj s.to s.epoch xs k n) a3q80 k3q80 a4q80 k4q80 a5q80 k5q80 a6q80 k6q80) ++ ([.bool true, .I (if Dj.done = 2 then Dj.done else s.done)] : List Value)).toArray), (69, .slice a81 ((msgsOf (wrOf Dj s.to s.epoch xs k n)).length) c82), (73, .P b7 27)] ?_
     refine qHL 74 [(13, .seq), (14, .qui), (15, .qui)] 30 b7 27 27 (.I (if Dj.done = 2 then Dj.done else s.done)) hS (H.cells 0 rfl) (nq1 (H.raws 0 2 rfl rfl (by decide))) ?_
     have Hr := H
     refine RH.sto ?_
     refine qWC 118 b5 0 [] (.agg ((rdV Dj a06j k06j a3j k3j a4j k4j) ++ ([.slice a1s s.to.length k1s, .int .u64 s.epoch] : List Value) ++ (wrV (wrOf Dj s.to s.epoch xs k n) a3q80 k3q80 a4q80 k4q80 a5q80 k5q80 a6q80 k6q80) ++ ([.bool true, .I (if Dj.done = 2 then Dj.done else s.done)] : List Value)).toArray) [(b7, .cells ((rdV Dj a06j k06j a3j k3j a4j k4j) ++ ([.slice a1s s.to.length k1s, .int .u64 s.epoch] : List Value) ++ (wrV (wrOf Dj s.to s.epoch xs k n) a3q80 k3q80 a4q80 k4q80 a5q80 k5q80 a6q80 k6q80) ++ ([.bool true, .I (if Dj.done = 2 then Dj.done else s.done), .slice a81 ((msgsOf (wrOf Dj s.to s.epoch xs k n)).length) c82] : List Value)).toArray 154 (0, 0)), (bj, .cells (rdV Dj a06j k06j a3j k3j a4j k4j).toArray 107 (0, 0)), (b5, .cells ((rdV Dj a06j k06j a3j k3j a4j k4j) ++ ([.slice a1s s.to.length k1s, .int .u64 s.epoch] : List Value) ++ (wrV (wrOf Dj s.to s.epoch xs k n) a3q80 k3q80 a4q80 k4q80 a5q80 k5q80 a6q80 k6q80) ++ ([.bool true, .I (if Dj.done = 2 then Dj.done else s.done)] : List Value)).toArray 118 (0, 0)), (b3, .cells #[.I 15, .I frm, x2, x3, x4, x5, x6, x7, .bool ok, x9, x10, x11, x12, .int .u64 hd.id.version, .I hd.id.index, .int .u64 hd.id.epoch, .I hd.kk, .I hd.nn, .I hd.size, .int .u32 ((hd.sum.toNat : Nat) : Int), .slice ad dt.length ce, x21, x22, x23, x24, x25, x26] 57 (0, 0)), (b1, .cells (shfV s a6sO k6sO a3sR k3sR a4sR k4sR a1s k1s a3sW k3sW a4sW k4sW a5sW k5sW a6sW k6sW).toArray 118 (0, 0))] H 2 rfl rfl ?_
     intro w86 hch85 H
     have hS87 := hS.sto hch85 (.inr (by simp))
     refine ⟨hS87, ?_⟩
     have hS := hS87
     refine RH.fin hS 2 [4, 5, 6] [(4, .P b5 0), (5, .slice a81 ((msgsOf (wrOf Dj s.to s.epoch xs k n)).length) c82), (6, .I (if Dj.done = 2 then Dj.done else s.done))] (by as_aux_lemma => kernel_rfl) ?_
     refine qRB (.tuple #[.agg ((rdV Dj a06j k06j a3j k3j a4j k4j) ++ ([.slice a1s s.to.length k1s, .int .u64 s.epoch] : List Value) ++ (wrV (wrOf Dj s.to s.epoch xs k n) a3q80 k3q80 a4q80 k4q80 a5q80 k5q80 a6q80 k6q80) ++ ([.bool true, .I (if Dj.done = 2 then Dj.done else s.done)] : List Value)).toArray, .slice a81 ((msgsOf (wrOf Dj s.to s.epoch xs k n)).length) c82, .I (if Dj.done = 2 then Dj.done else s.done)]) Try.func54 (v3 (.cell 4 118) (.tmp 5) (.tmp 6) (vC (H.cells 2 rfl)) vT vT) ?_
     exact ⟨_, rfl, H.done, [.string Dj.object.key, .int .u64 Dj.object.version, .I Dj.object.size, .int .u32 ((Dj.object.sum.toNat : Nat) : Int), .I Dj.object.group, .int .u64 Dj.object.epoch, .slice a06j Dj.object.nodes.length k06j, .I Dj.kk, .I Dj.nn, .slice a3j Dj.pieces.length k3j, .slice a4j Dj.bad.length k4j, .I Dj.waited, .I Dj.limit, .I Dj.done, .slice a1s s.to.length k1s, .int .u64 s.epoch, .int .u64 ((wrOf Dj s.to s.epoch xs k n).client), .int .u64 ((wrOf Dj s.to s.epoch xs k n).seq), .string ((wrOf Dj s.to s.epoch xs k n).key), .slice a3q80 ((wrOf Dj s.to s.epoch xs k n).heads.length) k3q80, .slice a4q80 ((wrOf Dj s.to s.epoch xs k n).chunks.length) k4q80, .slice a5q80 ((wrOf Dj s.to s.epoch xs k n).nodes.length) k5q80, .slice a6q80 ((wrOf Dj s.to s.epoch xs k n).acks.length) k6q80, .I ((wrOf Dj s.to s.epoch xs k n).waited), .I ((wrOf Dj s.to s.epoch xs k n).limit), .I ((wrOf Dj s.to s.epoch xs k n).done), .bool true, .I (if Dj.done = 2 then Dj.done else s.done)], a81, c82, ⟨Dj, s.to, s.epoch, (wrOf Dj s.to s.epoch xs k n), true, if Dj.done = 2 then Dj.done else s.done⟩, msgsOf (wrOf Dj s.to s.epoch xs k n), rfl, H.out (shf_mk (y0 := Dj) (y3 := (wrOf Dj s.to s.epoch xs k n)) (rd_mkB (by unfold rdB; omega) (H.rp 5 rfl) (H.rp 6 rfl) (H.rp 7 rfl)) (H.rp 11 rfl) u64a (wr_mkV u64a u64a ⟨rfl, by first | assumption | (simp [maxLen]; done) | decide⟩ (H.rp 0 rfl) (H.rp 1 rfl) (H.rp 2 rfl) (H.rp 3 rfl) i64a i64a i64a) Shape.bool_mk i64a), H.out (H.rp 4 rfl), by rw [mgotR, ← hlj, if_pos hv9, mdoneR, mstepR, ← hlj], by rw [mgotL, ← hlj, if_pos hv9, mdoneR, ← hlj]⟩
    ·
     have hv9 := h78
     refine qR 3 [.c [3, 0], .c [4]] [(4, .P b5 0), (7, .P b7 0)] ?_
     refine WK.drawH1 [b5] (.leaf [(0, .qui), (1, .qui), (2, .qui), (3, .qui), (4, .qui), (5, .qui), (6, .qui), (7, .qui), (8, .qui), (9, .qui), (10, .qui), (11, .qui), (12, .qui), (13, .seq), (14, .qui), (15, .qui)]) Try_mixed (by as_aux_lemma => kernel_rfl) (by as_aux_lemma => kernel_rfl) ?_
     intro w88 hw89
     have H := H.draw
     rw [← hw89] at H
     clear hw89
     have hS := Chg.refl w88 [b5]
     refine RG.leaf' [(0, .qui), (1, .qui), (2, .qui), (3, .qui), (4, .qui), (5, .qui), (6, .qui), (7, .qui), (8, .qui), (9, .qui), (10, .qui), (11, .qui), (12, .qui), (13, .seq), (14, .qui), (15, .qui)] (by as_aux_lemma => kernel_rfl) ?_
     refine qHP hS 3 [(3, .qui), (4, .qui), (5, .qui), (6, .qui), (7, .qui), (8, .qui), (9, .qui), (10, .qui), (11, .qui), (12, .qui), (13, .seq), (14, .qui), (15, .qui)] [(4, .P b5 0), (7, .P b7 0), (64, .P b7 0)] ?_
     refine qHL 65 [(4, .qui), (5, .qui), (6, .qui), (7, .qui), (8, .qui), (9, .qui), (10, .qui), (11, .qui), (12, .qui), (13, .seq), (14, .qui), (15, .qui)] 118 b7 0 0 (.agg ((rdV Dj a06j k06j a3j k3j a4j k4j) ++ ([.slice a1s s.to.length k1s, .int .u64 s.epoch] : List Value) ++ (wrV s.write a3sW k3sW a4sW k4sW a5sW k5sW a6sW k6sW) ++ ([.bool s.ready, .I (if Dj.done = 2 then Dj.done else s.done)] : List Value)).toArray) hS (H.cells 0 rfl) (nq1 (H.raws 0 2 rfl rfl (by decide))) ?_
     refine qHP hS 3 [(7, .qui), (8, .qui), (9, .qui), (10, .qui), (11, .qui), (12, .qui), (13, .seq), (14, .qui), (15, .qui)] [(4, .P b5 0), (7, .P b7 0), (65, .agg ((rdV Dj a06j k06j a3j k3j a4j k4j) ++ ([.slice a1s s.to.length k1s, .int .u64 s.epoch] : List Value) ++ (wrV s.write a3sW k3sW a4sW k4sW a5sW k5sW a6sW k6sW) ++ ([.bool s.ready, .I (if Dj.done = 2 then Dj.done else s.done)] : List Value)).toArray), (68, .P b7 28)] ?_
     refine qHL 69 [(8, .qui), (9, .qui), (10, .qui), (11, .qui), (12, .qui), (13, .seq), (14, .qui), (15, .qui)] 33 b7 28 28 (.slice none 0 0) hS (H.cells 0 rfl) (nq1 (H.raws 0 2 rfl rfl (by decide))) ?_
     refine qHP hS 4 [(12, .qui), (13, .seq), (14, .qui), (15, .qui)] [(4, .P b5 0), (65, .agg ((rdV Dj a06j k06j a3j k3j a4j k4j) ++ ([.slice a1s s.to.length k1s, .int .u64 s.epoch] : List Value) ++ (wrV s.write a3sW k3sW a4sW k4sW a5sW k5sW a6sW k6sW) ++ ([.bool s.ready, .I (if Dj.done = 2 then Dj.done else s.done)] : List Value)).toArray), (69, .slice none 0 0), (73, .P b7 27)] ?_
     refine qHL 74 [(13, .seq), (14, .qui), (15, .qui)] 30 b7 27 27 (.I (if Dj.done = 2 then Dj.done else s.done)) hS (H.cells 0 rfl) (nq1 (H.raws 0 2 rfl rfl (by decide))) ?_
     have Hr := H
     refine RH.sto ?_
     refine qWC 118 b5 0 [] (.agg ((rdV Dj a06j k06j a3j k3j a4j k4j) ++ ([.slice a1s s.to.length k1s, .int .u64 s.epoch] : List Value) ++ (wrV s.write a3sW k3sW a4sW k4sW a5sW k5sW a6sW k6sW) ++ ([.bool s.ready, .I (if Dj.done = 2 then Dj.done else s.done)] : List Value)).toArray) [(b7, .cells ((rdV Dj a06j k06j a3j k3j a4j k4j) ++ ([.slice a1s s.to.length k1s, .int .u64 s.epoch] : List Value) ++ (wrV s.write a3sW k3sW a4sW k4sW a5sW k5sW a6sW k6sW) ++ ([.bool s.ready, .I (if Dj.done = 2 then Dj.done else s.done), .slice none 0 0] : List Value)).toArray 154 (0, 0)), (bj, .cells (rdV Dj a06j k06j a3j k3j a4j k4j).toArray 107 (0, 0)), (b5, .cells ((rdV Dj a06j k06j a3j k3j a4j k4j) ++ ([.slice a1s s.to.length k1s, .int .u64 s.epoch] : List Value) ++ (wrV s.write a3sW k3sW a4sW k4sW a5sW k5sW a6sW k6sW) ++ ([.bool s.ready, .I (if Dj.done = 2 then Dj.done else s.done)] : List Value)).toArray 118 (0, 0)), (b3, .cells #[.I 15, .I frm, x2, x3, x4, x5, x6, x7, .bool ok, x9, x10, x11, x12, .int .u64 hd.id.version, .I hd.id.index, .int .u64 hd.id.epoch, .I hd.kk, .I hd.nn, .I hd.size, .int .u32 ((hd.sum.toNat : Nat) : Int), .slice ad dt.length ce, x21, x22, x23, x24, x25, x26] 57 (0, 0)), (b1, .cells (shfV s a6sO k6sO a3sR k3sR a4sR k4sR a1s k1s a3sW k3sW a4sW k4sW a5sW k5sW a6sW k6sW).toArray 118 (0, 0))] H 2 rfl rfl ?_
     intro w91 hch90 H
     have hS92 := hS.sto hch90 (.inr (by simp))
     refine ⟨hS92, ?_⟩
     have hS := hS92
     refine RH.fin hS 2 [4, 5, 6] [(4, .P b5 0), (5, .slice none 0 0), (6, .I (if Dj.done = 2 then Dj.done else s.done))] (by as_aux_lemma => kernel_rfl) ?_
     refine qRB (.tuple #[.agg ((rdV Dj a06j k06j a3j k3j a4j k4j) ++ ([.slice a1s s.to.length k1s, .int .u64 s.epoch] : List Value) ++ (wrV s.write a3sW k3sW a4sW k4sW a5sW k5sW a6sW k6sW) ++ ([.bool s.ready, .I (if Dj.done = 2 then Dj.done else s.done)] : List Value)).toArray, .slice none 0 0, .I (if Dj.done = 2 then Dj.done else s.done)]) Try.func54 (v3 (.cell 4 118) (.tmp 5) (.tmp 6) (vC (H.cells 2 rfl)) vT vT) ?_
     exact ⟨_, rfl, H.done, [.string Dj.object.key, .int .u64 Dj.object.version, .I Dj.object.size, .int .u32 ((Dj.object.sum.toNat : Nat) : Int), .I Dj.object.group, .int .u64 Dj.object.epoch, .slice a06j Dj.object.nodes.length k06j, .I Dj.kk, .I Dj.nn, .slice a3j Dj.pieces.length k3j, .slice a4j Dj.bad.length k4j, .I Dj.waited, .I Dj.limit, .I Dj.done, .slice a1s s.to.length k1s, .int .u64 s.epoch, .int .u64 s.write.client, .int .u64 s.write.seq, .string s.write.key, .slice a3sW s.write.heads.length k3sW, .slice a4sW s.write.chunks.length k4sW, .slice a5sW s.write.nodes.length k5sW, .slice a6sW s.write.acks.length k6sW, .I s.write.waited, .I s.write.limit, .I s.write.done, .bool s.ready, .I (if Dj.done = 2 then Dj.done else s.done)], none, 0, ⟨Dj, s.to, s.epoch, s.write, s.ready, if Dj.done = 2 then Dj.done else s.done⟩, ([] : List Msg), rfl, H.out (shf_mk (y0 := Dj) (y3 := s.write) (rd_mkB (by unfold rdB; omega) (H.rp 0 rfl) (H.rp 1 rfl) (H.rp 2 rfl)) (H.rp 6 rfl) u64a (wr_mkV u64a u64a ⟨rfl, h2sW⟩ (H.rp 7 rfl) (H.rp 8 rfl) (H.rp 9 rfl) (H.rp 10 rfl) i64a i64a i64a) Shape.bool_mk i64a), Shape.slice_nil, by rw [mgotR, ← hlj, if_neg hv9, mstepR, ← hlj], by rw [mgotL, ← hlj, if_neg hv9]⟩
set_option maxHeartbeats 4000000 in
theorem mgot_ready {S : Nat → Prop} {w : World} {s : Shf} {cs : List Value} (hs : shfS.rep S w cs s) (hd0 : s.done = 0) (hy0 : s.ready = true) (frm : Int) (hd : Hdr) (ok : Bool) (x2 x3 x4 x5 x6 x7 x9 x10 x11 x12 x20 x21 x22 x23 x24 x25 x26 : Value) (hn : s.write.heads.length ≤ 1000000) (hbe : ∀ e, (gotOf s.write 10 frm hd ok).2 = e → -9223372036854775808 ≤ e ∧ e ≤ 9223372036854775807) :
 Calls Try.prog 54 #[.agg cs.toArray, .agg #[.I 10, .I frm, x2, x3, x4, x5, x6, x7, .bool ok, x9, x10, x11, x12, .int .u64 hd.id.version, .I hd.id.index, .int .u64 hd.id.epoch, .I hd.kk, .I hd.nn, .I hd.size, .int .u32 ((hd.sum.toNat : Nat) : Int), x20, x21, x22, x23, x24, x25, x26]] w (Ret fun v w' => Ext w w' ∧ ∃ (ds : List Value) (W : Wr) (e : Int), v = .tuple #[.agg ds.toArray, .slice none 0 0, .I e] ∧ shfS.rep (Nw S w) w' ds { s with write := W, done := e } ∧ (W, e) = gotOf s.write 10 frm hd ok) := by
 obtain ⟨cs0s, a1s, k1s, cs3s, rfl, h0s, h1s, h2s, h3s, h5s⟩ := shf_open hs
 obtain ⟨cs0sread, a3sR, k3sR, a4sR, k4sR, rfl, h0sR, h1sR, h2sR, h3sR, h4sR, h5sR, h6sR, h7sR⟩ := rd_open h0s
 obtain ⟨a6sO, k6sO, rfl, h0sO, h1sO, h2sO, h4sO, h5sO, h6sO⟩ := obj_open h0sR
 obtain ⟨a3sW, k3sW, a4sW, k4sW, a5sW, k5sW, a6sW, k6sW, rfl, h0sW, h1sW, h2sW, h3sW, h4sW, h5sW, h6sW, h7sW, h8sW, h9sW⟩ := wr_open h3s
 refine qS (fn := Try.f54) (n := 75) (σ := [(0, .agg (shfV s a6sO k6sO a3sR k3sR a4sR k4sR a1s k1s a3sW k3sW a4sW k4sW a5sW k5sW a6sW k6sW).toArray), (1, .agg #[.I 10, .I frm, x2, x3, x4, x5, x6, x7, .bool ok, x9, x10, x11, x12, .int .u64 hd.id.version, .I hd.id.index, .int .u64 hd.id.epoch, .I hd.kk, .I hd.nn, .I hd.size, .int .u32 ((hd.sum.toNat : Nat) : Int), x20, x21, x22, x23, x24, x25, x26])]) Try.func54 ?_
 have H := Hp.startF (w := w) (S := S) (G := [Rp Li [.slice a6sO s.read.object.nodes.length k6sO] s.read.object.nodes, Rp (Shape.slice pcS) [.slice a3sR s.read.pieces.length k3sR] s.read.pieces, Rp Li [.slice a4sR s.read.bad.length k4sR] s.read.bad, Rp Li [.slice a1s s.to.length k1s] s.to, Rp (Shape.slice hdrS) [.slice a3sW s.write.heads.length k3sW] s.write.heads, Rp (Shape.slice SB) [.slice a4sW s.write.chunks.length k4sW] s.write.chunks, Rp Li [.slice a5sW s.write.nodes.length k5sW] s.write.nodes, Rp Li [.slice a6sW s.write.acks.length k6sW] s.write.acks]) (.rp h6sO (.rp h3sR (.rp h4sR (.rp h1s (.rp h3sW (.rp h4sW (.rp h5sW (.rp h6sW .nil))))))))
 refine qR 1 [.c [0], .c [1]] [(0, .agg (shfV s a6sO k6sO a3sR k3sR a4sR k4sR a1s k1s a3sW k3sW a4sW k4sW a5sW k5sW a6sW k6sW).toArray), (1, .agg #[.I 10, .I frm, x2, x3, x4, x5, x6, x7, .bool ok, x9, x10, x11, x12, .int .u64 hd.id.version, .I hd.id.index, .int .u64 hd.id.epoch, .I hd.kk, .I hd.nn, .I hd.size, .int .u32 ((hd.sum.toNat : Nat) : Int), x20, x21, x22, x23, x24, x25, x26])] ?_
 refine qG (sq 0 5) ?_
 refine qB .seq 2 (sq 1 5) ((shfV s a6sO k6sO a3sR k3sR a4sR k4sR a1s k1s a3sW k3sW a4sW k4sW a5sW k5sW a6sW k6sW).toArray) 118 H ?_
 intro b1 w2 H
 refine qB .seq 3 (sq 2 5) #[.I 10, .I frm, x2, x3, x4, x5, x6, x7, .bool ok, x9, x10, x11, x12, .int .u64 hd.id.version, .I hd.id.index, .int .u64 hd.id.epoch, .I hd.kk, .I hd.nn, .I hd.size, .int .u32 ((hd.sum.toNat : Nat) : Int), x20, x21, x22, x23, x24, x25, x26] 57 H ?_
 intro b3 w4 H
 refine qB .seq 4 (sq 3 5) ((shfZ).toArray) 118 H ?_
 intro b5 w6 H
 refine qF 2 [(2, .P b1 0), (3, .P b3 0), (4, .P b5 0)] ?_
 refine qR 1 [.c [1, 0], .c [2]] [(2, .P b1 0), (3, .P b3 0), (4, .P b5 0)] ?_
 refine qG (sq 0 4) ?_
 refine qL .seq 10 (sq 1 4) 118 b1 0 0 (.agg (shfV s a6sO k6sO a3sR k3sR a4sR k4sR a1s k1s a3sW k3sW a4sW k4sW a5sW k5sW a6sW k6sW).toArray) (H.cells 2 rfl) ?_
 refine qP 1 (sq 2 4) [(3, .P b3 0), (4, .P b5 0), (11, .agg ((rdV s.read a6sO k6sO a3sR k3sR a4sR k4sR) ++ ([.slice a1s s.to.length k1s, .int .u64 s.epoch] : List Value) ++ (wrV s.write a3sW k3sW a4sW k4sW a5sW k5sW a6sW k6sW) ++ ([.bool s.ready, .I s.done, .slice none 0 0] : List Value)).toArray)] ?_
 refine qB .seq 12 (sq 3 4) (((rdV s.read a6sO k6sO a3sR k3sR a4sR k4sR) ++ ([.slice a1s s.to.length k1s, .int .u64 s.epoch] : List Value) ++ (wrV s.write a3sW k3sW a4sW k4sW a5sW k5sW a6sW k6sW) ++ ([.bool s.ready, .I s.done, .slice none 0 0] : List Value)).toArray) 154 H ?_
 intro b7 w8 H
 refine qF 1 [(3, .P b3 0), (4, .P b5 0), (7, .P b7 0)] ?_
 refine qR 3 [.c [2, 0, 0, 0], .c [2, 0, 0, 1], .b 0, .c [3]] [(3, .P b3 0), (4, .P b5 0), (7, .P b7 0)] ?_
 refine qG (sq 0 7) ?_
 refine qP 4 (sq 4 7) [(3, .P b3 0), (4, .P b5 0), (7, .P b7 0), (35, .P b7 27)] ?_
 refine qL .seq 36 (sq 5 7) 30 b7 27 27 (.I s.done) (H.cells 0 rfl) ?_
 refine qF 2 [(3, .P b3 0), (4, .P b5 0), (7, .P b7 0), (31, .bool (s.done != 0))] ?_
 refine qN s.done 0 (fun h9 => ?_) (fun h9 => ?_)
 ·
  exact absurd hd0 h9
 ·
  refine qR 1 [.c [2, 0, 0, 1, 1, 0], .c [2, 0, 0, 1, 1, 1], .b 0, .c [3]] [(3, .P b3 0), (4, .P b5 0), (7, .P b7 0)] ?_
  refine qG (sq 0 6) ?_
  refine qP 4 (sq 4 6) [(3, .P b3 0), (4, .P b5 0), (7, .P b7 0), (42, .P b7 26)] ?_
  refine qL .seq 43 (sq 5 6) 4 b7 26 26 (.bool s.ready) (H.cells 0 rfl) ?_
  refine qF 1 [(3, .P b3 0), (4, .P b5 0), (7, .P b7 0), (38, .bool s.ready)] ?_
  refine qC s.ready (fun h10 => ?_) (fun h10 => ?_)
  ·
   refine WK.drawH1 [b7] (.leaf [(0, .qui), (1, .qui), (2, .qui), (3, .qui), (4, .qui), (5, .qui), (7, .qui), (6, .seq), (8, .seq), (9, .qui), (10, .qui), (11, .qui), (12, .qui), (13, .qui), (14, .qui), (15, .seq), (16, .qui), (17, .qui), (18, .qui), (19, .seq)]) Try_mixed (by as_aux_lemma => kernel_rfl) (by as_aux_lemma => kernel_rfl) ?_
   intro w11 hw12
   have H := H.draw
   rw [← hw12] at H
   clear hw12
   have hS := Chg.refl w11 [b7]
   refine RG.leaf' [(0, .qui), (1, .qui), (2, .qui), (3, .qui), (4, .qui), (5, .qui), (7, .qui), (6, .seq), (8, .seq), (9, .qui), (10, .qui), (11, .qui), (12, .qui), (13, .qui), (14, .qui), (15, .seq), (16, .qui), (17, .qui), (18, .qui), (19, .seq)] (by as_aux_lemma => kernel_rfl) ?_
   refine qHP hS 6 [(7, .qui), (6, .seq), (8, .seq), (9, .qui), (10, .qui), (11, .qui), (12, .qui), (13, .qui), (14, .qui), (15, .seq), (16, .qui), (17, .qui), (18, .qui), (19, .seq)] [(3, .P b3 0), (4, .P b5 0), (7, .P b7 0), (45, .P b7 0), (46, .P b7 0), (50, .P b7 16)] ?_
   refine qHL 52 [(6, .seq), (8, .seq), (9, .qui), (10, .qui), (11, .qui), (12, .qui), (13, .qui), (14, .qui), (15, .seq), (16, .qui), (17, .qui), (18, .qui), (19, .seq)] 57 b3 0 0 (.agg #[.I 10, .I frm, x2, x3, x4, x5, x6, x7, .bool ok, x9, x10, x11, x12, .int .u64 hd.id.version, .I hd.id.index, .int .u64 hd.id.epoch, .I hd.kk, .I hd.nn, .I hd.size, .int .u32 ((hd.sum.toNat : Nat) : Int), x20, x21, x22, x23, x24, x25, x26]) hS (H.cells 2 rfl) (nq1 (H.raws 2 0 rfl rfl (by decide))) ?_
   have Hr := H
   refine RH.chn hS ?_
   refine qL .chn 51 [] 32 b7 16 16 (.agg (wrV s.write a3sW k3sW a4sW k4sW a5sW k5sW a6sW k6sW).toArray) (H.cells 0 rfl) ?_
   intro hS
   have Hr := H
   refine RH.chn hS ?_
   -- call
   refine qK .chn (some 53) [] 23 #[.agg (wrV s.write a3sW k3sW a4sW k4sW a5sW k5sW a6sW k6sW).toArray, .agg #[.I 10, .I frm, x2, x3, x4, x5, x6, x7, .bool ok, x9, x10, x11, x12, .int .u64 hd.id.version, .I hd.id.index, .int .u64 hd.id.epoch, .I hd.kk, .I hd.nn, .I hd.size, .int .u32 ((hd.sum.toNat : Nat) : Int), x20, x21, x22, x23, x24, x25, x26]] (got_spec (W := s.write) (wr_mkV u64a u64a ⟨rfl, h2sW⟩ (H.rp 4 rfl) (H.rp 5 rfl) (H.rp 6 rfl) (H.rp 7 rfl) i64a i64a i64a) 10 frm hd ok x2 x3 x4 x5 x6 x7 x9 x10 x11 x12 x20 x21 x22 x23 x24 x25 x26 (by first | assumption | omega)) ?_
   rintro _ w15 hE16 ⟨cs19, D18, D20, rfl, hr21, hlaw17⟩
   have H0s := H
   obtain ⟨a3q22, k3q22, a4q22, k4q22, a5q22, k5q22, a6q22, k6q22, rfl, hf23, hf24, hf25, hf26, hf27, hf28, hf29, hf30, hf31, hf32⟩ := wr_open hr21
   have H := H.addN hE16 (F := Rp (Shape.slice hdrS) [.slice a3q22 D18.heads.length k3q22] D18.heads) hf26
   have H := H.add (F := Rp (Shape.slice SB) [.slice a4q22 D18.chunks.length k4q22] D18.chunks) ((H0s.addN hE16 (F := Rp (Shape.slice SB) [.slice a4q22 D18.chunks.length k4q22] D18.chunks) hf27).rp 0 rfl)
   have H := H.add (F := Rp Li [.slice a5q22 D18.nodes.length k5q22] D18.nodes) ((H0s.addN hE16 (F := Rp Li [.slice a5q22 D18.nodes.length k5q22] D18.nodes) hf28).rp 0 rfl)
   have H := H.add (F := Rp Li [.slice a6q22 D18.acks.length k6q22] D18.acks) ((H0s.addN hE16 (F := Rp Li [.slice a6q22 D18.acks.length k6q22] D18.acks) hf29).rp 0 rfl)
   have hkpD18 := gotOf_keep hlaw17
   have hlkD18 := congrArg List.length hkpD18.1
   intro hS
   refine qHP hS 6 [(15, .seq), (16, .qui), (17, .qui), (18, .qui), (19, .seq)] [(4, .P b5 0), (7, .P b7 0), (46, .P b7 0), (54, .agg (wrV D18 a3q22 k3q22 a4q22 k4q22 a5q22 k5q22 a6q22 k6q22).toArray), (55, .I D20), (58, .P b7 16)] ?_
   refine RH.sto ?_
   refine qWC 32 b7 16 [] (.agg (wrV D18 a3q22 k3q22 a4q22 k4q22 a5q22 k5q22 a6q22 k6q22).toArray) [(b7, .cells ((rdV s.read a6sO k6sO a3sR k3sR a4sR k4sR) ++ ([.slice a1s s.to.length k1s, .int .u64 s.epoch] : List Value) ++ (wrV D18 a3q22 k3q22 a4q22 k4q22 a5q22 k5q22 a6q22 k6q22) ++ ([.bool s.ready, .I s.done, .slice none 0 0] : List Value)).toArray 154 (0, 0)), (b5, .cells (shfZ).toArray 118 (0, 0)), (b3, .cells #[.I 10, .I frm, x2, x3, x4, x5, x6, x7, .bool ok, x9, x10, x11, x12, .int .u64 hd.id.version, .I hd.id.index, .int .u64 hd.id.epoch, .I hd.kk, .I hd.nn, .I hd.size, .int .u32 ((hd.sum.toNat : Nat) : Int), x20, x21, x22, x23, x24, x25, x26] 57 (0, 0)), (b1, .cells (shfV s a6sO k6sO a3sR k3sR a4sR k4sR a1s k1s a3sW k3sW a4sW k4sW a5sW k5sW a6sW k6sW).toArray 118 (0, 0))] H 0 rfl rfl ?_
   intro w34 hch33 H
   have hS35 := hS.sto hch33 (.inr (by simp))
   refine ⟨hS35, ?_⟩
   have hS := hS35
   refine qHP hS 3 [(19, .seq)] [(4, .P b5 0), (7, .P b7 0), (55, .I D20), (61, .P b7 27)] ?_
   refine RH.sto ?_
   refine qWC 30 b7 27 [] (.I D20) [(b7, .cells ((rdV s.read a6sO k6sO a3sR k3sR a4sR k4sR) ++ ([.slice a1s s.to.length k1s, .int .u64 s.epoch] : List Value) ++ (wrV D18 a3q22 k3q22 a4q22 k4q22 a5q22 k5q22 a6q22 k6q22) ++ ([.bool s.ready, .I D20, .slice none 0 0] : List Value)).toArray 154 (0, 0)), (b5, .cells (shfZ).toArray 118 (0, 0)), (b3, .cells #[.I 10, .I frm, x2, x3, x4, x5, x6, x7, .bool ok, x9, x10, x11, x12, .int .u64 hd.id.version, .I hd.id.index, .int .u64 hd.id.epoch, .I hd.kk, .I hd.nn, .I hd.size, .int .u32 ((hd.sum.toNat : Nat) : Int), x20, x21, x22, x23, x24, x25, x26] 57 (0, 0)), (b1, .cells (shfV s a6sO k6sO a3sR k3sR a4sR k4sR a1s k1s a3sW k3sW a4sW k4sW a5sW k5sW a6sW k6sW).toArray 118 (0, 0))] H 0 rfl rfl ?_
   intro w37 hch36 H
   have hS38 := hS.sto hch36 (.inr (by simp))
   refine ⟨hS38, ?_⟩
   have hS := hS38
   refine RH.fin hS 0 [4, 7] [(4, .P b5 0), (7, .P b7 0)] (by as_aux_lemma => kernel_rfl) ?_
   refine qR 2 [.c [3, 0], .c [4]] [(4, .P b5 0), (7, .P b7 0)] ?_
   refine WK.drawH1 [b5] (.leaf [(0, .qui), (1, .qui), (2, .qui), (3, .qui), (4, .qui), (5, .qui), (6, .qui), (7, .qui), (8, .qui), (9, .qui), (10, .qui), (11, .qui), (12, .qui), (13, .seq), (14, .qui), (15, .qui)]) Try_mixed (by as_aux_lemma => kernel_rfl) (by as_aux_lemma => kernel_rfl) ?_
   intro w39 hw40
   have H := H.draw
   rw [← hw40] at H
   clear hw40
   have hS := Chg.refl w39 [b5]
   refine RG.leaf' [(0, .qui), (1, .qui), (2, .qui), (3, .qui), (4, .qui), (5, .qui), (6, .qui), (7, .qui), (8, .qui), (9, .qui), (10, .qui), (11, .qui), (12, .qui), (13, .seq), (14, .qui), (15, .qui)] (by as_aux_lemma => kernel_rfl) ?_
   refine qHP hS 3 [(3, .qui), (4, .qui), (5, .qui), (6, .qui), (7, .qui), (8, .qui), (9, .qui), (10, .qui), (11, .qui), (12, .qui), (13, .seq), (14, .qui), (15, .qui)] [(4, .P b5 0), (7, .P b7 0), (64, .P b7 0)] ?_
   refine qHL 65 [(4, .qui), (5, .qui), (6, .qui), (7, .qui), (8, .qui), (9, .qui), (10, .qui), (11, .qui), (12, .qui), (13, .seq), (14, .qui), (15, .qui)] 118 b7 0 0 (.agg ((rdV s.read a6sO k6sO a3sR k3sR a4sR k4sR) ++ ([.slice a1s s.to.length k1s, .int .u64 s.epoch] : List Value) ++ (wrV D18 a3q22 k3q22 a4q22 k4q22 a5q22 k5q22 a6q22 k6q22) ++ ([.bool s.ready, .I D20] : List Value)).toArray) hS (H.cells 0 rfl) (nq1 (H.raws 0 1 rfl rfl (by decide))) ?_
   refine qHP hS 3 [(7, .qui), (8, .qui), (9, .qui), (10, .qui), (11, .qui), (12, .qui), (13, .seq), (14, .qui), (15, .qui)] [(4, .P b5 0), (7, .P b7 0), (65, .agg ((rdV s.read a6sO k6sO a3sR k3sR a4sR k4sR) ++ ([.slice a1s s.to.length k1s, .int .u64 s.epoch] : List Value) ++ (wrV D18 a3q22 k3q22 a4q22 k4q22 a5q22 k5q22 a6q22 k6q22) ++ ([.bool s.ready, .I D20] : List Value)).toArray), (68, .P b7 28)] ?_
   refine qHL 69 [(8, .qui), (9, .qui), (10, .qui), (11, .qui), (12, .qui), (13, .seq), (14, .qui), (15, .qui)] 33 b7 28 28 (.slice none 0 0) hS (H.cells 0 rfl) (nq1 (H.raws 0 1 rfl rfl (by decide))) ?_
   refine qHP hS 4 [(12, .qui), (13, .seq), (14, .qui), (15, .qui)] [(4, .P b5 0), (65, .agg ((rdV s.read a6sO k6sO a3sR k3sR a4sR k4sR) ++ ([.slice a1s s.to.length k1s, .int .u64 s.epoch] : List Value) ++ (wrV D18 a3q22 k3q22 a4q22 k4q22 a5q22 k5q22 a6q22 k6q22) ++ ([.bool s.ready, .I D20] : List Value)).toArray), (69, .slice none 0 0), (73, .P b7 27)] ?_
   refine qHL 74 [(13, .seq), (14, .qui), (15, .qui)] 30 b7 27 27 (.I D20) hS (H.cells 0 rfl) (nq1 (H.raws 0 1 rfl rfl (by decide))) ?_
   have Hr := H
   refine RH.sto ?_
   refine qWC 118 b5 0 [] (.agg ((rdV s.read a6sO k6sO a3sR k3sR a4sR k4sR) ++ ([.slice a1s s.to.length k1s, .int .u64 s.epoch] : List Value) ++ (wrV D18 a3q22 k3q22 a4q22 k4q22 a5q22 k5q22 a6q22 k6q22) ++ ([.bool s.ready, .I D20] : List Value)).toArray) [(b7, .cells ((rdV s.read a6sO k6sO a3sR k3sR a4sR k4sR) ++ ([.slice a1s s.to.length k1s, .int .u64 s.epoch] : List Value) ++ (wrV D18 a3q22 k3q22 a4q22 k4q22 a5q22 k5q22 a6q22 k6q22) ++ ([.bool s.ready, .I D20, .slice none 0 0] : List Value)).toArray 154 (0, 0)), (b5, .cells ((rdV s.read a6sO k6sO a3sR k3sR a4sR k4sR) ++ ([.slice a1s s.to.length k1s, .int .u64 s.epoch] : List Value) ++ (wrV D18 a3q22 k3q22 a4q22 k4q22 a5q22 k5q22 a6q22 k6q22) ++ ([.bool s.ready, .I D20] : List Value)).toArray 118 (0, 0)), (b3, .cells #[.I 10, .I frm, x2, x3, x4, x5, x6, x7, .bool ok, x9, x10, x11, x12, .int .u64 hd.id.version, .I hd.id.index, .int .u64 hd.id.epoch, .I hd.kk, .I hd.nn, .I hd.size, .int .u32 ((hd.sum.toNat : Nat) : Int), x20, x21, x22, x23, x24, x25, x26] 57 (0, 0)), (b1, .cells (shfV s a6sO k6sO a3sR k3sR a4sR k4sR a1s k1s a3sW k3sW a4sW k4sW a5sW k5sW a6sW k6sW).toArray 118 (0, 0))] H 1 rfl rfl ?_
   intro w42 hch41 H
   have hS43 := hS.sto hch41 (.inr (by simp))
   refine ⟨hS43, ?_⟩
   have hS := hS43
   refine RH.fin hS 2 [4, 5, 6] [(4, .P b5 0), (5, .slice none 0 0), (6, .I D20)] (by as_aux_lemma => kernel_rfl) ?_
   refine qRB (.tuple #[.agg ((rdV s.read a6sO k6sO a3sR k3sR a4sR k4sR) ++ ([.slice a1s s.to.length k1s, .int .u64 s.epoch] : List Value) ++ (wrV D18 a3q22 k3q22 a4q22 k4q22 a5q22 k5q22 a6q22 k6q22) ++ ([.bool s.ready, .I D20] : List Value)).toArray, .slice none 0 0, .I D20]) Try.func54 (v3 (.cell 4 118) (.tmp 5) (.tmp 6) (vC (H.cells 1 rfl)) vT vT) ?_
   have hbe9 := hbe D20 (by rw [← hlaw17])
   exact ⟨_, rfl, H.done, [.string s.read.object.key, .int .u64 s.read.object.version, .I s.read.object.size, .int .u32 ((s.read.object.sum.toNat : Nat) : Int), .I s.read.object.group, .int .u64 s.read.object.epoch, .slice a6sO s.read.object.nodes.length k6sO, .I s.read.kk, .I s.read.nn, .slice a3sR s.read.pieces.length k3sR, .slice a4sR s.read.bad.length k4sR, .I s.read.waited, .I s.read.limit, .I s.read.done, .slice a1s s.to.length k1s, .int .u64 s.epoch, .int .u64 D18.client, .int .u64 D18.seq, .string D18.key, .slice a3q22 D18.heads.length k3q22, .slice a4q22 D18.chunks.length k4q22, .slice a5q22 D18.nodes.length k5q22, .slice a6q22 D18.acks.length k6q22, .I D18.waited, .I D18.limit, .I D18.done, .bool s.ready, .I D20], D18, D20, rfl, H.out (shf_mk (y0 := s.read) (y3 := D18) (rd_mkB (by unfold rdB; omega) (H.rp 4 rfl) (H.rp 5 rfl) (H.rp 6 rfl)) (H.rp 7 rfl) u64a (wr_mkV u64a u64a ⟨rfl, by first | assumption | (simp [maxLen]; done) | decide⟩ (H.rp 3 rfl) (H.rp 2 rfl) (H.rp 1 rfl) (H.rp 0 rfl) i64a i64a i64a) Shape.bool_mk i64a), hlaw17⟩
  ·
   exact absurd (hy0.symm.trans h10) (by decide)
end Go.Proofs.Ytppcdmbkgficiaa
