import Derived.Test.YtcodkepdolmmbaaDoorSW3
namespace Go.Proofs.YtcodkepdolmmbaaDoor
open Go.BX
theorem take_eq_step {xs ys : List ByteArray} {k : Nat} (hx : k < xs.length) (hy : k < ys.length) (h : xs.take k = ys.take k) (he : xs[k] = ys[k]) : xs.take (k + 1) = ys.take (k + 1) := by
 rw [List.take_succ_eq_append_getElem hx, List.take_succ_eq_append_getElem hy, h, he]
theorem ne_at {xs ys : List ByteArray} {k : Nat} (hx : k < xs.length) (hy : k < ys.length) (he : xs[k] ≠ ys[k]) : xs ≠ ys := fun h => he (by subst h; rfl)
theorem str_eq {a b : ByteArray} : (a.toList = b.toList) ↔ a = b := ⟨fun h => by
 rw [Go.ByteArray.toList_eq, Go.ByteArray.toList_eq] at h
 exact bytes_of h, fun h => by rw [h]⟩
theorem equal_spec {S : Nat → Prop} {w : World} {xs ys : List ByteArray} {a a2 : Option Addr} {c c2 : Nat} (h : (Shape.slice Shape.str).rep S w [.slice a xs.length c] xs) (h2 : (Shape.slice Shape.str).rep S w [.slice a2 ys.length c2] ys) :
 Calls Tryd.prog 32 #[.slice a xs.length c, .slice a2 ys.length c2] w (Ret fun v w' => Ext w w' ∧ v = .bool (decide (xs = ys))) := by
 have hlen := Shape.slice_len h
 have hlen2 := Shape.slice_len h2
 refine qS (fn := Tryd.f32) (n := 26) (σ := [(0, .slice a xs.length c), (1, .slice a2 ys.length c2)]) Tryd.func32 ?_
 have H := Hp.startF (w := w) (S := S) (G := [Rp (Shape.slice Shape.str) [.slice a xs.length c] xs, Rp (Shape.slice Shape.str) [.slice a2 ys.length c2] ys]) (.rp h (.rp h2 .nil))
 refine qR 5 [.c [1, 0, 1], .c [2]] [(0, .slice a xs.length c), (1, .slice a2 ys.length c2), (10, .bool (((xs.length : Nat) : Int) != ((ys.length : Nat) : Int)))] ?_
 refine qN ((xs.length : Nat) : Int) ((ys.length : Nat) : Int) (fun h1 => ?_) (fun h1 => ?_)
 ·
  refine qR 2 [.c [1, 0, 1, 0, 1], .c [2]] [(4, .bool false)] ?_
  refine qT (.bool false) Tryd.func32 ?_
  refine ⟨_, rfl, H.done, ?_⟩
  congr 1
  exact (decide_eq_false (fun q => by subst q; omega)).symm
 ·
  refine qR 5 [.c [2, 0, 1, 0], .b 0, .c [3]] [(0, .slice a xs.length c), (1, .slice a2 ys.length c2), (12, .I ((xs.length : Nat) : Int)), (13, .I 0)] ?_
  refine WK.loop (α := Nat) (b := cd Tryd.prog 32 [2, 0, 1, 0, 0]) (by as_aux_lemma => kernel_rfl) (fun k => [(0, .slice a xs.length c), (1, .slice a2 ys.length c2), (12, .I ((xs.length : Nat) : Int)), (13, .I k)]) (fun k w' => Hp w S [] [] [] [Rp (Shape.slice Shape.str) [.slice a xs.length c] xs, Rp (Shape.slice Shape.str) [.slice a2 ys.length c2] ys] w' ∧ k ≤ xs.length ∧ xs.take k = ys.take k) (fun k => xs.length - k) 0 ⟨H, Nat.zero_le _, rfl⟩ (rfl) ?_
  rintro k w3 ⟨H, hinv0⟩ hback2
  refine qR 3 [.c [2, 0, 1, 0, 0, 1, 0], .c [2, 0, 1, 0, 0, 2], .l [2, 0, 1, 0, 0], .b 0, .c [3]] [(0, .slice a xs.length c), (1, .slice a2 ys.length c2), (12, .I ((xs.length : Nat) : Int)), (13, .I k), (14, .bool (decide (((k : Int) : Int) < ((xs.length : Nat) : Int))))] ?_
  refine qD (((k : Int) : Int) < ((xs.length : Nat) : Int)) (fun h4 => ?_) (fun h4 => ?_)
  ·
   refine qR 6 [.c [2, 0, 1, 0, 0, 2, 0, 0, 1, 0], .c [2, 0, 1, 0, 0, 2, 0, 0, 2], .b 1, .c [2, 0, 1, 0, 0, 3], .l [2, 0, 1, 0, 0], .b 0, .c [3]] [(0, .slice a xs.length c), (1, .slice a2 ys.length c2), (5, .I k), (12, .I ((xs.length : Nat) : Int)), (13, .I k)] ?_
   refine WK.draw1 9 (qs [0, 1, 2, 3, 4, 5, 6, 7, 8]) (qs [0, 1, 2, 3, 4, 5, 6, 7, 8]) Tryd_mixed (by as_aux_lemma => kernel_rfl) (by as_aux_lemma => kernel_rfl) (by as_aux_lemma => kernel_rfl) ?_
   have H := H.draw
   generalize ({ w3 with drawn := w3.drawn + 1 } : World) = w5 at H ⊢
   refine qP 2 (qs [2, 3, 4, 5, 6, 7, 8]) [(0, .slice a xs.length c), (1, .slice a2 ys.length c2), (5, .I k), (12, .I ((xs.length : Nat) : Int)), (13, .I k), (16, .slice a xs.length c), (17, .I k)] ?_
   have hx6 : k < xs.length := by omega
   refine qX .qui 18 (qs [3, 4, 5, 6, 7, 8]) 31 9 (k : Int) Shape.str (xs[k]) H 0 rfl k (by omega) (List.getElem?_eq_getElem hx6) ?_
   intro b7 o8 es9 hr10 H
   obtain ⟨rfl, hshr10⟩ := hr10
   refine qL .qui 19 (qs [4, 5, 6, 7, 8]) 9 b7 o8 0 (.string (xs[k])) (H.fc 0 rfl) ?_
   refine qP 2 (qs [6, 7, 8]) [(0, .slice a xs.length c), (1, .slice a2 ys.length c2), (12, .I ((xs.length : Nat) : Int)), (13, .I k), (19, .string (xs[k])), (20, .slice a2 ys.length c2), (21, .I k)] ?_
   have hx11 : k < ys.length := by omega
   refine qX .qui 22 (qs [7, 8]) 31 9 (k : Int) Shape.str (ys[k]) H 2 rfl k (by omega) (List.getElem?_eq_getElem hx11) ?_
   intro b12 o13 es14 hr15 H
   obtain ⟨rfl, hshr15⟩ := hr15
   refine qL .qui 23 [(8, .qui)] 9 b12 o13 0 (.string (ys[k])) (H.fc 0 rfl) ?_
   refine qF 1 [(0, .slice a xs.length c), (1, .slice a2 ys.length c2), (12, .I ((xs.length : Nat) : Int)), (13, .I k), (24, .bool (!((xs[k]).toList == (ys[k]).toList)))] ?_
   refine qC (!((xs[k]).toList == (ys[k]).toList)) (fun h16 => ?_) (fun h16 => ?_)
   ·
    replace h16 : ((xs[k]).toList == (ys[k]).toList) = false := by revert h16; cases ((xs[k]).toList == (ys[k]).toList) <;> simp
    replace h16 := ne_of_beq_false h16
    have hxe : xs[k] ≠ ys[k] := by simpa [str_eq] using h16
    refine qR 2 [.c [2, 0, 1, 0, 0, 2, 0, 0, 2, 0, 1], .b 1, .c [2, 0, 1, 0, 0, 3], .l [2, 0, 1, 0, 0], .b 0, .c [3]] [(4, .bool false)] ?_
    refine qT (.bool false) Tryd.func32 ?_
    refine ⟨_, rfl, H.done, ?_⟩
    congr 1
    exact (decide_eq_false (ne_at (by omega) (by omega) hxe)).symm
   ·
    replace h16 : ((xs[k]).toList == (ys[k]).toList) = true := by revert h16; cases ((xs[k]).toList == (ys[k]).toList) <;> simp
    replace h16 := eq_of_beq h16
    have hxe : xs[k] = ys[k] := by simpa [str_eq] using h16
    refine qR 2 [.c [2, 0, 1, 0, 0, 3], .l [2, 0, 1, 0, 0], .b 0, .c [3]] [(0, .slice a xs.length c), (1, .slice a2 ys.length c2), (12, .I ((xs.length : Nat) : Int)), (13, .I k)] ?_
    refine qG (sq 0 2) ?_
    refine qI .seq 25 (sq 1 2) ((k : Int) + 1) ?_
    refine qF 1 [(0, .slice a xs.length c), (1, .slice a2 ys.length c2), (12, .I ((xs.length : Nat) : Int)), (13, .I ((k : Int) + 1))] ?_
    have H := H.pick [2, 3] rfl
    exact WK.back (hback2 (k + 1) _ ⟨H, by omega, take_eq_step (by omega) (by omega) hinv0.2 hxe⟩ (by first | omega | (simp only []; omega))) (by as_aux_lemma => kernel_rfl)
  ·
   refine qR 3 [.c [4]] [(4, .bool true)] ?_
   refine qT (.bool true) Tryd.func32 ?_
   refine ⟨_, rfl, H.done, ?_⟩
   congr 1
   exact (decide_eq_true (by have h9 := hinv0.2; rwa [List.take_of_length_le (by omega), List.take_of_length_le (by omega)] at h9)).symm
def asF (x : Wop) (th dn : Bool) : Bool := opn x || (dn && decide (x.code = 1)) || (!th && decide (x.kind ≠ 4) && decide (x.code = 2))
theorem doT_get {S : Tb} {x : Wop} (h : x.kind = 2) : doT S x = (S, asF x (tget S x.key).isSome ((tget S x.key).isSome && decide (tget S x.key = some (strB x.answer)))) := by
 unfold doT; rw [if_neg (by omega), if_neg (by omega), if_pos h]; rfl
theorem doT_lst {S : Tb} {x : Wop} (h1 : ¬ x.kind = 1) (h3 : ¬ x.kind = 3) (h2 : ¬ x.kind = 2) : doT S x = (S, asF x (tget S x.key).isSome (decide (kys S = x.names))) := by
 unfold doT; rw [if_neg h1, if_neg h3, if_neg h2]; rfl
theorem get_eq {L : List (ByteArray × ByteArray × Nat)} {c : Nat} {S : Tb} (hT : TabOk L c S) {x : Wop} (h : (mfind x.key L).isSome = true) : asF x (mfind x.key L).isSome (((mfind x.key L).getD ByteArray.empty).toList == (strB x.answer).toList) = asF x (tget S x.key).isSome ((tget S x.key).isSome && decide (tget S x.key = some (strB x.answer))) := by
 rw [hT.find] at h ⊢
 cases ht : tget S x.key with
 | none => rw [ht] at h; cases h
 | some v =>
  congr 1
  rw [Bool.eq_iff_iff]
  simp only [Option.getD_some, beq_iff_eq, Option.isSome_some, Bool.true_and, decide_eq_true_eq, Option.some.injEq]
  exact str_eq
theorem get_no {L : List (ByteArray × ByteArray × Nat)} {c : Nat} {S : Tb} (hT : TabOk L c S) {x : Wop} (h : ¬ (mfind x.key L).isSome = true) : asF x (mfind x.key L).isSome false = asF x (tget S x.key).isSome ((tget S x.key).isSome && decide (tget S x.key = some (strB x.answer))) := by
 rw [hT.find] at h ⊢
 cases ht : tget S x.key with
 | none => rfl
 | some v => rw [ht] at h; exact absurd rfl h
theorem doT_del' {S : Tb} {x : Wop} (h : x.kind = 3) : doT S x = (tdel S x.key, asF x (tget S x.key).isSome (tget S x.key).isSome) := doT_del h
theorem as_spec {S : Nat → Prop} {w : World} {x : Wop} {xs : List Value} (hx : wopS.rep S w xs x) {bx bt : Nat} {th dn : Bool} (hF : (Fc bx 0 xs).p S w) (hB : (Fc bt 0 [.bool th]).p S w) :
 Calls Tryd.prog 30 #[.bool dn, .P bx 0, .P bt 0] w (Ret fun v w' => Ext w w' ∧ v = .bool (asF x th dn)) := by
 obtain ⟨a4x, k4x, a6x, k6x, a7x, k7x, rfl, h0x, h1x, h2x, h3x, h4x, h5x, h6x, h7x, h8x, h9x⟩ := wop_open hx
 refine qS (fn := Tryd.f30) (n := 29) (σ := [(0, .bool dn), (1, .P bx 0), (2, .P bt 0)]) Tryd.func30 ?_
 have H := Hp.startF (w := w) (S := S) (G := [Rp SB [.slice a4x x.data.length k4x] x.data, Rp SB [.slice a6x x.answer.length k6x] x.answer, Rp (Shape.slice Shape.str) [.slice a7x x.names.length k7x] x.names, Fc bx 0 [.int .u64 x.client, .int .u64 x.seq, .I x.kind, .string x.key, .slice a4x x.data.length k4x, .I x.code, .slice a6x x.answer.length k6x, .slice a7x x.names.length k7x, .I x.beg, .I x.fin], Fc bt 0 [.bool th]]) (.rp h4x (.rp h6x (.rp h7x (.cons hF (.cons hB .nil)))))
 refine qR 3 [.c [1, 0], .c [2]] [(0, .bool dn), (1, .P bx 0), (2, .P bt 0)] ?_
 refine qG (sq 0 25) ?_
 refine qL .seq 5 (sq 1 25) 33 bx 0 0 (.agg #[.int .u64 x.client, .int .u64 x.seq, .I x.kind, .string x.key, .slice a4x x.data.length k4x, .I x.code, .slice a6x x.answer.length k6x, .slice a7x x.names.length k7x, .I x.beg, .I x.fin]) (H.fc 3 rfl) ?_
 refine qK .seq (some 6) (sq 2 25) 17 #[.agg #[.int .u64 x.client, .int .u64 x.seq, .I x.kind, .string x.key, .slice a4x x.data.length k4x, .I x.code, .slice a6x x.answer.length k6x, .slice a7x x.names.length k7x, .I x.beg, .I x.fin]] (open_spec (x := x) (wop_mk (l0 := [.int .u64 x.client]) (y0 := x.client) (l1 := [.int .u64 x.seq]) (y1 := x.seq) (l2 := [.I x.kind]) (y2 := x.kind) (l3 := [.string x.key]) (y3 := x.key) (l4 := [.slice a4x x.data.length k4x]) (y4 := x.data) (l5 := [.I x.code]) (y5 := x.code) (l6 := [.slice a6x x.answer.length k6x]) (y6 := x.answer) (l7 := [.slice a7x x.names.length k7x]) (y7 := x.names) (l8 := [.I x.beg]) (y8 := x.beg) (l9 := [.I x.fin]) (y9 := x.fin) u64a u64a i64a ⟨rfl, h3x⟩ (H.rp 0 rfl) i64a (H.rp 1 rfl) (H.rp 2 rfl) i64a i64a)) ?_
 rintro _ w1 hE2 rfl
 have H := H.ext hE2
 refine qP 1 (sq 3 25) [(0, .bool dn), (1, .P bx 0), (2, .P bt 0), (7, .bool (opn x))] ?_
 refine RW.test (fun b_ => [(0, .bool dn), (1, .P bx 0), (2, .P bt 0), (7, .bool b_)]) (opn x) (fun h3 => ?_) (fun h3 => ?_)
 ·
  refine qF 22 [(4, .bool true)] ?_
  refine qT (.bool true) Tryd.func30 ?_
  refine ⟨_, rfl, H.done, ?_⟩
  congr 1
  rw [Bool.eq_iff_iff]
  unfold asF
  simp_all
 ·
  refine qP 2 (sq 5 25) [(1, .P bx 0), (2, .P bt 0), (7, .bool false), (9, .bool dn)] ?_
  refine RW.test (fun b_ => [(1, .P bx 0), (2, .P bt 0), (7, .bool false), (9, .bool b_)]) dn (fun h4 => ?_) (fun h4 => ?_)
  ·
   refine qP 1 (sq 6 25) [(1, .P bx 0), (2, .P bt 0), (7, .bool false), (9, .bool true), (10, .P bx 5)] ?_
   refine qL .seq 11 (sq 7 25) 30 bx 5 5 (.I x.code) (H.fc 3 rfl) ?_
   refine qP 4 (sq 11 25) [(1, .P bx 0), (2, .P bt 0), (15, .bool (x.code == 1))] ?_
   refine tE (fun b_ => [(1, .P bx 0), (2, .P bt 0), (15, .bool b_)]) x.code 1 (fun h5 => ?_) (fun h5 => ?_)
   ·
    refine qF 14 [(4, .bool true)] ?_
    refine qT (.bool true) Tryd.func30 ?_
    refine ⟨_, rfl, H.done, ?_⟩
    congr 1
    rw [Bool.eq_iff_iff]
    unfold asF
    simp_all
   ·
    refine qL .seq 16 (sq 12 25) 4 bt 0 0 (.bool th) (H.fc 4 rfl) ?_
    refine qP 2 (sq 14 25) [(1, .P bx 0), (15, .bool false), (18, .bool (!th))] ?_
    refine RW.test (fun b_ => [(1, .P bx 0), (15, .bool false), (18, .bool b_)]) (!th) (fun h6 => ?_) (fun h6 => ?_)
    ·
     replace h6 : (th) = false := by revert h6; cases (th) <;> simp
     refine qP 1 (sq 15 25) [(1, .P bx 0), (15, .bool false), (18, .bool true), (19, .P bx 2)] ?_
     refine qL .seq 20 (sq 16 25) 28 bx 2 2 (.I x.kind) (H.fc 3 rfl) ?_
     refine qP 3 (sq 19 25) [(1, .P bx 0), (15, .bool false), (23, .bool (x.kind != 4))] ?_
     refine tN (fun b_ => [(1, .P bx 0), (15, .bool false), (23, .bool b_)]) x.kind 4 (fun h7 => ?_) (fun h7 => ?_)
     ·
      refine qP 1 (sq 20 25) [(15, .bool false), (23, .bool true), (24, .P bx 5)] ?_
      refine qL .seq 25 (sq 21 25) 30 bx 5 5 (.I x.code) (H.fc 3 rfl) ?_
      refine qF 4 [(4, .bool (x.code == 2))] ?_
      refine qT (.bool (x.code == 2)) Tryd.func30 ?_
      refine ⟨_, rfl, H.done, ?_⟩
      congr 1
      rw [Bool.eq_iff_iff]
      unfold asF
      simp_all
     ·
      refine qF 6 [(4, .bool false)] ?_
      refine qT (.bool false) Tryd.func30 ?_
      refine ⟨_, rfl, H.done, ?_⟩
      congr 1
      rw [Bool.eq_iff_iff]
      unfold asF
      simp_all
    ·
     replace h6 : (th) = true := by revert h6; cases (th) <;> simp
     refine qF 11 [(4, .bool false)] ?_
     refine qT (.bool false) Tryd.func30 ?_
     refine ⟨_, rfl, H.done, ?_⟩
     congr 1
     rw [Bool.eq_iff_iff]
     unfold asF
     simp_all
  ·
   refine qP 6 (sq 11 25) [(1, .P bx 0), (2, .P bt 0), (15, .bool false)] ?_
   refine qL .seq 16 (sq 12 25) 4 bt 0 0 (.bool th) (H.fc 4 rfl) ?_
   refine qP 2 (sq 14 25) [(1, .P bx 0), (15, .bool false), (18, .bool (!th))] ?_
   refine RW.test (fun b_ => [(1, .P bx 0), (15, .bool false), (18, .bool b_)]) (!th) (fun h8 => ?_) (fun h8 => ?_)
   ·
    replace h8 : (th) = false := by revert h8; cases (th) <;> simp
    refine qP 1 (sq 15 25) [(1, .P bx 0), (15, .bool false), (18, .bool true), (19, .P bx 2)] ?_
    refine qL .seq 20 (sq 16 25) 28 bx 2 2 (.I x.kind) (H.fc 3 rfl) ?_
    refine qP 3 (sq 19 25) [(1, .P bx 0), (15, .bool false), (23, .bool (x.kind != 4))] ?_
    refine tN (fun b_ => [(1, .P bx 0), (15, .bool false), (23, .bool b_)]) x.kind 4 (fun h9 => ?_) (fun h9 => ?_)
    ·
     refine qP 1 (sq 20 25) [(15, .bool false), (23, .bool true), (24, .P bx 5)] ?_
     refine qL .seq 25 (sq 21 25) 30 bx 5 5 (.I x.code) (H.fc 3 rfl) ?_
     refine qF 4 [(4, .bool (x.code == 2))] ?_
     refine qT (.bool (x.code == 2)) Tryd.func30 ?_
     refine ⟨_, rfl, H.done, ?_⟩
     congr 1
     rw [Bool.eq_iff_iff]
     unfold asF
     simp_all
    ·
     refine qF 6 [(4, .bool false)] ?_
     refine qT (.bool false) Tryd.func30 ?_
     refine ⟨_, rfl, H.done, ?_⟩
     congr 1
     rw [Bool.eq_iff_iff]
     unfold asF
     simp_all
   ·
    replace h8 : (th) = true := by revert h8; cases (th) <;> simp
    refine qF 11 [(4, .bool false)] ?_
    refine qT (.bool false) Tryd.func30 ?_
    refine ⟨_, rfl, H.done, ?_⟩
    congr 1
    rw [Bool.eq_iff_iff]
    unfold asF
    simp_all
theorem do_spec {S : Nat → Prop} {w : World} {tb c : Nat} {L : List (ByteArray × ByteArray × Nat)} {Sx : Tb} (hT : TabOk L c Sx) (hz : szT Sx) {x : Wop} {xs : List Value} (hx : wopS.rep S w xs x) (hm : (Fm tb (mapO Value.string Value.string L c)).p S w) :
 Calls Tryd.prog 16 #[.map (some tb), .agg xs.toArray] w (Ret fun v w' => Ext w w' ∧ ∃ (nb : Nat) (L' : List (ByteArray × ByteArray × Nat)) (c' : Nat), v = .tuple #[.map (some nb), .bool (doT Sx x).2] ∧ TabOk L' c' (doT Sx x).1 ∧ Hp w S [] [] [] [Fm nb (mapO Value.string Value.string L' c')] w') := by
 obtain ⟨a4x, k4x, a6x, k6x, a7x, k7x, rfl, h0x, h1x, h2x, h3x, h4x, h5x, h6x, h7x, h8x, h9x⟩ := wop_open hx
 refine qS (fn := Tryd.f16) (n := 71) (σ := [(0, .map (some tb)), (1, .agg #[.int .u64 x.client, .int .u64 x.seq, .I x.kind, .string x.key, .slice a4x x.data.length k4x, .I x.code, .slice a6x x.answer.length k6x, .slice a7x x.names.length k7x, .I x.beg, .I x.fin])]) Tryd.func16 ?_
 have H := Hp.startF (w := w) (S := S) (G := [Rp SB [.slice a4x x.data.length k4x] x.data, Rp SB [.slice a6x x.answer.length k6x] x.answer, Rp (Shape.slice Shape.str) [.slice a7x x.names.length k7x] x.names, Fm tb (mapO Value.string Value.string L c)]) (.rp h4x (.rp h6x (.rp h7x (.cons hm .nil))))
 refine qR 1 [.c [0], .c [1]] [(0, .map (some tb)), (1, .agg #[.int .u64 x.client, .int .u64 x.seq, .I x.kind, .string x.key, .slice a4x x.data.length k4x, .I x.code, .slice a6x x.answer.length k6x, .slice a7x x.names.length k7x, .I x.beg, .I x.fin])] ?_
 refine qG (sq 0 3) ?_
 refine qB .seq 3 (sq 1 3) #[.int .u64 x.client, .int .u64 x.seq, .I x.kind, .string x.key, .slice a4x x.data.length k4x, .I x.code, .slice a6x x.answer.length k6x, .slice a7x x.names.length k7x, .I x.beg, .I x.fin] 33 H ?_
 intro b1 w2 H
 refine qF 2 [(0, .map (some tb)), (3, .P b1 0)] ?_
 refine qR 1 [.c [1, 0], .c [2]] [(0, .map (some tb)), (3, .P b1 0)] ?_
 refine qG (sq 0 10) ?_
 refine qP 2 (sq 2 10) [(0, .map (some tb)), (3, .P b1 0), (12, .map (some tb)), (13, .P b1 3)] ?_
 refine qL .seq 14 (sq 3 10) 9 b1 3 3 (.string x.key) (H.cells 0 rfl) ?_
 refine RW.mapGetB (κ := .seq) (d := some 15) (r := (sq 4 10)) (T := 56) (mk := Value.string) (vk := Value.string) (Kt := 9) (E := 9) (z := ByteArray.empty) x.key true (by as_aux_lemma => kernel_rfl) (H.fact 3 rfl) (KeyOk.str (by as_aux_lemma => kernel_rfl)) (by as_aux_lemma => kernel_rfl) (fun w_ => zeroE_run (by as_aux_lemma => kernel_rfl) w_) ?_
 refine qP 3 (sq 7 10) [(0, .map (some tb)), (3, .P b1 0), (16, .string ((mfind x.key L).getD ByteArray.empty)), (17, .bool ((mfind x.key L).isSome))] ?_
 refine qB .seq 7 (sq 8 10) #[.bool false] 4 H ?_
 intro b3 w4 H
 refine qP 1 (sq 9 10) [(0, .map (some tb)), (3, .P b1 0), (6, .string ((mfind x.key L).getD ByteArray.empty)), (7, .P b3 0), (17, .bool ((mfind x.key L).isSome))] ?_
 refine qW 4 b3 0 (sq 10 10) (.bool ((mfind x.key L).isSome)) [(b3, .cells #[.bool ((mfind x.key L).isSome)] 4 (0, 0)), (b1, .cells #[.int .u64 x.client, .int .u64 x.seq, .I x.kind, .string x.key, .slice a4x x.data.length k4x, .I x.code, .slice a6x x.answer.length k6x, .slice a7x x.names.length k7x, .I x.beg, .I x.fin] 33 (0, 0))] H 0 rfl rfl ?_
 intro w5 H
 refine qF 0 [(0, .map (some tb)), (3, .P b1 0), (6, .string ((mfind x.key L).getD ByteArray.empty)), (7, .P b3 0)] ?_
 refine qR 4 [.c [3, 0, 0], .c [3, 0, 1], .c [4]] [(0, .map (some tb)), (3, .P b1 0), (6, .string ((mfind x.key L).getD ByteArray.empty)), (7, .P b3 0), (8, .func (.func 30) #[] #[.P b1 0, .P b3 0])] ?_
 refine qG (sq 0 2) ?_
 refine qP 1 (sq 1 2) [(0, .map (some tb)), (3, .P b1 0), (6, .string ((mfind x.key L).getD ByteArray.empty)), (7, .P b3 0), (8, .func (.func 30) #[] #[.P b1 0, .P b3 0]), (19, .P b1 2)] ?_
 refine qL .seq 20 (sq 2 2) 28 b1 2 2 (.I x.kind) (H.cells 1 rfl) ?_
 refine qF 0 [(0, .map (some tb)), (3, .P b1 0), (6, .string ((mfind x.key L).getD ByteArray.empty)), (7, .P b3 0), (8, .func (.func 30) #[] #[.P b1 0, .P b3 0]), (20, .I x.kind)] ?_
 refine qR 3 [.c [3, 0, 1, 0, 1], .b 0, .c [4]] [(0, .map (some tb)), (3, .P b1 0), (6, .string ((mfind x.key L).getD ByteArray.empty)), (7, .P b3 0), (8, .func (.func 30) #[] #[.P b1 0, .P b3 0]), (20, .I x.kind), (21, .bool (x.kind == 1))] ?_
 refine qE x.kind 1 (fun h6 => ?_) (fun h6 => ?_)
 ·
  have hk1 : x.kind = 1 := h6
  refine qR 1 [.c [3, 0, 1, 0, 1, 0, 0], .c [3, 0, 1, 0, 1, 0, 1], .b 0, .c [4]] [(0, .map (some tb)), (3, .P b1 0)] ?_
  refine qG (sq 0 3) ?_
  refine qP 1 (sq 1 3) [(3, .P b1 0), (23, .map (some tb))] ?_
  refine qK .seq (some 24) (sq 2 3) 31 #[.map (some tb)] (clone_spec (St := Av S w [] (idsOf [(b3, .cells #[.bool ((mfind x.key L).isSome)] 4 (0, 0)), (b1, .cells #[.int .u64 x.client, .int .u64 x.seq, .I x.kind, .string x.key, .slice a4x x.data.length k4x, .I x.code, .slice a6x x.answer.length k6x, .slice a7x x.names.length k7x, .I x.beg, .I x.fin] 33 (0, 0))] [])) (H.fact 3 rfl).2) ?_
  rintro _ w7 - ⟨b8, rfl, H'⟩
  have H := H.back (M1 := []) (W1 := []) H'
  have H : Hp w S [] [(b8, mapO Value.string Value.string L c), (b3, .cells #[.bool ((mfind x.key L).isSome)] 4 (0, 0)), (b1, .cells #[.int .u64 x.client, .int .u64 x.seq, .I x.kind, .string x.key, .slice a4x x.data.length k4x, .I x.code, .slice a6x x.answer.length k6x, .slice a7x x.names.length k7x, .I x.beg, .I x.fin] 33 (0, 0))] [] [Rp SB [.slice a4x x.data.length k4x] x.data, Rp SB [.slice a6x x.answer.length k6x] x.answer, Rp (Shape.slice Shape.str) [.slice a7x x.names.length k7x] x.names, Fm tb (mapO Value.string Value.string L c)] _ := H
  refine qF 1 [(3, .P b1 0), (9, .map (some b8))] ?_
  refine qR 1 [.c [3, 0, 1, 0, 1, 0, 1, 0], .c [3, 0, 1, 0, 1, 0, 2], .b 0, .c [4]] [(3, .P b1 0), (9, .map (some b8))] ?_
  refine qG (sq 0 7) ?_
  refine qP 2 (sq 2 7) [(3, .P b1 0), (9, .map (some b8)), (25, .map (some b8)), (26, .P b1 3)] ?_
  refine qL .seq 27 (sq 3 7) 9 b1 3 3 (.string x.key) (H.cells 2 rfl) ?_
  refine qP 1 (sq 4 7) [(3, .P b1 0), (9, .map (some b8)), (25, .map (some b8)), (27, .string x.key), (28, .P b1 4)] ?_
  refine qL .seq 29 (sq 5 7) 29 b1 4 4 (.slice a4x x.data.length k4x) (H.cells 2 rfl) ?_
  refine RW.toStr (κ := .seq) (d := some 30) (r := (sq 6 7)) (Ts := 29) (Td := 9) 5 (a := a4x) (len := x.data.length) (cap := k4x) (xs := x.data) (by as_aux_lemma => kernel_rfl) (by as_aux_lemma => kernel_rfl) (H.rp 0 rfl) ?_
  refine RW.mapSet (d := none) (r := (sq 7 7)) (T := 56) (mk := Value.string) (vk := Value.string) (Kt := 9) (E := 9) (M' := [(b8, mapO Value.string Value.string (mset x.key (Go.BX.strOf x.data) c L) (mclk x.key c L)), (b3, .cells #[.bool ((mfind x.key L).isSome)] 4 (0, 0)), (b1, .cells #[.int .u64 x.client, .int .u64 x.seq, .I x.kind, .string x.key, .slice a4x x.data.length k4x, .I x.code, .slice a6x x.answer.length k6x, .slice a7x x.names.length k7x, .I x.beg, .I x.fin] 33 (0, 0))]) x.key (Go.BX.strOf x.data) (by as_aux_lemma => kernel_rfl) H 0 rfl (KeyOk.str (by as_aux_lemma => kernel_rfl)) (by as_aux_lemma => kernel_rfl) rfl ?_
  intro w9 hCw9 H
  refine qF 0 [(3, .P b1 0), (9, .map (some b8))] ?_
  refine qR 1 [.c [3, 0, 1, 0, 1, 0, 2, 0], .c [3, 0, 1, 0, 1, 0, 3], .b 0, .c [4]] [(3, .P b1 0), (9, .map (some b8))] ?_
  refine WK.draw1 10 [(0, .qui), (1, .qui), (2, .chn), (3, .qui), (4, .qui), (5, .qui), (6, .qui), (7, .qui), (8, .qui), (9, .qui)] [(0, .qui), (1, .qui), (2, .chn), (3, .qui), (4, .qui), (5, .qui), (6, .qui), (7, .qui), (8, .qui), (9, .qui)] Tryd_mixed (by as_aux_lemma => kernel_rfl) (by as_aux_lemma => kernel_rfl) (by as_aux_lemma => kernel_rfl) ?_
  have H := H.draw
  generalize ({ w9 with drawn := w9.drawn + 1 } : World) = w10 at H ⊢
  refine qP 1 [(1, .qui), (2, .chn), (3, .qui), (4, .qui), (5, .qui), (6, .qui), (7, .qui), (8, .qui), (9, .qui)] [(3, .P b1 0), (31, .map (some b8))] ?_
  refine qL .qui 32 [(2, .chn), (3, .qui), (4, .qui), (5, .qui), (6, .qui), (7, .qui), (8, .qui), (9, .qui)] 33 b1 0 0 (.agg #[.int .u64 x.client, .int .u64 x.seq, .I x.kind, .string x.key, .slice a4x x.data.length k4x, .I x.code, .slice a6x x.answer.length k6x, .slice a7x x.names.length k7x, .I x.beg, .I x.fin]) (H.cells 2 rfl) ?_
  refine qK .chn (some 33) (qs [3, 4, 5, 6, 7, 8, 9]) 17 #[.agg #[.int .u64 x.client, .int .u64 x.seq, .I x.kind, .string x.key, .slice a4x x.data.length k4x, .I x.code, .slice a6x x.answer.length k6x, .slice a7x x.names.length k7x, .I x.beg, .I x.fin]] (open_spec (x := x) (wop_mk (l0 := [.int .u64 x.client]) (y0 := x.client) (l1 := [.int .u64 x.seq]) (y1 := x.seq) (l2 := [.I x.kind]) (y2 := x.kind) (l3 := [.string x.key]) (y3 := x.key) (l4 := [.slice a4x x.data.length k4x]) (y4 := x.data) (l5 := [.I x.code]) (y5 := x.code) (l6 := [.slice a6x x.answer.length k6x]) (y6 := x.answer) (l7 := [.slice a7x x.names.length k7x]) (y7 := x.names) (l8 := [.I x.beg]) (y8 := x.beg) (l9 := [.I x.fin]) (y9 := x.fin) u64a u64a i64a ⟨rfl, h3x⟩ (H.rp 0 rfl) i64a (H.rp 1 rfl) (H.rp 2 rfl) i64a i64a)) ?_
  rintro _ w11 hE12 rfl
  have H := H.ext hE12
  refine qP 1 (qs [4, 5, 6, 7, 8, 9]) [(3, .P b1 0), (31, .map (some b8)), (34, .bool (opn x))] ?_
  refine RW.test (fun b_ => [(3, .P b1 0), (31, .map (some b8)), (34, .bool b_)]) (opn x) (fun h13 => ?_) (fun h13 => ?_)
  ·
   refine qF 6 [(4, .map (some b8)), (5, .bool true)] ?_
   refine qT (.tuple #[.map (some b8), .bool true]) Tryd.func16 ?_
   have H := H.freezeO
   have H : Hp w S [] [(b3, .cells #[.bool ((mfind x.key L).isSome)] 4 (0, 0)), (b1, .cells #[.int .u64 x.client, .int .u64 x.seq, .I x.kind, .string x.key, .slice a4x x.data.length k4x, .I x.code, .slice a6x x.answer.length k6x, .slice a7x x.names.length k7x, .I x.beg, .I x.fin] 33 (0, 0))] [] [Fm b8 (mapO Value.string Value.string (mset x.key (Go.BX.strOf x.data) c L) (mclk x.key c L)), Rp SB [.slice a4x x.data.length k4x] x.data, Rp SB [.slice a6x x.answer.length k6x] x.answer, Rp (Shape.slice Shape.str) [.slice a7x x.names.length k7x] x.names, Fm tb (mapO Value.string Value.string L c)] _ := H
   have H := H.drop (M' := []) (W' := []) (List.nil_sublist _) (List.nil_sublist _)
   refine ⟨_, rfl, H.done, b8, mset x.key (Go.BX.strOf x.data) c L, mclk x.key c L, congrArg (fun q => Value.tuple #[Value.map (some b8), Value.bool q]) ?_, by rw [doT_put hk1]; exact hT.put _ _, H.pick [0] rfl⟩
   rw [doT_put hk1]
   first | rfl | (rw [Bool.eq_iff_iff]; simp_all)
  ·
   refine qP 1 (qs [5, 6, 7, 8, 9]) [(31, .map (some b8)), (34, .bool false), (35, .P b1 5)] ?_
   refine qL .qui 36 (qs [6, 7, 8, 9]) 30 b1 5 5 (.I x.code) (H.cells 2 rfl) ?_
   refine qF 4 [(4, .map (some b8)), (5, .bool (x.code == 1))] ?_
   refine qT (.tuple #[.map (some b8), .bool (x.code == 1)]) Tryd.func16 ?_
   have H := H.freezeO
   have H : Hp w S [] [(b3, .cells #[.bool ((mfind x.key L).isSome)] 4 (0, 0)), (b1, .cells #[.int .u64 x.client, .int .u64 x.seq, .I x.kind, .string x.key, .slice a4x x.data.length k4x, .I x.code, .slice a6x x.answer.length k6x, .slice a7x x.names.length k7x, .I x.beg, .I x.fin] 33 (0, 0))] [] [Fm b8 (mapO Value.string Value.string (mset x.key (Go.BX.strOf x.data) c L) (mclk x.key c L)), Rp SB [.slice a4x x.data.length k4x] x.data, Rp SB [.slice a6x x.answer.length k6x] x.answer, Rp (Shape.slice Shape.str) [.slice a7x x.names.length k7x] x.names, Fm tb (mapO Value.string Value.string L c)] _ := H
   have H := H.drop (M' := []) (W' := []) (List.nil_sublist _) (List.nil_sublist _)
   refine ⟨_, rfl, H.done, b8, mset x.key (Go.BX.strOf x.data) c L, mclk x.key c L, congrArg (fun q => Value.tuple #[Value.map (some b8), Value.bool q]) ?_, by rw [doT_put hk1]; exact hT.put _ _, H.pick [0] rfl⟩
   rw [doT_put hk1]
   first | rfl | (rw [Bool.eq_iff_iff]; simp_all)
 ·
  have hk1 : ¬ x.kind = 1 := h6
  refine qR 2 [.c [3, 0, 1, 0, 1, 1, 1], .b 0, .c [4]] [(0, .map (some tb)), (3, .P b1 0), (6, .string ((mfind x.key L).getD ByteArray.empty)), (7, .P b3 0), (8, .func (.func 30) #[] #[.P b1 0, .P b3 0]), (20, .I x.kind), (39, .bool (x.kind == 3))] ?_
  refine qE x.kind 3 (fun h14 => ?_) (fun h14 => ?_)
  ·
   have hk3 : x.kind = 3 := h14
   refine qR 1 [.c [3, 0, 1, 0, 1, 1, 1, 0, 0], .c [3, 0, 1, 0, 1, 1, 1, 0, 1], .b 0, .c [4]] [(0, .map (some tb)), (3, .P b1 0), (7, .P b3 0), (8, .func (.func 30) #[] #[.P b1 0, .P b3 0])] ?_
   refine qG (sq 0 3) ?_
   refine qP 1 (sq 1 3) [(3, .P b1 0), (7, .P b3 0), (8, .func (.func 30) #[] #[.P b1 0, .P b3 0]), (41, .map (some tb))] ?_
   refine qK .seq (some 42) (sq 2 3) 31 #[.map (some tb)] (clone_spec (St := Av S w [] (idsOf [(b3, .cells #[.bool ((mfind x.key L).isSome)] 4 (0, 0)), (b1, .cells #[.int .u64 x.client, .int .u64 x.seq, .I x.kind, .string x.key, .slice a4x x.data.length k4x, .I x.code, .slice a6x x.answer.length k6x, .slice a7x x.names.length k7x, .I x.beg, .I x.fin] 33 (0, 0))] [])) (H.fact 3 rfl).2) ?_
   rintro _ w15 - ⟨b16, rfl, H'⟩
   have H := H.back (M1 := []) (W1 := []) H'
   have H : Hp w S [] [(b16, mapO Value.string Value.string L c), (b3, .cells #[.bool ((mfind x.key L).isSome)] 4 (0, 0)), (b1, .cells #[.int .u64 x.client, .int .u64 x.seq, .I x.kind, .string x.key, .slice a4x x.data.length k4x, .I x.code, .slice a6x x.answer.length k6x, .slice a7x x.names.length k7x, .I x.beg, .I x.fin] 33 (0, 0))] [] [Rp SB [.slice a4x x.data.length k4x] x.data, Rp SB [.slice a6x x.answer.length k6x] x.answer, Rp (Shape.slice Shape.str) [.slice a7x x.names.length k7x] x.names, Fm tb (mapO Value.string Value.string L c)] _ := H
   refine qF 1 [(3, .P b1 0), (7, .P b3 0), (8, .func (.func 30) #[] #[.P b1 0, .P b3 0]), (10, .map (some b16))] ?_
   refine qR 1 [.c [3, 0, 1, 0, 1, 1, 1, 0, 1, 0], .c [3, 0, 1, 0, 1, 1, 1, 0, 2], .b 0, .c [4]] [(3, .P b1 0), (7, .P b3 0), (8, .func (.func 30) #[] #[.P b1 0, .P b3 0]), (10, .map (some b16))] ?_
   refine qG (sq 0 4) ?_
   refine qP 2 (sq 2 4) [(7, .P b3 0), (8, .func (.func 30) #[] #[.P b1 0, .P b3 0]), (10, .map (some b16)), (43, .map (some b16)), (44, .P b1 3)] ?_
   refine qL .seq 45 (sq 3 4) 9 b1 3 3 (.string x.key) (H.cells 2 rfl) ?_
   refine RW.mapDel (d := none) (r := (sq 4 4)) (T := 56) (ts := #[56, 9]) (t := 0) (mk := Value.string) (vk := Value.string) (Kt := 9) (E := 9) (M' := [(b16, mapO Value.string Value.string (mdel x.key L) c), (b3, .cells #[.bool ((mfind x.key L).isSome)] 4 (0, 0)), (b1, .cells #[.int .u64 x.client, .int .u64 x.seq, .I x.kind, .string x.key, .slice a4x x.data.length k4x, .I x.code, .slice a6x x.answer.length k6x, .slice a7x x.names.length k7x, .I x.beg, .I x.fin] 33 (0, 0))]) x.key (by as_aux_lemma => kernel_rfl) H 0 rfl (KeyOk.str (by as_aux_lemma => kernel_rfl)) (by as_aux_lemma => kernel_rfl) (by as_aux_lemma => kernel_rfl) rfl ?_
   intro w17 hCw17 H
   refine qF 0 [(7, .P b3 0), (8, .func (.func 30) #[] #[.P b1 0, .P b3 0]), (10, .map (some b16))] ?_
   refine qR 1 [.c [3, 0, 1, 0, 1, 1, 1, 0, 2, 0], .c [3, 0, 1, 0, 1, 1, 1, 0, 3], .b 0, .c [4]] [(7, .P b3 0), (8, .func (.func 30) #[] #[.P b1 0, .P b3 0]), (10, .map (some b16))] ?_
   refine qG (sq 0 6) ?_
   refine qP 2 (sq 2 6) [(7, .P b3 0), (46, .map (some b16)), (47, .func (.func 30) #[] #[.P b1 0, .P b3 0])] ?_
   refine qL .seq 48 (sq 3 6) 4 b3 0 0 (.bool ((mfind x.key L).isSome)) (H.cells 1 rfl) ?_
   refine qK .seq (some 49) (sq 4 6) 30 #[.bool ((mfind x.key L).isSome), .P b1 0, .P b3 0] (as_spec (S := fun _ => True) (x := x) (wopS.step (wop_mk (l0 := [.int .u64 x.client]) (y0 := x.client) (l1 := [.int .u64 x.seq]) (y1 := x.seq) (l2 := [.I x.kind]) (y2 := x.kind) (l3 := [.string x.key]) (y3 := x.key) (l4 := [.slice a4x x.data.length k4x]) (y4 := x.data) (l5 := [.I x.code]) (y5 := x.code) (l6 := [.slice a6x x.answer.length k6x]) (y6 := x.answer) (l7 := [.slice a7x x.names.length k7x]) (y7 := x.names) (l8 := [.I x.beg]) (y8 := x.beg) (l9 := [.I x.fin]) (y9 := x.fin) u64a u64a i64a ⟨rfl, h3x⟩ (H.rp 0 rfl) i64a (H.rp 1 rfl) (H.rp 2 rfl) i64a i64a) fun _ _ _ => ⟨trivial, rfl⟩) (H.viewM 2 rfl (by simp)) (H.viewM 1 rfl (by simp))) ?_
   rintro _ w18 hE19 rfl
   have H := H.ext hE19
   refine qF 2 [(4, .map (some b16)), (5, .bool (asF x ((mfind x.key L).isSome) ((mfind x.key L).isSome)))] ?_
   refine qT (.tuple #[.map (some b16), .bool (asF x ((mfind x.key L).isSome) ((mfind x.key L).isSome))]) Tryd.func16 ?_
   have H := H.freezeO
   have H : Hp w S [] [(b3, .cells #[.bool ((mfind x.key L).isSome)] 4 (0, 0)), (b1, .cells #[.int .u64 x.client, .int .u64 x.seq, .I x.kind, .string x.key, .slice a4x x.data.length k4x, .I x.code, .slice a6x x.answer.length k6x, .slice a7x x.names.length k7x, .I x.beg, .I x.fin] 33 (0, 0))] [] [Fm b16 (mapO Value.string Value.string (mdel x.key L) c), Rp SB [.slice a4x x.data.length k4x] x.data, Rp SB [.slice a6x x.answer.length k6x] x.answer, Rp (Shape.slice Shape.str) [.slice a7x x.names.length k7x] x.names, Fm tb (mapO Value.string Value.string L c)] _ := H
   have H := H.drop (M' := []) (W' := []) (List.nil_sublist _) (List.nil_sublist _)
   refine ⟨_, rfl, H.done, b16, mdel x.key L, c, congrArg (fun q => Value.tuple #[Value.map (some b16), Value.bool q]) ?_, by rw [doT_del' hk3]; exact hT.del _, H.pick [0] rfl⟩
   rw [doT_del' hk3]
   rw [hT.find]
  ·
   have hk3 : ¬ x.kind = 3 := h14
   refine qR 2 [.c [3, 0, 1, 0, 1, 1, 1, 1, 1], .b 0, .c [4]] [(0, .map (some tb)), (3, .P b1 0), (6, .string ((mfind x.key L).getD ByteArray.empty)), (7, .P b3 0), (8, .func (.func 30) #[] #[.P b1 0, .P b3 0]), (50, .bool (x.kind == 2))] ?_
   refine qE x.kind 2 (fun h20 => ?_) (fun h20 => ?_)
   ·
    have hk2 : x.kind = 2 := h20
    refine qR 1 [.c [3, 0, 1, 0, 1, 1, 1, 1, 1, 0, 0], .c [3, 0, 1, 0, 1, 1, 1, 1, 1, 0, 1], .b 0, .c [4]] [(0, .map (some tb)), (3, .P b1 0), (6, .string ((mfind x.key L).getD ByteArray.empty)), (7, .P b3 0), (8, .func (.func 30) #[] #[.P b1 0, .P b3 0])] ?_
    refine qG (sq 0 13) ?_
    refine qP 2 (sq 2 13) [(3, .P b1 0), (6, .string ((mfind x.key L).getD ByteArray.empty)), (7, .P b3 0), (52, .map (some tb)), (53, .func (.func 30) #[] #[.P b1 0, .P b3 0])] ?_
    refine qL .seq 54 (sq 3 13) 4 b3 0 0 (.bool ((mfind x.key L).isSome)) (H.cells 0 rfl) ?_
    refine qP 1 (sq 4 13) [(3, .P b1 0), (6, .string ((mfind x.key L).getD ByteArray.empty)), (52, .map (some tb)), (53, .func (.func 30) #[] #[.P b1 0, .P b3 0]), (55, .bool ((mfind x.key L).isSome))] ?_
    refine RW.test (fun b_ => [(3, .P b1 0), (6, .string ((mfind x.key L).getD ByteArray.empty)), (52, .map (some tb)), (53, .func (.func 30) #[] #[.P b1 0, .P b3 0]), (55, .bool b_)]) ((mfind x.key L).isSome) (fun h21 => ?_) (fun h21 => ?_)
    ·
     refine qP 2 (sq 6 13) [(52, .map (some tb)), (53, .func (.func 30) #[] #[.P b1 0, .P b3 0]), (55, .bool true), (56, .string ((mfind x.key L).getD ByteArray.empty)), (57, .P b1 6)] ?_
     refine qL .seq 58 (sq 7 13) 29 b1 6 6 (.slice a6x x.answer.length k6x) (H.cells 1 rfl) ?_
     refine RW.toStr (κ := .seq) (d := some 59) (r := (sq 8 13)) (Ts := 29) (Td := 9) 5 (a := a6x) (len := x.answer.length) (cap := k6x) (xs := x.answer) (by as_aux_lemma => kernel_rfl) (by as_aux_lemma => kernel_rfl) (H.rp 1 rfl) ?_
     refine qP 2 (sq 10 13) [(52, .map (some tb)), (53, .func (.func 30) #[] #[.P b1 0, .P b3 0]), (61, .bool (((mfind x.key L).getD ByteArray.empty).toList == (Go.BX.strOf x.answer).toList))] ?_
     refine qK .seq (some 62) (sq 11 13) 30 #[.bool (((mfind x.key L).getD ByteArray.empty).toList == (Go.BX.strOf x.answer).toList), .P b1 0, .P b3 0] (as_spec (S := fun _ => True) (x := x) (wopS.step (wop_mk (l0 := [.int .u64 x.client]) (y0 := x.client) (l1 := [.int .u64 x.seq]) (y1 := x.seq) (l2 := [.I x.kind]) (y2 := x.kind) (l3 := [.string x.key]) (y3 := x.key) (l4 := [.slice a4x x.data.length k4x]) (y4 := x.data) (l5 := [.I x.code]) (y5 := x.code) (l6 := [.slice a6x x.answer.length k6x]) (y6 := x.answer) (l7 := [.slice a7x x.names.length k7x]) (y7 := x.names) (l8 := [.I x.beg]) (y8 := x.beg) (l9 := [.I x.fin]) (y9 := x.fin) u64a u64a i64a ⟨rfl, h3x⟩ (H.rp 0 rfl) i64a (H.rp 1 rfl) (H.rp 2 rfl) i64a i64a) fun _ _ _ => ⟨trivial, rfl⟩) (H.viewM 1 rfl (by simp)) (H.viewM 0 rfl (by simp))) ?_
     rintro _ w22 hE23 rfl
     have H := H.ext hE23
     refine qF 2 [(4, .map (some tb)), (5, .bool (asF x ((mfind x.key L).isSome) (((mfind x.key L).getD ByteArray.empty).toList == (Go.BX.strOf x.answer).toList)))] ?_
     refine qT (.tuple #[.map (some tb), .bool (asF x ((mfind x.key L).isSome) (((mfind x.key L).getD ByteArray.empty).toList == (Go.BX.strOf x.answer).toList))]) Tryd.func16 ?_
     have H := H.drop (M' := []) (W' := []) (List.nil_sublist _) (List.nil_sublist _)
     refine ⟨_, rfl, H.done, tb, L, c, congrArg (fun q => Value.tuple #[Value.map (some tb), Value.bool q]) ?_, by rw [doT_get hk2]; exact hT, H.pick [3] rfl⟩
     rw [doT_get hk2]
     exact get_eq hT (by assumption)
    ·
     refine qP 6 (sq 10 13) [(52, .map (some tb)), (53, .func (.func 30) #[] #[.P b1 0, .P b3 0]), (61, .bool false)] ?_
     refine qK .seq (some 62) (sq 11 13) 30 #[.bool false, .P b1 0, .P b3 0] (as_spec (S := fun _ => True) (x := x) (wopS.step (wop_mk (l0 := [.int .u64 x.client]) (y0 := x.client) (l1 := [.int .u64 x.seq]) (y1 := x.seq) (l2 := [.I x.kind]) (y2 := x.kind) (l3 := [.string x.key]) (y3 := x.key) (l4 := [.slice a4x x.data.length k4x]) (y4 := x.data) (l5 := [.I x.code]) (y5 := x.code) (l6 := [.slice a6x x.answer.length k6x]) (y6 := x.answer) (l7 := [.slice a7x x.names.length k7x]) (y7 := x.names) (l8 := [.I x.beg]) (y8 := x.beg) (l9 := [.I x.fin]) (y9 := x.fin) u64a u64a i64a ⟨rfl, h3x⟩ (H.rp 0 rfl) i64a (H.rp 1 rfl) (H.rp 2 rfl) i64a i64a) fun _ _ _ => ⟨trivial, rfl⟩) (H.viewM 1 rfl (by simp)) (H.viewM 0 rfl (by simp))) ?_
     rintro _ w24 hE25 rfl
     have H := H.ext hE25
     refine qF 2 [(4, .map (some tb)), (5, .bool (asF x ((mfind x.key L).isSome) false))] ?_
     refine qT (.tuple #[.map (some tb), .bool (asF x ((mfind x.key L).isSome) false)]) Tryd.func16 ?_
     have H := H.drop (M' := []) (W' := []) (List.nil_sublist _) (List.nil_sublist _)
     refine ⟨_, rfl, H.done, tb, L, c, congrArg (fun q => Value.tuple #[Value.map (some tb), Value.bool q]) ?_, by rw [doT_get hk2]; exact hT, H.pick [3] rfl⟩
     rw [doT_get hk2]
     exact get_no hT (by simp [*])
   ·
    have hk2 : ¬ x.kind = 2 := h20
    refine qR 3 [.c [4, 0], .c [5]] [(0, .map (some tb)), (3, .P b1 0), (8, .func (.func 30) #[] #[.P b1 0, .P b3 0])] ?_
    refine WK.draw1 10 [(0, .qui), (1, .qui), (2, .qui), (4, .qui), (5, .qui), (3, .chn), (6, .chn), (7, .chn), (8, .qui), (9, .qui)] [(0, .qui), (1, .qui), (2, .qui), (4, .qui), (5, .qui), (3, .chn), (6, .chn), (7, .chn), (8, .qui), (9, .qui)] Tryd_mixed (by as_aux_lemma => kernel_rfl) (by as_aux_lemma => kernel_rfl) (by as_aux_lemma => kernel_rfl) ?_
    have H := H.draw
    generalize ({ w5 with drawn := w5.drawn + 1 } : World) = w26 at H ⊢
    refine qP 4 [(5, .qui), (3, .chn), (6, .chn), (7, .chn), (8, .qui), (9, .qui)] [(63, .map (some tb)), (64, .func (.func 30) #[] #[.P b1 0, .P b3 0]), (65, .map (some tb)), (67, .P b1 7)] ?_
    refine qL .qui 68 [(3, .chn), (6, .chn), (7, .chn), (8, .qui), (9, .qui)] 31 b1 7 7 (.slice a7x x.names.length k7x) (H.cells 1 rfl) ?_
    refine qK .chn (some 66) [(6, .chn), (7, .chn), (8, .qui), (9, .qui)] 33 #[.map (some tb)] (names_spec (St := Av S w [] (idsOf [(b3, .cells #[.bool ((mfind x.key L).isSome)] 4 (0, 0)), (b1, .cells #[.int .u64 x.client, .int .u64 x.seq, .I x.kind, .string x.key, .slice a4x x.data.length k4x, .I x.code, .slice a6x x.answer.length k6x, .slice a7x x.names.length k7x, .I x.beg, .I x.fin] 33 (0, 0))] [])) hT hz (H.fact 3 rfl).2) ?_
    rintro v28 w27 - H'
    have H := H.back (M1 := []) (W1 := []) H'
    obtain ⟨a29, c30, rfl, hc31, hm32⟩ := H.ownForm 0 rfl
    have H : Hp w S [] [(b3, .cells #[.bool ((mfind x.key L).isSome)] 4 (0, 0)), (b1, .cells #[.int .u64 x.client, .int .u64 x.seq, .I x.kind, .string x.key, .slice a4x x.data.length k4x, .I x.code, .slice a6x x.answer.length k6x, .slice a7x x.names.length k7x, .I x.beg, .I x.fin] 33 (0, 0))] [⟨Shape.str, 9, .slice a29 (kys Sx).length c30, kys Sx⟩] [Rp SB [.slice a4x x.data.length k4x] x.data, Rp SB [.slice a6x x.answer.length k6x] x.answer, Rp (Shape.slice Shape.str) [.slice a7x x.names.length k7x] x.names, Fm tb (mapO Value.string Value.string L c)] _ := H
    have H : Hp w S [] [(b3, .cells #[.bool ((mfind x.key L).isSome)] 4 (0, 0)), (b1, .cells #[.int .u64 x.client, .int .u64 x.seq, .I x.kind, .string x.key, .slice a4x x.data.length k4x, .I x.code, .slice a6x x.answer.length k6x, .slice a7x x.names.length k7x, .I x.beg, .I x.fin] 33 (0, 0))] [] [Rp (Shape.slice Shape.str) [.slice a29 (kys Sx).length c30] (kys Sx), Rp SB [.slice a4x x.data.length k4x] x.data, Rp SB [.slice a6x x.answer.length k6x] x.answer, Rp (Shape.slice Shape.str) [.slice a7x x.names.length k7x] x.names, Fm tb (mapO Value.string Value.string L c)] _ := H.freezeW 0 rfl
    refine qK .chn (some 69) [(7, .chn), (8, .qui), (9, .qui)] 32 #[.slice a29 (kys Sx).length c30, .slice a7x x.names.length k7x] (equal_spec (xs := kys Sx) (ys := x.names) (H.rp 0 rfl) (H.rp 3 rfl)) ?_
    rintro _ w33 hE34 rfl
    have H := H.ext hE34
    refine qK .chn (some 70) (qs [8, 9]) 30 #[.bool (decide (kys Sx = x.names)), .P b1 0, .P b3 0] (as_spec (S := fun _ => True) (x := x) (wopS.step (wop_mk (l0 := [.int .u64 x.client]) (y0 := x.client) (l1 := [.int .u64 x.seq]) (y1 := x.seq) (l2 := [.I x.kind]) (y2 := x.kind) (l3 := [.string x.key]) (y3 := x.key) (l4 := [.slice a4x x.data.length k4x]) (y4 := x.data) (l5 := [.I x.code]) (y5 := x.code) (l6 := [.slice a6x x.answer.length k6x]) (y6 := x.answer) (l7 := [.slice a7x x.names.length k7x]) (y7 := x.names) (l8 := [.I x.beg]) (y8 := x.beg) (l9 := [.I x.fin]) (y9 := x.fin) u64a u64a i64a ⟨rfl, h3x⟩ (H.rp 1 rfl) i64a (H.rp 2 rfl) (H.rp 3 rfl) i64a i64a) fun _ _ _ => ⟨trivial, rfl⟩) (H.viewM 1 rfl (by simp)) (H.viewM 0 rfl (by simp))) ?_
    rintro _ w35 hE36 rfl
    have H := H.ext hE36
    refine qF 2 [(4, .map (some tb)), (5, .bool (asF x ((mfind x.key L).isSome) (decide (kys Sx = x.names))))] ?_
    refine qT (.tuple #[.map (some tb), .bool (asF x ((mfind x.key L).isSome) (decide (kys Sx = x.names)))]) Tryd.func16 ?_
    have H := H.drop (M' := []) (W' := []) (List.nil_sublist _) (List.nil_sublist _)
    refine ⟨_, rfl, H.done, tb, L, c, congrArg (fun q => Value.tuple #[Value.map (some tb), Value.bool q]) ?_, by rw [doT_lst hk1 hk3 hk2]; exact hT, H.pick [4] rfl⟩
    rw [doT_lst hk1 hk3 hk2]
    rw [hT.find]
end Go.Proofs.YtcodkepdolmmbaaDoor
