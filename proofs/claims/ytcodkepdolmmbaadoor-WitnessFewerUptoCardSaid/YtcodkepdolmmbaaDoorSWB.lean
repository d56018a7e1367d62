import Derived.Test.YtcodkepdolmmbaaDoorSWA
namespace Go.Proofs.YtcodkepdolmmbaaDoor
open Go.BX
theorem szH_sub {h m : List Wop} (hs : ∀ x ∈ m, x ∈ h) (hz : szH h) : szH m := fun x hx => hz x (hs x hx)
theorem keep_yes {hs : List Wop} {k : Nat} (hk : k < hs.length) (h : keepW hs[k] = true) : (hs.take k).filter keepW ++ [hs[k]] = (hs.take (k + 1)).filter keepW := by
 rw [List.take_succ_eq_append_getElem hk, List.filter_append, List.filter_cons_of_pos h]; rfl
theorem keep_no {hs : List Wop} {k : Nat} (hk : k < hs.length) (h : ¬ keepW hs[k] = true) : (hs.take k).filter keepW = (hs.take (k + 1)).filter keepW := by
 rw [List.take_succ_eq_append_getElem hk, List.filter_append, List.filter_cons_of_neg h, List.filter_nil, List.append_nil]
theorem keep_len {hs : List Wop} (k : Nat) : ((hs.take k).filter keepW).length ≤ hs.length := Nat.le_trans (List.length_filter_le _ _) (by rw [List.length_take]; omega)
set_option maxHeartbeats 4000000 in
theorem fewer_spec {S : Nat → Prop} {w : World} {hs : List Wop} {a : Option Addr} {c : Nat} (h : (Shape.slice wopS).rep S w [.slice a hs.length c] hs) (hsz : szH hs) (hq : (Fz tabsQ).p S w) :
 Calls Tryd.prog 6 #[.slice a hs.length c] w (Ret fun v w' => Ext w w' ∧ v = .bool true) := by
 have hlen := Shape.slice_len h
 refine qS (fn := Tryd.f6) (n := 61) (σ := [(0, .slice a hs.length c)]) Tryd.func6 ?_
 have H := Hp.startF (w := w) (S := S) (G := [Rp (Shape.slice wopS) [.slice a hs.length c] hs, Fz tabsQ]) (.rp h (.cons hq .nil))
 refine qR 3 [.c [1, 0], .c [2]] [(0, .slice a hs.length c)] ?_
 refine qG (sq 0 7) ?_
 refine qP 1 (sq 1 7) [(0, .slice a hs.length c), (10, .slice a hs.length c)] ?_
 refine qK .seq (some 11) (sq 2 7) 7 #[.slice a hs.length c] (legal_spec (hs := hs) (H.rp 0 rfl) (hsz) (H.fact 1 rfl)) ?_
 rintro _ w1 hE2 ⟨bl3, el4, rfl, hj5⟩
 have H := H.ext hE2
 refine qF 5 [(0, .slice a hs.length c), (3, .bool bl3), (4, .I el4)] ?_
 refine qR 2 [.c [2, 0, 0], .c [2, 0, 1], .c [3]] [(0, .slice a hs.length c), (3, .bool bl3), (4, .I el4)] ?_
 refine qG (sq 0 6) ?_
 refine qP 3 (sq 3 6) [(0, .slice a hs.length c), (3, .bool bl3), (16, .bool (el4 != 0))] ?_
 refine tN (fun b_ => [(0, .slice a hs.length c), (3, .bool bl3), (16, .bool b_)]) el4 0 (fun h6 => ?_) (fun h6 => ?_)
 ·
  refine qF 3 [(0, .slice a hs.length c), (19, .bool true)] ?_
  refine qR 2 [.c [2, 0, 1, 0, 0], .c [2, 0, 1, 0, 1], .c [3]] [] ?_
  refine qG (sq 0 2) ?_
  refine qK .seq (some 20) (sq 1 2) 8 #[] (heads_spec (H.fact 1 rfl)) ?_
  rintro _ w7 hE8 rfl
  have H := H.ext hE8
  refine qF 1 [(2, .bool true)] ?_
  refine qT (.bool true) Tryd.func6 ?_
  exact ⟨_, rfl, H.done, rfl⟩
 ·
  refine qF 3 [(0, .slice a hs.length c), (19, .bool (!bl3))] ?_
  refine qC (!bl3) (fun h9 => ?_) (fun h9 => ?_)
  ·
   replace h9 : (bl3) = false := by revert h9; cases (bl3) <;> simp
   refine qR 1 [.c [2, 0, 1, 0, 0], .c [2, 0, 1, 0, 1], .c [3]] [] ?_
   refine qG (sq 0 2) ?_
   refine qK .seq (some 20) (sq 1 2) 8 #[] (heads_spec (H.fact 1 rfl)) ?_
   rintro _ w10 hE11 rfl
   have H := H.ext hE11
   refine qF 1 [(2, .bool true)] ?_
   refine qT (.bool true) Tryd.func6 ?_
   exact ⟨_, rfl, H.done, rfl⟩
  ·
   replace h9 : (bl3) = true := by revert h9; cases (bl3) <;> simp
   have hl1 : legalH hs := hj5.2.2.1 (by simpa using h9)
   have hl2 := legalH_fewer hl1
   have hhl := hl1.1.1
   refine qR 7 [.c [4, 0, 1, 0], .b 0, .c [5]] [(0, .slice a hs.length c), (5, .slice none 0 0), (6, .I 0)] ?_
   have H := H.ownNil wopS 33
   refine WK.loop (α := Nat × Option Addr × Nat) (b := cd Tryd.prog 6 [4, 0, 1, 0, 0]) (by as_aux_lemma => kernel_rfl) (fun st_ => match st_ with | (k, a9, c9) => [(0, .slice a hs.length c), (5, .slice a9 (((hs.take k).filter keepW).length) c9), (6, .I k)]) (fun st_ w' => match st_ with | (k, a9, c9) => Hp w S [] [] [⟨wopS, 33, .slice a9 (((hs.take k).filter keepW).length) c9, ((hs.take k).filter keepW)⟩] [Rp (Shape.slice wopS) [.slice a hs.length c] hs, Fz tabsQ] w' ∧ k ≤ hs.length) (fun st_ => match st_ with | (k, a9, c9) => hs.length - k) (0, none, 0) ⟨H, Nat.zero_le _⟩ (rfl) ?_
   rintro ⟨k, a9, c9⟩ w13 ⟨H, hinv0⟩ hback12
   refine qR 3 [.c [4, 0, 1, 0, 0, 0, 1], .c [4, 0, 1, 0, 0, 1], .l [4, 0, 1, 0, 0], .b 0, .c [5]] [(0, .slice a hs.length c), (5, .slice a9 (((hs.take k).filter keepW).length) c9), (6, .I k), (24, .bool (decide (((k : Int) : Int) < ((hs.length : Nat) : Int))))] ?_
   refine qD (((k : Int) : Int) < ((hs.length : Nat) : Int)) (fun h14 => ?_) (fun h14 => ?_)
   ·
    have hk1 : k < hs.length := by omega
    refine qR 4 [.c [4, 0, 1, 0, 0, 1, 0, 0, 0], .c [4, 0, 1, 0, 0, 1, 0, 0, 1], .b 1, .c [4, 0, 1, 0, 0, 2], .l [4, 0, 1, 0, 0], .b 0, .c [5]] [(0, .slice a hs.length c), (5, .slice a9 (((hs.take k).filter keepW).length) c9), (6, .I k)] ?_
    refine qG (sq 0 14) ?_
    refine qP 2 (sq 2 14) [(0, .slice a hs.length c), (5, .slice a9 (((hs.take k).filter keepW).length) c9), (6, .I k), (27, .slice a hs.length c), (28, .I k)] ?_
    have hx15 : k < hs.length := by omega
    refine qX .seq 29 (sq 3 14) 22 33 (k : Int) wopS (hs[k]) H 0 rfl k (by omega) (List.getElem?_eq_getElem hx15) ?_
    intro b16 o17 es18 hr19 H
    obtain ⟨a4q20, k4q20, a6q20, k6q20, a7q20, k7q20, rfl, hf21, hf22, hf23, hf24, hf25, hf26, hf27, hf28, hf29, hf30⟩ := wop_open hr19
    have H := H.add (F := Rp SB [.slice a4q20 ((hs[k]).data.length) k4q20] ((hs[k]).data)) hf25
    have H := H.add (F := Rp SB [.slice a6q20 ((hs[k]).answer.length) k6q20] ((hs[k]).answer)) hf27
    have H := H.add (F := Rp (Shape.slice Shape.str) [.slice a7q20 ((hs[k]).names.length) k7q20] ((hs[k]).names)) hf28
    refine qP 1 (sq 4 14) [(0, .slice a hs.length c), (5, .slice a9 (((hs.take k).filter keepW).length) c9), (6, .I k), (30, .pointer (some ⟨b16, o17 + 2, none⟩))] ?_
    refine qL .seq 31 (sq 5 14) 28 b16 (o17 + 2) 2 (.I ((hs[k]).kind)) (H.fc 3 rfl) ?_
    refine qP 2 (sq 7 14) [(0, .slice a hs.length c), (5, .slice a9 (((hs.take k).filter keepW).length) c9), (6, .I k), (33, .bool (((hs[k]).kind) != 2))] ?_
    refine tN (fun b_ => [(0, .slice a hs.length c), (5, .slice a9 (((hs.take k).filter keepW).length) c9), (6, .I k), (33, .bool b_)]) ((hs[k]).kind) 2 (fun h31 => ?_) (fun h31 => ?_)
    ·
     refine qP 2 (sq 9 14) [(0, .slice a hs.length c), (5, .slice a9 (((hs.take k).filter keepW).length) c9), (6, .I k), (33, .bool true), (34, .slice a hs.length c), (35, .I k)] ?_
     have hx32 : k < hs.length := by omega
     refine qX .seq 36 (sq 10 14) 22 33 (k : Int) wopS (hs[k]) H 4 rfl k (by omega) (List.getElem?_eq_getElem hx32) ?_
     intro b33 o34 es35 hr36 H
     obtain ⟨a4q37, k4q37, a6q37, k6q37, a7q37, k7q37, rfl, hf38, hf39, hf40, hf41, hf42, hf43, hf44, hf45, hf46, hf47⟩ := wop_open hr36
     have H := H.add (F := Rp SB [.slice a4q37 ((hs[k]).data.length) k4q37] ((hs[k]).data)) hf42
     have H := H.add (F := Rp SB [.slice a6q37 ((hs[k]).answer.length) k6q37] ((hs[k]).answer)) hf44
     have H := H.add (F := Rp (Shape.slice Shape.str) [.slice a7q37 ((hs[k]).names.length) k7q37] ((hs[k]).names)) hf45
     refine qP 1 (sq 11 14) [(0, .slice a hs.length c), (5, .slice a9 (((hs.take k).filter keepW).length) c9), (6, .I k), (33, .bool true), (37, .pointer (some ⟨b33, o34 + 2, none⟩))] ?_
     refine qL .seq 38 (sq 12 14) 28 b33 (o34 + 2) 2 (.I ((hs[k]).kind)) (H.fc 3 rfl) ?_
     refine qF 2 [(0, .slice a hs.length c), (5, .slice a9 (((hs.take k).filter keepW).length) c9), (6, .I k), (40, .bool (((hs[k]).kind) != 4))] ?_
     refine qN ((hs[k]).kind) 4 (fun h48 => ?_) (fun h48 => ?_)
     ·
      have hkp : keepW hs[k] = true := by unfold keepW; simp [*]
      refine qG (sq 0 8) ?_
      refine qP 3 (sq 3 8) [(0, .slice a hs.length c), (5, .slice a9 (((hs.take k).filter keepW).length) c9), (6, .I k), (41, .slice a9 (((hs.take k).filter keepW).length) c9), (42, .slice a hs.length c), (43, .I k)] ?_
      have hx49 : k < hs.length := by omega
      refine qX .seq 44 (sq 4 8) 22 33 (k : Int) wopS (hs[k]) H 8 rfl k (by omega) (List.getElem?_eq_getElem hx49) ?_
      intro b50 o51 es52 hr53 H
      obtain ⟨a4q54, k4q54, a6q54, k6q54, a7q54, k7q54, rfl, hf55, hf56, hf57, hf58, hf59, hf60, hf61, hf62, hf63, hf64⟩ := wop_open hr53
      have H := H.add (F := Rp SB [.slice a4q54 ((hs[k]).data.length) k4q54] ((hs[k]).data)) hf59
      have H := H.add (F := Rp SB [.slice a6q54 ((hs[k]).answer.length) k6q54] ((hs[k]).answer)) hf61
      have H := H.add (F := Rp (Shape.slice Shape.str) [.slice a7q54 ((hs[k]).names.length) k7q54] ((hs[k]).names)) hf62
      refine qL .seq 45 (sq 5 8) 33 b50 o51 0 (.agg #[.int .u64 ((hs[k]).client), .int .u64 ((hs[k]).seq), .I ((hs[k]).kind), .string ((hs[k]).key), .slice a4q54 ((hs[k]).data.length) k4q54, .I ((hs[k]).code), .slice a6q54 ((hs[k]).answer.length) k6q54, .slice a7q54 ((hs[k]).names.length) k7q54, .I ((hs[k]).beg), .I ((hs[k]).fin)]) (H.fc 3 rfl) ?_
      refine RW.new (κ := .seq) (d := some 46) (r := (sq 6 8)) (o := .cells #[.int .u64 ((hs[k]).client), .int .u64 ((hs[k]).seq), .I ((hs[k]).kind), .string ((hs[k]).key), .slice a4q54 ((hs[k]).data.length) k4q54, .I ((hs[k]).code), .slice a6q54 ((hs[k]).answer.length) k6q54, .slice a7q54 ((hs[k]).names.length) k7q54, .I ((hs[k]).beg), .I ((hs[k]).fin)] 33 (0, 0)) (v := fun b => .slice (some ⟨b, 0, none⟩) 1 1) (fun b => by as_aux_lemma => kernel_rfl) (nofun) H ?_
      intro b65 w66 H
      have H := H.freeze 0 rfl wopS ([(hs[k])] : List Wop) 1 (by simp [maxLen]) (by first | exact Nat.le_refl _ | simp) (EsP.cons (c := [.int .u64 ((hs[k]).client), .int .u64 ((hs[k]).seq), .I ((hs[k]).kind), .string ((hs[k]).key), .slice a4q54 ((hs[k]).data.length) k4q54, .I ((hs[k]).code), .slice a6q54 ((hs[k]).answer.length) k6q54, .slice a7q54 ((hs[k]).names.length) k7q54, .I ((hs[k]).beg), .I ((hs[k]).fin)]) (wop_mk (l0 := [.int .u64 ((hs[k]).client)]) (y0 := (hs[k]).client) (l1 := [.int .u64 ((hs[k]).seq)]) (y1 := (hs[k]).seq) (l2 := [.I ((hs[k]).kind)]) (y2 := (hs[k]).kind) (l3 := [.string ((hs[k]).key)]) (y3 := (hs[k]).key) (l4 := [.slice a4q54 ((hs[k]).data.length) k4q54]) (y4 := (hs[k]).data) (l5 := [.I ((hs[k]).code)]) (y5 := (hs[k]).code) (l6 := [.slice a6q54 ((hs[k]).answer.length) k6q54]) (y6 := (hs[k]).answer) (l7 := [.slice a7q54 ((hs[k]).names.length) k7q54]) (y7 := (hs[k]).names) (l8 := [.I ((hs[k]).beg)]) (y8 := (hs[k]).beg) (l9 := [.I ((hs[k]).fin)]) (y9 := (hs[k]).fin) u64a u64a i64a ⟨rfl, by first | assumption | (simp [maxLen]; done) | decide⟩ (H.rp 2 rfl) i64a (H.rp 1 rfl) (H.rp 0 rfl) i64a i64a) EsP.nil)
      have H : Hp w S [] [] [⟨wopS, 33, .slice a9 (((hs.take k).filter keepW).length) c9, ((hs.take k).filter keepW)⟩] [Rp (Shape.slice wopS) [.slice (some ⟨b65, 0, none⟩) 1 1] ([(hs[k])] : List Wop), Rp (Shape.slice Shape.str) [.slice a7q54 ((hs[k]).names.length) k7q54] ((hs[k]).names), Rp SB [.slice a6q54 ((hs[k]).answer.length) k6q54] ((hs[k]).answer), Rp SB [.slice a4q54 ((hs[k]).data.length) k4q54] ((hs[k]).data), Fc b50 o51 [.int .u64 ((hs[k]).client), .int .u64 ((hs[k]).seq), .I ((hs[k]).kind), .string ((hs[k]).key), .slice a4q54 ((hs[k]).data.length) k4q54, .I ((hs[k]).code), .slice a6q54 ((hs[k]).answer.length) k6q54, .slice a7q54 ((hs[k]).names.length) k7q54, .I ((hs[k]).beg), .I ((hs[k]).fin)], Rp (Shape.slice Shape.str) [.slice a7q37 ((hs[k]).names.length) k7q37] ((hs[k]).names), Rp SB [.slice a6q37 ((hs[k]).answer.length) k6q37] ((hs[k]).answer), Rp SB [.slice a4q37 ((hs[k]).data.length) k4q37] ((hs[k]).data), Fc b33 o34 [.int .u64 ((hs[k]).client), .int .u64 ((hs[k]).seq), .I ((hs[k]).kind), .string ((hs[k]).key), .slice a4q37 ((hs[k]).data.length) k4q37, .I ((hs[k]).code), .slice a6q37 ((hs[k]).answer.length) k6q37, .slice a7q37 ((hs[k]).names.length) k7q37, .I ((hs[k]).beg), .I ((hs[k]).fin)], Rp (Shape.slice Shape.str) [.slice a7q20 ((hs[k]).names.length) k7q20] ((hs[k]).names), Rp SB [.slice a6q20 ((hs[k]).answer.length) k6q20] ((hs[k]).answer), Rp SB [.slice a4q20 ((hs[k]).data.length) k4q20] ((hs[k]).data), Fc b16 o17 [.int .u64 ((hs[k]).client), .int .u64 ((hs[k]).seq), .I ((hs[k]).kind), .string ((hs[k]).key), .slice a4q20 ((hs[k]).data.length) k4q20, .I ((hs[k]).code), .slice a6q20 ((hs[k]).answer.length) k6q20, .slice a7q20 ((hs[k]).names.length) k7q20, .I ((hs[k]).beg), .I ((hs[k]).fin)], Rp (Shape.slice wopS) [.slice a hs.length c] hs, Fz tabsQ] _ := H
      refine RW.appendW (d := some 47) (r := (sq 7 8)) (T := 22) (ty := 22) (e := 33) (m := 10) (by_ := 136) (v := .slice a9 (((hs.take k).filter keepW).length) c9) (a2 := (some ⟨b65, 0, none⟩)) (l2 := 1) (c2 := 1) (zs := ((hs.take (k + 1)).filter keepW)) (by as_aux_lemma => kernel_rfl) (by as_aux_lemma => kernel_rfl) rfl H 0 rfl 0 rfl (keep_yes hk1 hkp) (by have := keep_len (hs := hs) (k + 1); omega) ?_
      intro a67 c68 w70 H hc69
      have H : Hp w S [] [] [⟨wopS, 33, .slice a67 (((hs.take (k + 1)).filter keepW).length) c68, ((hs.take (k + 1)).filter keepW)⟩] [Rp (Shape.slice wopS) [.slice (some ⟨b65, 0, none⟩) 1 1] ([(hs[k])] : List Wop), Rp (Shape.slice Shape.str) [.slice a7q54 ((hs[k]).names.length) k7q54] ((hs[k]).names), Rp SB [.slice a6q54 ((hs[k]).answer.length) k6q54] ((hs[k]).answer), Rp SB [.slice a4q54 ((hs[k]).data.length) k4q54] ((hs[k]).data), Fc b50 o51 [.int .u64 ((hs[k]).client), .int .u64 ((hs[k]).seq), .I ((hs[k]).kind), .string ((hs[k]).key), .slice a4q54 ((hs[k]).data.length) k4q54, .I ((hs[k]).code), .slice a6q54 ((hs[k]).answer.length) k6q54, .slice a7q54 ((hs[k]).names.length) k7q54, .I ((hs[k]).beg), .I ((hs[k]).fin)], Rp (Shape.slice Shape.str) [.slice a7q37 ((hs[k]).names.length) k7q37] ((hs[k]).names), Rp SB [.slice a6q37 ((hs[k]).answer.length) k6q37] ((hs[k]).answer), Rp SB [.slice a4q37 ((hs[k]).data.length) k4q37] ((hs[k]).data), Fc b33 o34 [.int .u64 ((hs[k]).client), .int .u64 ((hs[k]).seq), .I ((hs[k]).kind), .string ((hs[k]).key), .slice a4q37 ((hs[k]).data.length) k4q37, .I ((hs[k]).code), .slice a6q37 ((hs[k]).answer.length) k6q37, .slice a7q37 ((hs[k]).names.length) k7q37, .I ((hs[k]).beg), .I ((hs[k]).fin)], Rp (Shape.slice Shape.str) [.slice a7q20 ((hs[k]).names.length) k7q20] ((hs[k]).names), Rp SB [.slice a6q20 ((hs[k]).answer.length) k6q20] ((hs[k]).answer), Rp SB [.slice a4q20 ((hs[k]).data.length) k4q20] ((hs[k]).data), Fc b16 o17 [.int .u64 ((hs[k]).client), .int .u64 ((hs[k]).seq), .I ((hs[k]).kind), .string ((hs[k]).key), .slice a4q20 ((hs[k]).data.length) k4q20, .I ((hs[k]).code), .slice a6q20 ((hs[k]).answer.length) k6q20, .slice a7q20 ((hs[k]).names.length) k7q20, .I ((hs[k]).beg), .I ((hs[k]).fin)], Rp (Shape.slice wopS) [.slice a hs.length c] hs, Fz tabsQ] _ := H
      refine qF 1 [(0, .slice a hs.length c), (5, .slice a67 (((hs.take (k + 1)).filter keepW).length) c68), (6, .I k)] ?_
      refine qR 1 [.c [4, 0, 1, 0, 0, 2], .l [4, 0, 1, 0, 0], .b 0, .c [5]] [(0, .slice a hs.length c), (5, .slice a67 (((hs.take (k + 1)).filter keepW).length) c68), (6, .I k)] ?_
      refine qG (sq 0 3) ?_
      refine qP 1 (sq 1 3) [(0, .slice a hs.length c), (5, .slice a67 (((hs.take (k + 1)).filter keepW).length) c68), (6, .I k), (25, .I k)] ?_
      refine qI .seq 26 (sq 2 3) ((k : Int) + 1) ?_
      refine qF 1 [(0, .slice a hs.length c), (5, .slice a67 (((hs.take (k + 1)).filter keepW).length) c68), (6, .I ((k : Int) + 1))] ?_
      have H := H.pick [13, 14] rfl
      exact WK.back (hback12 (k + 1, a67, c68) _ ⟨H, by omega⟩ (by first | omega | (simp only []; omega))) (by as_aux_lemma => kernel_rfl)
     ·
      have hkp : ¬ keepW hs[k] = true := by unfold keepW; simp [*]
      refine qR 2 [.c [4, 0, 1, 0, 0, 2], .l [4, 0, 1, 0, 0], .b 0, .c [5]] [(0, .slice a hs.length c), (5, .slice a9 (((hs.take k).filter keepW).length) c9), (6, .I k)] ?_
      refine qG (sq 0 3) ?_
      refine qP 1 (sq 1 3) [(0, .slice a hs.length c), (5, .slice a9 (((hs.take k).filter keepW).length) c9), (6, .I k), (25, .I k)] ?_
      refine qI .seq 26 (sq 2 3) ((k : Int) + 1) ?_
      refine qF 1 [(0, .slice a hs.length c), (5, .slice a9 (((hs.take k).filter keepW).length) c9), (6, .I ((k : Int) + 1))] ?_
      rw [keep_no hk1 hkp] at H ⊢
      have H := H.pick [8, 9] rfl
      have H := H.drop (M' := []) (W' := [⟨wopS, 33, .slice a9 (((hs.take (k + 1)).filter keepW).length) c9, ((hs.take (k + 1)).filter keepW)⟩]) (by repeat (first | exact List.Sublist.refl _ | apply List.Sublist.cons_cons | apply List.Sublist.cons)) (by repeat (first | exact List.Sublist.refl _ | apply List.Sublist.cons_cons | apply List.Sublist.cons))
      exact WK.back (hback12 (k + 1, a9, c9) _ ⟨H, by omega⟩ (by first | omega | (simp only []; omega))) (by as_aux_lemma => kernel_rfl)
    ·
     have hkp : ¬ keepW hs[k] = true := by unfold keepW; simp [*]
     refine qF 7 [(0, .slice a hs.length c), (5, .slice a9 (((hs.take k).filter keepW).length) c9), (6, .I k), (40, .bool false)] ?_
     refine qR 3 [.c [4, 0, 1, 0, 0, 2], .l [4, 0, 1, 0, 0], .b 0, .c [5]] [(0, .slice a hs.length c), (5, .slice a9 (((hs.take k).filter keepW).length) c9), (6, .I k)] ?_
     refine qG (sq 0 3) ?_
     refine qP 1 (sq 1 3) [(0, .slice a hs.length c), (5, .slice a9 (((hs.take k).filter keepW).length) c9), (6, .I k), (25, .I k)] ?_
     refine qI .seq 26 (sq 2 3) ((k : Int) + 1) ?_
     refine qF 1 [(0, .slice a hs.length c), (5, .slice a9 (((hs.take k).filter keepW).length) c9), (6, .I ((k : Int) + 1))] ?_
     rw [keep_no hk1 hkp] at H ⊢
     have H := H.pick [4, 5] rfl
     have H := H.drop (M' := []) (W' := [⟨wopS, 33, .slice a9 (((hs.take (k + 1)).filter keepW).length) c9, ((hs.take (k + 1)).filter keepW)⟩]) (by repeat (first | exact List.Sublist.refl _ | apply List.Sublist.cons_cons | apply List.Sublist.cons)) (by repeat (first | exact List.Sublist.refl _ | apply List.Sublist.cons_cons | apply List.Sublist.cons))
     exact WK.back (hback12 (k + 1, a9, c9) _ ⟨H, by omega⟩ (by first | omega | (simp only []; omega))) (by as_aux_lemma => kernel_rfl)
   ·
    rw [List.take_of_length_le (show hs.length ≤ k by omega)] at H ⊢
    refine qR 2 [.c [5, 0], .c [6]] [(5, .slice a9 (((hs).filter keepW).length) c9)] ?_
    refine qG (sq 0 7) ?_
    refine qP 1 (sq 1 7) [(49, .slice a9 (((hs).filter keepW).length) c9)] ?_
    have H : Hp w S [] [] [] [Rp (Shape.slice wopS) [.slice a9 (((hs).filter keepW).length) c9] ((hs).filter keepW), Rp (Shape.slice wopS) [.slice a hs.length c] hs, Fz tabsQ] _ := H.freezeW 0 rfl
    refine qK .seq (some 50) (sq 2 7) 7 #[.slice a9 (((hs).filter keepW).length) c9] (legal_spec (hs := ((hs).filter keepW)) (H.rp 0 rfl) (szH_sub (fun x hx => (List.mem_filter.1 hx).1) hsz) (H.fact 2 rfl)) ?_
    rintro _ w71 hE72 ⟨bl73, el74, rfl, hj75⟩
    have H := H.ext hE72
    refine qF 5 [(7, .bool bl73), (8, .I el74)] ?_
    refine qR 1 [.c [6, 0], .c [7]] [(7, .bool bl73), (8, .I el74)] ?_
    refine qG (sq 0 9) ?_
    refine qP 2 (sq 2 9) [(8, .I el74), (54, .bool bl73)] ?_
    refine RW.test (fun b_ => [(8, .I el74), (54, .bool b_)]) bl73 (fun h76 => ?_) (fun h76 => ?_)
    ·
     refine qP 4 (sq 6 9) [(58, .bool (el74 == 0))] ?_
     refine tE (fun b_ => [(58, .bool b_)]) el74 0 (fun h77 => ?_) (fun h77 => ?_)
     ·
      refine qK .seq (some 59) (sq 7 9) 8 #[] (heads_spec (H.fact 2 rfl)) ?_
      rintro _ w78 hE79 rfl
      have H := H.ext hE79
      refine qF 2 [(2, .bool true)] ?_
      refine qT (.bool true) Tryd.func6 ?_
      exact ⟨_, rfl, H.done, rfl⟩
     ·
      exact absurd (hj75.2.1.2 hl2.1) h77
    ·
     exact absurd (hj75.2.2.2 hl2) (by simp [*])
end Go.Proofs.YtcodkepdolmmbaaDoor
