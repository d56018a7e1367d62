import Derived.Test.YtdnibpclkhenmaaGreatDoorSJ3
import Derived.Test.YtdnibpclkhenmaaGreatDoorSJA
import Derived.Test.YtdnibpclkhenmaaGreatDoorSBxB
namespace Go.Proofs.YtdnibpclkhenmaaGreatDoor
open Go.BX
theorem wnumber_spec {S : Nat → Prop} {w : World} (e : Int) (hq : (Fz jQ).p S w) :
 Calls Tryz.prog 161 #[.iface 322 (.I e)] w (Ret fun v w' => Ext w w' ∧ v = .I e) := by
 refine qS (fn := Tryz.f161) (n := 8) (σ := [(0, .iface 322 (.I e))]) Tryz.func161 ?_
 have H := Hp.startF (w := w) (S := S) (G := [Fz jQ]) (.cons hq .nil)
 refine qR 3 [.c [1, 0], .c [2]] [(0, .iface 322 (.I e))] ?_
 refine qG (sq 0 1) ?_
 refine qB .seq 3 (sq 1 1) #[.I 0] 322 H ?_
 intro b1 w2 H
 refine qF 0 [(0, .iface 322 (.I e)), (3, .P b1 0)] ?_
 refine qR 2 [.c [2, 0, 0], .c [2, 0, 1], .c [3]] [(0, .iface 322 (.I e)), (3, .P b1 0)] ?_
 refine qG (sq 0 3) ?_
 refine qP 2 (sq 2 3) [(3, .P b1 0), (4, .iface 322 (.I e)), (5, .iface 323 (.P b1 0))] ?_
 refine RW.callS (d := some 6) (r := (sq 3 3)) (g := 112) (args := #[.iface 322 (.I e), .iface 323 (.P b1 0)]) (by as_aux_lemma => kernel_rfl) (as_wire H (Fz.of (H.fact 0 rfl))) ?_
 rintro _ w3 ⟨rfl, H⟩
 refine qF 0 [(3, .P b1 0), (6, .bool true)] ?_
 refine qR 2 [.c [2, 0, 1, 0, 0], .c [2, 0, 1, 0, 1], .c [3]] [(3, .P b1 0)] ?_
 refine qG (sq 0 2) ?_
 refine qL .seq 7 (sq 1 2) 322 b1 0 0 (.I e) (H.cells 0 rfl) ?_
 refine qF 1 [(2, .I e)] ?_
 refine qT (.I e) Tryz.func161 ?_
 exact ⟨_, rfl, H.done, rfl⟩
theorem wNext_spec {S : Nat → Prop} {w : World} {xs : List (BitVec 8)} {a : Option Addr} {c : Nat} (h : SB.rep S w [.slice a xs.length c] xs) (at_ : Nat) (hat : at_ ≤ xs.length) (hxl : xs.length ≤ 100000000) (hq : (Fz jQ).p S w) :
 Calls Tryz.prog 108 #[.slice a xs.length c, .I at_] w (Ret fun v w' => Ext w w' ∧ ((∃ e : Int, e ≠ 0 ∧ v = .tuple #[.slice none 0 0, .I 0, .I e] ∧ nextF (xs.drop at_) = none) ∨ ∃ (a' : Option Addr) (c' : Nat) (b : List (BitVec 8)), nextF (xs.drop at_) = some b ∧ v = .tuple #[.slice a' b.length c', .I ((at_ + b.length + 12 : Nat) : Int), .I 0] ∧ SB.rep (Nw S w) w' [.slice a' b.length c'] b)) := by
 have hlen := Shape.slice_len h
 refine qS (fn := Tryz.f108) (n := 36) (σ := [(0, .slice a xs.length c), (1, .I at_)]) Tryz.func108 ?_
 have H := Hp.startF (w := w) (S := S) (G := [Rp SB [.slice a xs.length c] xs, Fz jQ]) (.rp h (.cons hq .nil))
 refine qR 4 [.c [1, 0, 0], .c [1, 0, 1], .c [2]] [(0, .slice a xs.length c), (1, .I at_)] ?_
 refine qG (sq 0 8) ?_
 refine qP 3 (sq 3 8) [(0, .slice a xs.length c), (1, .I at_), (11, .bool (decide (((at_ : Int) : Int) < 0)))] ?_
 refine tD (fun b_ => [(0, .slice a xs.length c), (1, .I at_), (11, .bool b_)]) (((at_ : Int) : Int) < 0) (fun h1 => ?_) (fun h1 => ?_)
 ·
  omega
 ·
  refine qF 5 [(0, .slice a xs.length c), (1, .I at_), (16, .bool (decide (((at_ : Int) : Int) > ((xs.length : Nat) : Int))))] ?_
  refine qD (((at_ : Int) : Int) > ((xs.length : Nat) : Int)) (fun h2 => ?_) (fun h2 => ?_)
  ·
   omega
  ·
   refine qR 2 [.c [2, 0], .c [3]] [(0, .slice a xs.length c), (1, .I at_)] ?_
   refine qG (sq 0 9) ?_
   refine qP 2 (sq 2 9) [(1, .I at_), (18, .slice a xs.length c), (19, .I at_)] ?_
   refine RW.slice (κ := .seq) (d := some 20) (r := (sq 3 9)) (T := 23) (e := 5) (sh := Sb) (a := a) (len := xs.length) (cap := c) (zs := (xs.drop at_)) (lv := (some (.I at_))) (hv := none) (by as_aux_lemma => kernel_rfl) (by as_aux_lemma => kernel_rfl) H 0 rfl at_ xs.length (.mk (by omega)) .nil (by omega) (by omega) (by rw [List.take_of_length_le (Nat.le_refl _)]) ?_
   intro a3 H
   refine qK .seq (some 21) (sq 4 9) 160 #[.slice a3 (xs.drop at_).length (c - at_)] (wnext_spec (xs := (xs.drop at_)) (H.rp 0 rfl)) ?_
   rintro _ w4 hE8 (⟨e5, he6, rfl, ho7⟩ | ⟨a9, c10, b11, ho7, rfl, hr12⟩)
   ·
    have H := H.ext hE8
    refine qF 5 [(1, .I at_), (7, .slice none 0 0), (8, .iface 322 (.I e5))] ?_
    refine qR 5 [.c [3, 0, 1, 0, 0], .c [3, 0, 1, 0, 1], .c [4]] [(8, .iface 322 (.I e5))] ?_
    refine qG (sq 0 5) ?_
    refine qP 1 (sq 1 5) [(26, .iface 322 (.I e5))] ?_
    refine qK .seq (some 27) (sq 2 5) 161 #[.iface 322 (.I e5)] (wnumber_spec e5 (H.fact 2 rfl)) ?_
    rintro _ w13 hE14 rfl
    have H := H.ext hE14
    refine qF 3 [(4, .slice none 0 0), (5, .I 0), (6, .I e5)] ?_
    refine qT (.tuple #[.slice none 0 0, .I 0, .I e5]) Tryz.func108 ?_
    exact ⟨_, rfl, H.done, .inl ⟨_, he6, rfl, ho7⟩⟩
   ·
    have H := H.addN hE8 (F := Rp SB [.slice a9 b11.length c10] b11) hr12
    have hbl := nextF_len ho7
    rw [List.length_drop] at hbl
    refine qF 5 [(1, .I at_), (7, .slice a9 b11.length c10), (8, .nilIface)] ?_
    refine qR 6 [.c [4, 0], .c [5]] [(1, .I at_), (7, .slice a9 b11.length c10)] ?_
    refine qG (sq 0 11) ?_
    refine qP 1 (sq 1 11) [(1, .I at_), (7, .slice a9 b11.length c10), (28, .slice a9 b11.length c10)] ?_
    have H := H.ownNil Sb 5
    have H : Hp w S [] [] [⟨Sb, 5, .slice none 0 0, []⟩] [Rp SB [.slice a9 b11.length c10] b11, Rp SB [.slice a3 (xs.drop at_).length (c - at_)] (xs.drop at_), Rp SB [.slice a xs.length c] xs, Fz jQ] _ := H
    refine RW.appendW (d := some 29) (r := (sq 2 11)) (T := 23) (ty := 23) (e := 5) (m := 1) (by_ := 1) (v := .slice none 0 0) (a2 := a9) (l2 := b11.length) (c2 := c10) (zs := b11) (by as_aux_lemma => kernel_rfl) (by as_aux_lemma => kernel_rfl) rfl H 0 rfl 0 rfl (rfl) (by omega) ?_
    intro a15 c16 w18 H hc17
    have H : Hp w S [] [] [⟨Sb, 5, .slice a15 b11.length c16, b11⟩] [Rp SB [.slice a9 b11.length c10] b11, Rp SB [.slice a3 (xs.drop at_).length (c - at_)] (xs.drop at_), Rp SB [.slice a xs.length c] xs, Fz jQ] _ := H
    refine qP 3 (sq 5 11) [(29, .slice a15 b11.length c16), (30, .I at_), (32, .I ((b11.length : Nat) : Int))] ?_
    refine qI .seq 33 (sq 6 11) ((at_ : Int) + ((b11.length : Nat) : Int)) ?_
    refine qI .seq 34 (sq 7 11) (((at_ : Int) + ((b11.length : Nat) : Int)) + 8) ?_
    refine qI .seq 35 (sq 8 11) ((((at_ : Int) + ((b11.length : Nat) : Int)) + 8) + 4) ?_
    refine qF 3 [(4, .slice a15 b11.length c16), (5, .I ((((at_ : Int) + ((b11.length : Nat) : Int)) + 8) + 4)), (6, .I 0)] ?_
    refine qT (.tuple #[.slice a15 b11.length c16, .I ((((at_ : Int) + ((b11.length : Nat) : Int)) + 8) + 4), .I 0]) Tryz.func108 ?_
    have H : Hp w S [] [] [] [Rp SB [.slice a15 b11.length c16] b11, Rp SB [.slice a9 b11.length c10] b11, Rp SB [.slice a3 (xs.drop at_).length (c - at_)] (xs.drop at_), Rp SB [.slice a xs.length c] xs, Fz jQ] _ := H.freezeW 0 rfl
    exact ⟨_, rfl, H.done, .inr ⟨_, _, b11, ho7, congrArg (fun q => Value.tuple #[_, Value.int .i64 q, .I 0]) (by omega), H.out (H.rp 0 rfl)⟩⟩
theorem wAll_spec {S : Nat → Prop} {w : World} {xs : List (BitVec 8)} {a : Option Addr} {c : Nat} (h : SB.rep S w [.slice a xs.length c] xs) (hxl : xs.length ≤ 100000000) (hq : (Fz jQ).p S w) :
 Calls Tryz.prog 109 #[.slice a xs.length c] w (Ret fun v w' => Ext w w' ∧ ∃ (a' : Option Addr) (c' k : Nat), v = .tuple #[.slice a' (allW xs).length c', .I k] ∧ Hp w S [] [] [⟨SB, 23, .slice a' (allW xs).length c', allW xs⟩] [] w') := by
 have hlen := Shape.slice_len h
 have hal := allW_len xs
 refine qS (fn := Tryz.f109) (n := 25) (σ := [(0, .slice a xs.length c)]) Tryz.func109 ?_
 have H := Hp.startF (w := w) (S := S) (G := [Rp SB [.slice a xs.length c] xs, Fz jQ]) (.rp h (.cons hq .nil))
 refine qR 7 [.c [3, 0], .b 0] [(0, .slice a xs.length c), (4, .slice none 0 0), (5, .I 0)] ?_
 have H := H.ownNil SB 23
 have H := H.drop (M' := []) (W' := [⟨SB, 23, .slice none ([] : List (List (BitVec 8))).length 0, ([] : List (List (BitVec 8)))⟩]) (by repeat (first | exact List.Sublist.refl _ | exact List.nil_sublist _ | apply List.Sublist.cons_cons | apply List.Sublist.cons)) (by repeat (first | exact List.Sublist.refl _ | exact List.nil_sublist _ | apply List.Sublist.cons_cons | apply List.Sublist.cons))
 refine WK.loop (α := Nat × List (List (BitVec 8)) × Option Addr × Nat) (b := cd Tryz.prog 109 [3, 0, 0]) (by as_aux_lemma => kernel_rfl) (fun st_ => match st_ with | (at_, outs, aO, cO) => [(0, .slice a xs.length c), (4, .slice aO outs.length cO), (5, .I at_)]) (fun st_ w' => match st_ with | (at_, outs, aO, cO) => Hp w S [] [] [⟨SB, 23, .slice aO outs.length cO, outs⟩] [Rp SB [.slice a xs.length c] xs, Fz jQ] w' ∧ at_ ≤ xs.length ∧ outs ++ allW (xs.drop at_) = allW xs) (fun st_ => match st_ with | (at_, outs, aO, cO) => xs.length - at_) (0, ([] : List (List (BitVec 8))), none, 0) ⟨H, Nat.zero_le _, rfl⟩ (rfl) ?_
 rintro ⟨at_, outs, aO, cO⟩ w2 ⟨H, hinv0⟩ hback1
 refine qR 2 [.c [3, 0, 0, 0, 0], .c [3, 0, 0, 0, 1], .b 1, .l [3, 0, 0], .b 0] [(0, .slice a xs.length c), (4, .slice aO outs.length cO), (5, .I at_)] ?_
 refine qG (sq 0 10) ?_
 refine qP 2 (sq 2 10) [(0, .slice a xs.length c), (4, .slice aO outs.length cO), (5, .I at_), (10, .slice a xs.length c), (11, .I at_)] ?_
 refine qK .seq (some 12) (sq 3 10) 108 #[.slice a xs.length c, .I at_] (wNext_spec (xs := xs) (H.rp 0 rfl) at_ (by omega) (by omega) (H.fact 1 rfl)) ?_
 rintro _ w3 hE7 (⟨e4, he5, rfl, ho6⟩ | ⟨a8, c9, b10, ho6, rfl, hr11⟩)
 ·
  have H := H.ext hE7
  refine qF 7 [(0, .slice a xs.length c), (4, .slice aO outs.length cO), (5, .I at_), (6, .slice none 0 0), (7, .I 0), (8, .I e4)] ?_
  refine qR 3 [.c [3, 0, 0, 0, 1, 0, 1], .c [3, 0, 0, 0, 2], .b 1, .l [3, 0, 0], .b 0] [(0, .slice a xs.length c), (4, .slice aO outs.length cO), (5, .I at_), (6, .slice none 0 0), (7, .I 0), (17, .bool (e4 != 0))] ?_
  refine qN e4 0 (fun h12 => ?_) (fun h12 => ?_)
  ·
   have he0 := h12
   refine qR 2 [.c [3, 0, 0, 0, 1, 0, 1, 0, 1], .c [3, 0, 0, 0, 2], .b 1, .l [3, 0, 0], .b 0] [(2, .slice aO outs.length cO), (3, .I at_)] ?_
   refine qT (.tuple #[.slice aO outs.length cO, .I at_]) Tryz.func109 ?_
   have hoA : outs = allW xs := by have h9 := hinv0.2; rwa [allW_none ho6, List.append_nil] at h9
   subst hoA
   have H := H.drop (M' := []) (W' := [_]) (List.nil_sublist _) (by repeat (first | exact List.Sublist.refl _ | exact List.nil_sublist _ | apply List.Sublist.cons_cons | apply List.Sublist.cons))
   exact ⟨_, rfl, H.done, _, _, _, rfl, H.pick [] rfl⟩
  ·
   exact absurd h12 he5
 ·
  have H := H.addN hE7 (F := Rp SB [.slice a8 b10.length c9] b10) hr11
  have hbl := nextF_len ho6
  rw [List.length_drop] at hbl
  have hq8 := allW_some ho6
  have hol : outs.length + 1 ≤ (allW xs).length := by rw [← hinv0.2, hq8, List.length_append, List.length_cons]; omega
  refine qF 7 [(0, .slice a xs.length c), (4, .slice aO outs.length cO), (5, .I at_), (6, .slice a8 b10.length c9), (7, .I ((at_ + b10.length + 12 : Nat) : Int)), (8, .I 0)] ?_
  refine qR 5 [.c [3, 0, 0, 0, 2], .b 1, .l [3, 0, 0], .b 0] [(0, .slice a xs.length c), (4, .slice aO outs.length cO), (6, .slice a8 b10.length c9), (7, .I ((at_ + b10.length + 12 : Nat) : Int))] ?_
  refine qG (sq 0 7) ?_
  refine qP 2 (sq 2 7) [(0, .slice a xs.length c), (4, .slice aO outs.length cO), (7, .I ((at_ + b10.length + 12 : Nat) : Int)), (20, .slice aO outs.length cO), (21, .slice a8 b10.length c9)] ?_
  refine RW.new (κ := .seq) (d := some 22) (r := (sq 3 7)) (o := .cells #[.slice a8 b10.length c9] 23 (0, 0)) (v := fun b => .slice (some ⟨b, 0, none⟩) 1 1) (fun b => by as_aux_lemma => kernel_rfl) (nofun) H ?_
  intro b13 w14 H
  have H := H.freeze 0 rfl SB ([b10] : List (List (BitVec 8))) 1 (by simp [maxLen]) (by first | exact Nat.le_refl _ | simp) (EsP.cons (c := [.slice a8 b10.length c9]) (H.rp 0 rfl) EsP.nil)
  have H : Hp w S [] [] [⟨SB, 23, .slice aO outs.length cO, outs⟩] [Rp (Shape.slice SB) [.slice (some ⟨b13, 0, none⟩) 1 1] ([b10] : List (List (BitVec 8))), Rp SB [.slice a8 b10.length c9] b10, Rp SB [.slice a xs.length c] xs, Fz jQ] _ := H
  refine RW.appendW (d := some 23) (r := (sq 4 7)) (T := 22) (ty := 22) (e := 23) (m := 1) (by_ := 24) (v := .slice aO outs.length cO) (a2 := (some ⟨b13, 0, none⟩)) (l2 := 1) (c2 := 1) (zs := outs ++ ([b10] : List (List (BitVec 8)))) (by as_aux_lemma => kernel_rfl) (by as_aux_lemma => kernel_rfl) rfl H 0 rfl 0 rfl (rfl) (by rw [List.length_append]; simp only [List.length_cons, List.length_nil]; omega) ?_
  intro a15 c16 w18 H hc17
  have H : Hp w S [] [] [⟨SB, 23, .slice a15 ((outs ++ ([b10] : List (List (BitVec 8)))).length) c16, outs ++ ([b10] : List (List (BitVec 8)))⟩] [Rp (Shape.slice SB) [.slice (some ⟨b13, 0, none⟩) 1 1] ([b10] : List (List (BitVec 8))), Rp SB [.slice a8 b10.length c9] b10, Rp SB [.slice a xs.length c] xs, Fz jQ] _ := H
  refine qF 3 [(0, .slice a xs.length c), (4, .slice a15 ((outs ++ ([b10] : List (List (BitVec 8)))).length) c16), (5, .I ((at_ + b10.length + 12 : Nat) : Int))] ?_
  refine qR 1 [.l [3, 0, 0], .b 0] [(0, .slice a xs.length c), (4, .slice a15 ((outs ++ ([b10] : List (List (BitVec 8)))).length) c16), (5, .I ((at_ + b10.length + 12 : Nat) : Int))] ?_
  have H := H.pick [2, 3] rfl
  exact WK.back (hback1 (at_ + b10.length + 12, outs ++ ([b10] : List (List (BitVec 8))), a15, c16) _ ⟨H, by omega, by rw [← hinv0.2, hq8, List.drop_drop, List.append_assoc]; rfl⟩ (by first | omega | (simp only []; omega))) (by as_aux_lemma => kernel_rfl)
end Go.Proofs.YtdnibpclkhenmaaGreatDoor
