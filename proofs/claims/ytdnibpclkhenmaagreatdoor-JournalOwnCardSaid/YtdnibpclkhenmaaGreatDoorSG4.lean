import Derived.Test.YtdnibpclkhenmaaGreatDoorSG3
namespace Go.Proofs.YtdnibpclkhenmaaGreatDoor
open Go.BX
theorem change_spec {S : Nat → Prop} {w : World} {O : List Nat} {db sb nb sk c : Nat} {sa : Option Addr} {L : NameL} {steps : List StepD} {armed : Bool} {left : Int} (hst : steps.length ≤ 1000000000) {x : StepD} (hx : StepIn x) (H0 : Hp w S O ((db, .cells #[.bool true, .map (some sb), .map (some nb), .slice sa steps.length sk, .bool armed, .I left, .bool false] 39 (0, 0)) :: (nb, mapO Value.string ptrV L c) :: []) [⟨stepS, 143, .slice sa steps.length sk, steps⟩] [] w) :
 Calls Tryz.prog 166 #[.P db 0, .agg (stepC x).toArray] w (Ret fun v w' => v = .tuple #[] ∧ ∃ (sa' : Option Addr) (sk' : Nat), Hp w S O [(db, .cells #[.bool true, .map (some sb), .map (some nb), .slice sa' (steps ++ [x]).length sk', .bool armed, .I left, .bool false] 39 (0, 0)), (nb, mapO Value.string ptrV ((mapN (L, c) x).1) ((mapN (L, c) x).2))] [⟨stepS, 143, .slice sa' (steps ++ [x]).length sk', steps ++ [x]⟩] [] w') := by
 refine qS (fn := Tryz.f166) (n := 20) (σ := [(0, .P db 0), (1, .agg (stepC x).toArray)]) Tryz.func166 ?_
 have H := H0
 refine qR 1 [.c [0], .c [1]] [(0, .P db 0), (1, .agg (stepC x).toArray)] ?_
 refine qG (sq 0 1) ?_
 refine qB .seq 3 (sq 1 1) ((stepC x).toArray) 143 H ?_
 intro b1 w2 H
 refine qF 0 [(0, .P db 0), (3, .P b1 0)] ?_
 refine qR 1 [.c [1, 0], .c [2]] [(0, .P db 0), (3, .P b1 0)] ?_
 refine WK.draw1 5 (qs [0, 1, 2, 3, 4]) [(0, .qui), (1, .qui), (2, .qui), (3, .qui), (4, .qui), (5, .seq)] Tryz_mixed (by as_aux_lemma => kernel_rfl) (by as_aux_lemma => kernel_rfl) (by as_aux_lemma => kernel_rfl) ?_
 have H := H.draw
 generalize ({ w2 with drawn := w2.drawn + 1 } : World) = w3 at H ⊢
 refine qL .qui 4 [(1, .qui), (2, .qui), (3, .qui), (4, .qui), (5, .seq)] 143 b1 0 0 (.agg (stepC x).toArray) (H.cells 0 rfl) ?_
 refine qP 3 [(4, .qui), (5, .seq)] [(0, .P db 0), (3, .P b1 0), (4, .agg (stepC x).toArray), (7, .P db 2)] ?_
 refine qL .qui 8 [(5, .seq)] 36 db 2 2 (.map (some nb)) (H.cells 1 rfl) ?_
 have H := H.frontM 2 (M' := [(nb, mapO Value.string ptrV L c), (b1, .cells (stepC x).toArray 143 (0, 0)), (db, .cells #[.bool true, .map (some sb), .map (some nb), .slice sa steps.length sk, .bool armed, .I left, .bool false] 39 (0, 0))]) rfl
 refine RW.callS (d := some 9) (r := []) (g := 64) (args := #[.agg (stepC x).toArray, .map (some nb)]) (by as_aux_lemma => kernel_rfl) (name_spec x ((H.lend (M1 := [(nb, mapO Value.string ptrV L c)]) (W1 := [])).pick [] rfl) ) ?_
 rintro _ w4 ⟨rfl, H'⟩
 have H := H.back (M1 := [(nb, mapO Value.string ptrV L c)]) (W1 := []) H'
 have H : Hp w S O [(nb, mapO Value.string ptrV ((mapN (L, c) x).1) ((mapN (L, c) x).2)), (b1, .cells (stepC x).toArray 143 (0, 0)), (db, .cells #[.bool true, .map (some sb), .map (some nb), .slice sa steps.length sk, .bool armed, .I left, .bool false] 39 (0, 0))] [⟨stepS, 143, .slice sa steps.length sk, steps⟩] [] _ := H
 refine qF 0 [(0, .P db 0), (3, .P b1 0)] ?_
 refine WK.drawP1 7 [0, 1, 2, 3] [(13, .P db 3), (12, .P db 0), (11, .P db 0), (10, .P db 0), (0, .P db 0), (3, .P b1 0)] [(4, .qui), (5, .qui), (6, .chn)] [(4, .qui), (5, .qui), (6, .chn), (7, .seq), (8, .seq), (9, .seq), (10, .seq)] Tryz_mixed (by as_aux_lemma => kernel_rfl) (by as_aux_lemma => kernel_rfl) (by as_aux_lemma => kernel_rfl) (by as_aux_lemma => kernel_rfl) ?_
 have H := H.draw
 generalize ({ w4 with drawn := w4.drawn + 1 } : World) = w5 at H ⊢
 refine qL .qui 14 [(5, .qui), (6, .chn), (7, .seq), (8, .seq), (9, .seq), (10, .seq)] 37 db 3 3 (.slice sa steps.length sk) (H.cells 2 rfl) ?_
 refine qL .qui 15 [(6, .chn), (7, .seq), (8, .seq), (9, .seq), (10, .seq)] 143 b1 0 0 (.agg (stepC x).toArray) (H.cells 1 rfl) ?_
 refine RW.new (κ := .chn) (d := some 16) (r := [(7, .seq), (8, .seq), (9, .seq), (10, .seq)]) (o := .cells (stepC x).toArray 143 (0, 0)) (v := fun b => .slice (some ⟨b, 0, none⟩) 1 1) (fun b => by as_aux_lemma => kernel_rfl) (nofun) H ?_
 intro b6 w7 H
 have H := H.freeze 0 rfl stepS [x] 1 (by simp [maxLen]) (by first | exact Nat.le_refl _ | simp) (EsP.cons (c := stepC x) ⟨rfl, hx⟩ EsP.nil)
 have H : Hp w S O [(nb, mapO Value.string ptrV ((mapN (L, c) x).1) ((mapN (L, c) x).2)), (b1, .cells (stepC x).toArray 143 (0, 0)), (db, .cells #[.bool true, .map (some sb), .map (some nb), .slice sa steps.length sk, .bool armed, .I left, .bool false] 39 (0, 0))] [⟨stepS, 143, .slice sa steps.length sk, steps⟩] [Rp (Shape.slice stepS) [.slice (some ⟨b6, 0, none⟩) 1 1] [x]] _ := H
 refine RW.appendW (d := some 17) (r := [(8, .seq), (9, .seq), (10, .seq)]) (T := 37) (ty := 37) (e := 143) (m := 69) (by_ := 120) (v := .slice sa steps.length sk) (a2 := (some ⟨b6, 0, none⟩)) (l2 := 1) (c2 := 1) (zs := steps ++ [x]) (by as_aux_lemma => kernel_rfl) (by as_aux_lemma => kernel_rfl) rfl H 0 rfl 0 rfl (rfl) (by simp; omega) ?_
 intro a8 c9 w11 H hc10
 have H : Hp w S O [(nb, mapO Value.string ptrV ((mapN (L, c) x).1) ((mapN (L, c) x).2)), (b1, .cells (stepC x).toArray 143 (0, 0)), (db, .cells #[.bool true, .map (some sb), .map (some nb), .slice sa steps.length sk, .bool armed, .I left, .bool false] 39 (0, 0))] [⟨stepS, 143, .slice a8 (steps ++ [x]).length c9, steps ++ [x]⟩] [Rp (Shape.slice stepS) [.slice (some ⟨b6, 0, none⟩) 1 1] [x]] _ := H
 refine qP 2 [(10, .seq)] [(17, .slice a8 (steps ++ [x]).length c9), (19, .P db 3)] ?_
 refine qW 37 db 3 [] (.slice a8 (steps ++ [x]).length c9) [(nb, mapO Value.string ptrV ((mapN (L, c) x).1) ((mapN (L, c) x).2)), (b1, .cells (stepC x).toArray 143 (0, 0)), (db, .cells #[.bool true, .map (some sb), .map (some nb), .slice a8 (steps ++ [x]).length c9, .bool armed, .I left, .bool false] 39 (0, 0))] H 2 rfl rfl ?_
 intro w12 H
 refine qF 0 [] ?_
 refine WK.fin (v := .tuple #[]) Tryz.func166 (by as_aux_lemma => kernel_rfl) ?_
 have H := H.pick [] rfl
 have H := H.frontM 2 (M' := [(db, .cells #[.bool true, .map (some sb), .map (some nb), .slice a8 (steps ++ [x]).length c9, .bool armed, .I left, .bool false] 39 (0, 0)), (nb, mapO Value.string ptrV ((mapN (L, c) x).1) ((mapN (L, c) x).2)), (b1, .cells (stepC x).toArray 143 (0, 0))]) rfl
 have H := H.drop (M' := [(db, .cells #[.bool true, .map (some sb), .map (some nb), .slice a8 (steps ++ [x]).length c9, .bool armed, .I left, .bool false] 39 (0, 0)), (nb, mapO Value.string ptrV ((mapN (L, c) x).1) ((mapN (L, c) x).2))]) (W' := [⟨stepS, 143, .slice a8 (steps ++ [x]).length c9, steps ++ [x]⟩]) (by repeat (first | exact List.Sublist.refl _ | exact List.nil_sublist _ | apply List.Sublist.cons_cons | apply List.Sublist.cons)) (by repeat (first | exact List.Sublist.refl _ | exact List.nil_sublist _ | apply List.Sublist.cons_cons | apply List.Sublist.cons))
 exact ⟨_, rfl, rfl, _, _, H⟩
theorem remove_go {S : Nat → Prop} {w : World} {O : List Nat} {db sb nb sk c : Nat} {sa : Option Addr} {L : NameL} {steps : List StepD} {armed : Bool} {left : Int} {name : ByteArray} (hst : steps.length ≤ 1000000000) (hgo : armed = true → 1 ≤ left ∧ left ≤ 9223372036854775807) {p : Nat} (hf : mfind name L = some (some p)) (hs : name.size ≤ maxLen) (H0 : Hp w S O ((db, .cells #[.bool true, .map (some sb), .map (some nb), .slice sa steps.length sk, .bool armed, .I left, .bool false] 39 (0, 0)) :: (nb, mapO Value.string ptrV L c) :: []) [⟨stepS, 143, .slice sa steps.length sk, steps⟩] [] w) :
 Calls Tryz.prog 113 #[.P db 0, .string name] w (Ret fun v w' => v = .I 0 ∧ ∃ (sa' : Option Addr) (sk' : Nat), Hp w S O [(db, .cells #[.bool true, .map (some sb), .map (some nb), .slice sa' ((steps ++ [(⟨2, none, name, (⟨#[]⟩ : ByteArray), 0, zeroSec⟩ : StepD)]).length) sk', .bool armed, .I (lf armed left), .bool false] 39 (0, 0)), (nb, mapO Value.string ptrV ((mapN (L, c) (⟨2, none, name, (⟨#[]⟩ : ByteArray), 0, zeroSec⟩ : StepD)).1) ((mapN (L, c) (⟨2, none, name, (⟨#[]⟩ : ByteArray), 0, zeroSec⟩ : StepD)).2))] [⟨stepS, 143, .slice sa' (steps ++ [(⟨2, none, name, (⟨#[]⟩ : ByteArray), 0, zeroSec⟩ : StepD)]).length sk', steps ++ [(⟨2, none, name, (⟨#[]⟩ : ByteArray), 0, zeroSec⟩ : StepD)]⟩] [] w') := by
 refine qS (fn := Tryz.f113) (n := 22) (σ := [(0, .P db 0), (1, .string name)]) Tryz.func113 ?_
 have H := H0
 refine qR 4 [.c [1, 0, 0], .c [1, 0, 1], .c [2]] [(0, .P db 0), (1, .string name)] ?_
 refine qG (sq 0 8) ?_
 refine qP 2 (sq 2 8) [(0, .P db 0), (1, .string name), (8, .P db 0), (9, .string name)] ?_
 refine RW.callS (d := some 10) (r := (sq 3 8)) (g := 103) (args := #[.P db 0, .string name]) (by as_aux_lemma => kernel_rfl) (found_some hf ((H.lend (M1 := [(db, .cells #[.bool true, .map (some sb), .map (some nb), .slice sa steps.length sk, .bool armed, .I left, .bool false] 39 (0, 0)), (nb, mapO Value.string ptrV L c)]) (W1 := [])).pick [] rfl) ) ?_
 rintro _ w1 ⟨rfl, H'⟩
 have H := H.back (M1 := [(db, .cells #[.bool true, .map (some sb), .map (some nb), .slice sa steps.length sk, .bool armed, .I left, .bool false] 39 (0, 0)), (nb, mapO Value.string ptrV L c)]) (W1 := []) H'
 have H : Hp w S O [(db, .cells #[.bool true, .map (some sb), .map (some nb), .slice sa steps.length sk, .bool armed, .I left, .bool false] 39 (0, 0)), (nb, mapO Value.string ptrV L c)] [⟨stepS, 143, .slice sa steps.length sk, steps⟩] [] _ := H
 refine qF 5 [(0, .P db 0), (1, .string name), (6, .I 0)] ?_
 refine qR 6 [.c [2, 0, 0], .c [2, 0, 1], .c [3]] [(0, .P db 0), (1, .string name)] ?_
 refine qG (sq 0 2) ?_
 refine qP 1 (sq 1 2) [(0, .P db 0), (1, .string name), (16, .P db 0)] ?_
 refine RW.callS (d := some 17) (r := (sq 2 2)) (g := 119) (args := #[.P db 0]) (by as_aux_lemma => kernel_rfl) (spent_go hgo ((H.lend (M1 := [(db, .cells #[.bool true, .map (some sb), .map (some nb), .slice sa steps.length sk, .bool armed, .I left, .bool false] 39 (0, 0))]) (W1 := [])).pick [] rfl) ) ?_
 rintro _ w3 ⟨rfl, H'⟩
 have H := H.back (M1 := [(db, .cells #[.bool true, .map (some sb), .map (some nb), .slice sa steps.length sk, .bool armed, .I left, .bool false] 39 (0, 0))]) (W1 := []) H'
 have H : Hp w S O [(db, .cells #[.bool true, .map (some sb), .map (some nb), .slice sa steps.length sk, .bool armed, .I (lf armed left), .bool false] 39 (0, 0)), (nb, mapO Value.string ptrV L c)] [⟨stepS, 143, .slice sa steps.length sk, steps⟩] [] _ := H
 refine qF 0 [(0, .P db 0), (1, .string name), (17, .bool false)] ?_
 refine qR 3 [.c [3, 0], .c [4]] [(0, .P db 0), (1, .string name)] ?_
 refine qG (sq 0 4) ?_
 refine qP 3 (sq 3 4) [(18, .P db 0), (20, .agg (stepC (⟨2, none, name, (⟨#[]⟩ : ByteArray), 0, zeroSec⟩ : StepD)).toArray)] ?_
 refine RW.callS (d := some 21) (r := (sq 4 4)) (g := 166) (args := #[.P db 0, .agg (stepC (⟨2, none, name, (⟨#[]⟩ : ByteArray), 0, zeroSec⟩ : StepD)).toArray]) (by as_aux_lemma => kernel_rfl) (change_spec hst (stepIn_mk (by decide) (by decide) (by first | assumption | exact Nat.zero_le _) (by first | assumption | exact Nat.zero_le _)) ((H.lend (M1 := [(db, .cells #[.bool true, .map (some sb), .map (some nb), .slice sa steps.length sk, .bool armed, .I (lf armed left), .bool false] 39 (0, 0)), (nb, mapO Value.string ptrV L c)]) (W1 := [⟨stepS, 143, .slice sa steps.length sk, steps⟩])).pick [] rfl) ) ?_
 rintro _ w4 ⟨rfl, a5, c6, H'⟩
 have H := H.back (M1 := [(db, .cells #[.bool true, .map (some sb), .map (some nb), .slice sa steps.length sk, .bool armed, .I (lf armed left), .bool false] 39 (0, 0)), (nb, mapO Value.string ptrV L c)]) (W1 := [⟨stepS, 143, .slice sa steps.length sk, steps⟩]) H'
 have H : Hp w S O [(db, .cells #[.bool true, .map (some sb), .map (some nb), .slice a5 ((steps ++ [(⟨2, none, name, (⟨#[]⟩ : ByteArray), 0, zeroSec⟩ : StepD)]).length) c6, .bool armed, .I (lf armed left), .bool false] 39 (0, 0)), (nb, mapO Value.string ptrV ((mapN (L, c) (⟨2, none, name, (⟨#[]⟩ : ByteArray), 0, zeroSec⟩ : StepD)).1) ((mapN (L, c) (⟨2, none, name, (⟨#[]⟩ : ByteArray), 0, zeroSec⟩ : StepD)).2))] [⟨stepS, 143, .slice a5 ((steps ++ [(⟨2, none, name, (⟨#[]⟩ : ByteArray), 0, zeroSec⟩ : StepD)]).length) c6, steps ++ [(⟨2, none, name, (⟨#[]⟩ : ByteArray), 0, zeroSec⟩ : StepD)]⟩] [] _ := H
 refine qF 0 [] ?_
 refine qR 2 [.c [5]] [(4, .I 0)] ?_
 refine qT (.I 0) Tryz.func113 ?_
 exact ⟨_, rfl, rfl, _, _, H⟩
theorem remove_none {S : Nat → Prop} {w : World} {O : List Nat} {db nb sk c sn : Nat} {sv : Option Nat} {sa : Option Addr} {L : NameL} {armed : Bool} {left : Int} {name : ByteArray} (hf : mfind name L = none) (H0 : Hp w S O ((db, .cells #[.bool true, .map sv, .map (some nb), .slice sa sn sk, .bool armed, .I left, .bool false] 39 (0, 0)) :: (nb, mapO Value.string ptrV L c) :: []) [] [] w) :
 Calls Tryz.prog 113 #[.P db 0, .string name] w (Ret fun v w' => v = .I 71 ∧ Hp w S O [(db, .cells #[.bool true, .map sv, .map (some nb), .slice sa sn sk, .bool armed, .I left, .bool false] 39 (0, 0)), (nb, mapO Value.string ptrV L c)] [] [] w') := by
 refine qS (fn := Tryz.f113) (n := 22) (σ := [(0, .P db 0), (1, .string name)]) Tryz.func113 ?_
 have H := H0
 refine qR 4 [.c [1, 0, 0], .c [1, 0, 1], .c [2]] [(0, .P db 0), (1, .string name)] ?_
 refine qG (sq 0 8) ?_
 refine qP 2 (sq 2 8) [(0, .P db 0), (1, .string name), (8, .P db 0), (9, .string name)] ?_
 refine RW.callS (d := some 10) (r := (sq 3 8)) (g := 103) (args := #[.P db 0, .string name]) (by as_aux_lemma => kernel_rfl) (found_none hf ((H.lend (M1 := [(db, .cells #[.bool true, .map sv, .map (some nb), .slice sa sn sk, .bool armed, .I left, .bool false] 39 (0, 0)), (nb, mapO Value.string ptrV L c)]) (W1 := [])).pick [] rfl) ) ?_
 rintro _ w1 ⟨rfl, H'⟩
 have H := H.back (M1 := [(db, .cells #[.bool true, .map sv, .map (some nb), .slice sa sn sk, .bool armed, .I left, .bool false] 39 (0, 0)), (nb, mapO Value.string ptrV L c)]) (W1 := []) H'
 have H : Hp w S O [(db, .cells #[.bool true, .map sv, .map (some nb), .slice sa sn sk, .bool armed, .I left, .bool false] 39 (0, 0)), (nb, mapO Value.string ptrV L c)] [] [] _ := H
 refine qF 5 [(0, .P db 0), (1, .string name), (6, .I 71)] ?_
 refine qR 5 [.c [1, 0, 2, 0, 1], .c [2]] [(4, .I 71)] ?_
 refine qT (.I 71) Tryz.func113 ?_
 exact ⟨_, rfl, rfl, H⟩
theorem remove_stop {S : Nat → Prop} {w : World} {O : List Nat} {db nb sk c sn : Nat} {sv : Option Nat} {sa : Option Addr} {L : NameL} {left : Int} {name : ByteArray} (hgo : left < 1 ∧ -9223372036854775808 < left) {p : Nat} (hf : mfind name L = some (some p)) (H0 : Hp w S O ((db, .cells #[.bool true, .map sv, .map (some nb), .slice sa sn sk, .bool true, .I left, .bool false] 39 (0, 0)) :: (nb, mapO Value.string ptrV L c) :: []) [] [] w) :
 Calls Tryz.prog 113 #[.P db 0, .string name] w (Ret fun v w' => v = .I 70 ∧ Hp w S O [(db, .cells #[.bool true, .map sv, .map (some nb), .slice sa sn sk, .bool true, .I (left - 1), .bool true] 39 (0, 0)), (nb, mapO Value.string ptrV L c)] [] [] w') := by
 refine qS (fn := Tryz.f113) (n := 22) (σ := [(0, .P db 0), (1, .string name)]) Tryz.func113 ?_
 have H := H0
 refine qR 4 [.c [1, 0, 0], .c [1, 0, 1], .c [2]] [(0, .P db 0), (1, .string name)] ?_
 refine qG (sq 0 8) ?_
 refine qP 2 (sq 2 8) [(0, .P db 0), (1, .string name), (8, .P db 0), (9, .string name)] ?_
 refine RW.callS (d := some 10) (r := (sq 3 8)) (g := 103) (args := #[.P db 0, .string name]) (by as_aux_lemma => kernel_rfl) (found_some hf ((H.lend (M1 := [(db, .cells #[.bool true, .map sv, .map (some nb), .slice sa sn sk, .bool true, .I left, .bool false] 39 (0, 0)), (nb, mapO Value.string ptrV L c)]) (W1 := [])).pick [] rfl) ) ?_
 rintro _ w1 ⟨rfl, H'⟩
 have H := H.back (M1 := [(db, .cells #[.bool true, .map sv, .map (some nb), .slice sa sn sk, .bool true, .I left, .bool false] 39 (0, 0)), (nb, mapO Value.string ptrV L c)]) (W1 := []) H'
 have H : Hp w S O [(db, .cells #[.bool true, .map sv, .map (some nb), .slice sa sn sk, .bool true, .I left, .bool false] 39 (0, 0)), (nb, mapO Value.string ptrV L c)] [] [] _ := H
 refine qF 5 [(0, .P db 0), (1, .string name), (6, .I 0)] ?_
 refine qR 6 [.c [2, 0, 0], .c [2, 0, 1], .c [3]] [(0, .P db 0), (1, .string name)] ?_
 refine qG (sq 0 2) ?_
 refine qP 1 (sq 1 2) [(0, .P db 0), (1, .string name), (16, .P db 0)] ?_
 refine RW.callS (d := some 17) (r := (sq 2 2)) (g := 119) (args := #[.P db 0]) (by as_aux_lemma => kernel_rfl) (spent_stop hgo ((H.lend (M1 := [(db, .cells #[.bool true, .map sv, .map (some nb), .slice sa sn sk, .bool true, .I left, .bool false] 39 (0, 0))]) (W1 := [])).pick [] rfl) ) ?_
 rintro _ w3 ⟨rfl, H'⟩
 have H := H.back (M1 := [(db, .cells #[.bool true, .map sv, .map (some nb), .slice sa sn sk, .bool true, .I left, .bool false] 39 (0, 0))]) (W1 := []) H'
 have H : Hp w S O [(db, .cells #[.bool true, .map sv, .map (some nb), .slice sa sn sk, .bool true, .I (left - 1), .bool true] 39 (0, 0)), (nb, mapO Value.string ptrV L c)] [] [] _ := H
 refine qF 0 [(0, .P db 0), (1, .string name), (17, .bool true)] ?_
 refine qR 3 [.c [2, 0, 1, 0, 1], .c [3]] [(4, .I 70)] ?_
 refine qT (.I 70) Tryz.func113 ?_
 exact ⟨_, rfl, rfl, H⟩
theorem sync_none {S : Nat → Prop} {w : World} {O : List Nat} {db nb sk c sn : Nat} {sv : Option Nat} {sa : Option Addr} {L : NameL} {armed : Bool} {left : Int} {name : ByteArray} (hf : mfind name L = none) (H0 : Hp w S O ((db, .cells #[.bool true, .map sv, .map (some nb), .slice sa sn sk, .bool armed, .I left, .bool false] 39 (0, 0)) :: (nb, mapO Value.string ptrV L c) :: []) [] [] w) :
 Calls Tryz.prog 60 #[.P db 0, .string name] w (Ret fun v w' => v = .I 71 ∧ Hp w S O [(db, .cells #[.bool true, .map sv, .map (some nb), .slice sa sn sk, .bool armed, .I left, .bool false] 39 (0, 0)), (nb, mapO Value.string ptrV L c)] [] [] w') := by
 refine qS (fn := Tryz.f60) (n := 62) (σ := [(0, .P db 0), (1, .string name)]) Tryz.func60 ?_
 have H := H0
 refine qR 3 [.c [1, 0], .c [2]] [(0, .P db 0), (1, .string name)] ?_
 refine qG (sq 0 8) ?_
 refine qP 2 (sq 2 8) [(0, .P db 0), (11, .P db 0), (12, .string name)] ?_
 refine RW.callS (d := some 13) (r := (sq 3 8)) (g := 103) (args := #[.P db 0, .string name]) (by as_aux_lemma => kernel_rfl) (found_none hf ((H.lend (M1 := [(db, .cells #[.bool true, .map sv, .map (some nb), .slice sa sn sk, .bool armed, .I left, .bool false] 39 (0, 0)), (nb, mapO Value.string ptrV L c)]) (W1 := [])).pick [] rfl) ) ?_
 rintro _ w1 ⟨rfl, H'⟩
 have H := H.back (M1 := [(db, .cells #[.bool true, .map sv, .map (some nb), .slice sa sn sk, .bool armed, .I left, .bool false] 39 (0, 0)), (nb, mapO Value.string ptrV L c)]) (W1 := []) H'
 have H : Hp w S O [(db, .cells #[.bool true, .map sv, .map (some nb), .slice sa sn sk, .bool armed, .I left, .bool false] 39 (0, 0)), (nb, mapO Value.string ptrV L c)] [] [] _ := H
 refine qF 5 [(0, .P db 0), (5, .pointer none), (6, .I 71)] ?_
 refine qR 6 [.c [2, 0, 1, 0, 1], .c [3]] [(4, .I 71)] ?_
 refine qT (.I 71) Tryz.func60 ?_
 exact ⟨_, rfl, rfl, H⟩
theorem sync_stop {S : Nat → Prop} {w : World} {O : List Nat} {db nb sk c sn : Nat} {sv : Option Nat} {sa : Option Addr} {L : NameL} {left : Int} {name : ByteArray} (hgo : left < 1 ∧ -9223372036854775808 < left) {p : Nat} (hf : mfind name L = some (some p)) (H0 : Hp w S O ((db, .cells #[.bool true, .map sv, .map (some nb), .slice sa sn sk, .bool true, .I left, .bool false] 39 (0, 0)) :: (nb, mapO Value.string ptrV L c) :: []) [] [] w) :
 Calls Tryz.prog 60 #[.P db 0, .string name] w (Ret fun v w' => v = .I 70 ∧ Hp w S O [(db, .cells #[.bool true, .map sv, .map (some nb), .slice sa sn sk, .bool true, .I (left - 1), .bool true] 39 (0, 0)), (nb, mapO Value.string ptrV L c)] [] [] w') := by
 refine qS (fn := Tryz.f60) (n := 62) (σ := [(0, .P db 0), (1, .string name)]) Tryz.func60 ?_
 have H := H0
 refine qR 3 [.c [1, 0], .c [2]] [(0, .P db 0), (1, .string name)] ?_
 refine qG (sq 0 8) ?_
 refine qP 2 (sq 2 8) [(0, .P db 0), (11, .P db 0), (12, .string name)] ?_
 refine RW.callS (d := some 13) (r := (sq 3 8)) (g := 103) (args := #[.P db 0, .string name]) (by as_aux_lemma => kernel_rfl) (found_some hf ((H.lend (M1 := [(db, .cells #[.bool true, .map sv, .map (some nb), .slice sa sn sk, .bool true, .I left, .bool false] 39 (0, 0)), (nb, mapO Value.string ptrV L c)]) (W1 := [])).pick [] rfl) ) ?_
 rintro _ w1 ⟨rfl, H'⟩
 have H := H.back (M1 := [(db, .cells #[.bool true, .map sv, .map (some nb), .slice sa sn sk, .bool true, .I left, .bool false] 39 (0, 0)), (nb, mapO Value.string ptrV L c)]) (W1 := []) H'
 have H : Hp w S O [(db, .cells #[.bool true, .map sv, .map (some nb), .slice sa sn sk, .bool true, .I left, .bool false] 39 (0, 0)), (nb, mapO Value.string ptrV L c)] [] [] _ := H
 refine qF 5 [(0, .P db 0), (5, .P p 0), (6, .I 0)] ?_
 refine qR 7 [.c [3, 0, 0], .c [3, 0, 1], .c [4]] [(0, .P db 0), (5, .P p 0)] ?_
 refine qG (sq 0 2) ?_
 refine qP 1 (sq 1 2) [(0, .P db 0), (5, .P p 0), (19, .P db 0)] ?_
 refine RW.callS (d := some 20) (r := (sq 2 2)) (g := 119) (args := #[.P db 0]) (by as_aux_lemma => kernel_rfl) (spent_stop hgo ((H.lend (M1 := [(db, .cells #[.bool true, .map sv, .map (some nb), .slice sa sn sk, .bool true, .I left, .bool false] 39 (0, 0))]) (W1 := [])).pick [] rfl) ) ?_
 rintro _ w3 ⟨rfl, H'⟩
 have H := H.back (M1 := [(db, .cells #[.bool true, .map sv, .map (some nb), .slice sa sn sk, .bool true, .I left, .bool false] 39 (0, 0))]) (W1 := []) H'
 have H : Hp w S O [(db, .cells #[.bool true, .map sv, .map (some nb), .slice sa sn sk, .bool true, .I (left - 1), .bool true] 39 (0, 0)), (nb, mapO Value.string ptrV L c)] [] [] _ := H
 refine qF 0 [(0, .P db 0), (5, .P p 0), (20, .bool true)] ?_
 refine qR 3 [.c [3, 0, 1, 0, 1], .c [4]] [(4, .I 70)] ?_
 refine qT (.I 70) Tryz.func60 ?_
 exact ⟨_, rfl, rfl, H⟩
theorem rename_none {S : Nat → Prop} {w : World} {O : List Nat} {db nb sk c sn : Nat} {sv : Option Nat} {sa : Option Addr} {L : NameL} {armed : Bool} {left : Int} {name : ByteArray} {to : ByteArray} (hf : mfind name L = none) (H0 : Hp w S O ((db, .cells #[.bool true, .map sv, .map (some nb), .slice sa sn sk, .bool armed, .I left, .bool false] 39 (0, 0)) :: (nb, mapO Value.string ptrV L c) :: []) [] [] w) :
 Calls Tryz.prog 114 #[.P db 0, .string name, .string to] w (Ret fun v w' => v = .I 71 ∧ Hp w S O [(db, .cells #[.bool true, .map sv, .map (some nb), .slice sa sn sk, .bool armed, .I left, .bool false] 39 (0, 0)), (nb, mapO Value.string ptrV L c)] [] [] w') := by
 refine qS (fn := Tryz.f114) (n := 31) (σ := [(0, .P db 0), (1, .string name), (2, .string to)]) Tryz.func114 ?_
 have H := H0
 refine qR 4 [.c [1, 0, 0], .c [1, 0, 1], .c [2]] [(0, .P db 0), (1, .string name), (2, .string to)] ?_
 refine qG (sq 0 8) ?_
 refine qP 2 (sq 2 8) [(0, .P db 0), (1, .string name), (2, .string to), (10, .P db 0), (11, .string name)] ?_
 refine RW.callS (d := some 12) (r := (sq 3 8)) (g := 103) (args := #[.P db 0, .string name]) (by as_aux_lemma => kernel_rfl) (found_none hf ((H.lend (M1 := [(db, .cells #[.bool true, .map sv, .map (some nb), .slice sa sn sk, .bool armed, .I left, .bool false] 39 (0, 0)), (nb, mapO Value.string ptrV L c)]) (W1 := [])).pick [] rfl) ) ?_
 rintro _ w1 ⟨rfl, H'⟩
 have H := H.back (M1 := [(db, .cells #[.bool true, .map sv, .map (some nb), .slice sa sn sk, .bool armed, .I left, .bool false] 39 (0, 0)), (nb, mapO Value.string ptrV L c)]) (W1 := []) H'
 have H : Hp w S O [(db, .cells #[.bool true, .map sv, .map (some nb), .slice sa sn sk, .bool armed, .I left, .bool false] 39 (0, 0)), (nb, mapO Value.string ptrV L c)] [] [] _ := H
 refine qF 5 [(0, .P db 0), (1, .string name), (2, .string to), (8, .I 71)] ?_
 refine qR 5 [.c [1, 0, 2, 0, 1], .c [2]] [(6, .I 71)] ?_
 refine qT (.I 71) Tryz.func114 ?_
 exact ⟨_, rfl, rfl, H⟩
theorem rename_stop {S : Nat → Prop} {w : World} {O : List Nat} {db nb sk c sn : Nat} {sv : Option Nat} {sa : Option Addr} {L : NameL} {left : Int} {name : ByteArray} (hgo : left < 1 ∧ -9223372036854775808 < left) {p : Nat} (hf : mfind name L = some (some p)) {to : ByteArray} (ht : to.size ≤ maxLen) (hto : nmI to = 1) (H0 : Hp w S O ((db, .cells #[.bool true, .map sv, .map (some nb), .slice sa sn sk, .bool true, .I left, .bool false] 39 (0, 0)) :: (nb, mapO Value.string ptrV L c) :: []) [] [] w) :
 Calls Tryz.prog 114 #[.P db 0, .string name, .string to] w (Ret fun v w' => v = .I 70 ∧ Hp w S O [(db, .cells #[.bool true, .map sv, .map (some nb), .slice sa sn sk, .bool true, .I (left - 1), .bool true] 39 (0, 0)), (nb, mapO Value.string ptrV L c)] [] [] w') := by
 refine qS (fn := Tryz.f114) (n := 31) (σ := [(0, .P db 0), (1, .string name), (2, .string to)]) Tryz.func114 ?_
 have H := H0
 refine qR 4 [.c [1, 0, 0], .c [1, 0, 1], .c [2]] [(0, .P db 0), (1, .string name), (2, .string to)] ?_
 refine qG (sq 0 8) ?_
 refine qP 2 (sq 2 8) [(0, .P db 0), (1, .string name), (2, .string to), (10, .P db 0), (11, .string name)] ?_
 refine RW.callS (d := some 12) (r := (sq 3 8)) (g := 103) (args := #[.P db 0, .string name]) (by as_aux_lemma => kernel_rfl) (found_some hf ((H.lend (M1 := [(db, .cells #[.bool true, .map sv, .map (some nb), .slice sa sn sk, .bool true, .I left, .bool false] 39 (0, 0)), (nb, mapO Value.string ptrV L c)]) (W1 := [])).pick [] rfl) ) ?_
 rintro _ w1 ⟨rfl, H'⟩
 have H := H.back (M1 := [(db, .cells #[.bool true, .map sv, .map (some nb), .slice sa sn sk, .bool true, .I left, .bool false] 39 (0, 0)), (nb, mapO Value.string ptrV L c)]) (W1 := []) H'
 have H : Hp w S O [(db, .cells #[.bool true, .map sv, .map (some nb), .slice sa sn sk, .bool true, .I left, .bool false] 39 (0, 0)), (nb, mapO Value.string ptrV L c)] [] [] _ := H
 refine qF 5 [(0, .P db 0), (1, .string name), (2, .string to), (8, .I 0)] ?_
 refine qR 6 [.c [2, 0, 0], .c [2, 0, 1], .c [3]] [(0, .P db 0), (1, .string name), (2, .string to)] ?_
 refine qG (sq 0 3) ?_
 refine qP 1 (sq 1 3) [(0, .P db 0), (1, .string name), (2, .string to), (18, .string to)] ?_
 refine qK .seq (some 19) (sq 2 3) 167 #[.string to] (named_spec (S := fun _ => True) to ht) ?_
 rintro _ w3 hE4 rfl
 have H := H.ext hE4
 refine qF 1 [(0, .P db 0), (1, .string name), (2, .string to), (20, .bool (!(decide (nmI to = 1))))] ?_
 refine qC (!(decide (nmI to = 1))) (fun h5 => ?_) (fun h5 => ?_)
 ·
  replace h5 : (decide (nmI to = 1)) = false := by revert h5; cases (decide (nmI to = 1)) <;> simp
  replace h5 := of_decide_eq_false h5
  omega
 ·
  replace h5 : (decide (nmI to = 1)) = true := by revert h5; cases (decide (nmI to = 1)) <;> simp
  replace h5 := of_decide_eq_true h5
  refine qR 3 [.c [3, 0, 0], .c [3, 0, 1], .c [4]] [(0, .P db 0), (1, .string name), (2, .string to)] ?_
  refine qG (sq 0 2) ?_
  refine qP 1 (sq 1 2) [(0, .P db 0), (1, .string name), (2, .string to), (21, .P db 0)] ?_
  refine RW.callS (d := some 22) (r := (sq 2 2)) (g := 119) (args := #[.P db 0]) (by as_aux_lemma => kernel_rfl) (spent_stop hgo ((H.lend (M1 := [(db, .cells #[.bool true, .map sv, .map (some nb), .slice sa sn sk, .bool true, .I left, .bool false] 39 (0, 0))]) (W1 := [])).pick [] rfl) ) ?_
  rintro _ w6 ⟨rfl, H'⟩
  have H := H.back (M1 := [(db, .cells #[.bool true, .map sv, .map (some nb), .slice sa sn sk, .bool true, .I left, .bool false] 39 (0, 0))]) (W1 := []) H'
  have H : Hp w S O [(db, .cells #[.bool true, .map sv, .map (some nb), .slice sa sn sk, .bool true, .I (left - 1), .bool true] 39 (0, 0)), (nb, mapO Value.string ptrV L c)] [] [] _ := H
  refine qF 0 [(0, .P db 0), (1, .string name), (2, .string to), (22, .bool true)] ?_
  refine qR 3 [.c [3, 0, 1, 0, 1], .c [4]] [(6, .I 70)] ?_
  refine qT (.I 70) Tryz.func114 ?_
  exact ⟨_, rfl, rfl, H⟩
theorem rename_bad {S : Nat → Prop} {w : World} {O : List Nat} {db nb sk c sn : Nat} {sv : Option Nat} {sa : Option Addr} {L : NameL} {armed : Bool} {left : Int} {name : ByteArray} {p : Nat} (hf : mfind name L = some (some p)) {to : ByteArray} (ht : to.size ≤ maxLen) (hto : nmI to ≠ 1) (H0 : Hp w S O ((db, .cells #[.bool true, .map sv, .map (some nb), .slice sa sn sk, .bool armed, .I left, .bool false] 39 (0, 0)) :: (nb, mapO Value.string ptrV L c) :: []) [] [] w) :
 Calls Tryz.prog 114 #[.P db 0, .string name, .string to] w (Ret fun v w' => v = .I 2 ∧ Hp w S O [(db, .cells #[.bool true, .map sv, .map (some nb), .slice sa sn sk, .bool armed, .I left, .bool false] 39 (0, 0)), (nb, mapO Value.string ptrV L c)] [] [] w') := by
 refine qS (fn := Tryz.f114) (n := 31) (σ := [(0, .P db 0), (1, .string name), (2, .string to)]) Tryz.func114 ?_
 have H := H0
 refine qR 4 [.c [1, 0, 0], .c [1, 0, 1], .c [2]] [(0, .P db 0), (1, .string name), (2, .string to)] ?_
 refine qG (sq 0 8) ?_
 refine qP 2 (sq 2 8) [(0, .P db 0), (1, .string name), (2, .string to), (10, .P db 0), (11, .string name)] ?_
 refine RW.callS (d := some 12) (r := (sq 3 8)) (g := 103) (args := #[.P db 0, .string name]) (by as_aux_lemma => kernel_rfl) (found_some hf ((H.lend (M1 := [(db, .cells #[.bool true, .map sv, .map (some nb), .slice sa sn sk, .bool armed, .I left, .bool false] 39 (0, 0)), (nb, mapO Value.string ptrV L c)]) (W1 := [])).pick [] rfl) ) ?_
 rintro _ w1 ⟨rfl, H'⟩
 have H := H.back (M1 := [(db, .cells #[.bool true, .map sv, .map (some nb), .slice sa sn sk, .bool armed, .I left, .bool false] 39 (0, 0)), (nb, mapO Value.string ptrV L c)]) (W1 := []) H'
 have H : Hp w S O [(db, .cells #[.bool true, .map sv, .map (some nb), .slice sa sn sk, .bool armed, .I left, .bool false] 39 (0, 0)), (nb, mapO Value.string ptrV L c)] [] [] _ := H
 refine qF 5 [(0, .P db 0), (1, .string name), (2, .string to), (8, .I 0)] ?_
 refine qR 6 [.c [2, 0, 0], .c [2, 0, 1], .c [3]] [(0, .P db 0), (1, .string name), (2, .string to)] ?_
 refine qG (sq 0 3) ?_
 refine qP 1 (sq 1 3) [(0, .P db 0), (1, .string name), (2, .string to), (18, .string to)] ?_
 refine qK .seq (some 19) (sq 2 3) 167 #[.string to] (named_spec (S := fun _ => True) to ht) ?_
 rintro _ w3 hE4 rfl
 have H := H.ext hE4
 refine qF 1 [(0, .P db 0), (1, .string name), (2, .string to), (20, .bool (!(decide (nmI to = 1))))] ?_
 refine qC (!(decide (nmI to = 1))) (fun h5 => ?_) (fun h5 => ?_)
 ·
  replace h5 : (decide (nmI to = 1)) = false := by revert h5; cases (decide (nmI to = 1)) <;> simp
  replace h5 := of_decide_eq_false h5
  refine qR 2 [.c [2, 0, 1, 0, 1], .c [3]] [(6, .I 2)] ?_
  refine qT (.I 2) Tryz.func114 ?_
  exact ⟨_, rfl, rfl, H⟩
 ·
  replace h5 : (decide (nmI to = 1)) = true := by revert h5; cases (decide (nmI to = 1)) <;> simp
  replace h5 := of_decide_eq_true h5
  omega
theorem rename_same {S : Nat → Prop} {w : World} {O : List Nat} {db nb sk c sn : Nat} {sv : Option Nat} {sa : Option Addr} {L : NameL} {armed : Bool} {left : Int} {name : ByteArray} (hgo : armed = true → 1 ≤ left ∧ left ≤ 9223372036854775807) {p : Nat} (hf : mfind name L = some (some p)) {to : ByteArray} (ht : to.size ≤ maxLen) (hto : nmI to = 1) (hft : name.toList = to.toList) (H0 : Hp w S O ((db, .cells #[.bool true, .map sv, .map (some nb), .slice sa sn sk, .bool armed, .I left, .bool false] 39 (0, 0)) :: (nb, mapO Value.string ptrV L c) :: []) [] [] w) :
 Calls Tryz.prog 114 #[.P db 0, .string name, .string to] w (Ret fun v w' => v = .I 0 ∧ Hp w S O [(db, .cells #[.bool true, .map sv, .map (some nb), .slice sa sn sk, .bool armed, .I (lf armed left), .bool false] 39 (0, 0)), (nb, mapO Value.string ptrV L c)] [] [] w') := by
 refine qS (fn := Tryz.f114) (n := 31) (σ := [(0, .P db 0), (1, .string name), (2, .string to)]) Tryz.func114 ?_
 have H := H0
 refine qR 4 [.c [1, 0, 0], .c [1, 0, 1], .c [2]] [(0, .P db 0), (1, .string name), (2, .string to)] ?_
 refine qG (sq 0 8) ?_
 refine qP 2 (sq 2 8) [(0, .P db 0), (1, .string name), (2, .string to), (10, .P db 0), (11, .string name)] ?_
 refine RW.callS (d := some 12) (r := (sq 3 8)) (g := 103) (args := #[.P db 0, .string name]) (by as_aux_lemma => kernel_rfl) (found_some hf ((H.lend (M1 := [(db, .cells #[.bool true, .map sv, .map (some nb), .slice sa sn sk, .bool armed, .I left, .bool false] 39 (0, 0)), (nb, mapO Value.string ptrV L c)]) (W1 := [])).pick [] rfl) ) ?_
 rintro _ w1 ⟨rfl, H'⟩
 have H := H.back (M1 := [(db, .cells #[.bool true, .map sv, .map (some nb), .slice sa sn sk, .bool armed, .I left, .bool false] 39 (0, 0)), (nb, mapO Value.string ptrV L c)]) (W1 := []) H'
 have H : Hp w S O [(db, .cells #[.bool true, .map sv, .map (some nb), .slice sa sn sk, .bool armed, .I left, .bool false] 39 (0, 0)), (nb, mapO Value.string ptrV L c)] [] [] _ := H
 refine qF 5 [(0, .P db 0), (1, .string name), (2, .string to), (8, .I 0)] ?_
 refine qR 6 [.c [2, 0, 0], .c [2, 0, 1], .c [3]] [(0, .P db 0), (1, .string name), (2, .string to)] ?_
 refine qG (sq 0 3) ?_
 refine qP 1 (sq 1 3) [(0, .P db 0), (1, .string name), (2, .string to), (18, .string to)] ?_
 refine qK .seq (some 19) (sq 2 3) 167 #[.string to] (named_spec (S := fun _ => True) to ht) ?_
 rintro _ w3 hE4 rfl
 have H := H.ext hE4
 refine qF 1 [(0, .P db 0), (1, .string name), (2, .string to), (20, .bool (!(decide (nmI to = 1))))] ?_
 refine qC (!(decide (nmI to = 1))) (fun h5 => ?_) (fun h5 => ?_)
 ·
  replace h5 : (decide (nmI to = 1)) = false := by revert h5; cases (decide (nmI to = 1)) <;> simp
  replace h5 := of_decide_eq_false h5
  omega
 ·
  replace h5 : (decide (nmI to = 1)) = true := by revert h5; cases (decide (nmI to = 1)) <;> simp
  replace h5 := of_decide_eq_true h5
  refine qR 3 [.c [3, 0, 0], .c [3, 0, 1], .c [4]] [(0, .P db 0), (1, .string name), (2, .string to)] ?_
  refine qG (sq 0 2) ?_
  refine qP 1 (sq 1 2) [(0, .P db 0), (1, .string name), (2, .string to), (21, .P db 0)] ?_
  refine RW.callS (d := some 22) (r := (sq 2 2)) (g := 119) (args := #[.P db 0]) (by as_aux_lemma => kernel_rfl) (spent_go hgo ((H.lend (M1 := [(db, .cells #[.bool true, .map sv, .map (some nb), .slice sa sn sk, .bool armed, .I left, .bool false] 39 (0, 0))]) (W1 := [])).pick [] rfl) ) ?_
  rintro _ w6 ⟨rfl, H'⟩
  have H := H.back (M1 := [(db, .cells #[.bool true, .map sv, .map (some nb), .slice sa sn sk, .bool armed, .I left, .bool false] 39 (0, 0))]) (W1 := []) H'
  have H : Hp w S O [(db, .cells #[.bool true, .map sv, .map (some nb), .slice sa sn sk, .bool armed, .I (lf armed left), .bool false] 39 (0, 0)), (nb, mapO Value.string ptrV L c)] [] [] _ := H
  refine qF 0 [(0, .P db 0), (1, .string name), (2, .string to), (22, .bool false)] ?_
  refine qR 5 [.c [4, 0, 1], .c [5]] [(0, .P db 0), (1, .string name), (2, .string to), (25, .bool (!(name.toList == to.toList)))] ?_
  refine qC (!(name.toList == to.toList)) (fun h7 => ?_) (fun h7 => ?_)
  ·
   replace h7 : (name.toList == to.toList) = false := by revert h7; cases (name.toList == to.toList) <;> simp
   replace h7 := ne_of_beq_false h7
   exact absurd hft h7
  ·
   replace h7 : (name.toList == to.toList) = true := by revert h7; cases (name.toList == to.toList) <;> simp
   replace h7 := eq_of_beq h7
   refine qR 3 [.c [6]] [(6, .I 0)] ?_
   refine qT (.I 0) Tryz.func114 ?_
   exact ⟨_, rfl, rfl, H⟩
theorem rename_go {S : Nat → Prop} {w : World} {O : List Nat} {db sb nb sk c : Nat} {sa : Option Addr} {L : NameL} {steps : List StepD} {armed : Bool} {left : Int} {name : ByteArray} (hst : steps.length ≤ 1000000000) (hgo : armed = true → 1 ≤ left ∧ left ≤ 9223372036854775807) {p : Nat} (hf : mfind name L = some (some p)) (hs : name.size ≤ maxLen) {to : ByteArray} (ht : to.size ≤ maxLen) (hto : nmI to = 1) (hft : name.toList ≠ to.toList) (H0 : Hp w S O ((db, .cells #[.bool true, .map (some sb), .map (some nb), .slice sa steps.length sk, .bool armed, .I left, .bool false] 39 (0, 0)) :: (nb, mapO Value.string ptrV L c) :: []) [⟨stepS, 143, .slice sa steps.length sk, steps⟩] [] w) :
 Calls Tryz.prog 114 #[.P db 0, .string name, .string to] w (Ret fun v w' => v = .I 0 ∧ ∃ (sa' : Option Addr) (sk' : Nat), Hp w S O [(db, .cells #[.bool true, .map (some sb), .map (some nb), .slice sa' ((steps ++ [(⟨1, none, name, to, 0, zeroSec⟩ : StepD)]).length) sk', .bool armed, .I (lf armed left), .bool false] 39 (0, 0)), (nb, mapO Value.string ptrV ((mapN (L, c) (⟨1, none, name, to, 0, zeroSec⟩ : StepD)).1) ((mapN (L, c) (⟨1, none, name, to, 0, zeroSec⟩ : StepD)).2))] [⟨stepS, 143, .slice sa' (steps ++ [(⟨1, none, name, to, 0, zeroSec⟩ : StepD)]).length sk', steps ++ [(⟨1, none, name, to, 0, zeroSec⟩ : StepD)]⟩] [] w') := by
 refine qS (fn := Tryz.f114) (n := 31) (σ := [(0, .P db 0), (1, .string name), (2, .string to)]) Tryz.func114 ?_
 have H := H0
 refine qR 4 [.c [1, 0, 0], .c [1, 0, 1], .c [2]] [(0, .P db 0), (1, .string name), (2, .string to)] ?_
 refine qG (sq 0 8) ?_
 refine qP 2 (sq 2 8) [(0, .P db 0), (1, .string name), (2, .string to), (10, .P db 0), (11, .string name)] ?_
 refine RW.callS (d := some 12) (r := (sq 3 8)) (g := 103) (args := #[.P db 0, .string name]) (by as_aux_lemma => kernel_rfl) (found_some hf ((H.lend (M1 := [(db, .cells #[.bool true, .map (some sb), .map (some nb), .slice sa steps.length sk, .bool armed, .I left, .bool false] 39 (0, 0)), (nb, mapO Value.string ptrV L c)]) (W1 := [])).pick [] rfl) ) ?_
 rintro _ w1 ⟨rfl, H'⟩
 have H := H.back (M1 := [(db, .cells #[.bool true, .map (some sb), .map (some nb), .slice sa steps.length sk, .bool armed, .I left, .bool false] 39 (0, 0)), (nb, mapO Value.string ptrV L c)]) (W1 := []) H'
 have H : Hp w S O [(db, .cells #[.bool true, .map (some sb), .map (some nb), .slice sa steps.length sk, .bool armed, .I left, .bool false] 39 (0, 0)), (nb, mapO Value.string ptrV L c)] [⟨stepS, 143, .slice sa steps.length sk, steps⟩] [] _ := H
 refine qF 5 [(0, .P db 0), (1, .string name), (2, .string to), (8, .I 0)] ?_
 refine qR 6 [.c [2, 0, 0], .c [2, 0, 1], .c [3]] [(0, .P db 0), (1, .string name), (2, .string to)] ?_
 refine qG (sq 0 3) ?_
 refine qP 1 (sq 1 3) [(0, .P db 0), (1, .string name), (2, .string to), (18, .string to)] ?_
 refine qK .seq (some 19) (sq 2 3) 167 #[.string to] (named_spec (S := fun _ => True) to ht) ?_
 rintro _ w3 hE4 rfl
 have H := H.ext hE4
 refine qF 1 [(0, .P db 0), (1, .string name), (2, .string to), (20, .bool (!(decide (nmI to = 1))))] ?_
 refine qC (!(decide (nmI to = 1))) (fun h5 => ?_) (fun h5 => ?_)
 ·
  replace h5 : (decide (nmI to = 1)) = false := by revert h5; cases (decide (nmI to = 1)) <;> simp
  replace h5 := of_decide_eq_false h5
  omega
 ·
  replace h5 : (decide (nmI to = 1)) = true := by revert h5; cases (decide (nmI to = 1)) <;> simp
  replace h5 := of_decide_eq_true h5
  refine qR 3 [.c [3, 0, 0], .c [3, 0, 1], .c [4]] [(0, .P db 0), (1, .string name), (2, .string to)] ?_
  refine qG (sq 0 2) ?_
  refine qP 1 (sq 1 2) [(0, .P db 0), (1, .string name), (2, .string to), (21, .P db 0)] ?_
  refine RW.callS (d := some 22) (r := (sq 2 2)) (g := 119) (args := #[.P db 0]) (by as_aux_lemma => kernel_rfl) (spent_go hgo ((H.lend (M1 := [(db, .cells #[.bool true, .map (some sb), .map (some nb), .slice sa steps.length sk, .bool armed, .I left, .bool false] 39 (0, 0))]) (W1 := [])).pick [] rfl) ) ?_
  rintro _ w6 ⟨rfl, H'⟩
  have H := H.back (M1 := [(db, .cells #[.bool true, .map (some sb), .map (some nb), .slice sa steps.length sk, .bool armed, .I left, .bool false] 39 (0, 0))]) (W1 := []) H'
  have H : Hp w S O [(db, .cells #[.bool true, .map (some sb), .map (some nb), .slice sa steps.length sk, .bool armed, .I (lf armed left), .bool false] 39 (0, 0)), (nb, mapO Value.string ptrV L c)] [⟨stepS, 143, .slice sa steps.length sk, steps⟩] [] _ := H
  refine qF 0 [(0, .P db 0), (1, .string name), (2, .string to), (22, .bool false)] ?_
  refine qR 5 [.c [4, 0, 1], .c [5]] [(0, .P db 0), (1, .string name), (2, .string to), (25, .bool (!(name.toList == to.toList)))] ?_
  refine qC (!(name.toList == to.toList)) (fun h7 => ?_) (fun h7 => ?_)
  ·
   replace h7 : (name.toList == to.toList) = false := by revert h7; cases (name.toList == to.toList) <;> simp
   replace h7 := ne_of_beq_false h7
   refine qG (sq 0 5) ?_
   refine qP 4 (sq 4 5) [(26, .P db 0), (29, .agg (stepC (⟨1, none, name, to, 0, zeroSec⟩ : StepD)).toArray)] ?_
   refine RW.callS (d := some 30) (r := (sq 5 5)) (g := 166) (args := #[.P db 0, .agg (stepC (⟨1, none, name, to, 0, zeroSec⟩ : StepD)).toArray]) (by as_aux_lemma => kernel_rfl) (change_spec hst (stepIn_mk (by decide) (by decide) (by first | assumption | exact Nat.zero_le _) (by first | assumption | exact Nat.zero_le _)) ((H.lend (M1 := [(db, .cells #[.bool true, .map (some sb), .map (some nb), .slice sa steps.length sk, .bool armed, .I (lf armed left), .bool false] 39 (0, 0)), (nb, mapO Value.string ptrV L c)]) (W1 := [⟨stepS, 143, .slice sa steps.length sk, steps⟩])).pick [] rfl) ) ?_
   rintro _ w8 ⟨rfl, a9, c10, H'⟩
   have H := H.back (M1 := [(db, .cells #[.bool true, .map (some sb), .map (some nb), .slice sa steps.length sk, .bool armed, .I (lf armed left), .bool false] 39 (0, 0)), (nb, mapO Value.string ptrV L c)]) (W1 := [⟨stepS, 143, .slice sa steps.length sk, steps⟩]) H'
   have H : Hp w S O [(db, .cells #[.bool true, .map (some sb), .map (some nb), .slice a9 ((steps ++ [(⟨1, none, name, to, 0, zeroSec⟩ : StepD)]).length) c10, .bool armed, .I (lf armed left), .bool false] 39 (0, 0)), (nb, mapO Value.string ptrV ((mapN (L, c) (⟨1, none, name, to, 0, zeroSec⟩ : StepD)).1) ((mapN (L, c) (⟨1, none, name, to, 0, zeroSec⟩ : StepD)).2))] [⟨stepS, 143, .slice a9 ((steps ++ [(⟨1, none, name, to, 0, zeroSec⟩ : StepD)]).length) c10, steps ++ [(⟨1, none, name, to, 0, zeroSec⟩ : StepD)]⟩] [] _ := H
   refine qF 0 [] ?_
   refine qR 2 [.c [6]] [(6, .I 0)] ?_
   refine qT (.I 0) Tryz.func114 ?_
   exact ⟨_, rfl, rfl, _, _, H⟩
  ·
   replace h7 : (name.toList == to.toList) = true := by revert h7; cases (name.toList == to.toList) <;> simp
   replace h7 := eq_of_beq h7
   exact absurd h7 hft
end Go.Proofs.YtdnibpclkhenmaaGreatDoor
