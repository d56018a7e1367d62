import Derived.Test.YthbegjaoifghlaaSQ5
namespace Go.Proofs.Ythbegjaoifghlaa
open Go.BX
theorem heads_spec {S : Nat → Prop} {w : World}  :
 Calls Try.prog 9 #[] w (Ret fun v w' => Ext w w' ∧ v = .bool true) := by
 refine WK.calls1 (fn := Try.f9) (n := 57) (σ := []) Try.func9 rfl (by as_aux_lemma => kernel_rfl) (by as_aux_lemma => kernel_rfl) (by as_aux_lemma => kernel_rfl) ?_
 have H := Hp.startF (w := w) (S := S) (G := []) .nil
 refine WK.run 3 [] [.code (cd Try.prog 9 [1, 0]), .code (cd Try.prog 9 [2])] [] (by as_aux_lemma => kernel_rfl) ?_
 refine WK.reg1 (l := sq 0 4) (by as_aux_lemma => kernel_rfl) (by as_aux_lemma => kernel_rfl) ?_
 refine RW.new (κ := .seq) (d := some 6) (r := (sq 1 4)) (o := .cells #[.int .i64 1, .int .i64 2, .int .i64 3] 3 (0, 0)) (v := fun b => .slice (some ⟨b, 0, none⟩) 3 3) (fun b => by as_aux_lemma => kernel_rfl) (nofun) H ?_
 intro b1 w2 H
 refine RW.runP 1 [7] (sq 2 4) [(7, .agg #[.slice (some ⟨b1, 0, none⟩) 3 3, .slice none 0 0])] (by as_aux_lemma => kernel_rfl) (by as_aux_lemma => kernel_rfl) ?_
 refine RW.new (κ := .seq) (d := some 1) (r := (sq 3 4)) (o := .cells #[.slice none 0 0, .slice none 0 0] 24 (0, 0)) (v := fun b => .pointer (some ⟨b, 0, none⟩)) (fun b => by as_aux_lemma => kernel_rfl) (nofun) H ?_
 intro b3 w4 H
 refine RW.store (d := none) (r := (sq 4 4)) (T := 24) (b := b3) (k := 0) (v := .agg #[.slice (some ⟨b1, 0, none⟩) 3 3, .slice none 0 0]) (c' := #[.slice (some ⟨b1, 0, none⟩) 3 3, .slice none 0 0]) (M' := [(b3, .cells #[.slice (some ⟨b1, 0, none⟩) 3 3, .slice none 0 0] 24 (0, 0)), (b1, .cells #[.int .i64 1, .int .i64 2, .int .i64 3] 3 (0, 0))]) (by as_aux_lemma => kernel_rfl) H 0 rfl (by as_aux_lemma => kernel_rfl) (by as_aux_lemma => kernel_rfl) ?_
 intro w5 H
 refine RW.fin 0 [1] [(1, .pointer (some ⟨b3, 0, none⟩))] (by as_aux_lemma => kernel_rfl) ?_
 refine WK.run 1 [1] [.code (cd Try.prog 9 [2, 0]), .code (cd Try.prog 9 [3])] [(1, .pointer (some ⟨b3, 0, none⟩))] (by as_aux_lemma => kernel_rfl) ?_
 refine WK.reg1 (l := sq 0 10) (by as_aux_lemma => kernel_rfl) (by as_aux_lemma => kernel_rfl) ?_
 refine RW.new (κ := .seq) (d := some 9) (r := (sq 1 10)) (o := .cells #[.int .i64 1] 3 (0, 0)) (v := fun b => .slice (some ⟨b, 0, none⟩) 1 1) (fun b => by as_aux_lemma => kernel_rfl) (nofun) H ?_
 intro b6 w7 H
 refine RW.runP 2 [1, 10, 11] (sq 3 10) [(1, .pointer (some ⟨b3, 0, none⟩)), (10, .agg #[.slice (some ⟨b6, 0, none⟩) 1 1, .slice none 0 0]), (11, .agg #[.int .i64 3, .int .i64 1])] (by as_aux_lemma => kernel_rfl) (by as_aux_lemma => kernel_rfl) ?_
 have H := H.freeze 0 rfl (Shape.int .i64) ([1] : List Int) 1 (by simp [maxLen]) (by first | exact Nat.le_refl _ | simp) (EsP.cons (c := [.int .i64 1]) (Shape.int_mk (by decide)) EsP.nil)
 have H : Hp w S [] [(b3, .cells #[.slice (some ⟨b1, 0, none⟩) 3 3, .slice none 0 0] 24 (0, 0)), (b1, .cells #[.int .i64 1, .int .i64 2, .int .i64 3] 3 (0, 0))] [] [Rp (Shape.slice (Shape.int .i64)) [.slice (some ⟨b6, 0, none⟩) 1 1] ([1] : List Int)] _ := H
 refine RW.call (κ := .seq) (d := some 12) (r := (sq 4 10)) (g := 13) (args := #[.agg #[.slice (some ⟨b6, 0, none⟩) 1 1, .slice none 0 0], .agg #[.int .i64 3, .int .i64 1]]) (by as_aux_lemma => kernel_rfl) (nofun) (step_spec (C := ⟨([1] : List Int), []⟩) (Z := ⟨3, 1⟩) (conf_mk (H.rp 0 rfl) Shape.slice_nil) (cstep_mk (Shape.int_mk (by decide)) (Shape.int_mk (by decide)))) ?_
 rintro _ w8 hE11 ⟨_, D9, e10, rfl, hr12, hD13⟩
 obtain ⟨a14, k15, a16, k17, rfl, hv18, hl19⟩ := conf_open hr12
 have H2 := H.addN hE11 (F := Rp (Shape.slice (Shape.int .i64)) [.slice a14 D9.voters.length k15] D9.voters) hv18
 have H := H2.add (F := Rp (Shape.slice (Shape.int .i64)) [.slice a16 D9.learners.length k17] D9.learners) ((H.addN hE11 (F := Rp (Shape.slice (Shape.int .i64)) [.slice a16 D9.learners.length k17] D9.learners) hl19).rp 0 rfl)
 obtain ⟨-, he1⟩ := Prod.mk.inj (hD13.trans (show stepOf _ _ = (⟨[], []⟩, 120) by rfl))
 refine RW.runP 3 [1, 13, 14] (sq 7 10) [(1, .pointer (some ⟨b3, 0, none⟩)), (13, .agg #[.slice a14 D9.voters.length k15, .slice a16 D9.learners.length k17]), (14, .int .i64 e10)] (by as_aux_lemma => kernel_rfl) (by as_aux_lemma => kernel_rfl) ?_
 refine RW.new (κ := .seq) (d := some 2) (r := (sq 8 10)) (o := .cells #[.slice none 0 0, .slice none 0 0] 24 (0, 0)) (v := fun b => .pointer (some ⟨b, 0, none⟩)) (fun b => by as_aux_lemma => kernel_rfl) (nofun) H ?_
 intro b20 w21 H
 refine RW.store (d := none) (r := (sq 9 10)) (T := 24) (b := b20) (k := 0) (v := .agg #[.slice a14 D9.voters.length k15, .slice a16 D9.learners.length k17]) (c' := #[.slice a14 D9.voters.length k15, .slice a16 D9.learners.length k17]) (M' := [(b20, .cells #[.slice a14 D9.voters.length k15, .slice a16 D9.learners.length k17] 24 (0, 0)), (b3, .cells #[.slice (some ⟨b1, 0, none⟩) 3 3, .slice none 0 0] 24 (0, 0)), (b1, .cells #[.int .i64 1, .int .i64 2, .int .i64 3] 3 (0, 0))]) (by as_aux_lemma => kernel_rfl) H 0 rfl (by as_aux_lemma => kernel_rfl) (by as_aux_lemma => kernel_rfl) ?_
 intro w22 H
 refine RW.fin 1 [1, 3] [(1, .pointer (some ⟨b3, 0, none⟩)), (3, .int .i64 e10)] (by as_aux_lemma => kernel_rfl) ?_
 refine WK.run 1 [1, 3] [.code (cd Try.prog 9 [3, 0]), .code (cd Try.prog 9 [4])] [(1, .pointer (some ⟨b3, 0, none⟩)), (3, .int .i64 e10)] (by as_aux_lemma => kernel_rfl) ?_
 refine WK.reg1 (l := sq 0 9) (by as_aux_lemma => kernel_rfl) (by as_aux_lemma => kernel_rfl) ?_
 refine RW.load (κ := .seq) (d := some 16) (r := (sq 1 9)) (T := 24) (b := b3) (o' := 0) (k := 0) (v := .agg #[.slice (some ⟨b1, 0, none⟩) 3 3, .slice none 0 0]) (by as_aux_lemma => kernel_rfl) (H.cells 1 rfl) rfl (by as_aux_lemma => kernel_rfl) ?_
 refine RW.runP 1 [1, 3, 16, 17] (sq 2 9) [(1, .pointer (some ⟨b3, 0, none⟩)), (3, .int .i64 e10), (16, .agg #[.slice (some ⟨b1, 0, none⟩) 3 3, .slice none 0 0]), (17, .agg #[.int .i64 1, .int .i64 5])] (by as_aux_lemma => kernel_rfl) (by as_aux_lemma => kernel_rfl) ?_
 have H := H.freeze 2 rfl (Shape.int .i64) ([1, 2, 3] : List Int) 3 (by simp [maxLen]) (by first | exact Nat.le_refl _ | simp) (EsP.cons (c := [.int .i64 1]) (Shape.int_mk (by decide)) (EsP.cons (c := [.int .i64 2]) (Shape.int_mk (by decide)) (EsP.cons (c := [.int .i64 3]) (Shape.int_mk (by decide)) EsP.nil)))
 have H : Hp w S [] [(b20, .cells #[.slice a14 D9.voters.length k15, .slice a16 D9.learners.length k17] 24 (0, 0)), (b3, .cells #[.slice (some ⟨b1, 0, none⟩) 3 3, .slice none 0 0] 24 (0, 0))] [] [Rp (Shape.slice (Shape.int .i64)) [.slice (some ⟨b1, 0, none⟩) 3 3] ([1, 2, 3] : List Int), Rp (Shape.slice (Shape.int .i64)) [.slice a16 D9.learners.length k17] D9.learners, Rp (Shape.slice (Shape.int .i64)) [.slice a14 D9.voters.length k15] D9.voters, Rp (Shape.slice (Shape.int .i64)) [.slice (some ⟨b6, 0, none⟩) 1 1] ([1] : List Int)] _ := H
 refine RW.call (κ := .seq) (d := some 18) (r := (sq 3 9)) (g := 13) (args := #[.agg #[.slice (some ⟨b1, 0, none⟩) 3 3, .slice none 0 0], .agg #[.int .i64 1, .int .i64 5]]) (by as_aux_lemma => kernel_rfl) (nofun) (step_spec (C := ⟨([1, 2, 3] : List Int), []⟩) (Z := ⟨1, 5⟩) (conf_mk (H.rp 0 rfl) Shape.slice_nil) (cstep_mk (Shape.int_mk (by decide)) (Shape.int_mk (by decide)))) ?_
 rintro _ w23 hE26 ⟨_, D24, e25, rfl, hr27, hD28⟩
 obtain ⟨a29, k30, a31, k32, rfl, hv33, hl34⟩ := conf_open hr27
 have H2 := H.addN hE26 (F := Rp (Shape.slice (Shape.int .i64)) [.slice a29 D24.voters.length k30] D24.voters) hv33
 have H := H2.add (F := Rp (Shape.slice (Shape.int .i64)) [.slice a31 D24.learners.length k32] D24.learners) ((H.addN hE26 (F := Rp (Shape.slice (Shape.int .i64)) [.slice a31 D24.learners.length k32] D24.learners) hl34).rp 0 rfl)
 obtain ⟨hd2, he2⟩ := Prod.mk.inj (hD28.trans (show stepOf _ _ = (⟨[1, 2, 3], [5]⟩, 0) by rfl))
 refine RW.runP 3 [1, 3, 19, 20] (sq 6 9) [(1, .pointer (some ⟨b3, 0, none⟩)), (3, .int .i64 e10), (19, .agg #[.slice a29 D24.voters.length k30, .slice a31 D24.learners.length k32]), (20, .int .i64 e25)] (by as_aux_lemma => kernel_rfl) (by as_aux_lemma => kernel_rfl) ?_
 refine RW.new (κ := .seq) (d := some 4) (r := (sq 7 9)) (o := .cells #[.slice none 0 0, .slice none 0 0] 24 (0, 0)) (v := fun b => .pointer (some ⟨b, 0, none⟩)) (fun b => by as_aux_lemma => kernel_rfl) (nofun) H ?_
 intro b35 w36 H
 refine RW.store (d := none) (r := (sq 8 9)) (T := 24) (b := b35) (k := 0) (v := .agg #[.slice a29 D24.voters.length k30, .slice a31 D24.learners.length k32]) (c' := #[.slice a29 D24.voters.length k30, .slice a31 D24.learners.length k32]) (M' := [(b35, .cells #[.slice a29 D24.voters.length k30, .slice a31 D24.learners.length k32] 24 (0, 0)), (b20, .cells #[.slice a14 D9.voters.length k15, .slice a16 D9.learners.length k17] 24 (0, 0)), (b3, .cells #[.slice (some ⟨b1, 0, none⟩) 3 3, .slice none 0 0] 24 (0, 0))]) (by as_aux_lemma => kernel_rfl) H 0 rfl (by as_aux_lemma => kernel_rfl) (by as_aux_lemma => kernel_rfl) ?_
 intro w37 H
 refine RW.fin 1 [1, 3, 4, 5] [(1, .pointer (some ⟨b3, 0, none⟩)), (3, .int .i64 e10), (4, .pointer (some ⟨b35, 0, none⟩)), (5, .int .i64 e25)] (by as_aux_lemma => kernel_rfl) ?_
 refine WK.run 1 [1, 3, 4, 5] [.code (cd Try.prog 9 [4, 0]), .code (cd Try.prog 9 [5])] [(1, .pointer (some ⟨b3, 0, none⟩)), (3, .int .i64 e10), (4, .pointer (some ⟨b35, 0, none⟩)), (5, .int .i64 e25)] (by as_aux_lemma => kernel_rfl) ?_
 refine WK.reg1 (l := sq 0 37) (by as_aux_lemma => kernel_rfl) (by as_aux_lemma => kernel_rfl) ?_
 refine RW.load (κ := .seq) (d := some 21) (r := (sq 1 37)) (T := 24) (b := b3) (o' := 0) (k := 0) (v := .agg #[.slice (some ⟨b1, 0, none⟩) 3 3, .slice none 0 0]) (by as_aux_lemma => kernel_rfl) (H.cells 2 rfl) rfl (by as_aux_lemma => kernel_rfl) ?_
 refine RW.new (κ := .seq) (d := some 22) (r := (sq 2 37)) (o := .cells #[.int .i64 1, .int .i64 1, .int .i64 9] 3 (0, 0)) (v := fun b => .slice (some ⟨b, 0, none⟩) 3 3) (fun b => by as_aux_lemma => kernel_rfl) (nofun) H ?_
 intro b38 w39 H
 have H := H.freeze 0 rfl (Shape.int .i64) ([1, 1, 9] : List Int) 3 (by simp [maxLen]) (by first | exact Nat.le_refl _ | simp) (EsP.cons (c := [.int .i64 1]) (Shape.int_mk (by decide)) (EsP.cons (c := [.int .i64 1]) (Shape.int_mk (by decide)) (EsP.cons (c := [.int .i64 9]) (Shape.int_mk (by decide)) EsP.nil)))
 have H : Hp w S [] [(b35, .cells #[.slice a29 D24.voters.length k30, .slice a31 D24.learners.length k32] 24 (0, 0)), (b20, .cells #[.slice a14 D9.voters.length k15, .slice a16 D9.learners.length k17] 24 (0, 0)), (b3, .cells #[.slice (some ⟨b1, 0, none⟩) 3 3, .slice none 0 0] 24 (0, 0))] [] [Rp (Shape.slice (Shape.int .i64)) [.slice (some ⟨b38, 0, none⟩) 3 3] ([1, 1, 9] : List Int), Rp (Shape.slice (Shape.int .i64)) [.slice a31 D24.learners.length k32] D24.learners, Rp (Shape.slice (Shape.int .i64)) [.slice a29 D24.voters.length k30] D24.voters, Rp (Shape.slice (Shape.int .i64)) [.slice (some ⟨b1, 0, none⟩) 3 3] ([1, 2, 3] : List Int), Rp (Shape.slice (Shape.int .i64)) [.slice a16 D9.learners.length k17] D9.learners, Rp (Shape.slice (Shape.int .i64)) [.slice a14 D9.voters.length k15] D9.voters, Rp (Shape.slice (Shape.int .i64)) [.slice (some ⟨b6, 0, none⟩) 1 1] ([1] : List Int)] _ := H
 refine RW.call (κ := .seq) (d := some 23) (r := (sq 3 37)) (g := 8) (args := #[.agg #[.slice (some ⟨b1, 0, none⟩) 3 3, .slice none 0 0], .slice (some ⟨b38, 0, none⟩) 3 3]) (by as_aux_lemma => kernel_rfl) (nofun) (majority_spec (xs := ([1, 1, 9] : List Int)) (C := ⟨([1, 2, 3] : List Int), []⟩) (conf_mk (H.rp 3 rfl) Shape.slice_nil) (H.rp 0 rfl) (by first | omega | simp)) ?_
 rintro _ w40 hE41 rfl
 have H := H.ext hE41
 refine RW.runP 2 [1, 3, 4, 5, 25] (sq 5 37) [(1, .pointer (some ⟨b3, 0, none⟩)), (3, .int .i64 e10), (4, .pointer (some ⟨b35, 0, none⟩)), (5, .int .i64 e25), (25, .bool (!(majB (⟨([1, 2, 3] : List Int), []⟩) ([1, 1, 9] : List Int))))] (by as_aux_lemma => kernel_rfl) (by as_aux_lemma => kernel_rfl) ?_
 refine RW.test (fun b_ => [(1, .pointer (some ⟨b3, 0, none⟩)), (3, .int .i64 e10), (4, .pointer (some ⟨b35, 0, none⟩)), (5, .int .i64 e25), (25, .bool b_)]) (!(majB (⟨([1, 2, 3] : List Int), []⟩) ([1, 1, 9] : List Int))) (fun h42 => ?_) (fun h42 => ?_)
 ·
  replace h42 : (majB (⟨([1, 2, 3] : List Int), []⟩) ([1, 1, 9] : List Int)) = false := by revert h42; cases (majB (⟨([1, 2, 3] : List Int), []⟩) ([1, 1, 9] : List Int)) <;> simp
  refine RW.load (κ := .seq) (d := some 26) (r := (sq 6 37)) (T := 24) (b := b3) (o' := 0) (k := 0) (v := .agg #[.slice (some ⟨b1, 0, none⟩) 3 3, .slice none 0 0]) (by as_aux_lemma => kernel_rfl) (H.cells 2 rfl) rfl (by as_aux_lemma => kernel_rfl) ?_
  refine RW.new (κ := .seq) (d := some 27) (r := (sq 7 37)) (o := .cells #[.int .i64 3, .int .i64 1] 3 (0, 0)) (v := fun b => .slice (some ⟨b, 0, none⟩) 2 2) (fun b => by as_aux_lemma => kernel_rfl) (nofun) H ?_
  intro b43 w44 H
  have H := H.freeze 0 rfl (Shape.int .i64) ([3, 1] : List Int) 2 (by simp [maxLen]) (by first | exact Nat.le_refl _ | simp) (EsP.cons (c := [.int .i64 3]) (Shape.int_mk (by decide)) (EsP.cons (c := [.int .i64 1]) (Shape.int_mk (by decide)) EsP.nil))
  have H : Hp w S [] [(b35, .cells #[.slice a29 D24.voters.length k30, .slice a31 D24.learners.length k32] 24 (0, 0)), (b20, .cells #[.slice a14 D9.voters.length k15, .slice a16 D9.learners.length k17] 24 (0, 0)), (b3, .cells #[.slice (some ⟨b1, 0, none⟩) 3 3, .slice none 0 0] 24 (0, 0))] [] [Rp (Shape.slice (Shape.int .i64)) [.slice (some ⟨b43, 0, none⟩) 2 2] ([3, 1] : List Int), Rp (Shape.slice (Shape.int .i64)) [.slice (some ⟨b38, 0, none⟩) 3 3] ([1, 1, 9] : List Int), Rp (Shape.slice (Shape.int .i64)) [.slice a31 D24.learners.length k32] D24.learners, Rp (Shape.slice (Shape.int .i64)) [.slice a29 D24.voters.length k30] D24.voters, Rp (Shape.slice (Shape.int .i64)) [.slice (some ⟨b1, 0, none⟩) 3 3] ([1, 2, 3] : List Int), Rp (Shape.slice (Shape.int .i64)) [.slice a16 D9.learners.length k17] D9.learners, Rp (Shape.slice (Shape.int .i64)) [.slice a14 D9.voters.length k15] D9.voters, Rp (Shape.slice (Shape.int .i64)) [.slice (some ⟨b6, 0, none⟩) 1 1] ([1] : List Int)] _ := H
  refine RW.call (κ := .seq) (d := some 28) (r := (sq 8 37)) (g := 8) (args := #[.agg #[.slice (some ⟨b1, 0, none⟩) 3 3, .slice none 0 0], .slice (some ⟨b43, 0, none⟩) 2 2]) (by as_aux_lemma => kernel_rfl) (nofun) (majority_spec (xs := ([3, 1] : List Int)) (C := ⟨([1, 2, 3] : List Int), []⟩) (conf_mk (H.rp 4 rfl) Shape.slice_nil) (H.rp 0 rfl) (by first | omega | simp)) ?_
  rintro _ w45 hE46 rfl
  have H := H.ext hE46
  refine RW.runP 2 [1, 3, 4, 5, 30] (sq 10 37) [(1, .pointer (some ⟨b3, 0, none⟩)), (3, .int .i64 e10), (4, .pointer (some ⟨b35, 0, none⟩)), (5, .int .i64 e25), (30, .bool (majB (⟨([1, 2, 3] : List Int), []⟩) ([3, 1] : List Int)))] (by as_aux_lemma => kernel_rfl) (by as_aux_lemma => kernel_rfl) ?_
  refine RW.test (fun b_ => [(1, .pointer (some ⟨b3, 0, none⟩)), (3, .int .i64 e10), (4, .pointer (some ⟨b35, 0, none⟩)), (5, .int .i64 e25), (30, .bool b_)]) (majB (⟨([1, 2, 3] : List Int), []⟩) ([3, 1] : List Int)) (fun h47 => ?_) (fun h47 => ?_)
  ·
   refine RW.load (κ := .seq) (d := some 31) (r := (sq 11 37)) (T := 24) (b := b3) (o' := 0) (k := 0) (v := .agg #[.slice (some ⟨b1, 0, none⟩) 3 3, .slice none 0 0]) (by as_aux_lemma => kernel_rfl) (H.cells 2 rfl) rfl (by as_aux_lemma => kernel_rfl) ?_
   refine RW.load (κ := .seq) (d := some 32) (r := (sq 12 37)) (T := 24) (b := b3) (o' := 0) (k := 0) (v := .agg #[.slice (some ⟨b1, 0, none⟩) 3 3, .slice none 0 0]) (by as_aux_lemma => kernel_rfl) (H.cells 2 rfl) rfl (by as_aux_lemma => kernel_rfl) ?_
   refine RW.call (κ := .seq) (d := some 33) (r := (sq 13 37)) (g := 16) (args := #[.agg #[.slice (some ⟨b1, 0, none⟩) 3 3, .slice none 0 0], .agg #[.slice (some ⟨b1, 0, none⟩) 3 3, .slice none 0 0]]) (by as_aux_lemma => kernel_rfl) (nofun) (meets_spec (C := ⟨([1, 2, 3] : List Int), []⟩) (D := ⟨([1, 2, 3] : List Int), []⟩) (conf_mk (H.rp 4 rfl) Shape.slice_nil) (conf_mk (H.rp 4 rfl) Shape.slice_nil)) ?_
   rintro _ w48 hE49 rfl
   have H := H.ext hE49
   refine RW.runP 2 [3, 4, 5, 35] (sq 15 37) [(3, .int .i64 e10), (4, .pointer (some ⟨b35, 0, none⟩)), (5, .int .i64 e25), (35, .bool (meetsB (⟨([1, 2, 3] : List Int), []⟩) (⟨([1, 2, 3] : List Int), []⟩)))] (by as_aux_lemma => kernel_rfl) (by as_aux_lemma => kernel_rfl) ?_
   refine RW.test (fun b_ => [(3, .int .i64 e10), (4, .pointer (some ⟨b35, 0, none⟩)), (5, .int .i64 e25), (35, .bool b_)]) (meetsB (⟨([1, 2, 3] : List Int), []⟩) (⟨([1, 2, 3] : List Int), []⟩)) (fun h50 => ?_) (fun h50 => ?_)
   ·
    refine RW.new (κ := .seq) (d := some 36) (r := (sq 16 37)) (o := .cells #[.int .i64 1, .int .i64 2] 3 (0, 0)) (v := fun b => .slice (some ⟨b, 0, none⟩) 2 2) (fun b => by as_aux_lemma => kernel_rfl) (nofun) H ?_
    intro b51 w52 H
    refine RW.runP 1 [3, 4, 5, 35, 37] (sq 17 37) [(3, .int .i64 e10), (4, .pointer (some ⟨b35, 0, none⟩)), (5, .int .i64 e25), (35, .bool true), (37, .agg #[.slice (some ⟨b51, 0, none⟩) 2 2, .slice none 0 0])] (by as_aux_lemma => kernel_rfl) (by as_aux_lemma => kernel_rfl) ?_
    refine RW.new (κ := .seq) (d := some 38) (r := (sq 18 37)) (o := .cells #[.int .i64 3, .int .i64 4] 3 (0, 0)) (v := fun b => .slice (some ⟨b, 0, none⟩) 2 2) (fun b => by as_aux_lemma => kernel_rfl) (nofun) H ?_
    intro b53 w54 H
    refine RW.runP 1 [3, 4, 5, 35, 37, 39] (sq 19 37) [(3, .int .i64 e10), (4, .pointer (some ⟨b35, 0, none⟩)), (5, .int .i64 e25), (35, .bool true), (37, .agg #[.slice (some ⟨b51, 0, none⟩) 2 2, .slice none 0 0]), (39, .agg #[.slice (some ⟨b53, 0, none⟩) 2 2, .slice none 0 0])] (by as_aux_lemma => kernel_rfl) (by as_aux_lemma => kernel_rfl) ?_
    have H := H.freeze 1 rfl (Shape.int .i64) ([1, 2] : List Int) 2 (by simp [maxLen]) (by first | exact Nat.le_refl _ | simp) (EsP.cons (c := [.int .i64 1]) (Shape.int_mk (by decide)) (EsP.cons (c := [.int .i64 2]) (Shape.int_mk (by decide)) EsP.nil))
    have H : Hp w S [] [(b53, .cells #[.int .i64 3, .int .i64 4] 3 (0, 0)), (b35, .cells #[.slice a29 D24.voters.length k30, .slice a31 D24.learners.length k32] 24 (0, 0)), (b20, .cells #[.slice a14 D9.voters.length k15, .slice a16 D9.learners.length k17] 24 (0, 0)), (b3, .cells #[.slice (some ⟨b1, 0, none⟩) 3 3, .slice none 0 0] 24 (0, 0))] [] [Rp (Shape.slice (Shape.int .i64)) [.slice (some ⟨b51, 0, none⟩) 2 2] ([1, 2] : List Int), Rp (Shape.slice (Shape.int .i64)) [.slice (some ⟨b43, 0, none⟩) 2 2] ([3, 1] : List Int), Rp (Shape.slice (Shape.int .i64)) [.slice (some ⟨b38, 0, none⟩) 3 3] ([1, 1, 9] : List Int), Rp (Shape.slice (Shape.int .i64)) [.slice a31 D24.learners.length k32] D24.learners, Rp (Shape.slice (Shape.int .i64)) [.slice a29 D24.voters.length k30] D24.voters, Rp (Shape.slice (Shape.int .i64)) [.slice (some ⟨b1, 0, none⟩) 3 3] ([1, 2, 3] : List Int), Rp (Shape.slice (Shape.int .i64)) [.slice a16 D9.learners.length k17] D9.learners, Rp (Shape.slice (Shape.int .i64)) [.slice a14 D9.voters.length k15] D9.voters, Rp (Shape.slice (Shape.int .i64)) [.slice (some ⟨b6, 0, none⟩) 1 1] ([1] : List Int)] _ := H
    have H := H.freeze 0 rfl (Shape.int .i64) ([3, 4] : List Int) 2 (by simp [maxLen]) (by first | exact Nat.le_refl _ | simp) (EsP.cons (c := [.int .i64 3]) (Shape.int_mk (by decide)) (EsP.cons (c := [.int .i64 4]) (Shape.int_mk (by decide)) EsP.nil))
    have H : Hp w S [] [(b35, .cells #[.slice a29 D24.voters.length k30, .slice a31 D24.learners.length k32] 24 (0, 0)), (b20, .cells #[.slice a14 D9.voters.length k15, .slice a16 D9.learners.length k17] 24 (0, 0)), (b3, .cells #[.slice (some ⟨b1, 0, none⟩) 3 3, .slice none 0 0] 24 (0, 0))] [] [Rp (Shape.slice (Shape.int .i64)) [.slice (some ⟨b53, 0, none⟩) 2 2] ([3, 4] : List Int), Rp (Shape.slice (Shape.int .i64)) [.slice (some ⟨b51, 0, none⟩) 2 2] ([1, 2] : List Int), Rp (Shape.slice (Shape.int .i64)) [.slice (some ⟨b43, 0, none⟩) 2 2] ([3, 1] : List Int), Rp (Shape.slice (Shape.int .i64)) [.slice (some ⟨b38, 0, none⟩) 3 3] ([1, 1, 9] : List Int), Rp (Shape.slice (Shape.int .i64)) [.slice a31 D24.learners.length k32] D24.learners, Rp (Shape.slice (Shape.int .i64)) [.slice a29 D24.voters.length k30] D24.voters, Rp (Shape.slice (Shape.int .i64)) [.slice (some ⟨b1, 0, none⟩) 3 3] ([1, 2, 3] : List Int), Rp (Shape.slice (Shape.int .i64)) [.slice a16 D9.learners.length k17] D9.learners, Rp (Shape.slice (Shape.int .i64)) [.slice a14 D9.voters.length k15] D9.voters, Rp (Shape.slice (Shape.int .i64)) [.slice (some ⟨b6, 0, none⟩) 1 1] ([1] : List Int)] _ := H
    refine RW.call (κ := .seq) (d := some 40) (r := (sq 20 37)) (g := 16) (args := #[.agg #[.slice (some ⟨b51, 0, none⟩) 2 2, .slice none 0 0], .agg #[.slice (some ⟨b53, 0, none⟩) 2 2, .slice none 0 0]]) (by as_aux_lemma => kernel_rfl) (nofun) (meets_spec (C := ⟨([1, 2] : List Int), []⟩) (D := ⟨([3, 4] : List Int), []⟩) (conf_mk (H.rp 1 rfl) Shape.slice_nil) (conf_mk (H.rp 0 rfl) Shape.slice_nil)) ?_
    rintro _ w55 hE56 rfl
    have H := H.ext hE56
    refine RW.runP 3 [3, 4, 5, 43] (sq 23 37) [(3, .int .i64 e10), (4, .pointer (some ⟨b35, 0, none⟩)), (5, .int .i64 e25), (43, .bool (!(meetsB (⟨([1, 2] : List Int), []⟩) (⟨([3, 4] : List Int), []⟩))))] (by as_aux_lemma => kernel_rfl) (by as_aux_lemma => kernel_rfl) ?_
    refine RW.test (fun b_ => [(3, .int .i64 e10), (4, .pointer (some ⟨b35, 0, none⟩)), (5, .int .i64 e25), (43, .bool b_)]) (!(meetsB (⟨([1, 2] : List Int), []⟩) (⟨([3, 4] : List Int), []⟩))) (fun h57 => ?_) (fun h57 => ?_)
    ·
     replace h57 : (meetsB (⟨([1, 2] : List Int), []⟩) (⟨([3, 4] : List Int), []⟩)) = false := by revert h57; cases (meetsB (⟨([1, 2] : List Int), []⟩) (⟨([3, 4] : List Int), []⟩)) <;> simp
     refine RW.runP 4 [4, 5, 47] (sq 27 37) [(4, .pointer (some ⟨b35, 0, none⟩)), (5, .int .i64 e25), (47, .bool (e10 == 120))] (by as_aux_lemma => kernel_rfl) (by as_aux_lemma => kernel_rfl) ?_
     refine RW.test (fun b_ => [(4, .pointer (some ⟨b35, 0, none⟩)), (5, .int .i64 e25), (47, .bool b_)]) (e10 == 120) (fun h58 => ?_) (fun h58 => ?_)
     ·
      replace h58 := eq_of_beq h58
      refine RW.runP 4 [4, 51] (sq 31 37) [(4, .pointer (some ⟨b35, 0, none⟩)), (51, .bool (e25 == 0))] (by as_aux_lemma => kernel_rfl) (by as_aux_lemma => kernel_rfl) ?_
      refine RW.test (fun b_ => [(4, .pointer (some ⟨b35, 0, none⟩)), (51, .bool b_)]) (e25 == 0) (fun h59 => ?_) (fun h59 => ?_)
      ·
       replace h59 := eq_of_beq h59
       refine RW.runP 1 [51, 52] (sq 32 37) [(51, .bool true), (52, .pointer (some ⟨b35, 1, none⟩))] (by as_aux_lemma => kernel_rfl) (by as_aux_lemma => kernel_rfl) ?_
       refine RW.load (κ := .seq) (d := some 53) (r := (sq 33 37)) (T := 22) (b := b35) (o' := 1) (k := 1) (v := .slice a31 D24.learners.length k32) (by as_aux_lemma => kernel_rfl) (H.cells 0 rfl) rfl (by as_aux_lemma => kernel_rfl) ?_
       refine RW.fin 4 [0] [(0, .bool (((D24.learners.length : Nat) : Int) == 1))] (by as_aux_lemma => kernel_rfl) ?_
       refine WK.ret (v := .bool (((D24.learners.length : Nat) : Int) == 1)) Try.func9 (by as_aux_lemma => kernel_rfl) (by as_aux_lemma => kernel_rfl) ?_
       refine ⟨_, rfl, H.done, ?_⟩
       rw [hd2]; rfl
      ·
       replace h59 := ne_of_beq_false h59
       exact absurd h59 (by first | omega | decide)
     ·
      replace h58 := ne_of_beq_false h58
      exact absurd h58 (by first | omega | decide)
    ·
     replace h57 : (meetsB (⟨([1, 2] : List Int), []⟩) (⟨([3, 4] : List Int), []⟩)) = true := by revert h57; cases (meetsB (⟨([1, 2] : List Int), []⟩) (⟨([3, 4] : List Int), []⟩)) <;> simp
     exact absurd h57 (by first | omega | decide)
   ·
    exact absurd h50 (by first | omega | decide)
  ·
   exact absurd h47 (by first | omega | decide)
 ·
  replace h42 : (majB (⟨([1, 2, 3] : List Int), []⟩) ([1, 1, 9] : List Int)) = true := by revert h42; cases (majB (⟨([1, 2, 3] : List Int), []⟩) ([1, 1, 9] : List Int)) <;> simp
  exact absurd h42 (by first | omega | decide)
end Go.Proofs.Ythbegjaoifghlaa
