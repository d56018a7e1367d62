import Derived.Test.YtdnibpclkhenmaaGreatDoorSJ4
import Derived.Test.YtdnibpclkhenmaaGreatDoorSL2
import Derived.Test.YtdnibpclkhenmaaGreatDoorSP6
import Derived.Test.YtdnibpclkhenmaaGreatDoorSBxA
namespace Go.Proofs.YtdnibpclkhenmaaGreatDoor
open Go.BX
theorem numbered_spec {S : Nat → Prop} {w : World} {jb db : Nat} {nm : ByteArray} {x2 x3 x4 x5 x6 x7 : Value} {x kd : ByteArray} (hj : (Fc jb 0 [.P db 0, .string nm, x2, x3, x4, x5, x6, x7]).p S w) (hx : FForm x) (hp : PlainB nm) (hk : kd = kS ∨ kd = kC) :
 Calls Tryz.prog 106 #[.P jb 0, .string x, .string kd] w (Ret fun v w' => Ext w w' ∧ v = .tuple #[.I ((numB nm kd x : Nat) : Int), .bool (decide (0 < numB nm kd x))]) := by
 have hs1 : nm.size ≤ 16 := hp.1
 have hs2 : kd.size = 1 := by rcases hk with rfl | rfl <;> rfl
 have hs3 : ({ data := #[46] } : ByteArray).size = 1 := rfl
 have hs4 : (nm ++ ({ data := #[46] } : ByteArray)).size = nm.size + 1 := by rw [ByteArray.size_append]; rfl
 have hs5 : (nm ++ ({ data := #[46] } : ByteArray) ++ kd).size = nm.size + 1 + kd.size := by rw [ByteArray.size_append, hs4]
 refine qS (fn := Tryz.f106) (n := 38) (σ := [(0, .P jb 0), (1, .string x), (2, .string kd)]) Tryz.func106 ?_
 have H := Hp.startF (w := w) (S := S) (G := [Fc jb 0 [.P db 0, .string nm, x2, x3, x4, x5, x6, x7]]) (.cons hj .nil)
 refine qR 3 [.c [1, 0], .c [2]] [(0, .P jb 0), (1, .string x), (2, .string kd)] ?_
 refine qG (sq 0 14) ?_
 refine qP 4 (sq 4 14) [(2, .string kd), (13, .string x), (16, .P jb 1)] ?_
 refine qL .seq 17 (sq 5 14) 9 jb 1 1 (.string nm) (H.fc 0 rfl) ?_
 refine RW.readS (κ := .seq) (d := some 18) (r := (sq 6 14)) (s := semV (Op.stringOp .add nm (⟨#[46]⟩ : ByteArray))) (v := .string (nm ++ (⟨#[46]⟩ : ByteArray))) (by as_aux_lemma => kernel_rfl) (fun w' _ => semV_run (run_string_add_sum w' _ _ (by omega))) ?_
 refine qP 1 (sq 7 14) [(13, .string x), (18, .string (nm ++ (⟨#[46]⟩ : ByteArray))), (19, .string kd)] ?_
 refine RW.readS (κ := .seq) (d := some 20) (r := (sq 8 14)) (s := semV (Op.stringOp .add (nm ++ (⟨#[46]⟩ : ByteArray)) kd)) (v := .string ((nm ++ (⟨#[46]⟩ : ByteArray)) ++ kd)) (by as_aux_lemma => kernel_rfl) (fun w' _ => semV_run (run_string_add_sum w' _ _ (by omega))) ?_
 refine qK .seq (some 21) (sq 9 14) 157 #[.string x, .string ((nm ++ (⟨#[46]⟩ : ByteArray)) ++ kd)] (cut_c hx hp hk) ?_
 rintro _ w1 hE2 (⟨n3, h4, h5, he6, rfl⟩ | ⟨ho7, s8, rfl⟩)
 ·
  have H := H.ext hE2
  refine qF 5 [(8, .string (digB n3)), (9, .bool true)] ?_
  refine qR 6 [.c [3, 0], .c [4]] [(8, .string (digB n3))] ?_
  refine qG (sq 0 7) ?_
  refine qP 1 (sq 1 7) [(27, .string (digB n3))] ?_
  refine qK .seq (some 28) (sq 2 7) 158 #[.string (digB n3)] (atoi_c h5) ?_
  rintro _ w9 hE10 rfl
  have H := H.ext hE10
  refine qF 5 [(10, .I n3), (11, .nilIface)] ?_
  refine qR 2 [.c [5]] [(6, .I n3), (7, .bool (decide (((n3 : Int) : Int) > 0)))] ?_
  refine qT (.tuple #[.I n3, .bool (decide (((n3 : Int) : Int) > 0))]) Tryz.func106 ?_
  have hn9 : numB nm kd x = n3 := by rw [he6]; exact numB_yes hp hk h4
  exact ⟨_, rfl, H.done, by rw [hn9]; exact congrArg (fun b => Value.tuple #[_, .bool b]) (decide_eq_decide.2 (by omega))⟩
 ·
  have H := H.ext hE2
  refine qF 5 [(8, .string s8), (9, .bool false)] ?_
  refine qR 6 [.c [2, 0, 1, 0, 1], .c [3]] [(6, .I 0), (7, .bool false)] ?_
  refine qT (.tuple #[.I 0, .bool false]) Tryz.func106 ?_
  have hn9 := numB_no fun n _ => ho7 n
  exact ⟨_, rfl, H.done, by rw [hn9]; rfl⟩
theorem jfile_spec {S : Nat → Prop} {w : World} {jb db : Nat} {nm : ByteArray} {x2 x3 x4 x5 x6 x7 : Value} {kd : ByteArray} {n : Nat} (hj : (Fc jb 0 [.P db 0, .string nm, x2, x3, x4, x5, x6, x7]).p S w) (hq : (Fz jQ).p S w) (hn : n ≤ 1000000) (hp : PlainB nm) (hk : kd = kS ∨ kd = kC) :
 Calls Tryz.prog 58 #[.P jb 0, .string kd, .I n] w (Ret fun v w' => Ext w w' ∧ v = .string (fN nm kd n)) := by
 have hs1 : nm.size ≤ 16 := hp.1
 have hs2 : kd.size = 1 := by rcases hk with rfl | rfl <;> rfl
 have hs3 : ({ data := #[46] } : ByteArray).size = 1 := rfl
 have hs4 : (nm ++ ({ data := #[46] } : ByteArray)).size = nm.size + 1 := by rw [ByteArray.size_append]; rfl
 have hs5 : (nm ++ ({ data := #[46] } : ByteArray) ++ kd).size = nm.size + 1 + kd.size := by rw [ByteArray.size_append, hs4]
 have hs6 : (digB n).size ≤ 7 := dig_len hn
 refine qS (fn := Tryz.f58) (n := 17) (σ := [(0, .P jb 0), (1, .string kd), (2, .I n)]) Tryz.func58 ?_
 have H := Hp.startF (w := w) (S := S) (G := [Fc jb 0 [.P db 0, .string nm, x2, x3, x4, x5, x6, x7], Fz jQ]) (.cons hj (.cons hq .nil))
 refine qR 3 [.c [1, 0], .c [2]] [(0, .P jb 0), (1, .string kd), (2, .I n)] ?_
 refine WK.draw1 11 [(0, .qui), (1, .qui), (2, .qui), (3, .qui), (4, .qui), (5, .qui), (6, .qui), (7, .qui), (8, .chn), (9, .qui), (10, .qui)] [(0, .qui), (1, .qui), (2, .qui), (3, .qui), (4, .qui), (5, .qui), (6, .qui), (7, .qui), (8, .chn), (9, .qui), (10, .qui)] Tryz_mixed (by as_aux_lemma => kernel_rfl) (by as_aux_lemma => kernel_rfl) (by as_aux_lemma => kernel_rfl) ?_
 have H := H.draw
 generalize ({ w with drawn := w.drawn + 1 } : World) = w1 at H ⊢
 refine qP 3 [(3, .qui), (4, .qui), (5, .qui), (6, .qui), (7, .qui), (8, .chn), (9, .qui), (10, .qui)] [(1, .string kd), (2, .I n), (9, .P jb 1)] ?_
 refine qL .qui 10 [(4, .qui), (5, .qui), (6, .qui), (7, .qui), (8, .chn), (9, .qui), (10, .qui)] 9 jb 1 1 (.string nm) (H.fc 0 rfl) ?_
 refine RW.readS (κ := .qui) (d := some 11) (r := [(5, .qui), (6, .qui), (7, .qui), (8, .chn), (9, .qui), (10, .qui)]) (s := semV (Op.stringOp .add nm (⟨#[46]⟩ : ByteArray))) (v := .string (nm ++ (⟨#[46]⟩ : ByteArray))) (by as_aux_lemma => kernel_rfl) (fun w' _ => semV_run (run_string_add_sum w' _ _ (by omega))) ?_
 refine qP 1 [(6, .qui), (7, .qui), (8, .chn), (9, .qui), (10, .qui)] [(2, .I n), (11, .string (nm ++ (⟨#[46]⟩ : ByteArray))), (12, .string kd)] ?_
 refine RW.readS (κ := .qui) (d := some 13) (r := [(7, .qui), (8, .chn), (9, .qui), (10, .qui)]) (s := semV (Op.stringOp .add (nm ++ (⟨#[46]⟩ : ByteArray)) kd)) (v := .string ((nm ++ (⟨#[46]⟩ : ByteArray)) ++ kd)) (by as_aux_lemma => kernel_rfl) (fun w' _ => semV_run (run_string_add_sum w' _ _ (by omega))) ?_
 refine qP 1 [(8, .chn), (9, .qui), (10, .qui)] [(13, .string ((nm ++ (⟨#[46]⟩ : ByteArray)) ++ kd)), (14, .I n)] ?_
 refine qK .chn (some 15) (qs [9, 10]) 117 #[.I n] (itoa_c (n := n) (by omega) (Fz.of (H.fact 1 rfl))) ?_
 rintro _ w2 hE3 rfl
 have H := H.ext hE3
 refine RW.readS (κ := .qui) (d := some 16) (r := [(10, .qui)]) (s := semV (Op.stringOp .add ((nm ++ (⟨#[46]⟩ : ByteArray)) ++ kd) (digB n))) (v := .string (((nm ++ (⟨#[46]⟩ : ByteArray)) ++ kd) ++ (digB n))) (by as_aux_lemma => kernel_rfl) (fun w' _ => semV_run (run_string_add_sum w' _ _ (by omega))) ?_
 refine qF 1 [(6, .string (((nm ++ (⟨#[46]⟩ : ByteArray)) ++ kd) ++ (digB n)))] ?_
 refine qT (.string (((nm ++ (⟨#[46]⟩ : ByteArray)) ++ kd) ++ (digB n))) Tryz.func58 ?_
 exact ⟨_, rfl, H.done, rfl⟩
theorem told_spec {S : Nat → Prop} {w : World}  :
 Calls Tryz.prog 110 #[.I 70] w (Ret fun v w' => Ext w w' ∧ ∃ eb, v = .iface 200 (.P eb 0) ∧ Hp w S [] [(eb, .cells #[.I 70] 204 (0, 0))] [] [] w') := by
 refine qS (fn := Tryz.f110) (n := 9) (σ := [(0, .I 70)]) Tryz.func110 ?_
 have H := Hp.startF (w := w) (S := S) (G := []) .nil
 refine qR 8 [.c [2, 0], .c [3]] [(0, .I 70)] ?_
 refine qG (sq 0 5) ?_
 refine qP 2 (sq 2 5) [(6, .agg #[.I 70])] ?_
 refine qB .seq 7 (sq 3 5) #[.I 70] 204 H ?_
 intro b1 w2 H
 refine qF 2 [(2, .iface 200 (.P b1 0))] ?_
 refine qT (.iface 200 (.P b1 0)) Tryz.func110 ?_
 exact ⟨_, rfl, H.done, _, rfl, H⟩
theorem told_zero {S : Nat → Prop} {w : World}  :
 Calls Tryz.prog 110 #[.I 0] w (Ret fun v w' => Ext w w' ∧ v = .nilIface) := by
 refine qS (fn := Tryz.f110) (n := 9) (σ := [(0, .I 0)]) Tryz.func110 ?_
 have H := Hp.startF (w := w) (S := S) (G := []) .nil
 refine qR 8 [.c [1, 0, 1, 0, 1], .c [2]] [(2, .nilIface)] ?_
 refine qT .nilIface Tryz.func110 ?_
 exact ⟨_, rfl, H.done, rfl⟩
theorem jnumber_spec {S : Nat → Prop} {w : World} {O : List Nat} {eb : Nat} (H0 : Hp w S O [(eb, .cells #[.I 70] 204 (0, 0))] [] [Fz jQ] w) :
 Calls Tryz.prog 53 #[.iface 200 (.P eb 0)] w (Ret fun v w' => v = .I 70 ∧ Hp w S O [(eb, .cells #[.I 70] 204 (0, 0))] [] [] w') := by
 refine qS (fn := Tryz.f53) (n := 14) (σ := [(0, .iface 200 (.P eb 0))]) Tryz.func53 ?_
 have H := H0
 refine qR 4 [.c [1, 0, 0], .c [1, 0, 1], .c [2]] [(0, .iface 200 (.P eb 0))] ?_
 refine qG (sq 0 3) ?_
 refine qP 1 (sq 1 3) [(0, .iface 200 (.P eb 0)), (4, .iface 200 (.P eb 0))] ?_
 refine qK .seq (some 5) (sq 2 3) 111 #[] (stop_c (Fz.of (H.fact 0 rfl))) ?_
 rintro v3 w1 hE2 hv4
 have H := H.ext hE2
 refine qK .seq (some 6) (sq 3 3) 71 #[.iface 200 (.P eb 0), v3] (is_stop H hv4 (Fz.of (H.fact 0 rfl))) ?_
 rintro _ w5 hE6 rfl
 have H := H.ext hE6
 refine qF 0 [(0, .iface 200 (.P eb 0)), (6, .bool true)] ?_
 refine qR 3 [.c [1, 0, 1, 0, 1], .c [2]] [(2, .I 70)] ?_
 refine qT (.I 70) Tryz.func53 ?_
 exact ⟨_, rfl, rfl, H.pick [] rfl⟩
end Go.Proofs.YtdnibpclkhenmaaGreatDoor
