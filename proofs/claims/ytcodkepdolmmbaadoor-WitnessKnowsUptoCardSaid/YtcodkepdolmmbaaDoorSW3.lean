import Derived.Test.YtcodkepdolmmbaaDoorSL3
import Derived.Test.YtcodkepdolmmbaaDoorSW2
namespace Go.Proofs.YtcodkepdolmmbaaDoor
open Go.BX
theorem mfind_at {L : List (ByteArray × ByteArray × Nat)} {c : Nat} {Sx : Tb} (hT : TabOk L c Sx) {k : Nat} (hk : k < Sx.length) : (mfind Sx[k].1 L).getD ByteArray.empty = Sx[k].2 := by
 rw [hT.find, tget_at (keys_nodup hT) hk]; rfl
theorem val_sz {L : List (ByteArray × ByteArray × Nat)} {c : Nat} {Sx : Tb} (hT : TabOk L c Sx) (hz : szT Sx) {k : Nat} (hk : k < Sx.length) : ((mfind Sx[k].1 L).getD ByteArray.empty).size ≤ 1048576 := by
 rw [mfind_at hT hk]
 exact (hz.2 _ (List.getElem_mem hk)).2
theorem text_sz1 {L : List (ByteArray × ByteArray × Nat)} {c : Nat} {Sx : Tb} (hT : TabOk L c Sx) (hz : szT Sx) {k : Nat} (hk : k < Sx.length) (T : Lib.PrintTabs) : (quoB T Sx[k].1).size + (quoB T ((mfind Sx[k].1 L).getD ByteArray.empty)).size ≤ 9223372036854775807 := by
 have h1 := quo_size T Sx[k].1
 have h2 := quo_size T ((mfind Sx[k].1 L).getD ByteArray.empty)
 have h3 := val_sz hT hz hk
 have h4 := (hz.2 _ (List.getElem_mem hk)).1
 omega
theorem text_sz2 {L : List (ByteArray × ByteArray × Nat)} {c : Nat} {Sx : Tb} (hT : TabOk L c Sx) (hz : szT Sx) {k : Nat} (hk : k < Sx.length) (T : Lib.PrintTabs) : (pairsB T (Sx.take k)).size + (quoB T Sx[k].1 ++ quoB T ((mfind Sx[k].1 L).getD ByteArray.empty)).size ≤ 9223372036854775807 := by
 have h1 := quo_size T Sx[k].1
 have h2 := quo_size T ((mfind Sx[k].1 L).getD ByteArray.empty)
 have h3 := val_sz hT hz hk
 have h4 := (hz.2 _ (List.getElem_mem hk)).1
 have h5 := pairs_size T (S := Sx.take k) fun p hp => hz.2 p (List.mem_of_mem_take hp)
 have h6 := hz.1
 rw [List.length_take] at h5
 rw [ByteArray.size_append]
 have h7 : min k Sx.length ≤ 1048576 := by omega
 omega
theorem text_step {L : List (ByteArray × ByteArray × Nat)} {c : Nat} {Sx : Tb} (hT : TabOk L c Sx) {k : Nat} (hk : k < Sx.length) (T : Lib.PrintTabs) : pairsB T (Sx.take k) ++ (quoB T Sx[k].1 ++ quoB T ((mfind Sx[k].1 L).getD ByteArray.empty)) = pairsB T (Sx.take (k + 1)) := by
 rw [mfind_at hT hk, List.take_succ_eq_append_getElem hk, pairs_snoc]
theorem text_spec {S : Nat → Prop} {w : World} {tb c : Nat} {L : List (ByteArray × ByteArray × Nat)} {Sx : Tb} (hT : TabOk L c Sx) (hz : szT Sx) (hm : (Fm tb (mapO Value.string Value.string L c)).p S w) (hq : (Fz tabsQ).p S w) :
 Calls Tryd.prog 28 #[.map (some tb)] w (Ret fun v w' => Ext w w' ∧ v = .string (pairsB Lib.goPrintTabs Sx)) := by
 have hfl := fst_len Sx
 refine qS (fn := Tryd.f28) (n := 24) (σ := [(0, .map (some tb))]) Tryd.func28 ?_
 have H := Hp.startF (w := w) (S := S) (G := [Fm tb (mapO Value.string Value.string L c), Fz tabsQ]) (.cons hm (.cons hq .nil))
 refine qR 6 [.c [2, 0, 0], .c [2, 0, 1], .c [3]] [(0, .map (some tb)), (3, .string (⟨#[]⟩ : ByteArray))] ?_
 refine qG (sq 0 4) ?_
 refine qP 1 (sq 1 4) [(0, .map (some tb)), (3, .string (⟨#[]⟩ : ByteArray)), (6, .map (some tb))] ?_
 refine qK .seq (some 7) (sq 2 4) 33 #[.map (some tb)] (names_spec (St := Av S w [] (idsOf [] [])) hT hz (H.fact 0 rfl).2) ?_
 rintro v2 w1 - H'
 have H := H.back (M1 := []) (W1 := []) H'
 obtain ⟨a3, c4, rfl, hc5, hm6⟩ := H.ownForm 0 rfl
 have H : Hp w S [] [] [⟨Shape.str, 9, .slice a3 (kys Sx).length c4, kys Sx⟩] [Fm tb (mapO Value.string Value.string L c), Fz tabsQ] _ := H
 refine qF 2 [(0, .map (some tb)), (3, .string (⟨#[]⟩ : ByteArray)), (7, .slice a3 (kys Sx).length c4), (8, .I (((kys Sx).length : Nat) : Int)), (9, .I 0)] ?_
 refine qR 1 [.c [2, 0, 1, 0], .b 0, .c [3]] [(0, .map (some tb)), (3, .string (⟨#[]⟩ : ByteArray)), (7, .slice a3 (kys Sx).length c4), (8, .I (((kys Sx).length : Nat) : Int)), (9, .I 0)] ?_
 refine WK.loop (α := Nat) (b := cd Tryd.prog 28 [2, 0, 1, 0, 0]) (by as_aux_lemma => kernel_rfl) (fun k => [(0, .map (some tb)), (3, .string (pairsB Lib.goPrintTabs (Sx.take k))), (7, .slice a3 (kys Sx).length c4), (8, .I (((kys Sx).length : Nat) : Int)), (9, .I k)]) (fun k w' => Hp w S [] [] [⟨Shape.str, 9, .slice a3 (kys Sx).length c4, kys Sx⟩] [Fm tb (mapO Value.string Value.string L c), Fz tabsQ] w' ∧ k ≤ Sx.length) (fun k => Sx.length - k) 0 ⟨H, Nat.zero_le _⟩ (rfl) ?_
 rintro k w8 ⟨H, hinv0⟩ hback7
 refine qR 3 [.c [2, 0, 1, 0, 0, 1, 0], .c [2, 0, 1, 0, 0, 2], .l [2, 0, 1, 0, 0], .b 0, .c [3]] [(0, .map (some tb)), (3, .string (pairsB Lib.goPrintTabs (Sx.take k))), (7, .slice a3 (kys Sx).length c4), (8, .I (((kys Sx).length : Nat) : Int)), (9, .I k), (10, .bool (decide (((k : Int) : Int) < (((kys Sx).length : Nat) : Int))))] ?_
 refine qD (((k : Int) : Int) < (((kys Sx).length : Nat) : Int)) (fun h9 => ?_) (fun h9 => ?_)
 ·
  have hk1 : k < Sx.length := by omega
  refine qR 4 [.c [2, 0, 1, 0, 0, 2, 0, 0, 0], .c [2, 0, 1, 0, 0, 2, 0, 0, 1], .b 1, .c [2, 0, 1, 0, 0, 3], .l [2, 0, 1, 0, 0], .b 0, .c [3]] [(0, .map (some tb)), (3, .string (pairsB Lib.goPrintTabs (Sx.take k))), (7, .slice a3 (kys Sx).length c4), (8, .I (((kys Sx).length : Nat) : Int)), (9, .I k)] ?_
  refine qG (sq 0 3) ?_
  have hn11 : (kys Sx).length = (kys Sx).length := rfl
  have hx10 : k < (kys Sx).length := by omega
  refine RW.indexW (κ := .seq) (d := some 11) (r := (sq 1 3)) (T := 31) (e := 9) (m := 1) (ik := .i64) (ix := (k : Int)) (sh := Shape.str) (xs := kys Sx) (a := a3) (len := (kys Sx).length) (cap := c4) (by as_aux_lemma => kernel_rfl) (by as_aux_lemma => kernel_rfl) rfl H k (by omega) hx10 hn11 ?_
  intro b12 es13 ha14 hcell15 hr16
  rw [kys_at _ hk1] at hr16
  obtain ⟨rfl, hshr16⟩ := hr16
  refine qL .seq 12 (sq 2 3) 9 b12 (k * 1) 0 (.string ((Sx[k]).1)) hcell15 ?_
  refine qF 1 [(0, .map (some tb)), (3, .string (pairsB Lib.goPrintTabs (Sx.take k))), (5, .string ((Sx[k]).1)), (7, .slice a3 (kys Sx).length c4), (8, .I (((kys Sx).length : Nat) : Int)), (9, .I k)] ?_
  refine WK.draw1 10 [(0, .qui), (1, .qui), (3, .qui), (4, .qui), (5, .qui), (2, .chn), (6, .chn), (7, .qui), (8, .qui), (9, .qui)] [(0, .qui), (1, .qui), (3, .qui), (4, .qui), (5, .qui), (2, .chn), (6, .chn), (7, .qui), (8, .qui), (9, .qui)] Tryd_mixed (by as_aux_lemma => kernel_rfl) (by as_aux_lemma => kernel_rfl) (by as_aux_lemma => kernel_rfl) ?_
  have H := H.draw
  generalize ({ w8 with drawn := w8.drawn + 1 } : World) = w17 at H ⊢
  refine qP 4 [(5, .qui), (2, .chn), (6, .chn), (7, .qui), (8, .qui), (9, .qui)] [(0, .map (some tb)), (3, .string (pairsB Lib.goPrintTabs (Sx.take k))), (7, .slice a3 (kys Sx).length c4), (8, .I (((kys Sx).length : Nat) : Int)), (9, .I k), (13, .string (pairsB Lib.goPrintTabs (Sx.take k))), (14, .string ((Sx[k]).1)), (16, .map (some tb)), (17, .string ((Sx[k]).1))] ?_
  refine RW.mapGetB (κ := .qui) (d := some 18) (r := [(2, .chn), (6, .chn), (7, .qui), (8, .qui), (9, .qui)]) (T := 56) (mk := Value.string) (vk := Value.string) (Kt := 9) (E := 9) (z := ByteArray.empty) ((Sx[k]).1) false (by as_aux_lemma => kernel_rfl) (H.fact 0 rfl) (KeyOk.str (by as_aux_lemma => kernel_rfl)) (by as_aux_lemma => kernel_rfl) (fun w_ => zeroE_run (by as_aux_lemma => kernel_rfl) w_) ?_
  refine qK .chn (some 15) [(6, .chn), (7, .qui), (8, .qui), (9, .qui)] 36 #[.string ((Sx[k]).1)] (quote_spec ((Sx[k]).1) ((hz.2 _ (List.getElem_mem hk1)).1) (H.fact 1 rfl)) ?_
  rintro _ w18 hE19 rfl
  have H := H.ext hE19
  refine qK .chn (some 19) (qs [7, 8, 9]) 36 #[.string ((mfind ((Sx[k]).1) L).getD ByteArray.empty)] (quote_spec ((mfind ((Sx[k]).1) L).getD ByteArray.empty) (val_sz hT hz hk1) (H.fact 1 rfl)) ?_
  rintro _ w20 hE21 rfl
  have H := H.ext hE21
  refine RW.readS (κ := .qui) (d := some 20) (r := (qs [8, 9])) (s := semV (Op.stringOp .add (quoB Lib.goPrintTabs ((Sx[k]).1)) (quoB Lib.goPrintTabs ((mfind ((Sx[k]).1) L).getD ByteArray.empty)))) (v := .string ((quoB Lib.goPrintTabs ((Sx[k]).1)) ++ (quoB Lib.goPrintTabs ((mfind ((Sx[k]).1) L).getD ByteArray.empty)))) (by as_aux_lemma => kernel_rfl) (fun w' _ => semV_run (run_string_add_sum w' _ _ (text_sz1 hT hz hk1 _))) ?_
  refine RW.readS (κ := .qui) (d := some 21) (r := [(9, .qui)]) (s := semV (Op.stringOp .add (pairsB Lib.goPrintTabs (Sx.take k)) ((quoB Lib.goPrintTabs ((Sx[k]).1)) ++ (quoB Lib.goPrintTabs ((mfind ((Sx[k]).1) L).getD ByteArray.empty))))) (v := .string ((pairsB Lib.goPrintTabs (Sx.take k)) ++ ((quoB Lib.goPrintTabs ((Sx[k]).1)) ++ (quoB Lib.goPrintTabs ((mfind ((Sx[k]).1) L).getD ByteArray.empty))))) (by as_aux_lemma => kernel_rfl) (fun w' _ => semV_run (run_string_add_sum w' _ _ (text_sz2 hT hz hk1 _))) ?_
  refine qF 1 [(0, .map (some tb)), (3, .string ((pairsB Lib.goPrintTabs (Sx.take k)) ++ ((quoB Lib.goPrintTabs ((Sx[k]).1)) ++ (quoB Lib.goPrintTabs ((mfind ((Sx[k]).1) L).getD ByteArray.empty))))), (7, .slice a3 (kys Sx).length c4), (8, .I (((kys Sx).length : Nat) : Int)), (9, .I k)] ?_
  refine qR 1 [.c [2, 0, 1, 0, 0, 3], .l [2, 0, 1, 0, 0], .b 0, .c [3]] [(0, .map (some tb)), (3, .string ((pairsB Lib.goPrintTabs (Sx.take k)) ++ ((quoB Lib.goPrintTabs ((Sx[k]).1)) ++ (quoB Lib.goPrintTabs ((mfind ((Sx[k]).1) L).getD ByteArray.empty))))), (7, .slice a3 (kys Sx).length c4), (8, .I (((kys Sx).length : Nat) : Int)), (9, .I k)] ?_
  refine qG (sq 0 2) ?_
  refine qI .seq 22 (sq 1 2) ((k : Int) + 1) ?_
  refine qF 1 [(0, .map (some tb)), (3, .string ((pairsB Lib.goPrintTabs (Sx.take k)) ++ ((quoB Lib.goPrintTabs ((Sx[k]).1)) ++ (quoB Lib.goPrintTabs ((mfind ((Sx[k]).1) L).getD ByteArray.empty))))), (7, .slice a3 (kys Sx).length c4), (8, .I (((kys Sx).length : Nat) : Int)), (9, .I ((k : Int) + 1))] ?_
  rw [text_step hT hk1]
  exact WK.back (hback7 (k + 1) _ ⟨H, by omega⟩ (by first | omega | (simp only []; omega))) (by as_aux_lemma => kernel_rfl)
 ·
  refine qR 3 [.c [4]] [(2, .string (pairsB Lib.goPrintTabs (Sx.take k)))] ?_
  refine qT (.string (pairsB Lib.goPrintTabs (Sx.take k))) Tryd.func28 ?_
  exact ⟨_, rfl, H.done, by rw [List.take_of_length_le (by omega)]⟩
end Go.Proofs.YtcodkepdolmmbaaDoor
