import Derived.Test.YtppcdmbkgficiaaSBxA
import Derived.Test.YtppcdmbkgficiaaSA4
namespace Go.Proofs.Ytppcdmbkgficiaa
open Go.BX
theorem written_spec {S : Nat → Prop} {w : World} {bp c : Nat} {a : Option Addr} {n : Nat} (hF : (Fc bp 0 [.slice a n c, .I 0, .bool true, .bool false]).p S w) :
 Calls Try.prog 94 #[.P bp 0] w (Ret fun v w' => Ext w w' ∧ v = .slice a n c) := by
 refine uS1 Try.func94 ?_
 have H := Hp.startF (w := w) (S := S) (G := [Fc bp 0 [.slice a n c, .I 0, .bool true, .bool false]]) (.cons hF .nil)
 refine uR 3 [.c [1, 0], .c [2]] ?_
 refine qG (sq 0 5) ?_
 refine uP 3 ?_
 refine uV 23 0 (H.fc 0 rfl) ?_
 refine uF 1 ?_
 refine qT (.slice a n c) Try.func94 ?_
 exact ⟨_, rfl, H.done, rfl⟩
theorem put_spec {S : Nat → Prop} {w : World} {m : Msg} {ma0 ma1 ma2 ma3 ma4 : Option Addr} {mk0 mk1 mk2 mk3 mk4 : Nat} (hm : MsgOk m) (h0 : (Shape.slice (Shape.int .i64)).rep S w [.slice ma1 m.conf.voters.length mk1] m.conf.voters) (h1 : (Shape.slice (Shape.int .i64)).rep S w [.slice ma2 m.conf.learners.length mk2] m.conf.learners) (h2 : SB.rep S w [.slice ma3 m.data.length mk3] m.data) :
 Calls Try.prog 62 #[.agg (msgV m ma0 mk0 ma1 mk1 ma2 mk2 ma3 mk3 ma4 mk4).toArray] w (Ret fun v w' => Ext w w' ∧ Hp w S [] [] [⟨Sb, 5, v, msgE m⟩] [] w') := by
 refine uS1 Try.func62 ?_
 have H := Hp.startF (.rp h0 (.rp h1 (.rp h2 .nil)))
 refine uR 1 [.c [0], .c [1]] ?_
 refine qG (sq 0 2) ?_
 refine uC ((msgV m ma0 mk0 ma1 mk1 ma2 mk2 ma3 mk3 ma4 mk4).toArray) 57 H ?_
 intro j _ H
 refine uF 1 ?_
 refine uR 1 [.c [1, 0], .c [2]] ?_
 refine qG (sq 0 2) ?_
 have H := H.addRp SB [.slice none 0 0] [] Shape.slice_nil
 refine uK (writer_spec (ys := ([] : List (BitVec 8))) (H.rp 0 rfl) (by first | omega | simp)) ?_
 rintro _ _ - ⟨a, e, f, rfl, H'⟩
 have H := H.back (M1 := []) (W1 := []) H'
 have H : Hp w S [] [(a, .cells #[.slice e (([] : List (BitVec 8)).length) f, .I 0, .bool true, .bool false] 183 (0, 0)), (j, .cells (msgV m ma0 mk0 ma1 mk1 ma2 mk2 ma3 mk3 ma4 mk4).toArray 57 (0, 0))] [⟨Sb, 5, .slice e (([] : List (BitVec 8)).length) f, ([] : List (BitVec 8))⟩] [_, _, _, _] _ := H
 refine uF 1 ?_
 refine uR 1 [.c [2, 0], .c [3]] ?_
 refine qG (sq 0 3) ?_
 refine qP 1 (sq 1 3) [(1, .P j 0), (3, .P a 0), (5, .P a 0)] ?_
 refine uV 57 0 (H.cells 1 rfl) ?_
 refine RW.callS (d := some 7) (r := (sq 3 3)) (g := 93) (args := #[.P a 0, .agg (msgV m ma0 mk0 ma1 mk1 ma2 mk2 ma3 mk3 ma4 mk4).toArray]) (by as_aux_lemma => kernel_rfl) (fields_spec (m := m) hm ((H.lend (M1 := [(a, .cells #[.slice e (([] : List (BitVec 8)).length) f, .I 0, .bool true, .bool false] 183 (0, 0))]) (W1 := [⟨Sb, 5, .slice e (([] : List (BitVec 8)).length) f, ([] : List (BitVec 8))⟩])).pick [1, 2, 3] rfl) (by simp)) ?_
 rintro _ _ ⟨h, b, H'⟩
 have H := H.back (M1 := [(a, .cells #[.slice e (([] : List (BitVec 8)).length) f, .I 0, .bool true, .bool false] 183 (0, 0))]) (W1 := [⟨Sb, 5, .slice e (([] : List (BitVec 8)).length) f, ([] : List (BitVec 8))⟩]) H'
 have H : Hp w S [] [(a, .cells #[.slice h ((([] : List (BitVec 8)) ++ msgE m).length) b, .I 0, .bool true, .bool false] 183 (0, 0)), _] [⟨Sb, 5, .slice h ((([] : List (BitVec 8)) ++ msgE m).length) b, (([] : List (BitVec 8)) ++ msgE m)⟩] [_, _, _, _] _ := H
 refine uF 0 ?_
 refine uR 1 [.c [3, 0], .c [4]] ?_
 refine qG (sq 0 3) ?_
 refine uP 1 ?_
 refine uK (written_spec (S := fun _ => True) (H.viewM 0 rfl (by simp))) ?_
 rintro _ _ i rfl
 have H := H.ext i
 refine uF 1 ?_
 refine qT (.slice h ((([] : List (BitVec 8)) ++ msgE m).length) b) Try.func62 ?_
 have H := H.drop (M' := []) (W' := [⟨Sb, 5, .slice h ((([] : List (BitVec 8)) ++ msgE m).length) b, (([] : List (BitVec 8)) ++ msgE m)⟩]) (List.nil_sublist _) (List.Sublist.refl _)
 exact ⟨_, rfl, H.done, H.pick [] rfl⟩
theorem same_spec {S : Nat → Prop} {w : World} {m : Msg} {ma0 ma1 ma2 ma3 ma4 : Option Addr} {mk0 mk1 mk2 mk3 mk4 : Nat} {nma0 nma1 nma2 nma3 nma4 : Option Addr} {nmk0 nmk1 nmk2 nmk3 nmk4 : Nat} (hm : MsgOk m) (h0 : (Shape.slice (Shape.int .i64)).rep S w [.slice ma1 m.conf.voters.length mk1] m.conf.voters) (h1 : (Shape.slice (Shape.int .i64)).rep S w [.slice ma2 m.conf.learners.length mk2] m.conf.learners) (h2 : SB.rep S w [.slice ma3 m.data.length mk3] m.data) (g0 : (Shape.slice (Shape.int .i64)).rep S w [.slice nma1 m.conf.voters.length nmk1] m.conf.voters) (g1 : (Shape.slice (Shape.int .i64)).rep S w [.slice nma2 m.conf.learners.length nmk2] m.conf.learners) (g2 : SB.rep S w [.slice nma3 m.data.length nmk3] m.data) :
 Calls Try.prog 26 #[.agg (msgV m ma0 mk0 ma1 mk1 ma2 mk2 ma3 mk3 ma4 mk4).toArray, .agg (msgV m nma0 nmk0 nma1 nmk1 nma2 nmk2 nma3 nmk3 nma4 nmk4).toArray] w (Ret fun v w' => Ext w w' ∧ v = .bool true) := by
 refine uS1 Try.func26 ?_
 have H := Hp.startF (.rp h0 (.rp h1 (.rp h2 (.rp g0 (.rp g1 (.rp g2 .nil))))))
 refine uR 1 [.c [0], .c [1]] ?_
 refine qG (sq 0 3) ?_
 refine uC ((msgV m ma0 mk0 ma1 mk1 ma2 mk2 ma3 mk3 ma4 mk4).toArray) 57 H ?_
 intro f _ H
 refine uC ((msgV m nma0 nmk0 nma1 nmk1 nma2 nmk2 nma3 nmk3 nma4 nmk4).toArray) 57 H ?_
 intro j g H
 refine uF 1 ?_
 refine uR 1 [.c [1, 0], .c [2]] ?_
 refine WK.draw1 8 [(0, .qui), (3, .qui), (1, .chn), (2, .qui), (4, .chn), (5, .qui), (6, .qui), (7, .qui)] [(0, .qui), (3, .qui), (1, .chn), (2, .qui), (4, .chn), (5, .qui), (6, .qui), (7, .qui)] Try_mixed (by as_aux_lemma => kernel_rfl) (by as_aux_lemma => kernel_rfl) (by as_aux_lemma => kernel_rfl) ?_
 have H := H.draw
 generalize ({ g with drawn := g.drawn + 1 } : World) = k at H ⊢
 refine qL .qui 5 [(3, .qui), (1, .chn), (2, .qui), (4, .chn), (5, .qui), (6, .qui), (7, .qui)] 57 f 0 0 (.agg (msgV m ma0 mk0 ma1 mk1 ma2 mk2 ma3 mk3 ma4 mk4).toArray) (H.cells 1 rfl) ?_
 refine uV 57 0 (H.cells 0 rfl) ?_
 refine qK .chn (some 6) [(2, .qui), (4, .chn), (5, .qui), (6, .qui), (7, .qui)] 62 #[.agg (msgV m ma0 mk0 ma1 mk1 ma2 mk2 ma3 mk3 ma4 mk4).toArray] (put_spec (m := m) hm (H.rp 0 rfl) (H.rp 1 rfl) (H.rp 2 rfl)) ?_
 rintro _ _ - H'
 have H := H.back (M1 := []) (W1 := []) H'
 obtain ⟨h, i, rfl, _, _⟩ := H.ownForm 0 rfl
 have H : Hp w S [] [(j, .cells (msgV m nma0 nmk0 nma1 nmk1 nma2 nmk2 nma3 nmk3 nma4 nmk4).toArray 57 (0, 0)), (f, .cells (msgV m ma0 mk0 ma1 mk1 ma2 mk2 ma3 mk3 ma4 mk4).toArray 57 (0, 0))] [⟨Sb, 5, .slice h (msgE m).length i, msgE m⟩] [_, _, _, _, _, _] _ := H
 refine RW.toStr (κ := .qui) (d := some 7) (r := [(4, .chn), (5, .qui), (6, .qui), (7, .qui)]) (Ts := 23) (Td := 9) 5 (a := h) (len := (msgE m).length) (cap := i) (xs := msgE m) (by as_aux_lemma => kernel_rfl) (by as_aux_lemma => kernel_rfl) (H.view 0 rfl) ?_
 refine qK .chn (some 9) (qs [5, 6, 7]) 62 #[.agg (msgV m nma0 nmk0 nma1 nmk1 nma2 nmk2 nma3 nmk3 nma4 nmk4).toArray] (put_spec (m := m) hm (H.rp 3 rfl) (H.rp 4 rfl) (H.rp 5 rfl)) ?_
 rintro _ _ - H'
 have H := H.back (M1 := []) (W1 := []) H'
 obtain ⟨b, e, rfl, _, _⟩ := H.ownForm 0 rfl
 have H : Hp w S [] [_, _] [⟨Sb, 5, .slice b (msgE m).length e, msgE m⟩, _] [_, _, _, _, _, _] _ := H
 refine RW.toStr (κ := .qui) (d := some 10) (r := (qs [6, 7])) (Ts := 23) (Td := 9) 5 (a := b) (len := (msgE m).length) (cap := e) (xs := msgE m) (by as_aux_lemma => kernel_rfl) (by as_aux_lemma => kernel_rfl) (H.view 0 rfl) ?_
 refine uF 2 ?_
 refine qT (.bool ((strOf (msgE m)).toList == (strOf (msgE m)).toList)) Try.func26 ?_
 refine ⟨_, rfl, H.done, ?_⟩
 simp
section
variable {xs : List (BitVec 8)} {n : Nat} {seen : List Int} {t : Int}
end
end Go.Proofs.Ytppcdmbkgficiaa
