import Derived.Test.YtkjkmogipidkiaaGreatSBxA
import Derived.Test.YtkjkmogipidkiaaGreatSM5
namespace Go.Proofs.YtkjkmogipidkiaaGreat
open Go.BX
theorem ixnil_spec {S : Nat → Prop} {w : World} {bx : Nat} :
 Calls Tryz.prog 113 #[.slice none 0 0, .func (.func 120) #[] #[.P bx 0]] w (Ret fun v w' => Ext w w' ∧ v = .I (-1)) := by
 refine uS1 Tryz.func113 ?_
 have H := Hp.startF (w := w) (S := S) (G := []) .nil
 refine uR 6 [.c [1, 0, 1, 0], .b 0, .c [2]] ?_
 refine uL (α := Unit) (g := 113) (p := [1, 0, 1, 0, 0]) (fun _ => [(0, .slice none 0 0), (1, .func (.func 120) #[] #[.P bx 0]), (7, .I 0), (8, .I 0)]) (fun _ w' => Hp w S [] [] [] [] w' ∧ True) (fun _ => 0) (()) ⟨H, trivial⟩ ?_
 rintro _ _ ⟨H, _⟩ _
 refine uR 7 [.c [3]] ?_
 refine qT (.I (-1)) Tryz.func113 ?_
 exact ⟨_, rfl, H.done, rfl⟩
def mkP (next id : Int) : Peer := ⟨id, next, 0, false⟩
theorem mapI_succ {β : Type} (f : Int → β) {xs : List Int} {i : Nat} (h : i < xs.length) : (xs.take i).map f ++ [f xs[i]] = (xs.take (i + 1)).map f := by
 rw [List.take_succ_eq_append_getElem h, List.map_append]; rfl
set_option maxHeartbeats 4000000 in
theorem know_spec {S : Nat → Prop} {w : World} {O : List Nat} {mb : Nat} {ce0 : Value} {ce1 : Value} {ce2 : Value} {ce3 : Value} {ce4 : Value} {ce5 : Value} {ce6 : Value} {ce7 : Value} {ce8 : Value} {ce9 : Value} {ce10 : Value} {ce11 : Value} {ce12 : Value} {ce13 : Value} {ce14 : Value} {ce15 : Value} {ce16 : Value} {ce18 : Value} {ce19 : Value} {ce20 : Value} {ce21 : Value} {ce22 : Value} {ce23 : Value} {ce24 : Value} {ce25 : Value} {ce26 : Value} {ce27 : Value} {ce28 : Value} {ce29 : Value} {ce30 : Value} {ce31 : Value} {C : Conf} {av aw : Option Addr} {kv kw : Nat} {nx : Int} (hv0 : 0 < C.voters.length) (hv1 : C.voters.length ≤ 1048576) (hv2 : C.learners.length ≤ 1048576) (hnx : 0 ≤ nx ∧ nx ≤ 18446744073709551615) (H0 : Hp w S O [(mb, .cells #[ce0, ce1, ce2, ce3, ce4, ce5, ce6, ce7, ce8, ce9, ce10, ce11, ce12, ce13, ce14, ce15, ce16, .slice none 0 0, ce18, ce19, ce20, ce21, ce22, ce23, ce24, ce25, ce26, ce27, ce28, ce29, ce30, ce31] 99 (0, 0))] [] [Rp (Shape.slice (Shape.int .i64)) [.slice av C.voters.length kv] C.voters, Rp (Shape.slice (Shape.int .i64)) [.slice aw C.learners.length kw] C.learners] w) :
 Calls Tryz.prog 91 #[.P mb 0, .agg #[.slice av C.voters.length kv, .slice aw C.learners.length kw], .int .u64 nx] w (Ret fun v w' => ∃ (a' : Option Addr) (c' : Nat), v = .tuple #[] ∧ Hp w S O [(mb, .cells #[ce0, ce1, ce2, ce3, ce4, ce5, ce6, ce7, ce8, ce9, ce10, ce11, ce12, ce13, ce14, ce15, ce16, .slice a' (((sortedI [C.voters, C.learners].flatten).map (mkP nx)).length) c', ce18, ce19, ce20, ce21, ce22, ce23, ce24, ce25, ce26, ce27, ce28, ce29, ce30, ce31] 99 (0, 0))] [⟨peerS, 123, .slice a' (((sortedI [C.voters, C.learners].flatten).map (mkP nx)).length) c', ((sortedI [C.voters, C.learners].flatten).map (mkP nx))⟩] [] w') := by
 have hzl : (sortedI [C.voters, C.learners].flatten).length ≤ 2097152 := by rw [sortedI_len]; simp only [List.flatten_cons, List.flatten_nil, List.length_append, List.length_nil]; omega
 refine uS1 Tryz.func91 ?_
 have H := H0
 refine uR 1 [.c [0], .c [1]] ?_
 refine qG (sq 0 1) ?_
 refine uC #[.slice av C.voters.length kv, .slice aw C.learners.length kw] 28 H ?_
 intro A _ H
 refine uF 0 ?_
 refine uR 1 [.c [1, 0], .c [2]] ?_
 refine qG (sq 0 7) ?_
 refine uP 5 ?_
 refine uV 32 17 (H.cells 1 rfl) ?_
 refine uF 1 ?_
 refine uR 1 [.c [2, 0], .c [3]] ?_
 refine qG (sq 0 6) ?_
 refine uP 5 ?_
 refine uW 32 17 #[ce0, ce1, ce2, ce3, ce4, ce5, ce6, ce7, ce8, ce9, ce10, ce11, ce12, ce13, ce14, ce15, ce16, .slice none 0 0, ce18, ce19, ce20, ce21, ce22, ce23, ce24, ce25, ce26, ce27, ce28, ce29, ce30, ce31] H 1 rfl ?_
 intro _ H
 refine uF 0 ?_
 refine uR 1 [.c [3, 0], .c [4]] ?_
 refine qG (sq 0 10) ?_
 refine uP 1 ?_
 refine uV 26 0 (H.cells 0 rfl) ?_
 refine qP 1 (sq 3 10) [(0, .P mb 0), (2, .int .u64 nx), (6, .slice none 0 0), (23, .slice av C.voters.length kv), (24, .P A 1)] ?_
 refine uV 26 1 (H.cells 0 rfl) ?_
 refine RW.new (κ := .seq) (d := some 26) (r := (sq 5 10)) (o := .cells #[.slice av C.voters.length kv, .slice aw C.learners.length kw] 26 (0, 0)) (v := fun b => .slice (some ⟨b, 0, none⟩) 2 2) (fun b => by as_aux_lemma => kernel_rfl) (nofun) H ?_
 intro U _ H
 have H := H.freeze 0 rfl (Shape.slice (Shape.int .i64)) ([C.voters, C.learners] : List (List Int)) 2 (by simp [maxLen]) (by first | exact Nat.le_refl _ | simp) (EsP.cons (c := [.slice av C.voters.length kv]) (H.rp 0 rfl) (EsP.cons (c := [.slice aw C.learners.length kw]) (H.rp 1 rfl) EsP.nil))
 have H : Hp w S O [_, _] [] [Rp (Shape.slice (Shape.slice (Shape.int .i64))) [.slice (some ⟨U, 0, none⟩) 2 2] ([C.voters, C.learners] : List (List Int)), _, _] _ := H
 refine uK (concat_spec (m := ([C.voters, C.learners] : List (List Int))) (H.rp 0 rfl) (by simp) (by intro x hx; simp only [List.mem_cons, List.not_mem_nil, or_false] at hx; rcases hx with rfl | rfl <;> omega)) ?_
 rintro _ _ - H'
 have H := H.back (M1 := []) (W1 := []) H'
 obtain ⟨s, f, rfl, _, _⟩ := H.ownForm 0 rfl
 have H : Hp w S O [_, _] [⟨Shape.int .i64, 3, .slice s ((([C.voters, C.learners] : List (List Int)).flatten).length) f, ([C.voters, C.learners] : List (List Int)).flatten⟩] [_, _, _] _ := H
 refine qK .seq (some 28) (sq 7 10) 118 #[.slice s ((([C.voters, C.learners] : List (List Int)).flatten).length) f] (values_spec (S := Av S w O (idsOf [(A, .cells #[.slice av C.voters.length kv, .slice aw C.learners.length kw] 28 (0, 0)), (mb, .cells #[ce0, ce1, ce2, ce3, ce4, ce5, ce6, ce7, ce8, ce9, ce10, ce11, ce12, ce13, ce14, ce15, ce16, .slice none 0 0, ce18, ce19, ce20, ce21, ce22, ce23, ce24, ce25, ce26, ce27, ce28, ce29, ce30, ce31] 99 (0, 0))] [⟨Shape.int .i64, 3, .slice s ((([C.voters, C.learners] : List (List Int)).flatten).length) f, ([C.voters, C.learners] : List (List Int)).flatten⟩]))) ?_
 rintro _ _ E ⟨L, rfl, M⟩
 have H := H.addN E (F := Fc L 0 [.slice s ((([C.voters, C.learners] : List (List Int)).flatten).length) f]) M
 refine uK (sortedv_spec (S := Av S w O (idsOf [(A, .cells #[.slice av C.voters.length kv, .slice aw C.learners.length kw] 28 (0, 0)), (mb, .cells #[ce0, ce1, ce2, ce3, ce4, ce5, ce6, ce7, ce8, ce9, ce10, ce11, ce12, ce13, ce14, ce15, ce16, .slice none 0 0, ce18, ce19, ce20, ce21, ce22, ce23, ce24, ce25, ce26, ce27, ce28, ce29, ce30, ce31] 99 (0, 0))] [⟨Shape.int .i64, 3, .slice s ((([C.voters, C.learners] : List (List Int)).flatten).length) f, ([C.voters, C.learners] : List (List Int)).flatten⟩])) (xs := ([C.voters, C.learners] : List (List Int)).flatten) (H.viewF 0 rfl) (H.view 0 rfl) (by first | omega | (simp only [List.flatten_cons, List.flatten_nil, List.length_append, List.length_nil]; omega)) (by first | omega | (simp only [List.flatten_cons, List.flatten_nil, List.length_append, List.length_nil]; omega))) ?_
 rintro _ _ - H'
 have H := H.back (M1 := []) (W1 := []) H'
 obtain ⟨h, i, rfl, _, _⟩ := H.ownForm 0 rfl
 have H : Hp w S O [_, _] [⟨Shape.int .i64, 3, .slice h ((sortedI (([C.voters, C.learners] : List (List Int)).flatten)).length) i, sortedI (([C.voters, C.learners] : List (List Int)).flatten)⟩, _] [_, _, _, _] _ := H
 refine uF 2 ?_
 refine uR 1 [.c [4, 0], .b 0] ?_
 have H := H.ownNil peerS 123
 have H := H.pick [] rfl
 have H := H.take 2 2
 refine uL (α := Nat × List Peer × Option Addr × Nat) (g := 91) (p := [4, 0, 0]) (fun (k, ps, t, f) => [(0, .P mb 0), (2, .int .u64 nx), (6, .slice none 0 0), (29, .slice h ((sortedI (([C.voters, C.learners] : List (List Int)).flatten)).length) i), (30, .I (((sortedI (([C.voters, C.learners] : List (List Int)).flatten)).length : Nat) : Int)), (31, .I k)]) (fun (k, ps, t, f) w' => Hp w S O [(A, .cells #[.slice av C.voters.length kv, .slice aw C.learners.length kw] 28 (0, 0)), (mb, .cells #[ce0, ce1, ce2, ce3, ce4, ce5, ce6, ce7, ce8, ce9, ce10, ce11, ce12, ce13, ce14, ce15, ce16, .slice t ps.length f, ce18, ce19, ce20, ce21, ce22, ce23, ce24, ce25, ce26, ce27, ce28, ce29, ce30, ce31] 99 (0, 0))] [⟨peerS, 123, .slice t ps.length f, ps⟩, ⟨Shape.int .i64, 3, .slice h ((sortedI (([C.voters, C.learners] : List (List Int)).flatten)).length) i, sortedI (([C.voters, C.learners] : List (List Int)).flatten)⟩] [] w' ∧ k ≤ (sortedI [C.voters, C.learners].flatten).length ∧ ps = ((sortedI [C.voters, C.learners].flatten).take k).map (mkP nx)) (fun (k, ps, t, f) => (sortedI [C.voters, C.learners].flatten).length - k) (0, ([] : List Peer), none, 0) ⟨H, Nat.zero_le _, rfl⟩ ?_
 rintro ⟨k, ps, t, f⟩ _ ⟨H, j⟩ n
 have hpl : ps.length ≤ k := by rw [j.2, List.length_map, List.length_take]; omega
 refine uR 3 [.c [4, 0, 0, 1, 0], .c [4, 0, 0, 2], .l [4, 0, 0], .b 0] ?_
 refine qD (((k : Int) : Int) < (((sortedI (([C.voters, C.learners] : List (List Int)).flatten)).length : Nat) : Int)) (fun N => ?_) (fun N => ?_)
 ·
  refine uR 4 [.c [4, 0, 0, 2, 0, 0, 0], .c [4, 0, 0, 2, 0, 0, 1], .b 1, .c [4, 0, 0, 3], .l [4, 0, 0], .b 0] ?_
  refine qG (sq 0 4) ?_
  have H := H.frontW 1 rfl
  have G : (sortedI (([C.voters, C.learners] : List (List Int)).flatten)).length = (sortedI (([C.voters, C.learners] : List (List Int)).flatten)).length := rfl
  have J : k < (sortedI (([C.voters, C.learners] : List (List Int)).flatten)).length := by omega
  refine RW.indexW (κ := .seq) (d := some 33) (r := (sq 1 4)) (T := 26) (e := 3) (m := 1) (ik := .i64) (ix := (k : Int)) (sh := (Shape.int .i64)) (xs := sortedI (([C.voters, C.learners] : List (List Int)).flatten)) (a := h) (len := (sortedI (([C.voters, C.learners] : List (List Int)).flatten)).length) (cap := i) (by as_aux_lemma => kernel_rfl) (by as_aux_lemma => kernel_rfl) rfl H k (by omega) J G ?_
  intro _ _ _ q u
  have V := Shape.i64_bd u
  obtain ⟨rfl, -⟩ := u
  refine uV 3 0 q ?_
  refine uC #[.I 0] 3 H ?_
  intro Q _ H
  refine uW 3 0 #[.I ((sortedI (([C.voters, C.learners] : List (List Int)).flatten))[k])] H 0 rfl ?_
  intro _ H
  refine uF 0 ?_
  refine uR 1 [.c [4, 0, 0, 2, 0, 0, 1, 0], .c [4, 0, 0, 2, 0, 0, 2], .b 1, .c [4, 0, 0, 3], .l [4, 0, 0], .b 0] ?_
  refine qG (sq 0 5) ?_
  refine uV 3 0 (H.cells 0 rfl) ?_
  refine uP 2 ?_
  refine uC #[.I 0, .int .u64 0, .int .u64 0, .bool false] 123 H ?_
  intro B _ H
  refine uW 123 0 #[.I ((sortedI (([C.voters, C.learners] : List (List Int)).flatten))[k]), .int .u64 nx, .int .u64 0, .bool false] H 0 rfl ?_
  intro _ H
  refine uF 0 ?_
  refine uR 2 [.c [4, 0, 0, 2, 0, 0, 2, 0, 0], .c [4, 0, 0, 2, 0, 0, 2, 0, 1], .c [4, 0, 0, 2, 0, 0, 3], .b 1, .c [4, 0, 0, 3], .l [4, 0, 0], .b 0] ?_
  refine qG (sq 0 4) ?_
  refine uP 2 ?_
  refine qK .seq (some 40) (sq 3 4) 113 #[.slice none 0 0, .func (.func 120) #[] #[.P Q 0]] (ixnil_spec (S := fun _ => True)) ?_
  rintro _ D K rfl
  have H := H.ext K
  refine uF 1 ?_
  refine qR 4 [.c [4, 0, 0, 2, 0, 0, 3], .b 1, .c [4, 0, 0, 3], .l [4, 0, 0], .b 0] [(0, .P mb 0), (2, .int .u64 nx), (6, .slice none 0 0), (9, .P B 0), (29, .slice h ((sortedI (([C.voters, C.learners] : List (List Int)).flatten)).length) i), (30, .I (((sortedI (([C.voters, C.learners] : List (List Int)).flatten)).length : Nat) : Int)), (31, .I k)] ?_
  have H := H.dropM 1
  refine WK.drawP1 9 [0, 1, 2, 3, 4, 5] [(52, .P mb 17), (51, .P mb 0), (50, .P mb 0), (49, .P mb 0), (48, .P mb 0), (47, .P mb 0), (0, .P mb 0), (2, .int .u64 nx), (6, .slice none 0 0), (9, .P B 0), (29, .slice h ((sortedI (([C.voters, C.learners] : List (List Int)).flatten)).length) i), (30, .I (((sortedI (([C.voters, C.learners] : List (List Int)).flatten)).length : Nat) : Int)), (31, .I k)] [(6, .qui), (7, .qui), (8, .chn)] [(6, .qui), (7, .qui), (8, .chn), (9, .seq), (10, .seq), (11, .seq), (12, .seq), (13, .seq), (14, .seq)] Tryz_mixed (by as_aux_lemma => kernel_rfl) (by as_aux_lemma => kernel_rfl) (by as_aux_lemma => kernel_rfl) (by as_aux_lemma => kernel_rfl) ?_
  have H := H.draw
  generalize ({ D with drawn := D.drawn + 1 } : World) = W at H ⊢
  refine uV 32 17 (H.cells 2 rfl) ?_
  refine uV 123 0 (H.cells 0 rfl) ?_
  refine RW.new (κ := .chn) (d := some 55) (r := [(9, .seq), (10, .seq), (11, .seq), (12, .seq), (13, .seq), (14, .seq)]) (o := .cells #[.I ((sortedI (([C.voters, C.learners] : List (List Int)).flatten))[k]), .int .u64 nx, .int .u64 0, .bool false] 123 (0, 0)) (v := fun b => .slice (some ⟨b, 0, none⟩) 1 1) (fun b => by as_aux_lemma => kernel_rfl) (nofun) H ?_
  intro R _ H
  have H := H.freeze 0 rfl peerS ([⟨(sortedI (([C.voters, C.learners] : List (List Int)).flatten))[k], nx, 0, false⟩] : List Peer) 1 (by simp [maxLen]) (by first | exact Nat.le_refl _ | simp) (EsP.cons (c := [.I ((sortedI (([C.voters, C.learners] : List (List Int)).flatten))[k]), .int .u64 nx, .int .u64 0, .bool false]) (peer_mk i64a u64a (Shape.int_mk (by decide)) Shape.bool_mk) EsP.nil)
  have H : Hp w S O [_, _, _] [_, _] [Rp (Shape.slice peerS) [.slice (some ⟨R, 0, none⟩) 1 1] ([⟨(sortedI (([C.voters, C.learners] : List (List Int)).flatten))[k], nx, 0, false⟩] : List Peer)] _ := H
  refine uA 32 32 32 (ps ++ ([⟨(sortedI (([C.voters, C.learners] : List (List Int)).flatten))[k], nx, 0, false⟩] : List Peer)) H 1 rfl 0 rfl (rfl) (by simp; omega) ?_
  intro y z _ H _
  have H : Hp w S O [_, _, _] [_, ⟨peerS, 123, .slice y ((ps ++ ([⟨(sortedI (([C.voters, C.learners] : List (List Int)).flatten))[k], nx, 0, false⟩] : List Peer)).length) z, ps ++ ([⟨(sortedI (([C.voters, C.learners] : List (List Int)).flatten))[k], nx, 0, false⟩] : List Peer)⟩] [_] _ := H
  refine uP 4 ?_
  refine uW 32 17 #[ce0, ce1, ce2, ce3, ce4, ce5, ce6, ce7, ce8, ce9, ce10, ce11, ce12, ce13, ce14, ce15, ce16, .slice y ((ps ++ ([⟨(sortedI (([C.voters, C.learners] : List (List Int)).flatten))[k], nx, 0, false⟩] : List Peer)).length) z, ce18, ce19, ce20, ce21, ce22, ce23, ce24, ce25, ce26, ce27, ce28, ce29, ce30, ce31] H 2 rfl ?_
  intro _ H
  refine uF 0 ?_
  refine uR 1 [.c [4, 0, 0, 3], .l [4, 0, 0], .b 0] ?_
  have H := H.dropM 0
  have H := H.pick [] rfl
  refine qG (sq 0 2) ?_
  refine uI ((k : Int) + 1) ?_
  refine uF 1 ?_
  have H := H.frontW 1 rfl
  exact uB (n (k + 1, ps ++ ([⟨(sortedI (([C.voters, C.learners] : List (List Int)).flatten))[k], nx, 0, false⟩] : List Peer), y, z) _ ⟨H, by omega, by rw [j.2]; exact mapI_succ (mkP nx) (by omega)⟩ (by first | omega | (simp only []; omega)))
 ·
  refine uR 1 [] ?_
  refine WK.fin (v := .tuple #[]) Tryz.func91 (by as_aux_lemma => kernel_rfl) ?_
  have H := H.frontM 1 rfl
  have hpF : ps = ((sortedI [C.voters, C.learners].flatten).map (mkP nx)) := by rw [j.2, List.take_of_length_le (by omega)]
  subst hpF
  have H := H.take 1 1
  exact ⟨_, rfl, _, _, rfl, H.pick [] rfl⟩
end Go.Proofs.YtkjkmogipidkiaaGreat
