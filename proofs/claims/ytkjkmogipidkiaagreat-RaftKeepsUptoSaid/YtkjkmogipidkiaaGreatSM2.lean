import Derived.Test.YtkjkmogipidkiaaGreatSBxA
import Derived.Test.YtkjkmogipidkiaaGreatSM1
namespace Go.Proofs.YtkjkmogipidkiaaGreat
open Go.BX
theorem rest_spec {S : Nat → Prop} {w : World} {O : List Nat} {mb : Nat} {ce0 : Value} {ce2 : Value} {ce3 : Value} {ce4 : Value} {ce5 : Value} {ce6 : Value} {ce7 : Value} {ce8 : Value} {ce9 : Value} {ce10 : Value} {ce11 : Value} {ce12 : Value} {ce13 : Value} {ce14 : Value} {ce15 : Value} {ce16 : Value} {ce17 : Value} {ce18 : Value} {ce19 : Value} {ce20 : Value} {ce21 : Value} {ce22 : Value} {ce23 : Value} {ce24 : Value} {ce25 : Value} {ce26 : Value} {ce27 : Value} {ce28 : Value} {ce29 : Value} {ce30 : Value} {el dr : Int} (hel : 1 ≤ el ∧ el ≤ 1000) (hdr : 0 ≤ dr ∧ dr ≤ 9223372036854774000) (H0 : Hp w S O [(mb, .cells #[ce0, .I el, ce2, ce3, ce4, ce5, ce6, ce7, ce8, ce9, ce10, ce11, ce12, ce13, ce14, ce15, ce16, ce17, ce18, ce19, ce20, ce21, ce22, ce23, ce24, ce25, ce26, ce27, ce28, ce29, ce30, .I dr] 99 (0, 0))] [] [] w) :
 Calls Tryz.prog 109 #[.P mb 0] w (Ret fun v w' => v = .tuple #[] ∧ Hp w S O [(mb, .cells #[ce0, .I el, ce2, ce3, ce4, ce5, ce6, ce7, ce8, ce9, ce10, ce11, ce12, ce13, .I 0, .I (el + dr % el), ce16, ce17, ce18, ce19, ce20, ce21, ce22, ce23, ce24, ce25, ce26, ce27, ce28, ce29, ce30, .I dr] 99 (0, 0))] [] [] w') := by
 have b := Int.emod_nonneg dr (show el ≠ 0 by omega)
 have e := Int.emod_lt_of_pos dr (show (0 : Int) < el by omega)
 refine uS1 Tryz.func109 ?_
 have H := H0
 refine uR 1 [.c [0], .c [1]] ?_
 refine qG (sq 0 6) ?_
 refine uP 5 ?_
 refine uW 3 14 #[ce0, .I el, ce2, ce3, ce4, ce5, ce6, ce7, ce8, ce9, ce10, ce11, ce12, ce13, .I 0, ce15, ce16, ce17, ce18, ce19, ce20, ce21, ce22, ce23, ce24, ce25, ce26, ce27, ce28, ce29, ce30, .I dr] H 0 rfl ?_
 intro a H
 refine uF 0 ?_
 refine WK.draw1 23 (qs [0, 1, 2, 3, 4, 5, 6, 7, 8, 9, 10, 11, 12, 13, 14, 15, 16, 17, 18, 19, 20, 21, 22]) [(0, .qui), (1, .qui), (2, .qui), (3, .qui), (4, .qui), (5, .qui), (6, .qui), (7, .qui), (8, .qui), (9, .qui), (10, .qui), (11, .qui), (12, .qui), (13, .qui), (14, .qui), (15, .qui), (16, .qui), (17, .qui), (18, .qui), (19, .qui), (20, .qui), (21, .qui), (22, .qui), (23, .seq)] Tryz_mixed (by as_aux_lemma => kernel_rfl) (by as_aux_lemma => kernel_rfl) (by as_aux_lemma => kernel_rfl) ?_
 have H := H.draw
 generalize ({ a with drawn := a.drawn + 1 } : World) = f at H ⊢
 refine uP 6 ?_
 refine uV 3 1 (H.cells 0 rfl) ?_
 refine uP 3 ?_
 refine uV 3 31 (H.cells 0 rfl) ?_
 refine uP 5 ?_
 refine uV 3 1 (H.cells 0 rfl) ?_
 refine RW.readS (κ := .qui) (d := some 24) (r := [(18, .qui), (19, .qui), (20, .qui), (21, .qui), (22, .qui), (23, .seq)]) (s := semV (Op.intDiv .rem .i64 dr el)) (v := .I (dr % el)) (by as_aux_lemma => kernel_rfl) (fun w' _ => semV_run (rem_run_i64 (by omega) (by omega))) ?_
 refine uI (el + (dr % el)) ?_
 refine uP 4 ?_
 refine uW 3 15 #[ce0, .I el, ce2, ce3, ce4, ce5, ce6, ce7, ce8, ce9, ce10, ce11, ce12, ce13, .I 0, .I (el + (dr % el)), ce16, ce17, ce18, ce19, ce20, ce21, ce22, ce23, ce24, ce25, ce26, ce27, ce28, ce29, ce30, .I dr] H 0 rfl ?_
 intro _ H
 refine uF 0 ?_
 refine WK.fin (v := .tuple #[]) Tryz.func109 (by as_aux_lemma => kernel_rfl) ?_
 exact ⟨_, rfl, rfl, H.pick [] rfl⟩
theorem forget_spec {S : Nat → Prop} {w : World} {O : List Nat} {mb : Nat} {ce0 : Value} {ce1 : Value} {ce2 : Value} {ce3 : Value} {ce4 : Value} {ce5 : Value} {ce6 : Value} {ce7 : Value} {ce8 : Value} {ce9 : Value} {ce10 : Value} {ce11 : Value} {ce12 : Value} {ce13 : Value} {ce14 : Value} {ce15 : Value} {ce16 : Value} {ce17 : Value} {ce18 : Value} {ce20 : Value} {ce21 : Value} {ce22 : Value} {ce23 : Value} {ce24 : Value} {ce25 : Value} {ce26 : Value} {ce27 : Value} {ce28 : Value} {ce29 : Value} {ce30 : Value} {ce31 : Value} {ar : Option Addr} {cr : Nat} (H0 : Hp w S O [(mb, .cells #[ce0, ce1, ce2, ce3, ce4, ce5, ce6, ce7, ce8, ce9, ce10, ce11, ce12, ce13, ce14, ce15, ce16, ce17, ce18, .slice ar 0 cr, ce20, ce21, ce22, ce23, ce24, ce25, ce26, ce27, ce28, ce29, ce30, ce31] 99 (0, 0))] [] [] w) :
 Calls Tryz.prog 110 #[.P mb 0] w (Ret fun v w' => v = .tuple #[] ∧ Hp w S O [(mb, .cells #[ce0, ce1, ce2, ce3, ce4, ce5, ce6, ce7, ce8, ce9, ce10, ce11, ce12, ce13, ce14, ce15, ce16, .slice none 0 0, ce18, .slice none 0 0, .I 0, ce21, ce22, ce23, ce24, ce25, ce26, ce27, ce28, ce29, ce30, ce31] 99 (0, 0))] [] [] w') := by
 refine uS1 Tryz.func110 ?_
 have H := H0
 refine uR 2 [.c [0, 0], .c [0, 1], .c [1]] ?_
 refine qG (sq 0 8) ?_
 refine uP 5 ?_
 refine uV 33 19 (H.cells 0 rfl) ?_
 refine uF 2 ?_
 refine uR 1 [.c [0, 1, 0], .b 0, .c [1]] ?_
 refine uL (α := Unit) (g := 110) (p := [0, 1, 0, 0]) (fun _ => [(0, .P mb 0), (9, .slice ar 0 cr), (10, .I 0), (11, .I 0)]) (fun _ w' => Hp w S O [(mb, .cells #[ce0, ce1, ce2, ce3, ce4, ce5, ce6, ce7, ce8, ce9, ce10, ce11, ce12, ce13, ce14, ce15, ce16, ce17, ce18, .slice ar 0 cr, ce20, ce21, ce22, ce23, ce24, ce25, ce26, ce27, ce28, ce29, ce30, ce31] 99 (0, 0))] [] [] w' ∧ True) (fun _ => 0) (()) ⟨H, trivial⟩ ?_
 rintro _ _ ⟨H, _⟩ _
 refine uR 5 [.c [1]] ?_
 refine qG (sq 0 18) ?_
 refine uP 7 ?_
 refine uW 33 19 #[ce0, ce1, ce2, ce3, ce4, ce5, ce6, ce7, ce8, ce9, ce10, ce11, ce12, ce13, ce14, ce15, ce16, ce17, ce18, .slice none 0 0, ce20, ce21, ce22, ce23, ce24, ce25, ce26, ce27, ce28, ce29, ce30, ce31] H 0 rfl ?_
 intro _ H
 refine uP 4 ?_
 refine uW 32 17 #[ce0, ce1, ce2, ce3, ce4, ce5, ce6, ce7, ce8, ce9, ce10, ce11, ce12, ce13, ce14, ce15, ce16, .slice none 0 0, ce18, .slice none 0 0, ce20, ce21, ce22, ce23, ce24, ce25, ce26, ce27, ce28, ce29, ce30, ce31] H 0 rfl ?_
 intro _ H
 refine uP 4 ?_
 refine uW 3 20 #[ce0, ce1, ce2, ce3, ce4, ce5, ce6, ce7, ce8, ce9, ce10, ce11, ce12, ce13, ce14, ce15, ce16, .slice none 0 0, ce18, .slice none 0 0, .I 0, ce21, ce22, ce23, ce24, ce25, ce26, ce27, ce28, ce29, ce30, ce31] H 0 rfl ?_
 intro _ H
 refine uF 0 ?_
 refine WK.fin (v := .tuple #[]) Tryz.func110 (by as_aux_lemma => kernel_rfl) ?_
 exact ⟨_, rfl, rfl, H.pick [] rfl⟩
theorem run_spec {S : Nat → Prop} {w : World} {O : List Nat} {mb : Nat} {ce2 : Value} {ce3 : Value} {ce4 : Value} {ce5 : Value} {ce6 : Value} {ce9 : Value} {ce11 : Value} {ce12 : Value} {ce13 : Value} {ce14 : Value} {ce15 : Value} {ce16 : Value} {ce17 : Value} {ce18 : Value} {ce19 : Value} {ce20 : Value} {ce21 : Value} {ce22 : Value} {ce23 : Value} {ce24 : Value} {ce25 : Value} {ce26 : Value} {ce27 : Value} {ce28 : Value} {ce29 : Value} {ce30 : Value} {id el dr role : Int} {C : Conf} {l : List Ent} {al av aw : Option Addr} {kl kv kw : Nat} (hno : ∀ e ∈ l, e.kind ≠ 2) (hsm : C.voters.length ≤ 1048576) (hel : 1 ≤ el ∧ el ≤ 1000) (hdr : 0 ≤ dr ∧ dr ≤ 9223372036854774000) (hid : 1 ≤ id ∧ id ≤ 32) (H0 : Hp w S O [(mb, .cells #[.I id, .I el, ce2, ce3, ce4, ce5, ce6, .slice av C.voters.length kv, .slice aw C.learners.length kw, ce9, .slice al l.length kl, ce11, ce12, ce13, ce14, ce15, ce16, ce17, ce18, ce19, ce20, ce21, ce22, ce23, ce24, ce25, ce26, ce27, ce28, ce29, ce30, .I dr] 99 (0, 0))] [⟨entS, 71, .slice al l.length kl, l⟩] [Rp (Shape.slice (Shape.int .i64)) [.slice av C.voters.length kv] C.voters, Rp (Shape.slice (Shape.int .i64)) [.slice aw C.learners.length kw] C.learners] w) :
 Calls Tryz.prog 106 #[.P mb 0, .I role] w (Ret fun v w' => ∃ (av9 : Option Addr) (cv9 : Nat), v = .bool (majB C [id]) ∧ Hp w S O [(mb, .cells #[.I id, .I el, ce2, ce3, ce4, ce5, ce6, .slice av C.voters.length kv, .slice aw C.learners.length kw, ce9, .slice al l.length kl, ce11, .I role, .I 0, .I 0, .I (el + dr % el), .slice av9 1 cv9, ce17, ce18, ce19, ce20, ce21, ce22, ce23, ce24, ce25, ce26, ce27, ce28, ce29, ce30, .I dr] 99 (0, 0))] [⟨entS, 71, .slice al l.length kl, l⟩] [Rp (Shape.slice (Shape.int .i64)) [.slice av9 1 cv9] [id]] w') := by
 refine uS1 Tryz.func106 ?_
 have H := H0
 refine uR 3 [.c [1, 0], .c [2]] ?_
 refine qG (sq 0 26) ?_
 refine uP 9 ?_
 refine uV 3 0 (H.cells 0 rfl) ?_
 refine RW.new (κ := .seq) (d := some 15) (r := (sq 11 26)) (o := .cells #[.I id] 3 (0, 0)) (v := fun b => .slice (some ⟨b, 0, none⟩) 1 1) (fun b => by as_aux_lemma => kernel_rfl) (nofun) H ?_
 intro a _ H
 refine uP 4 ?_
 refine uW 31 12 #[.I id, .I el, ce2, ce3, ce4, ce5, ce6, .slice av C.voters.length kv, .slice aw C.learners.length kw, ce9, .slice al l.length kl, ce11, .I role, ce13, ce14, ce15, ce16, ce17, ce18, ce19, ce20, ce21, ce22, ce23, ce24, ce25, ce26, ce27, ce28, ce29, ce30, .I dr] H 1 rfl ?_
 intro _ H
 refine uP 4 ?_
 refine uW 3 13 #[.I id, .I el, ce2, ce3, ce4, ce5, ce6, .slice av C.voters.length kv, .slice aw C.learners.length kw, ce9, .slice al l.length kl, ce11, .I role, .I 0, ce14, ce15, ce16, ce17, ce18, ce19, ce20, ce21, ce22, ce23, ce24, ce25, ce26, ce27, ce28, ce29, ce30, .I dr] H 1 rfl ?_
 intro _ H
 refine uP 4 ?_
 refine uW 26 16 #[.I id, .I el, ce2, ce3, ce4, ce5, ce6, .slice av C.voters.length kv, .slice aw C.learners.length kw, ce9, .slice al l.length kl, ce11, .I role, .I 0, ce14, ce15, .slice (some ⟨a, 0, none⟩) 1 1, ce17, ce18, ce19, ce20, ce21, ce22, ce23, ce24, ce25, ce26, ce27, ce28, ce29, ce30, .I dr] H 1 rfl ?_
 intro _ H
 refine uF 0 ?_
 refine uR 1 [.c [2, 0], .c [3]] ?_
 refine qG (sq 0 2) ?_
 refine uP 1 ?_
 have H := H.frontM 1 rfl
 refine uKS (rest_spec (by omega) (by omega) ((H.lend (M1 := [(mb, .cells #[.I id, .I el, ce2, ce3, ce4, ce5, ce6, .slice av C.voters.length kv, .slice aw C.learners.length kw, ce9, .slice al l.length kl, ce11, .I role, .I 0, ce14, ce15, .slice (some ⟨a, 0, none⟩) 1 1, ce17, ce18, ce19, ce20, ce21, ce22, ce23, ce24, ce25, ce26, ce27, ce28, ce29, ce30, .I dr] 99 (0, 0))]) (W1 := [])).pick [] rfl)) ?_
 rintro _ g ⟨rfl, H'⟩
 have H := H.back (M1 := [(mb, .cells #[.I id, .I el, ce2, ce3, ce4, ce5, ce6, .slice av C.voters.length kv, .slice aw C.learners.length kw, ce9, .slice al l.length kl, ce11, .I role, .I 0, ce14, ce15, .slice (some ⟨a, 0, none⟩) 1 1, ce17, ce18, ce19, ce20, ce21, ce22, ce23, ce24, ce25, ce26, ce27, ce28, ce29, ce30, .I dr] 99 (0, 0))]) (W1 := []) H'
 have H : Hp w S O [(mb, .cells #[.I id, .I el, ce2, ce3, ce4, ce5, ce6, .slice av C.voters.length kv, .slice aw C.learners.length kw, ce9, .slice al l.length kl, ce11, .I role, .I 0, .I 0, .I (el + dr % el), .slice (some ⟨a, 0, none⟩) 1 1, ce17, ce18, ce19, ce20, ce21, ce22, ce23, ce24, ce25, ce26, ce27, ce28, ce29, ce30, .I dr] 99 (0, 0)), _] [_] [_, _] _ := H
 refine uF 0 ?_
 refine uR 1 [.c [3, 0], .c [4]] ?_
 refine WK.draw1 12 [(0, .qui), (1, .qui), (2, .qui), (4, .qui), (5, .qui), (6, .qui), (7, .qui), (8, .qui), (9, .qui), (3, .chn), (10, .chn), (11, .qui)] [(0, .qui), (1, .qui), (2, .qui), (4, .qui), (5, .qui), (6, .qui), (7, .qui), (8, .qui), (9, .qui), (3, .chn), (10, .chn), (11, .qui)] Tryz_mixed (by as_aux_lemma => kernel_rfl) (by as_aux_lemma => kernel_rfl) (by as_aux_lemma => kernel_rfl) ?_
 have H := H.draw
 generalize ({ g with drawn := g.drawn + 1 } : World) = i at H ⊢
 refine qP 8 [(9, .qui), (3, .chn), (10, .chn), (11, .qui)] [(32, .P mb 0), (38, .P mb 16)] ?_
 refine uV 26 16 (H.cells 0 rfl) ?_
 refine uK (conf0_spec (S := fun _ => True) (l := l) (Fc.pre (xs := [.I id, .I el, ce2, ce3, ce4, ce5, ce6, .slice av C.voters.length kv, .slice aw C.learners.length kw, ce9, .slice al l.length kl, ce11, .I role, .I 0, .I 0, .I (el + dr % el), .slice (some ⟨a, 0, none⟩) 1 1, ce17, ce18, ce19, ce20]) (ys := [ce21, ce22, ce23, ce24, ce25, ce26, ce27, ce28, ce29, ce30, .I dr]) (by simp) (H.viewM 0 rfl (by simp))) (H.view 0 rfl) (by first | assumption | (intro e he; cases he))) ?_
 rintro _ _ h rfl
 have H := H.ext h
 have H := H.freeze 1 rfl (Shape.int .i64) ([id] : List Int) 1 (by simp [maxLen]) (by first | exact Nat.le_refl _ | simp) (EsP.cons (c := [.I id]) i64a EsP.nil)
 have H : Hp w S O [_] [_] [Rp (Shape.slice (Shape.int .i64)) [.slice (some ⟨a, 0, none⟩) 1 1] ([id] : List Int), _, _] _ := H
 refine uK (majority_spec (xs := ([id] : List Int)) (C := C) (conf_mk (H.rp 1 rfl) (H.rp 2 rfl)) (H.rp 0 rfl) (by first | omega | simp)) ?_
 rintro _ _ f rfl
 have H := H.ext f
 refine uF 1 ?_
 refine qT (.bool (majB C ([id] : List Int))) Tryz.func106 ?_
 have H := H.take 1 1
 exact ⟨_, rfl, _, _, rfl, H.pick [0] rfl⟩
end Go.Proofs.YtkjkmogipidkiaaGreat
