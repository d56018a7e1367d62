import Derived.Test.YtkjkmogipidkiaaGreatSBxA
import Derived.Test.YtkjkmogipidkiaaGreatSMB
namespace Go.Proofs.YtkjkmogipidkiaaGreat
open Go.BX
def tickC : List Value := [.I 1, .I 0, .I 0, .I 0, .I 0, .int .u64 0, .int .u64 0, .int .u64 0, .int .u64 0, .int .u64 0, .bool false, .bool false, .slice none 0 0, .slice none 0 0, .slice none 0 0, .int .u64 0, .I 0, .int .u64 0, .I 0, .I 0, .I 0, .int .u32 0, .slice none 0 0, .int .u64 0, .int .u64 0, .I 0, .string (⟨#[]⟩ : ByteArray), .I 0, .slice none 0 0, .I 0, .int .u64 0, .int .u64 0, .string (⟨#[]⟩ : ByteArray), .I 0, .int .u32 0, .int .u64 0, .int .u64 0, .I 0, .I 0, .bool false, .int .u64 0, .I 0, .int .u64 0, .int .u64 0, .slice none 0 0, .I 0, .I 0, .int .u64 0, .I 0, .int .u64 0, .slice none 0 0]
theorem tickW_spec {S : Nat → Prop} {w : World} {O : List Nat} {mb : Nat} {ce0 : Value} {ce1 : Value} {ce2 : Value} {ce3 : Value} {ce4 : Value} {ce5 : Value} {ce6 : Value} {ce7 : Value} {ce8 : Value} {ce9 : Value} {ce10 : Value} {ce11 : Value} {ce13 : Value} {ce16 : Value} {ce17 : Value} {ce18 : Value} {ce19 : Value} {ce20 : Value} {ce21 : Value} {ce22 : Value} {ce23 : Value} {ce24 : Value} {ce25 : Value} {ce26 : Value} {ce27 : Value} {ce28 : Value} {ce29 : Value} {ce30 : Value} {ce31 : Value} {role ea tm : Int} (hro : role ≠ 3) (hea : 0 ≤ ea ∧ ea < 1999) (htm : ea + 1 < tm) (H0 : Hp w S O [(mb, .cells #[ce0, ce1, ce2, ce3, ce4, ce5, ce6, ce7, ce8, ce9, ce10, ce11, .I role, ce13, .I ea, .I tm, ce16, ce17, ce18, ce19, ce20, ce21, ce22, ce23, ce24, ce25, ce26, ce27, ce28, ce29, ce30, ce31] 99 (0, 0))] [] [] w) :
 Calls Tryz.prog 52 #[.P mb 0, .agg (tickC).toArray] w (Ret fun v w' => v = .I 0 ∧ Hp w S O [(mb, .cells #[ce0, ce1, ce2, ce3, ce4, ce5, ce6, ce7, ce8, ce9, ce10, ce11, .I role, ce13, .I (ea + 1), .I tm, ce16, ce17, ce18, ce19, ce20, ce21, ce22, ce23, ce24, ce25, ce26, ce27, ce28, ce29, ce30, ce31] 99 (0, 0))] [] [] w') := by
 refine uS1 Tryz.func52 ?_
 have H := H0
 refine uR 1 [.c [0], .c [1]] ?_
 refine qG (sq 0 2) ?_
 refine uC ((tickC).toArray) 67 H ?_
 intro _ _ H
 refine uF 1 ?_
 refine uR 1 [.c [1, 0], .c [2]] ?_
 refine qG (sq 0 14) ?_
 refine uP 6 ?_
 refine uV 3 14 (H.cells 1 rfl) ?_
 refine uI (ea + 1) ?_
 refine uP 5 ?_
 refine uW 3 14 #[ce0, ce1, ce2, ce3, ce4, ce5, ce6, ce7, ce8, ce9, ce10, ce11, .I role, ce13, .I (if ea + 1 < 2000 then ea + 1 else 2000), .I tm, ce16, ce17, ce18, ce19, ce20, ce21, ce22, ce23, ce24, ce25, ce26, ce27, ce28, ce29, ce30, ce31] H 1 rfl ?_
 intro a H
 refine uF 0 ?_
 refine uR 2 [.c [2, 0, 0], .c [2, 0, 1], .c [3]] ?_
 refine qG (sq 0 7) ?_
 refine uP 5 ?_
 refine uV 31 12 (H.cells 1 rfl) ?_
 refine uF 1 ?_
 refine qN role 3 (fun b => ?_) (fun b => ?_)
 ·
  refine uR 2 [.c [2, 0, 1, 0, 0, 0], .c [2, 0, 1, 0, 0, 1], .c [2, 0, 1, 0, 1], .c [3]] ?_
  refine WK.draw1 26 [(0, .qui), (1, .qui), (2, .qui), (3, .qui), (4, .qui), (5, .qui), (6, .qui), (7, .qui), (8, .qui), (9, .qui), (10, .qui), (11, .qui), (12, .qui), (13, .qui), (14, .qui), (15, .qui), (16, .qui), (18, .qui), (19, .qui), (20, .qui), (21, .qui), (22, .qui), (23, .qui), (17, .chn), (24, .chn), (25, .qui)] [(0, .qui), (1, .qui), (2, .qui), (3, .qui), (4, .qui), (5, .qui), (6, .qui), (7, .qui), (8, .qui), (9, .qui), (10, .qui), (11, .qui), (12, .qui), (13, .qui), (14, .qui), (15, .qui), (16, .qui), (18, .qui), (19, .qui), (20, .qui), (21, .qui), (22, .qui), (23, .qui), (17, .chn), (24, .chn), (25, .qui)] Tryz_mixed (by as_aux_lemma => kernel_rfl) (by as_aux_lemma => kernel_rfl) (by as_aux_lemma => kernel_rfl) ?_
  have H := H.draw
  generalize ({ a with drawn := a.drawn + 1 } : World) = e at H ⊢
  refine qP 5 [(5, .qui), (6, .qui), (7, .qui), (8, .qui), (9, .qui), (10, .qui), (11, .qui), (12, .qui), (13, .qui), (14, .qui), (15, .qui), (16, .qui), (18, .qui), (19, .qui), (20, .qui), (21, .qui), (22, .qui), (23, .qui), (17, .chn), (24, .chn), (25, .qui)] [(0, .P mb 0), (31, .P mb 14)] ?_
  refine uV 3 14 (H.cells 1 rfl) ?_
  refine uP 5 ?_
  refine uV 3 15 (H.cells 1 rfl) ?_
  refine uP 2 ?_
  refine uD 40 ((if ea + 1 < 2000 then ea + 1 else 2000 : Int) ≥ tm) (fun d => ?_) (fun d => ?_)
  ·
   omega
  ·
   refine uF 12 ?_
   refine uR 4 [.c [2, 0, 1, 0, 2], .c [3]] ?_
   refine qT (.I 0) Tryz.func52 ?_
   rw [if_pos (show ea + 1 < 2000 by omega)] at H
   have H := H.drop (M' := [(mb, .cells #[ce0, ce1, ce2, ce3, ce4, ce5, ce6, ce7, ce8, ce9, ce10, ce11, .I role, ce13, .I (ea + 1), .I tm, ce16, ce17, ce18, ce19, ce20, ce21, ce22, ce23, ce24, ce25, ce26, ce27, ce28, ce29, ce30, ce31] 99 (0, 0))]) (W' := []) (by repeat (first | exact List.Sublist.refl _ | exact List.nil_sublist _ | apply List.Sublist.cons_cons | apply List.Sublist.cons)) (by repeat (first | exact List.Sublist.refl _ | exact List.nil_sublist _ | apply List.Sublist.cons_cons | apply List.Sublist.cons))
   exact ⟨_, rfl, rfl, H.pick [] rfl⟩
 ·
  omega
set_option maxHeartbeats 4000000 in
theorem tickA_spec {S : Nat → Prop} {w : World} {O : List Nat} {mb : Nat} {ce2 : Value} {ce4 : Value} {ce9 : Value} {ce13 : Value} {ce16 : Value} {ce17 : Value} {ce18 : Value} {ce20 : Value} {ce21 : Value} {ce22 : Value} {ce24 : Value} {ce25 : Value} {ce26 : Value} {ce27 : Value} {ce28 : Value} {ce29 : Value} {ce30 : Value} {role ea tm id el dr term bs bq cm : Int} {ds : List Ent} {ad ar : Option Addr} {kd cr : Nat} {C : Conf} {l : List Ent} {al av aw : Option Addr} {kl kv kw : Nat} (hno : ∀ e ∈ l, e.kind ≠ 2) (hsm : C.voters.length ≤ 1048576) (hcv : C.voters = [id]) (hle : C.learners = []) (hid : 1 ≤ id ∧ id ≤ 32) (hl : l.length ≤ 1000000) (hd : ds.length ≤ 1000000) (hl1 : 0 ≤ (lastL l bs bq).1 ∧ (lastL l bs bq).1 ≤ 4611686018427387000) (hl2 : 0 ≤ (lastL l bs bq).2 ∧ (lastL l bs bq).2 ≤ 18446744073709551615) (hch : (lastL l bs bq).1 = bs + (l.length : Int)) (hbs : 0 ≤ bs) (hcm : cm ≤ (lastL l bs bq).1) (hte : 0 ≤ term ∧ term < 4611686018427387904) (hel : 1 ≤ el ∧ el ≤ 1000) (hdr : 0 ≤ dr ∧ dr ≤ 9223372036854774000) (hmaj : majB C [id] = true) (hro : role ≠ 3) (hea : 0 ≤ ea ∧ ea < 1999) (htm : tm ≤ ea + 1) (H0 : Hp w S O [(mb, .cells #[.I id, .I el, ce2, .int .u64 term, ce4, .int .u64 bs, .int .u64 bq, .slice av C.voters.length kv, .slice aw C.learners.length kw, ce9, .slice al l.length kl, .int .u64 cm, .I role, ce13, .I ea, .I tm, ce16, ce17, ce18, .slice ar 0 cr, ce20, ce21, ce22, .slice ad ds.length kd, ce24, ce25, ce26, ce27, ce28, ce29, ce30, .I dr] 99 (0, 0))] [⟨entS, 71, .slice al l.length kl, l⟩, ⟨entS, 71, .slice ad ds.length kd, ds⟩] [Rp (Shape.slice (Shape.int .i64)) [.slice av C.voters.length kv] C.voters, Rp (Shape.slice (Shape.int .i64)) [.slice aw C.learners.length kw] C.learners] w) :
 Calls Tryz.prog 52 #[.P mb 0, .agg (tickC).toArray] w (Ret fun v w' => ∃ (al9 : Option Addr) (kl9 : Nat) (ap9 : Option Addr) (np9 : Nat) (kp9 : Nat) (ad9 : Option Addr) (kd9 : Nat), v = .I 0 ∧ Hp w S O [(mb, .cells #[.I id, .I el, ce2, .int .u64 (term + 1), .I id, .int .u64 bs, .int .u64 bq, .slice av C.voters.length kv, .slice aw C.learners.length kw, ce9, .slice al9 ((l ++ [(addE zeroE ((lastL l bs bq).1 + 1) (term + 1))]).length) kl9, .int .u64 ((lastL l bs bq).1 + 1), .I 3, .I id, .I 0, .I (el + dr % el), .slice none 0 0, .slice ap9 np9 kp9, ce18, .slice none 0 0, .I 0, ce21, ce22, .slice ad9 ((ds ++ [(addE zeroE ((lastL l bs bq).1 + 1) (term + 1))]).length) kd9, ce24, ce25, ce26, ce27, ce28, ce29, ce30, .I dr] 99 (0, 0))] [⟨entS, 71, .slice al9 ((l ++ [(addE zeroE ((lastL l bs bq).1 + 1) (term + 1))]).length) kl9, (l ++ [(addE zeroE ((lastL l bs bq).1 + 1) (term + 1))])⟩, ⟨peerS, 123, .slice ap9 np9 kp9, [peer1 id ((lastL l bs bq).1 + 1)]⟩, ⟨entS, 71, .slice ad9 ((ds ++ [(addE zeroE ((lastL l bs bq).1 + 1) (term + 1))]).length) kd9, (ds ++ [(addE zeroE ((lastL l bs bq).1 + 1) (term + 1))])⟩] [] w') := by
 refine uS1 Tryz.func52 ?_
 have H := H0
 refine uR 1 [.c [0], .c [1]] ?_
 refine qG (sq 0 2) ?_
 refine uC ((tickC).toArray) 67 H ?_
 intro _ _ H
 refine uF 1 ?_
 refine uR 1 [.c [1, 0], .c [2]] ?_
 have H := H.dropM 0
 refine qG (sq 0 14) ?_
 refine uP 6 ?_
 refine uV 3 14 (H.cells 0 rfl) ?_
 refine uI (ea + 1) ?_
 refine uP 5 ?_
 refine uW 3 14 #[.I id, .I el, ce2, .int .u64 term, ce4, .int .u64 bs, .int .u64 bq, .slice av C.voters.length kv, .slice aw C.learners.length kw, ce9, .slice al l.length kl, .int .u64 cm, .I role, ce13, .I (if ea + 1 < 2000 then ea + 1 else 2000), .I tm, ce16, ce17, ce18, .slice ar 0 cr, ce20, ce21, ce22, .slice ad ds.length kd, ce24, ce25, ce26, ce27, ce28, ce29, ce30, .I dr] H 0 rfl ?_
 intro m H
 refine uF 0 ?_
 refine uR 2 [.c [2, 0, 0], .c [2, 0, 1], .c [3]] ?_
 refine qG (sq 0 7) ?_
 refine uP 5 ?_
 refine uV 31 12 (H.cells 0 rfl) ?_
 refine uF 1 ?_
 refine qN role 3 (fun o => ?_) (fun o => ?_)
 ·
  refine uR 2 [.c [2, 0, 1, 0, 0, 0], .c [2, 0, 1, 0, 0, 1], .c [2, 0, 1, 0, 1], .c [3]] ?_
  refine WK.draw1 26 [(0, .qui), (1, .qui), (2, .qui), (3, .qui), (4, .qui), (5, .qui), (6, .qui), (7, .qui), (8, .qui), (9, .qui), (10, .qui), (11, .qui), (12, .qui), (13, .qui), (14, .qui), (15, .qui), (16, .qui), (18, .qui), (19, .qui), (20, .qui), (21, .qui), (22, .qui), (23, .qui), (17, .chn), (24, .chn), (25, .qui)] [(0, .qui), (1, .qui), (2, .qui), (3, .qui), (4, .qui), (5, .qui), (6, .qui), (7, .qui), (8, .qui), (9, .qui), (10, .qui), (11, .qui), (12, .qui), (13, .qui), (14, .qui), (15, .qui), (16, .qui), (18, .qui), (19, .qui), (20, .qui), (21, .qui), (22, .qui), (23, .qui), (17, .chn), (24, .chn), (25, .qui)] Tryz_mixed (by as_aux_lemma => kernel_rfl) (by as_aux_lemma => kernel_rfl) (by as_aux_lemma => kernel_rfl) ?_
  have H := H.draw
  generalize ({ m with drawn := m.drawn + 1 } : World) = q at H ⊢
  refine qP 5 [(5, .qui), (6, .qui), (7, .qui), (8, .qui), (9, .qui), (10, .qui), (11, .qui), (12, .qui), (13, .qui), (14, .qui), (15, .qui), (16, .qui), (18, .qui), (19, .qui), (20, .qui), (21, .qui), (22, .qui), (23, .qui), (17, .chn), (24, .chn), (25, .qui)] [(0, .P mb 0), (31, .P mb 14)] ?_
  refine uV 3 14 (H.cells 0 rfl) ?_
  refine uP 5 ?_
  refine uV 3 15 (H.cells 0 rfl) ?_
  refine uP 2 ?_
  refine uD 40 ((if ea + 1 < 2000 then ea + 1 else 2000 : Int) ≥ tm) (fun p => ?_) (fun p => ?_)
  ·
   refine uP 8 ?_
   refine uV 3 0 (H.cells 0 rfl) ?_
   refine uK (conf0_spec (S := fun _ => True) (l := l) (Fc.pre (xs := [.I id, .I el, ce2, .int .u64 term, ce4, .int .u64 bs, .int .u64 bq, .slice av C.voters.length kv, .slice aw C.learners.length kw, ce9, .slice al l.length kl, .int .u64 cm, .I role, ce13, .I (if ea + 1 < 2000 then ea + 1 else 2000), .I tm, ce16, ce17, ce18, .slice ar 0 cr, ce20]) (ys := [ce21, ce22, .slice ad ds.length kd, ce24, ce25, ce26, ce27, ce28, ce29, ce30, .I dr]) (by simp) (H.viewM 0 rfl (by simp))) (H.view 0 rfl) (by first | assumption | (intro e he; cases he))) ?_
   rintro _ _ n rfl
   have H := H.ext n
   refine uK (votes_spec (C := C) (conf_mk (H.rp 0 rfl) (H.rp 1 rfl)) id) ?_
   rintro _ _ k rfl
   have H := H.ext k
   refine uF 1 ?_
   refine qD (id ∈ C.voters) (fun a => ?_) (fun a => ?_)
   ·
    refine qG (sq 0 2) ?_
    refine uP 1 ?_
    have H := H.frontW 1 rfl
    have H := H.frontW 1 rfl
    refine uKS (prepA_spec (C := C) hno hsm hcv hle hid hl hd hl1 hl2 hch hbs hcm hte hel hdr hmaj ((H.lend (M1 := [(mb, .cells #[.I id, .I el, ce2, .int .u64 term, ce4, .int .u64 bs, .int .u64 bq, .slice av C.voters.length kv, .slice aw C.learners.length kw, ce9, .slice al l.length kl, .int .u64 cm, .I role, ce13, .I (if ea + 1 < 2000 then ea + 1 else 2000), .I tm, ce16, ce17, ce18, .slice ar 0 cr, ce20, ce21, ce22, .slice ad ds.length kd, ce24, ce25, ce26, ce27, ce28, ce29, ce30, .I dr] 99 (0, 0))]) (W1 := [⟨entS, 71, .slice al l.length kl, l⟩, ⟨entS, 71, .slice ad ds.length kd, ds⟩])).pick [0, 1] rfl)) ?_
    rintro _ _ ⟨b, d, f, g, h, i, j, rfl, H'⟩
    have H := H.back (M1 := [(mb, .cells #[.I id, .I el, ce2, .int .u64 term, ce4, .int .u64 bs, .int .u64 bq, .slice av C.voters.length kv, .slice aw C.learners.length kw, ce9, .slice al l.length kl, .int .u64 cm, .I role, ce13, .I (if ea + 1 < 2000 then ea + 1 else 2000), .I tm, ce16, ce17, ce18, .slice ar 0 cr, ce20, ce21, ce22, .slice ad ds.length kd, ce24, ce25, ce26, ce27, ce28, ce29, ce30, .I dr] 99 (0, 0))]) (W1 := [⟨entS, 71, .slice al l.length kl, l⟩, ⟨entS, 71, .slice ad ds.length kd, ds⟩]) H'
    have H : Hp w S O [(mb, .cells #[.I id, .I el, ce2, .int .u64 (term + 1), .I id, .int .u64 bs, .int .u64 bq, .slice av C.voters.length kv, .slice aw C.learners.length kw, ce9, .slice b ((l ++ [(addE zeroE ((lastL l bs bq).1 + 1) (term + 1))]).length) d, .int .u64 ((lastL l bs bq).1 + 1), .I 3, .I id, .I 0, .I (el + dr % el), .slice none 0 0, .slice f g h, ce18, .slice none 0 0, .I 0, ce21, ce22, .slice i ((ds ++ [(addE zeroE ((lastL l bs bq).1 + 1) (term + 1))]).length) j, ce24, ce25, ce26, ce27, ce28, ce29, ce30, .I dr] 99 (0, 0))] [⟨entS, 71, .slice b ((l ++ [(addE zeroE ((lastL l bs bq).1 + 1) (term + 1))]).length) d, (l ++ [(addE zeroE ((lastL l bs bq).1 + 1) (term + 1))])⟩, ⟨peerS, 123, .slice f g h, [peer1 id ((lastL l bs bq).1 + 1)]⟩, ⟨entS, 71, .slice i ((ds ++ [(addE zeroE ((lastL l bs bq).1 + 1) (term + 1))]).length) j, (ds ++ [(addE zeroE ((lastL l bs bq).1 + 1) (term + 1))])⟩] [_, _] _ := H
    refine uF 0 ?_
    refine uR 2 [.c [2, 0, 1, 0, 2], .c [3]] ?_
    refine qT (.I 0) Tryz.func52 ?_
    have H := H.take 1 3
    exact ⟨_, rfl, _, _, _, _, _, _, _, rfl, H.pick [] rfl⟩
   ·
    exact absurd (by rw [hcv]; exact List.mem_singleton.2 rfl) a
  ·
   omega
 ·
  omega
set_option maxHeartbeats 4000000 in
theorem tickB_spec {S : Nat → Prop} {w : World} {O : List Nat} {mb : Nat} {ce2 : Value} {ce4 : Value} {ce9 : Value} {ce11 : Value} {ce13 : Value} {ce16 : Value} {ce17 : Value} {ce18 : Value} {ce19 : Value} {ce20 : Value} {ce21 : Value} {ce22 : Value} {ce23 : Value} {ce24 : Value} {ce26 : Value} {ce27 : Value} {ce28 : Value} {ce29 : Value} {ce30 : Value} {role ea tm id el dr term bs bq : Int} {ms : List Msg} {am : Option Addr} {km : Nat} {C : Conf} {l : List Ent} {al av aw : Option Addr} {kl kv kw : Nat} (hno : ∀ e ∈ l, e.kind ≠ 2) (hsm : C.voters.length ≤ 1048576) (hid : 1 ≤ id ∧ id ≤ 32) (hms : ms.length + C.voters.length ≤ 1000) (hl1 : 0 ≤ (lastL l bs bq).1 ∧ (lastL l bs bq).1 ≤ 18446744073709551615) (hl2 : 0 ≤ (lastL l bs bq).2 ∧ (lastL l bs bq).2 ≤ 18446744073709551615) (hte : 0 ≤ term ∧ term < 4611686018427387904) (hel : 1 ≤ el ∧ el ≤ 1000) (hdr : 0 ≤ dr ∧ dr ≤ 9223372036854774000) (hmaj : majB C [id] = false) (hin : id ∈ C.voters) (hro : role ≠ 3) (hea : 0 ≤ ea ∧ ea < 1999) (htm : tm ≤ ea + 1) (H0 : Hp w S O [(mb, .cells #[.I id, .I el, ce2, .int .u64 term, ce4, .int .u64 bs, .int .u64 bq, .slice av C.voters.length kv, .slice aw C.learners.length kw, ce9, .slice al l.length kl, ce11, .I role, ce13, .I ea, .I tm, ce16, ce17, ce18, ce19, ce20, ce21, ce22, ce23, ce24, .slice am ms.length km, ce26, ce27, ce28, ce29, ce30, .I dr] 99 (0, 0))] [⟨entS, 71, .slice al l.length kl, l⟩, ⟨msgS, 56, .slice am ms.length km, ms⟩] [Rp (Shape.slice (Shape.int .i64)) [.slice av C.voters.length kv] C.voters, Rp (Shape.slice (Shape.int .i64)) [.slice aw C.learners.length kw] C.learners] w) :
 Calls Tryz.prog 52 #[.P mb 0, .agg (tickC).toArray] w (Ret fun v w' => ∃ (a' : Option Addr) (c' : Nat) (av9 : Option Addr) (cv9 : Nat), v = .I 0 ∧ Hp w S O [(mb, .cells #[.I id, .I el, ce2, .int .u64 term, ce4, .int .u64 bs, .int .u64 bq, .slice av C.voters.length kv, .slice aw C.learners.length kw, ce9, .slice al l.length kl, ce11, .I 1, .I 0, .I 0, .I (el + dr % el), .slice av9 1 cv9, ce17, ce18, ce19, ce20, ce21, ce22, ce23, ce24, .slice a' ((ms ++ (askL (preM (term + 1)) (lastL l bs bq).1 (lastL l bs bq).2 id C.voters)).length) c', ce26, ce27, ce28, ce29, ce30, .I dr] 99 (0, 0))] [⟨entS, 71, .slice al l.length kl, l⟩, ⟨msgS, 56, .slice a' ((ms ++ (askL (preM (term + 1)) (lastL l bs bq).1 (lastL l bs bq).2 id C.voters)).length) c', (ms ++ (askL (preM (term + 1)) (lastL l bs bq).1 (lastL l bs bq).2 id C.voters))⟩] [Rp (Shape.slice (Shape.int .i64)) [.slice av9 1 cv9] [id]] w') := by
 refine uS1 Tryz.func52 ?_
 have H := H0
 refine uR 1 [.c [0], .c [1]] ?_
 refine qG (sq 0 2) ?_
 refine uC ((tickC).toArray) 67 H ?_
 intro _ _ H
 refine uF 1 ?_
 refine uR 1 [.c [1, 0], .c [2]] ?_
 have H := H.dropM 0
 refine qG (sq 0 14) ?_
 refine uP 6 ?_
 refine uV 3 14 (H.cells 0 rfl) ?_
 refine uI (ea + 1) ?_
 refine uP 5 ?_
 refine uW 3 14 #[.I id, .I el, ce2, .int .u64 term, ce4, .int .u64 bs, .int .u64 bq, .slice av C.voters.length kv, .slice aw C.learners.length kw, ce9, .slice al l.length kl, ce11, .I role, ce13, .I (if ea + 1 < 2000 then ea + 1 else 2000), .I tm, ce16, ce17, ce18, ce19, ce20, ce21, ce22, ce23, ce24, .slice am ms.length km, ce26, ce27, ce28, ce29, ce30, .I dr] H 0 rfl ?_
 intro i H
 refine uF 0 ?_
 refine uR 2 [.c [2, 0, 0], .c [2, 0, 1], .c [3]] ?_
 refine qG (sq 0 7) ?_
 refine uP 5 ?_
 refine uV 31 12 (H.cells 0 rfl) ?_
 refine uF 1 ?_
 refine qN role 3 (fun k => ?_) (fun k => ?_)
 ·
  refine uR 2 [.c [2, 0, 1, 0, 0, 0], .c [2, 0, 1, 0, 0, 1], .c [2, 0, 1, 0, 1], .c [3]] ?_
  refine WK.draw1 26 [(0, .qui), (1, .qui), (2, .qui), (3, .qui), (4, .qui), (5, .qui), (6, .qui), (7, .qui), (8, .qui), (9, .qui), (10, .qui), (11, .qui), (12, .qui), (13, .qui), (14, .qui), (15, .qui), (16, .qui), (18, .qui), (19, .qui), (20, .qui), (21, .qui), (22, .qui), (23, .qui), (17, .chn), (24, .chn), (25, .qui)] [(0, .qui), (1, .qui), (2, .qui), (3, .qui), (4, .qui), (5, .qui), (6, .qui), (7, .qui), (8, .qui), (9, .qui), (10, .qui), (11, .qui), (12, .qui), (13, .qui), (14, .qui), (15, .qui), (16, .qui), (18, .qui), (19, .qui), (20, .qui), (21, .qui), (22, .qui), (23, .qui), (17, .chn), (24, .chn), (25, .qui)] Tryz_mixed (by as_aux_lemma => kernel_rfl) (by as_aux_lemma => kernel_rfl) (by as_aux_lemma => kernel_rfl) ?_
  have H := H.draw
  generalize ({ i with drawn := i.drawn + 1 } : World) = n at H ⊢
  refine qP 5 [(5, .qui), (6, .qui), (7, .qui), (8, .qui), (9, .qui), (10, .qui), (11, .qui), (12, .qui), (13, .qui), (14, .qui), (15, .qui), (16, .qui), (18, .qui), (19, .qui), (20, .qui), (21, .qui), (22, .qui), (23, .qui), (17, .chn), (24, .chn), (25, .qui)] [(0, .P mb 0), (31, .P mb 14)] ?_
  refine uV 3 14 (H.cells 0 rfl) ?_
  refine uP 5 ?_
  refine uV 3 15 (H.cells 0 rfl) ?_
  refine uP 2 ?_
  refine uD 40 ((if ea + 1 < 2000 then ea + 1 else 2000 : Int) ≥ tm) (fun m => ?_) (fun m => ?_)
  ·
   refine uP 8 ?_
   refine uV 3 0 (H.cells 0 rfl) ?_
   refine uK (conf0_spec (S := fun _ => True) (l := l) (Fc.pre (xs := [.I id, .I el, ce2, .int .u64 term, ce4, .int .u64 bs, .int .u64 bq, .slice av C.voters.length kv, .slice aw C.learners.length kw, ce9, .slice al l.length kl, ce11, .I role, ce13, .I (if ea + 1 < 2000 then ea + 1 else 2000), .I tm, ce16, ce17, ce18, ce19, ce20]) (ys := [ce21, ce22, ce23, ce24, .slice am ms.length km, ce26, ce27, ce28, ce29, ce30, .I dr]) (by simp) (H.viewM 0 rfl (by simp))) (H.view 0 rfl) (by first | assumption | (intro e he; cases he))) ?_
   rintro _ _ j rfl
   have H := H.ext j
   refine uK (votes_spec (C := C) (conf_mk (H.rp 0 rfl) (H.rp 1 rfl)) id) ?_
   rintro _ _ h rfl
   have H := H.ext h
   refine uF 1 ?_
   refine qD (id ∈ C.voters) (fun a => ?_) (fun a => ?_)
   ·
    refine qG (sq 0 2) ?_
    refine uP 1 ?_
    have H := H.frontW 1 rfl
    have H := H.frontW 1 rfl
    refine uKS (prepB_spec (C := C) hno hsm hid hms hl1 hl2 hte hel hdr hmaj ((H.lend (M1 := [(mb, .cells #[.I id, .I el, ce2, .int .u64 term, ce4, .int .u64 bs, .int .u64 bq, .slice av C.voters.length kv, .slice aw C.learners.length kw, ce9, .slice al l.length kl, ce11, .I role, ce13, .I (if ea + 1 < 2000 then ea + 1 else 2000), .I tm, ce16, ce17, ce18, ce19, ce20, ce21, ce22, ce23, ce24, .slice am ms.length km, ce26, ce27, ce28, ce29, ce30, .I dr] 99 (0, 0))]) (W1 := [⟨entS, 71, .slice al l.length kl, l⟩, ⟨msgS, 56, .slice am ms.length km, ms⟩])).pick [0, 1] rfl)) ?_
    rintro _ _ ⟨b, d, f, g, rfl, H'⟩
    have H := H.back (M1 := [(mb, .cells #[.I id, .I el, ce2, .int .u64 term, ce4, .int .u64 bs, .int .u64 bq, .slice av C.voters.length kv, .slice aw C.learners.length kw, ce9, .slice al l.length kl, ce11, .I role, ce13, .I (if ea + 1 < 2000 then ea + 1 else 2000), .I tm, ce16, ce17, ce18, ce19, ce20, ce21, ce22, ce23, ce24, .slice am ms.length km, ce26, ce27, ce28, ce29, ce30, .I dr] 99 (0, 0))]) (W1 := [⟨entS, 71, .slice al l.length kl, l⟩, ⟨msgS, 56, .slice am ms.length km, ms⟩]) H'
    have H : Hp w S O [(mb, .cells #[.I id, .I el, ce2, .int .u64 term, ce4, .int .u64 bs, .int .u64 bq, .slice av C.voters.length kv, .slice aw C.learners.length kw, ce9, .slice al l.length kl, ce11, .I 1, .I 0, .I 0, .I (el + dr % el), .slice f 1 g, ce17, ce18, ce19, ce20, ce21, ce22, ce23, ce24, .slice b ((ms ++ (askL (preM (term + 1)) (lastL l bs bq).1 (lastL l bs bq).2 id C.voters)).length) d, ce26, ce27, ce28, ce29, ce30, .I dr] 99 (0, 0))] [_, ⟨msgS, 56, .slice b ((ms ++ (askL (preM (term + 1)) (lastL l bs bq).1 (lastL l bs bq).2 id C.voters)).length) d, (ms ++ (askL (preM (term + 1)) (lastL l bs bq).1 (lastL l bs bq).2 id C.voters))⟩] [Rp (Shape.slice (Shape.int .i64)) [.slice f 1 g] [id], _, _] _ := H
    refine uF 0 ?_
    refine uR 2 [.c [2, 0, 1, 0, 2], .c [3]] ?_
    refine qT (.I 0) Tryz.func52 ?_
    have H := H.take 1 2
    exact ⟨_, rfl, _, _, _, _, rfl, H.pick [0] rfl⟩
   ·
    exact absurd hin a
  ·
   omega
 ·
  omega
end Go.Proofs.YtkjkmogipidkiaaGreat
