import Derived.Test.YtkjkmogipidkiaaGreatSBxA
import Derived.Test.YtkjkmogipidkiaaGreatSMA
namespace Go.Proofs.YtkjkmogipidkiaaGreat
open Go.BX
set_option maxHeartbeats 4000000 in
theorem stand0_spec {S : Nat → Prop} {w : World} {O : List Nat} {mb : Nat} {ce2 : Value} {ce4 : Value} {ce9 : Value} {ce12 : Value} {ce13 : Value} {ce14 : Value} {ce15 : Value} {ce16 : Value} {ce17 : Value} {ce18 : Value} {ce20 : Value} {ce21 : Value} {ce22 : Value} {ce24 : Value} {ce25 : Value} {ce26 : Value} {ce27 : Value} {ce28 : Value} {ce29 : Value} {ce30 : Value} {fc : Bool} {id el dr term bs bq cm : Int} {ds : List Ent} {ad ar : Option Addr} {kd cr : Nat} {C : Conf} {l : List Ent} {al av aw : Option Addr} {kl kv kw : Nat} (hno : ∀ e ∈ l, e.kind ≠ 2) (hsm : C.voters.length ≤ 1048576) (hcv : C.voters = [id]) (hle : C.learners = []) (hid : 1 ≤ id ∧ id ≤ 32) (hl : l.length ≤ 1000000) (hd : ds.length ≤ 1000000) (hl1 : 0 ≤ (lastL l bs bq).1 ∧ (lastL l bs bq).1 ≤ 4611686018427387000) (hl2 : 0 ≤ (lastL l bs bq).2 ∧ (lastL l bs bq).2 ≤ 18446744073709551615) (hch : (lastL l bs bq).1 = bs + (l.length : Int)) (hbs : 0 ≤ bs) (hcm : cm ≤ (lastL l bs bq).1) (hte : 0 ≤ term ∧ term < 4611686018427387904) (hel : 1 ≤ el ∧ el ≤ 1000) (hdr : 0 ≤ dr ∧ dr ≤ 9223372036854774000) (hmaj : majB C [id] = true) (H0 : Hp w S O [(mb, .cells #[.I id, .I el, ce2, .int .u64 term, ce4, .int .u64 bs, .int .u64 bq, .slice av C.voters.length kv, .slice aw C.learners.length kw, ce9, .slice al l.length kl, .int .u64 cm, ce12, ce13, ce14, ce15, ce16, ce17, ce18, .slice ar 0 cr, ce20, ce21, ce22, .slice ad ds.length kd, ce24, ce25, ce26, ce27, ce28, ce29, ce30, .I dr] 99 (0, 0))] [⟨entS, 71, .slice al l.length kl, l⟩, ⟨entS, 71, .slice ad ds.length kd, ds⟩] [Rp (Shape.slice (Shape.int .i64)) [.slice av C.voters.length kv] C.voters, Rp (Shape.slice (Shape.int .i64)) [.slice aw C.learners.length kw] C.learners] w) :
 Calls Tryz.prog 86 #[.P mb 0, .bool fc] w (Ret fun v w' => ∃ (al9 : Option Addr) (kl9 : Nat) (ap9 : Option Addr) (np9 : Nat) (kp9 : Nat) (ad9 : Option Addr) (kd9 : Nat), v = .tuple #[] ∧ Hp w S O [(mb, .cells #[.I id, .I el, ce2, .int .u64 (term + 1), .I id, .int .u64 bs, .int .u64 bq, .slice av C.voters.length kv, .slice aw C.learners.length kw, ce9, .slice al9 ((l ++ [(addE zeroE ((lastL l bs bq).1 + 1) (term + 1))]).length) kl9, .int .u64 ((lastL l bs bq).1 + 1), .I 3, .I id, .I 0, .I (el + dr % el), .slice none 0 0, .slice ap9 np9 kp9, ce18, .slice none 0 0, .I 0, ce21, ce22, .slice ad9 ((ds ++ [(addE zeroE ((lastL l bs bq).1 + 1) (term + 1))]).length) kd9, ce24, ce25, ce26, ce27, ce28, ce29, ce30, .I dr] 99 (0, 0))] [⟨entS, 71, .slice al9 ((l ++ [(addE zeroE ((lastL l bs bq).1 + 1) (term + 1))]).length) kl9, (l ++ [(addE zeroE ((lastL l bs bq).1 + 1) (term + 1))])⟩, ⟨peerS, 123, .slice ap9 np9 kp9, [peer1 id ((lastL l bs bq).1 + 1)]⟩, ⟨entS, 71, .slice ad9 ((ds ++ [(addE zeroE ((lastL l bs bq).1 + 1) (term + 1))]).length) kd9, (ds ++ [(addE zeroE ((lastL l bs bq).1 + 1) (term + 1))])⟩] [] w') := by
 refine uS1 Tryz.func86 ?_
 have H := H0
 refine uR 1 [.c [0], .c [1]] ?_
 refine qG (sq 0 12) ?_
 refine uP 5 ?_
 refine uV 25 3 (H.cells 0 rfl) ?_
 refine RW.pv (κ := .seq) (d := some 10) (r := (sq 7 12)) (v := .int .u64 (IntKind.u64.wrap (term + 1))) (v' := .int .u64 (term + 1)) (by as_aux_lemma => kernel_rfl) (wr_u64 (by omega)) ?_
 refine uP 4 ?_
 refine uW 25 3 #[.I id, .I el, ce2, .int .u64 (term + 1), ce4, .int .u64 bs, .int .u64 bq, .slice av C.voters.length kv, .slice aw C.learners.length kw, ce9, .slice al l.length kl, .int .u64 cm, ce12, ce13, ce14, ce15, ce16, ce17, ce18, .slice ar 0 cr, ce20, ce21, ce22, .slice ad ds.length kd, ce24, ce25, ce26, ce27, ce28, ce29, ce30, .I dr] H 0 rfl ?_
 intro _ H
 refine uF 0 ?_
 refine uR 1 [.c [1, 0], .c [2]] ?_
 refine qG (sq 0 12) ?_
 refine uP 6 ?_
 refine uV 3 0 (H.cells 0 rfl) ?_
 refine uP 4 ?_
 refine uW 3 4 #[.I id, .I el, ce2, .int .u64 (term + 1), .I id, .int .u64 bs, .int .u64 bq, .slice av C.voters.length kv, .slice aw C.learners.length kw, ce9, .slice al l.length kl, .int .u64 cm, ce12, ce13, ce14, ce15, ce16, ce17, ce18, .slice ar 0 cr, ce20, ce21, ce22, .slice ad ds.length kd, ce24, ce25, ce26, ce27, ce28, ce29, ce30, .I dr] H 0 rfl ?_
 intro _ H
 refine uF 0 ?_
 refine uR 1 [.c [2, 0], .c [3]] ?_
 refine qG (sq 0 2) ?_
 refine uP 1 ?_
 refine uKS (forget_spec  ((H.lend (M1 := [(mb, .cells #[.I id, .I el, ce2, .int .u64 (term + 1), .I id, .int .u64 bs, .int .u64 bq, .slice av C.voters.length kv, .slice aw C.learners.length kw, ce9, .slice al l.length kl, .int .u64 cm, ce12, ce13, ce14, ce15, ce16, ce17, ce18, .slice ar 0 cr, ce20, ce21, ce22, .slice ad ds.length kd, ce24, ce25, ce26, ce27, ce28, ce29, ce30, .I dr] 99 (0, 0))]) (W1 := [])).pick [] rfl)) ?_
 rintro _ _ ⟨rfl, H'⟩
 have H := H.back (M1 := [(mb, .cells #[.I id, .I el, ce2, .int .u64 (term + 1), .I id, .int .u64 bs, .int .u64 bq, .slice av C.voters.length kv, .slice aw C.learners.length kw, ce9, .slice al l.length kl, .int .u64 cm, ce12, ce13, ce14, ce15, ce16, ce17, ce18, .slice ar 0 cr, ce20, ce21, ce22, .slice ad ds.length kd, ce24, ce25, ce26, ce27, ce28, ce29, ce30, .I dr] 99 (0, 0))]) (W1 := []) H'
 have H : Hp w S O [(mb, .cells #[.I id, .I el, ce2, .int .u64 (term + 1), .I id, .int .u64 bs, .int .u64 bq, .slice av C.voters.length kv, .slice aw C.learners.length kw, ce9, .slice al l.length kl, .int .u64 cm, ce12, ce13, ce14, ce15, ce16, .slice none 0 0, ce18, .slice none 0 0, .I 0, ce21, ce22, .slice ad ds.length kd, ce24, ce25, ce26, ce27, ce28, ce29, ce30, .I dr] 99 (0, 0))] [_, _] [_, _] _ := H
 refine qF 0 [(0, .P mb 0), (1, .bool fc)] ?_
 refine uR 2 [.c [3, 0, 0], .c [3, 0, 1], .c [4]] ?_
 refine qG (sq 0 2) ?_
 refine uP 1 ?_
 refine RW.callS (d := some 29) (r := (sq 2 2)) (g := 106) (args := #[.P mb 0, .I 2]) (by as_aux_lemma => kernel_rfl) (run_spec (C := C) (by first | assumption | (intro e he; cases he)) (by first | assumption | omega | simp) (by omega) (by omega) (by omega) ((H.lend (M1 := [(mb, .cells #[.I id, .I el, ce2, .int .u64 (term + 1), .I id, .int .u64 bs, .int .u64 bq, .slice av C.voters.length kv, .slice aw C.learners.length kw, ce9, .slice al l.length kl, .int .u64 cm, ce12, ce13, ce14, ce15, ce16, .slice none 0 0, ce18, .slice none 0 0, .I 0, ce21, ce22, .slice ad ds.length kd, ce24, ce25, ce26, ce27, ce28, ce29, ce30, .I dr] 99 (0, 0))]) (W1 := [⟨entS, 71, .slice al l.length kl, l⟩])).pick [0, 1] rfl)) ?_
 rintro _ _ ⟨a, b, rfl, H'⟩
 have H := H.back (M1 := [(mb, .cells #[.I id, .I el, ce2, .int .u64 (term + 1), .I id, .int .u64 bs, .int .u64 bq, .slice av C.voters.length kv, .slice aw C.learners.length kw, ce9, .slice al l.length kl, .int .u64 cm, ce12, ce13, ce14, ce15, ce16, .slice none 0 0, ce18, .slice none 0 0, .I 0, ce21, ce22, .slice ad ds.length kd, ce24, ce25, ce26, ce27, ce28, ce29, ce30, .I dr] 99 (0, 0))]) (W1 := [⟨entS, 71, .slice al l.length kl, l⟩]) H'
 have H : Hp w S O [(mb, .cells #[.I id, .I el, ce2, .int .u64 (term + 1), .I id, .int .u64 bs, .int .u64 bq, .slice av C.voters.length kv, .slice aw C.learners.length kw, ce9, .slice al l.length kl, .int .u64 cm, .I 2, .I 0, .I 0, .I (el + dr % el), .slice a 1 b, .slice none 0 0, ce18, .slice none 0 0, .I 0, ce21, ce22, .slice ad ds.length kd, ce24, ce25, ce26, ce27, ce28, ce29, ce30, .I dr] 99 (0, 0))] [_, _] [Rp (Shape.slice (Shape.int .i64)) [.slice a 1 b] [id], _, _] _ := H
 refine uF 0 ?_
 refine qC (majB C [id]) (fun n => ?_) (fun n => ?_)
 ·
  refine uR 1 [.c [3, 0, 1, 0, 0], .c [3, 0, 1, 0, 1], .c [4]] ?_
  refine qG (sq 0 2) ?_
  refine uP 1 ?_
  have H := H.frontW 1 rfl
  have H := H.frontW 1 rfl
  refine uKS (lead0_spec (C := C) hno hsm hcv hle hid hl hd hl1 hl2 hch hbs hcm (by omega) ((H.lend (M1 := [(mb, .cells #[.I id, .I el, ce2, .int .u64 (term + 1), .I id, .int .u64 bs, .int .u64 bq, .slice av C.voters.length kv, .slice aw C.learners.length kw, ce9, .slice al l.length kl, .int .u64 cm, .I 2, .I 0, .I 0, .I (el + dr % el), .slice a 1 b, .slice none 0 0, ce18, .slice none 0 0, .I 0, ce21, ce22, .slice ad ds.length kd, ce24, ce25, ce26, ce27, ce28, ce29, ce30, .I dr] 99 (0, 0))]) (W1 := [⟨entS, 71, .slice al l.length kl, l⟩, ⟨entS, 71, .slice ad ds.length kd, ds⟩])).pick [1, 2] rfl)) ?_
  rintro _ _ ⟨o, f, h, i, j, k, m, rfl, H'⟩
  have H := H.back (M1 := [(mb, .cells #[.I id, .I el, ce2, .int .u64 (term + 1), .I id, .int .u64 bs, .int .u64 bq, .slice av C.voters.length kv, .slice aw C.learners.length kw, ce9, .slice al l.length kl, .int .u64 cm, .I 2, .I 0, .I 0, .I (el + dr % el), .slice a 1 b, .slice none 0 0, ce18, .slice none 0 0, .I 0, ce21, ce22, .slice ad ds.length kd, ce24, ce25, ce26, ce27, ce28, ce29, ce30, .I dr] 99 (0, 0))]) (W1 := [⟨entS, 71, .slice al l.length kl, l⟩, ⟨entS, 71, .slice ad ds.length kd, ds⟩]) H'
  have H : Hp w S O [(mb, .cells #[.I id, .I el, ce2, .int .u64 (term + 1), .I id, .int .u64 bs, .int .u64 bq, .slice av C.voters.length kv, .slice aw C.learners.length kw, ce9, .slice o ((l ++ [(addE zeroE ((lastL l bs bq).1 + 1) (term + 1))]).length) f, .int .u64 ((lastL l bs bq).1 + 1), .I 3, .I id, .I 0, .I (el + dr % el), .slice none 0 0, .slice h i j, ce18, .slice none 0 0, .I 0, ce21, ce22, .slice k ((ds ++ [(addE zeroE ((lastL l bs bq).1 + 1) (term + 1))]).length) m, ce24, ce25, ce26, ce27, ce28, ce29, ce30, .I dr] 99 (0, 0))] [⟨entS, 71, .slice o ((l ++ [(addE zeroE ((lastL l bs bq).1 + 1) (term + 1))]).length) f, (l ++ [(addE zeroE ((lastL l bs bq).1 + 1) (term + 1))])⟩, ⟨peerS, 123, .slice h i j, [peer1 id ((lastL l bs bq).1 + 1)]⟩, ⟨entS, 71, .slice k ((ds ++ [(addE zeroE ((lastL l bs bq).1 + 1) (term + 1))]).length) m, (ds ++ [(addE zeroE ((lastL l bs bq).1 + 1) (term + 1))])⟩] [_, _, _] _ := H
  refine uF 0 ?_
  refine qT (.tuple #[]) Tryz.func86 ?_
  have H := H.take 1 3
  exact ⟨_, rfl, _, _, _, _, _, _, _, rfl, H.pick [] rfl⟩
 ·
  exact absurd hmaj (by first | exact n | (rw [n]; decide))
set_option maxHeartbeats 4000000 in
theorem prepA_spec {S : Nat → Prop} {w : World} {O : List Nat} {mb : Nat} {ce2 : Value} {ce4 : Value} {ce9 : Value} {ce12 : Value} {ce13 : Value} {ce14 : Value} {ce15 : Value} {ce16 : Value} {ce17 : Value} {ce18 : Value} {ce20 : Value} {ce21 : Value} {ce22 : Value} {ce24 : Value} {ce25 : Value} {ce26 : Value} {ce27 : Value} {ce28 : Value} {ce29 : Value} {ce30 : Value} {id el dr term bs bq cm : Int} {ds : List Ent} {ad ar : Option Addr} {kd cr : Nat} {C : Conf} {l : List Ent} {al av aw : Option Addr} {kl kv kw : Nat} (hno : ∀ e ∈ l, e.kind ≠ 2) (hsm : C.voters.length ≤ 1048576) (hcv : C.voters = [id]) (hle : C.learners = []) (hid : 1 ≤ id ∧ id ≤ 32) (hl : l.length ≤ 1000000) (hd : ds.length ≤ 1000000) (hl1 : 0 ≤ (lastL l bs bq).1 ∧ (lastL l bs bq).1 ≤ 4611686018427387000) (hl2 : 0 ≤ (lastL l bs bq).2 ∧ (lastL l bs bq).2 ≤ 18446744073709551615) (hch : (lastL l bs bq).1 = bs + (l.length : Int)) (hbs : 0 ≤ bs) (hcm : cm ≤ (lastL l bs bq).1) (hte : 0 ≤ term ∧ term < 4611686018427387904) (hel : 1 ≤ el ∧ el ≤ 1000) (hdr : 0 ≤ dr ∧ dr ≤ 9223372036854774000) (hmaj : majB C [id] = true) (H0 : Hp w S O [(mb, .cells #[.I id, .I el, ce2, .int .u64 term, ce4, .int .u64 bs, .int .u64 bq, .slice av C.voters.length kv, .slice aw C.learners.length kw, ce9, .slice al l.length kl, .int .u64 cm, ce12, ce13, ce14, ce15, ce16, ce17, ce18, .slice ar 0 cr, ce20, ce21, ce22, .slice ad ds.length kd, ce24, ce25, ce26, ce27, ce28, ce29, ce30, .I dr] 99 (0, 0))] [⟨entS, 71, .slice al l.length kl, l⟩, ⟨entS, 71, .slice ad ds.length kd, ds⟩] [Rp (Shape.slice (Shape.int .i64)) [.slice av C.voters.length kv] C.voters, Rp (Shape.slice (Shape.int .i64)) [.slice aw C.learners.length kw] C.learners] w) :
 Calls Tryz.prog 70 #[.P mb 0] w (Ret fun v w' => ∃ (al9 : Option Addr) (kl9 : Nat) (ap9 : Option Addr) (np9 : Nat) (kp9 : Nat) (ad9 : Option Addr) (kd9 : Nat), v = .tuple #[] ∧ Hp w S O [(mb, .cells #[.I id, .I el, ce2, .int .u64 (term + 1), .I id, .int .u64 bs, .int .u64 bq, .slice av C.voters.length kv, .slice aw C.learners.length kw, ce9, .slice al9 ((l ++ [(addE zeroE ((lastL l bs bq).1 + 1) (term + 1))]).length) kl9, .int .u64 ((lastL l bs bq).1 + 1), .I 3, .I id, .I 0, .I (el + dr % el), .slice none 0 0, .slice ap9 np9 kp9, ce18, .slice none 0 0, .I 0, ce21, ce22, .slice ad9 ((ds ++ [(addE zeroE ((lastL l bs bq).1 + 1) (term + 1))]).length) kd9, ce24, ce25, ce26, ce27, ce28, ce29, ce30, .I dr] 99 (0, 0))] [⟨entS, 71, .slice al9 ((l ++ [(addE zeroE ((lastL l bs bq).1 + 1) (term + 1))]).length) kl9, (l ++ [(addE zeroE ((lastL l bs bq).1 + 1) (term + 1))])⟩, ⟨peerS, 123, .slice ap9 np9 kp9, [peer1 id ((lastL l bs bq).1 + 1)]⟩, ⟨entS, 71, .slice ad9 ((ds ++ [(addE zeroE ((lastL l bs bq).1 + 1) (term + 1))]).length) kd9, (ds ++ [(addE zeroE ((lastL l bs bq).1 + 1) (term + 1))])⟩] [] w') := by
 refine uS1 Tryz.func70 ?_
 have H := H0
 refine uR 2 [.c [0, 0], .c [0, 1], .c [1]] ?_
 refine qG (sq 0 2) ?_
 refine uP 1 ?_
 refine RW.callS (d := some 3) (r := (sq 2 2)) (g := 106) (args := #[.P mb 0, .I 1]) (by as_aux_lemma => kernel_rfl) (run_spec (C := C) (by first | assumption | (intro e he; cases he)) (by first | assumption | omega | simp) (by omega) (by omega) (by omega) ((H.lend (M1 := [(mb, .cells #[.I id, .I el, ce2, .int .u64 term, ce4, .int .u64 bs, .int .u64 bq, .slice av C.voters.length kv, .slice aw C.learners.length kw, ce9, .slice al l.length kl, .int .u64 cm, ce12, ce13, ce14, ce15, ce16, ce17, ce18, .slice ar 0 cr, ce20, ce21, ce22, .slice ad ds.length kd, ce24, ce25, ce26, ce27, ce28, ce29, ce30, .I dr] 99 (0, 0))]) (W1 := [⟨entS, 71, .slice al l.length kl, l⟩])).pick [0, 1] rfl)) ?_
 rintro _ _ ⟨a, b, rfl, H'⟩
 have H := H.back (M1 := [(mb, .cells #[.I id, .I el, ce2, .int .u64 term, ce4, .int .u64 bs, .int .u64 bq, .slice av C.voters.length kv, .slice aw C.learners.length kw, ce9, .slice al l.length kl, .int .u64 cm, ce12, ce13, ce14, ce15, ce16, ce17, ce18, .slice ar 0 cr, ce20, ce21, ce22, .slice ad ds.length kd, ce24, ce25, ce26, ce27, ce28, ce29, ce30, .I dr] 99 (0, 0))]) (W1 := [⟨entS, 71, .slice al l.length kl, l⟩]) H'
 have H : Hp w S O [(mb, .cells #[.I id, .I el, ce2, .int .u64 term, ce4, .int .u64 bs, .int .u64 bq, .slice av C.voters.length kv, .slice aw C.learners.length kw, ce9, .slice al l.length kl, .int .u64 cm, .I 1, .I 0, .I 0, .I (el + dr % el), .slice a 1 b, ce17, ce18, .slice ar 0 cr, ce20, ce21, ce22, .slice ad ds.length kd, ce24, ce25, ce26, ce27, ce28, ce29, ce30, .I dr] 99 (0, 0))] [_, _] [Rp (Shape.slice (Shape.int .i64)) [.slice a 1 b] [id], _, _] _ := H
 refine uF 0 ?_
 refine qC (majB C [id]) (fun j => ?_) (fun j => ?_)
 ·
  refine uR 1 [.c [0, 1, 0, 0], .c [0, 1, 0, 1], .c [1]] ?_
  refine qG (sq 0 2) ?_
  refine uP 1 ?_
  have H := H.frontW 1 rfl
  have H := H.frontW 1 rfl
  refine RW.callS (d := some 5) (r := (sq 2 2)) (g := 86) (args := #[.P mb 0, .bool false]) (by as_aux_lemma => kernel_rfl) (stand0_spec (C := C) hno hsm hcv hle hid hl hd hl1 hl2 hch hbs hcm hte hel hdr hmaj ((H.lend (M1 := [(mb, .cells #[.I id, .I el, ce2, .int .u64 term, ce4, .int .u64 bs, .int .u64 bq, .slice av C.voters.length kv, .slice aw C.learners.length kw, ce9, .slice al l.length kl, .int .u64 cm, .I 1, .I 0, .I 0, .I (el + dr % el), .slice a 1 b, ce17, ce18, .slice ar 0 cr, ce20, ce21, ce22, .slice ad ds.length kd, ce24, ce25, ce26, ce27, ce28, ce29, ce30, .I dr] 99 (0, 0))]) (W1 := [⟨entS, 71, .slice al l.length kl, l⟩, ⟨entS, 71, .slice ad ds.length kd, ds⟩])).pick [1, 2] rfl)) ?_
  rintro _ _ ⟨k, m, n, o, f, h, i, rfl, H'⟩
  have H := H.back (M1 := [(mb, .cells #[.I id, .I el, ce2, .int .u64 term, ce4, .int .u64 bs, .int .u64 bq, .slice av C.voters.length kv, .slice aw C.learners.length kw, ce9, .slice al l.length kl, .int .u64 cm, .I 1, .I 0, .I 0, .I (el + dr % el), .slice a 1 b, ce17, ce18, .slice ar 0 cr, ce20, ce21, ce22, .slice ad ds.length kd, ce24, ce25, ce26, ce27, ce28, ce29, ce30, .I dr] 99 (0, 0))]) (W1 := [⟨entS, 71, .slice al l.length kl, l⟩, ⟨entS, 71, .slice ad ds.length kd, ds⟩]) H'
  have H : Hp w S O [(mb, .cells #[.I id, .I el, ce2, .int .u64 (term + 1), .I id, .int .u64 bs, .int .u64 bq, .slice av C.voters.length kv, .slice aw C.learners.length kw, ce9, .slice k ((l ++ [(addE zeroE ((lastL l bs bq).1 + 1) (term + 1))]).length) m, .int .u64 ((lastL l bs bq).1 + 1), .I 3, .I id, .I 0, .I (el + dr % el), .slice none 0 0, .slice n o f, ce18, .slice none 0 0, .I 0, ce21, ce22, .slice h ((ds ++ [(addE zeroE ((lastL l bs bq).1 + 1) (term + 1))]).length) i, ce24, ce25, ce26, ce27, ce28, ce29, ce30, .I dr] 99 (0, 0))] [⟨entS, 71, .slice k ((l ++ [(addE zeroE ((lastL l bs bq).1 + 1) (term + 1))]).length) m, (l ++ [(addE zeroE ((lastL l bs bq).1 + 1) (term + 1))])⟩, ⟨peerS, 123, .slice n o f, [peer1 id ((lastL l bs bq).1 + 1)]⟩, ⟨entS, 71, .slice h ((ds ++ [(addE zeroE ((lastL l bs bq).1 + 1) (term + 1))]).length) i, (ds ++ [(addE zeroE ((lastL l bs bq).1 + 1) (term + 1))])⟩] [_, _, _] _ := H
  refine uF 0 ?_
  refine qT (.tuple #[]) Tryz.func70 ?_
  have H := H.take 1 3
  exact ⟨_, rfl, _, _, _, _, _, _, _, rfl, H.pick [] rfl⟩
 ·
  exact absurd hmaj (by first | exact j | (rw [j]; decide))
def preM (term : Int) : Msg := { (⟨0, 0, 0, 0, 0, 0, 0, 0, false, false, [], ⟨[], []⟩, ⟨⟨0, 0, 0⟩, 0, 0, 0, 0#32⟩, [], 0, 0, 0, .empty, 0, []⟩ : Msg) with kind := 1, term := term }
theorem preM_rng {t : Int} (h : 0 ≤ t ∧ t ≤ 18446744073709551615) : MsgR (preM t) := by
 unfold MsgR preM
 simp only [maxLen]
 refine ⟨by decide, by decide, by decide, h, by decide, by decide, by decide, by decide, by decide, by decide, by decide, by decide, by decide, by decide, by decide, by decide, by decide, by decide, by decide⟩
set_option maxHeartbeats 4000000 in
theorem prepB_spec {S : Nat → Prop} {w : World} {O : List Nat} {mb : Nat} {ce2 : Value} {ce4 : Value} {ce9 : Value} {ce11 : Value} {ce12 : Value} {ce13 : Value} {ce14 : Value} {ce15 : Value} {ce16 : Value} {ce17 : Value} {ce18 : Value} {ce19 : Value} {ce20 : Value} {ce21 : Value} {ce22 : Value} {ce23 : Value} {ce24 : Value} {ce26 : Value} {ce27 : Value} {ce28 : Value} {ce29 : Value} {ce30 : Value} {id el dr term bs bq : Int} {ms : List Msg} {am : Option Addr} {km : Nat} {C : Conf} {l : List Ent} {al av aw : Option Addr} {kl kv kw : Nat} (hno : ∀ e ∈ l, e.kind ≠ 2) (hsm : C.voters.length ≤ 1048576) (hid : 1 ≤ id ∧ id ≤ 32) (hms : ms.length + C.voters.length ≤ 1000) (hl1 : 0 ≤ (lastL l bs bq).1 ∧ (lastL l bs bq).1 ≤ 18446744073709551615) (hl2 : 0 ≤ (lastL l bs bq).2 ∧ (lastL l bs bq).2 ≤ 18446744073709551615) (hte : 0 ≤ term ∧ term < 4611686018427387904) (hel : 1 ≤ el ∧ el ≤ 1000) (hdr : 0 ≤ dr ∧ dr ≤ 9223372036854774000) (hmaj : majB C [id] = false) (H0 : Hp w S O [(mb, .cells #[.I id, .I el, ce2, .int .u64 term, ce4, .int .u64 bs, .int .u64 bq, .slice av C.voters.length kv, .slice aw C.learners.length kw, ce9, .slice al l.length kl, ce11, ce12, ce13, ce14, ce15, ce16, ce17, ce18, ce19, ce20, ce21, ce22, ce23, ce24, .slice am ms.length km, ce26, ce27, ce28, ce29, ce30, .I dr] 99 (0, 0))] [⟨entS, 71, .slice al l.length kl, l⟩, ⟨msgS, 56, .slice am ms.length km, ms⟩] [Rp (Shape.slice (Shape.int .i64)) [.slice av C.voters.length kv] C.voters, Rp (Shape.slice (Shape.int .i64)) [.slice aw C.learners.length kw] C.learners] w) :
 Calls Tryz.prog 70 #[.P mb 0] w (Ret fun v w' => ∃ (a' : Option Addr) (c' : Nat) (av9 : Option Addr) (cv9 : Nat), v = .tuple #[] ∧ Hp w S O [(mb, .cells #[.I id, .I el, ce2, .int .u64 term, ce4, .int .u64 bs, .int .u64 bq, .slice av C.voters.length kv, .slice aw C.learners.length kw, ce9, .slice al l.length kl, ce11, .I 1, .I 0, .I 0, .I (el + dr % el), .slice av9 1 cv9, ce17, ce18, ce19, ce20, ce21, ce22, ce23, ce24, .slice a' ((ms ++ (askL (preM (term + 1)) (lastL l bs bq).1 (lastL l bs bq).2 id C.voters)).length) c', ce26, ce27, ce28, ce29, ce30, .I dr] 99 (0, 0))] [⟨entS, 71, .slice al l.length kl, l⟩, ⟨msgS, 56, .slice a' ((ms ++ (askL (preM (term + 1)) (lastL l bs bq).1 (lastL l bs bq).2 id C.voters)).length) c', (ms ++ (askL (preM (term + 1)) (lastL l bs bq).1 (lastL l bs bq).2 id C.voters))⟩] [Rp (Shape.slice (Shape.int .i64)) [.slice av9 1 cv9] [id]] w') := by
 refine uS1 Tryz.func70 ?_
 have H := H0
 refine uR 2 [.c [0, 0], .c [0, 1], .c [1]] ?_
 refine qG (sq 0 2) ?_
 refine uP 1 ?_
 refine RW.callS (d := some 3) (r := (sq 2 2)) (g := 106) (args := #[.P mb 0, .I 1]) (by as_aux_lemma => kernel_rfl) (run_spec (C := C) (by first | assumption | (intro e he; cases he)) (by first | assumption | omega | simp) (by omega) (by omega) (by omega) ((H.lend (M1 := [(mb, .cells #[.I id, .I el, ce2, .int .u64 term, ce4, .int .u64 bs, .int .u64 bq, .slice av C.voters.length kv, .slice aw C.learners.length kw, ce9, .slice al l.length kl, ce11, ce12, ce13, ce14, ce15, ce16, ce17, ce18, ce19, ce20, ce21, ce22, ce23, ce24, .slice am ms.length km, ce26, ce27, ce28, ce29, ce30, .I dr] 99 (0, 0))]) (W1 := [⟨entS, 71, .slice al l.length kl, l⟩])).pick [0, 1] rfl)) ?_
 rintro _ _ ⟨a, b, rfl, H'⟩
 have H := H.back (M1 := [(mb, .cells #[.I id, .I el, ce2, .int .u64 term, ce4, .int .u64 bs, .int .u64 bq, .slice av C.voters.length kv, .slice aw C.learners.length kw, ce9, .slice al l.length kl, ce11, ce12, ce13, ce14, ce15, ce16, ce17, ce18, ce19, ce20, ce21, ce22, ce23, ce24, .slice am ms.length km, ce26, ce27, ce28, ce29, ce30, .I dr] 99 (0, 0))]) (W1 := [⟨entS, 71, .slice al l.length kl, l⟩]) H'
 have H : Hp w S O [(mb, .cells #[.I id, .I el, ce2, .int .u64 term, ce4, .int .u64 bs, .int .u64 bq, .slice av C.voters.length kv, .slice aw C.learners.length kw, ce9, .slice al l.length kl, ce11, .I 1, .I 0, .I 0, .I (el + dr % el), .slice a 1 b, ce17, ce18, ce19, ce20, ce21, ce22, ce23, ce24, .slice am ms.length km, ce26, ce27, ce28, ce29, ce30, .I dr] 99 (0, 0))] [_, _] [Rp (Shape.slice (Shape.int .i64)) [.slice a 1 b] [id], _, _] _ := H
 refine uF 0 ?_
 refine qC (majB C [id]) (fun f => ?_) (fun f => ?_)
 ·
  exact absurd hmaj (by first | (rw [f]; decide) | (intro hq; rw [hq] at h; cases h))
 ·
  refine uR 1 [.c [1]] ?_
  refine qG (sq 0 10) ?_
  refine uP 6 ?_
  refine uV 25 3 (H.cells 0 rfl) ?_
  refine RW.pv (κ := .seq) (d := some 13) (r := (sq 8 10)) (v := .int .u64 (IntKind.u64.wrap (term + 1))) (v' := .int .u64 (term + 1)) (by as_aux_lemma => kernel_rfl) (wr_u64 (by omega)) ?_
  refine uP 1 ?_
  have H := H.frontW 1 rfl
  have H := H.frontW 1 rfl
  have H := H.add (F := Rp (Shape.slice entS) [.slice (none : Option Addr) 0 0] []) Shape.slice_nil
  have H := H.add (F := Rp (Shape.slice (Shape.int .i64)) [.slice (none : Option Addr) 0 0] []) Shape.slice_nil
  have H := H.add (F := Rp SB [.slice (none : Option Addr) 0 0] []) Shape.slice_nil
  have H := H.add (F := Rp (Shape.slice Shape.str) [.slice (none : Option Addr) 0 0] []) Shape.slice_nil
  refine uKS (ask_spec (C := C) (x := preM (term + 1)) hno hsm (preM_rng (by omega)) (by omega) (by omega) (by omega) (by omega) ((H.lend (M1 := [(mb, .cells #[.I id, .I el, ce2, .int .u64 term, ce4, .int .u64 bs, .int .u64 bq, .slice av C.voters.length kv, .slice aw C.learners.length kw, ce9, .slice al l.length kl, ce11, .I 1, .I 0, .I 0, .I (el + dr % el), .slice a 1 b, ce17, ce18, ce19, ce20, ce21, ce22, ce23, ce24, .slice am ms.length km, ce26, ce27, ce28, ce29, ce30, .I dr] 99 (0, 0))]) (W1 := [⟨entS, 71, .slice al l.length kl, l⟩, ⟨msgS, 56, .slice am ms.length km, ms⟩])).pick [5, 6, 3, 2, 2, 1, 0] rfl)) ?_
  rintro _ _ ⟨i, j, rfl, H'⟩
  have H := H.back (M1 := [(mb, .cells #[.I id, .I el, ce2, .int .u64 term, ce4, .int .u64 bs, .int .u64 bq, .slice av C.voters.length kv, .slice aw C.learners.length kw, ce9, .slice al l.length kl, ce11, .I 1, .I 0, .I 0, .I (el + dr % el), .slice a 1 b, ce17, ce18, ce19, ce20, ce21, ce22, ce23, ce24, .slice am ms.length km, ce26, ce27, ce28, ce29, ce30, .I dr] 99 (0, 0))]) (W1 := [⟨entS, 71, .slice al l.length kl, l⟩, ⟨msgS, 56, .slice am ms.length km, ms⟩]) H'
  have H : Hp w S O [(mb, .cells #[.I id, .I el, ce2, .int .u64 term, ce4, .int .u64 bs, .int .u64 bq, .slice av C.voters.length kv, .slice aw C.learners.length kw, ce9, .slice al l.length kl, ce11, .I 1, .I 0, .I 0, .I (el + dr % el), .slice a 1 b, ce17, ce18, ce19, ce20, ce21, ce22, ce23, ce24, .slice i ((ms ++ (askL (preM (term + 1)) (lastL l bs bq).1 (lastL l bs bq).2 id C.voters)).length) j, ce26, ce27, ce28, ce29, ce30, .I dr] 99 (0, 0))] [_, ⟨msgS, 56, .slice i ((ms ++ (askL (preM (term + 1)) (lastL l bs bq).1 (lastL l bs bq).2 id C.voters)).length) j, (ms ++ (askL (preM (term + 1)) (lastL l bs bq).1 (lastL l bs bq).2 id C.voters))⟩] [_, _, _, _, _, _, _] _ := H
  refine uF 0 ?_
  refine WK.fin (v := .tuple #[]) Tryz.func70 (by as_aux_lemma => kernel_rfl) ?_
  have H := H.take 1 2
  exact ⟨_, rfl, _, _, _, _, rfl, H.pick [4] rfl⟩
end Go.Proofs.YtkjkmogipidkiaaGreat
