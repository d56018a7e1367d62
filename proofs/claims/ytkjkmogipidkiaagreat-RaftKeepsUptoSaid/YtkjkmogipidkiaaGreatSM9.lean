import Derived.Test.YtkjkmogipidkiaaGreatSBxA
import Derived.Test.YtkjkmogipidkiaaGreatSM8
namespace Go.Proofs.YtkjkmogipidkiaaGreat
open Go.BX
theorem term0_spec {S : Nat → Prop} {w : World} {sb : Nat} {l : List Ent} {al av aw : Option Addr} {kl vn kv wn kw : Nat} {ce0 : Value} {ce1 : Value} {ce2 : Value} {ce3 : Value} {ce4 : Value} {ce9 : Value} {ce11 : Value} {ce12 : Value} {ce13 : Value} {ce14 : Value} {ce15 : Value} {ce16 : Value} {ce17 : Value} {ce18 : Value} {ce19 : Value} {ce20 : Value} {bs bq ix : Int} (hF : (Fc sb 0 [ce0, ce1, ce2, ce3, ce4, .int .u64 bs, .int .u64 bq, .slice av vn kv, .slice aw wn kw, ce9, .slice al l.length kl, ce11, ce12, ce13, ce14, ce15, ce16, ce17, ce18, ce19, ce20]).p S w) (h : (Shape.slice entS).rep S w [.slice al l.length kl] l) (hpos : 0 < l.length) (hch : (lastL l bs bq).1 = bs + (l.length : Int)) (hbs : 0 ≤ bs) (hl1 : (lastL l bs bq).1 ≤ 4611686018427387904) (hix : ix = (lastL l bs bq).1) :
 Calls Tryz.prog 44 #[.P sb 0, .int .u64 ix] w (Ret fun v w' => Ext w w' ∧ v = .tuple #[.int .u64 (lastL l bs bq).2, .bool true]) := by
 refine uS1 Tryz.func44 ?_
 have H := Hp.startF (w := w) (S := S) (G := [Fc sb 0 [ce0, ce1, ce2, ce3, ce4, .int .u64 bs, .int .u64 bq, .slice av vn kv, .slice aw wn kw, ce9, .slice al l.length kl, ce11, ce12, ce13, ce14, ce15, ce16, ce17, ce18, ce19, ce20], Rp (Shape.slice entS) [.slice al l.length kl] l]) (.cons hF (.rp h .nil))
 refine uR 3 [.c [1, 0], .c [2]] ?_
 refine qG (sq 0 7) ?_
 refine uP 1 ?_
 refine uK (last0_spec (S := fun _ => True) (l := l) (Fc.pre (xs := [ce0, ce1, ce2, ce3, ce4, .int .u64 bs, .int .u64 bq, .slice av vn kv, .slice aw wn kw, ce9, .slice al l.length kl, ce11, ce12, ce13, ce14, ce15, ce16, ce17, ce18, ce19, ce20]) (ys := []) (by simp) (H.viewF 0 rfl)) (H.viewR 1 rfl)) ?_
 rintro _ o q rfl
 have H := H.ext q
 refine uF 5 ?_
 refine uR 3 [.c [2, 0, 0, 0], .c [2, 0, 0, 1], .b 0, .c [3]] ?_
 refine qG (sq 0 13) ?_
 refine uP 5 ?_
 refine uV 25 5 (H.fc 0 rfl) ?_
 refine uP 2 ?_
 refine uD 21 ((ix : Int) < bs) (fun t => ?_) (fun t => ?_)
 ·
  omega
 ·
  refine uF 5 ?_
  refine qD ((ix : Int) > (lastL l bs bq).1) (fun u => ?_) (fun u => ?_)
  ·
   omega
  ·
   refine uR 1 [.c [2, 0, 0, 1, 1, 0], .c [2, 0, 0, 1, 1, 1], .b 0, .c [3]] ?_
   refine qG (sq 0 8) ?_
   refine uP 5 ?_
   refine uV 25 5 (H.fc 0 rfl) ?_
   refine uF 2 ?_
   refine qE ix bs (fun y => ?_) (fun y => ?_)
   ·
    omega
   ·
    refine qR 3 [.c [3, 0], .c [4]] [(0, .P sb 0), (1, .int .u64 ix)] ?_
    refine WK.draw1 18 (qs [0, 1, 2, 3, 4, 5, 6, 7, 8, 9, 10, 11, 12, 13, 14, 15, 16, 17]) (qs [0, 1, 2, 3, 4, 5, 6, 7, 8, 9, 10, 11, 12, 13, 14, 15, 16, 17]) Tryz_mixed (by as_aux_lemma => kernel_rfl) (by as_aux_lemma => kernel_rfl) (by as_aux_lemma => kernel_rfl) ?_
    have H := H.draw
    generalize ({ o with drawn := o.drawn + 1 } : World) = z at H ⊢
    refine uP 4 ?_
    refine uV 30 10 (H.fc 0 rfl) ?_
    refine uP 5 ?_
    refine uV 25 5 (H.fc 0 rfl) ?_
    refine RW.pv (κ := .qui) (d := some 50) (r := (qs [12, 13, 14, 15, 16, 17])) (v := .int .u64 (IntKind.u64.wrap (ix - bs))) (v' := .int .u64 (ix - bs)) (by as_aux_lemma => kernel_rfl) (wr_u64 (by omega)) ?_
    refine RW.pv (κ := .qui) (d := some 51) (r := (qs [13, 14, 15, 16, 17])) (v := .int .u64 (IntKind.u64.wrap ((ix - bs) - 1))) (v' := .int .u64 ((ix - bs) - 1)) (by as_aux_lemma => kernel_rfl) (wr_u64 (by omega)) ?_
    have s : (l.length - 1) < l.length := by omega
    refine RW.index (κ := .qui) (d := some 52) (r := (qs [14, 15, 16, 17])) (T := 30) (e := 71) (ik := .u64) (ix := (ix - bs) - 1) (sh := entS) (x := l[(l.length - 1)]) (by as_aux_lemma => kernel_rfl) (by as_aux_lemma => kernel_rfl) H 1 rfl (l.length - 1) (by omega) (List.getElem?_eq_getElem s) ?_
    intro _ _ _ a H
    obtain ⟨_, _, rfl, _, _, _, f, g⟩ := ent_open a
    obtain ⟨_, _, rfl, _, _, _, _, _, _, _, _, _, i, j⟩ := cmd_open f
    obtain ⟨rfl, _, _, _⟩ := cid_open i
    obtain ⟨_, _, rfl, _, k⟩ := amap_open j
    obtain ⟨_, _, _, _, rfl, m, n⟩ := conf_open g
    have H := H.addR k
    have H := H.addR m
    have H := H.addR n
    refine uP 1 ?_
    refine uV 25 1 (H.fc 3 rfl) ?_
    refine uF 2 ?_
    refine qT (.tuple #[.int .u64 ((l[(l.length - 1)]).term), .bool true]) Tryz.func44 ?_
    exact ⟨_, rfl, H.done, by rw [lastL_some hpos]⟩
theorem feed0_spec {S : Nat → Prop} {w : World} {O : List Nat} {mb : Nat} {ce1 : Value} {ce2 : Value} {ce3 : Value} {ce4 : Value} {ce5 : Value} {ce6 : Value} {ce7 : Value} {ce8 : Value} {ce9 : Value} {ce10 : Value} {ce11 : Value} {ce12 : Value} {ce13 : Value} {ce14 : Value} {ce15 : Value} {ce16 : Value} {ce18 : Value} {ce19 : Value} {ce20 : Value} {ce21 : Value} {ce22 : Value} {ce23 : Value} {ce24 : Value} {ce25 : Value} {ce26 : Value} {ce27 : Value} {ce28 : Value} {ce29 : Value} {ce30 : Value} {ce31 : Value} {id : Int} {ps : List Peer} {ap : Option Addr} {pn kp : Nat} (hall : ∀ p ∈ ps, p.id = id) (hpn : pn = ps.length) (hpl : ps.length ≤ 4194304) (H0 : Hp w S O [(mb, .cells #[.I id, ce1, ce2, ce3, ce4, ce5, ce6, ce7, ce8, ce9, ce10, ce11, ce12, ce13, ce14, ce15, ce16, .slice ap pn kp, ce18, ce19, ce20, ce21, ce22, ce23, ce24, ce25, ce26, ce27, ce28, ce29, ce30, ce31] 99 (0, 0))] [⟨peerS, 123, .slice ap pn kp, ps⟩] [] w) :
 Calls Tryz.prog 71 #[.P mb 0] w (Ret fun v w' => v = .tuple #[] ∧ Hp w S O [(mb, .cells #[.I id, ce1, ce2, ce3, ce4, ce5, ce6, ce7, ce8, ce9, ce10, ce11, ce12, ce13, ce14, ce15, ce16, .slice ap pn kp, ce18, ce19, ce20, ce21, ce22, ce23, ce24, ce25, ce26, ce27, ce28, ce29, ce30, ce31] 99 (0, 0))] [⟨peerS, 123, .slice ap pn kp, ps⟩] [] w') := by
 refine uS1 Tryz.func71 ?_
 have H := H0
 refine uR 1 [.c [0], .c [1]] ?_
 refine qG (sq 0 8) ?_
 refine uP 5 ?_
 refine uV 32 17 (H.cells 0 rfl) ?_
 refine uF 2 ?_
 refine uR 1 [.c [1, 0], .b 0] ?_
 refine uL (α := Nat) (g := 71) (p := [1, 0, 0]) (fun k => [(0, .P mb 0), (9, .I ((pn : Nat) : Int)), (10, .I k)]) (fun k w' => Hp w S O [(mb, .cells #[.I id, ce1, ce2, ce3, ce4, ce5, ce6, ce7, ce8, ce9, ce10, ce11, ce12, ce13, ce14, ce15, ce16, .slice ap pn kp, ce18, ce19, ce20, ce21, ce22, ce23, ce24, ce25, ce26, ce27, ce28, ce29, ce30, ce31] 99 (0, 0))] [⟨peerS, 123, .slice ap pn kp, ps⟩] [] w' ∧ k ≤ ps.length) (fun k => ps.length - k) 0 ⟨H, Nat.zero_le _⟩ ?_
 rintro k n ⟨H, _⟩ h
 refine uR 3 [.c [1, 0, 0, 1, 0], .c [1, 0, 0, 2], .l [1, 0, 0], .b 0] ?_
 refine qD (((k : Int) : Int) < ((pn : Nat) : Int)) (fun s => ?_) (fun s => ?_)
 ·
  refine uR 6 [.c [1, 0, 0, 2, 0, 0, 1, 0], .c [1, 0, 0, 2, 0, 0, 2], .b 1, .c [1, 0, 0, 3], .l [1, 0, 0], .b 0] ?_
  refine WK.draw1 17 (qs [0, 1, 2, 3, 4, 5, 6, 7, 8, 9, 10, 11, 12, 13, 14, 15, 16]) (qs [0, 1, 2, 3, 4, 5, 6, 7, 8, 9, 10, 11, 12, 13, 14, 15, 16]) Tryz_mixed (by as_aux_lemma => kernel_rfl) (by as_aux_lemma => kernel_rfl) (by as_aux_lemma => kernel_rfl) ?_
  have H := H.draw
  generalize ({ n with drawn := n.drawn + 1 } : World) = t at H ⊢
  refine uP 5 ?_
  refine uV 32 17 (H.cells 0 rfl) ?_
  refine uP 1 ?_
  have o : pn = ps.length := hpn
  have q : k < ps.length := by omega
  refine RW.indexW (κ := .qui) (d := some 20) (r := (qs [8, 9, 10, 11, 12, 13, 14, 15, 16])) (T := 32) (e := 123) (m := 4) (ik := .i64) (ix := (k : Int)) (sh := peerS) (xs := ps) (a := ap) (len := pn) (cap := kp) (by as_aux_lemma => kernel_rfl) (by as_aux_lemma => kernel_rfl) rfl H k (by omega) q o ?_
  intro _ _ _ f j
  obtain ⟨rfl, _, _, _⟩ := peer_open j
  refine uP 1 ?_
  refine uV 3 0 f ?_
  refine uP 5 ?_
  refine uV 3 0 (H.cells 0 rfl) ?_
  refine uF 1 ?_
  refine qN ((ps[k]).id) id (fun i => ?_) (fun i => ?_)
  ·
   exact absurd (hall _ (List.getElem_mem _)) i
  ·
   refine uR 2 [.c [1, 0, 0, 3], .l [1, 0, 0], .b 0] ?_
   refine qG (sq 0 2) ?_
   refine uI ((k : Int) + 1) ?_
   refine uF 1 ?_
   exact uB (h (k + 1) _ ⟨H, by omega⟩ (by first | omega | (simp only []; omega)))
 ·
  refine uR 1 [] ?_
  refine WK.fin (v := .tuple #[]) Tryz.func71 (by as_aux_lemma => kernel_rfl) ?_
  exact ⟨_, rfl, rfl, H.pick [] rfl⟩
theorem matched0p {S : Nat → Prop} {w : World} {C : Conf} {av aw : Option Addr} {kv kw : Nat} {x m1 : Int} {ps : List Peer} {pa : Option Addr} {pn pc : Nat} (hpn : pn = ps.length) (hps : (Shape.slice peerS).rep S w [.slice pa pn pc] ps) (hV : (Shape.slice (Shape.int .i64)).rep S w [.slice av C.voters.length kv] C.voters) (hcv : C.voters = [x]) (hpx : ∃ p ∈ ps, p.id = x) (hpm : ∀ k (h : k < ps.length), ps[k].id = x → ps[k].mat = m1) :
 Calls Tryz.prog 130 #[.agg #[.slice av C.voters.length kv, .slice aw C.learners.length kw], .slice pa pn pc] w (Ret fun v w' => Ext w w' ∧ v = .int .u64 m1 ∧ 0 ≤ m1 ∧ m1 ≤ 18446744073709551615) := by
 subst hpn
 exact matched0_spec hps hV hcv hpx hpm
theorem commit0_spec {S : Nat → Prop} {w : World} {O : List Nat} {mb : Nat} {ce1 : Value} {ce2 : Value} {ce4 : Value} {ce9 : Value} {ce12 : Value} {ce13 : Value} {ce14 : Value} {ce15 : Value} {ce16 : Value} {ce18 : Value} {ce19 : Value} {ce20 : Value} {ce21 : Value} {ce22 : Value} {ce23 : Value} {ce24 : Value} {ce25 : Value} {ce26 : Value} {ce27 : Value} {ce28 : Value} {ce29 : Value} {ce30 : Value} {ce31 : Value} {id term bs bq cm m1 : Int} {ps : List Peer} {ap : Option Addr} {pn kp : Nat} {C : Conf} {l : List Ent} {al av aw : Option Addr} {kl kv kw : Nat} (hno : ∀ e ∈ l, e.kind ≠ 2) (hsm : C.voters.length ≤ 1048576) (hpos : 0 < l.length) (hch : (lastL l bs bq).1 = bs + (l.length : Int)) (hbs : 0 ≤ bs) (hl1 : (lastL l bs bq).1 ≤ 4611686018427387904) (hall : ∀ p ∈ ps, p.id = id) (hpn : pn = ps.length) (hpl : ps.length ≤ 4194304) (hcv : C.voters = [id]) (hpx : ∃ p ∈ ps, p.id = id) (hpm : ∀ k (h : k < ps.length), ps[k].id = id → ps[k].mat = m1) (hm1 : m1 = (lastL l bs bq).1) (hcm : cm < m1) (hlt : (lastL l bs bq).2 = term) (H0 : Hp w S O [(mb, .cells #[.I id, ce1, ce2, .int .u64 term, ce4, .int .u64 bs, .int .u64 bq, .slice av C.voters.length kv, .slice aw C.learners.length kw, ce9, .slice al l.length kl, .int .u64 cm, ce12, ce13, ce14, ce15, ce16, .slice ap pn kp, ce18, ce19, ce20, ce21, ce22, ce23, ce24, ce25, ce26, ce27, ce28, ce29, ce30, ce31] 99 (0, 0))] [⟨entS, 71, .slice al l.length kl, l⟩, ⟨peerS, 123, .slice ap pn kp, ps⟩] [Rp (Shape.slice (Shape.int .i64)) [.slice av C.voters.length kv] C.voters, Rp (Shape.slice (Shape.int .i64)) [.slice aw C.learners.length kw] C.learners] w) :
 Calls Tryz.prog 111 #[.P mb 0] w (Ret fun v w' => v = .tuple #[] ∧ Hp w S O [(mb, .cells #[.I id, ce1, ce2, .int .u64 term, ce4, .int .u64 bs, .int .u64 bq, .slice av C.voters.length kv, .slice aw C.learners.length kw, ce9, .slice al l.length kl, .int .u64 m1, ce12, ce13, ce14, ce15, ce16, .slice ap pn kp, ce18, ce19, ce20, ce21, ce22, ce23, ce24, ce25, ce26, ce27, ce28, ce29, ce30, ce31] 99 (0, 0))] [⟨entS, 71, .slice al l.length kl, l⟩, ⟨peerS, 123, .slice ap pn kp, ps⟩] [] w') := by
 refine uS1 Tryz.func111 ?_
 have H := H0
 refine uR 1 [.c [0], .c [1]] ?_
 refine qG (sq 0 6) ?_
 refine uP 3 ?_
 refine uK (conf0_spec (S := fun _ => True) (l := l) (Fc.pre (xs := [.I id, ce1, ce2, .int .u64 term, ce4, .int .u64 bs, .int .u64 bq, .slice av C.voters.length kv, .slice aw C.learners.length kw, ce9, .slice al l.length kl, .int .u64 cm, ce12, ce13, ce14, ce15, ce16, .slice ap pn kp, ce18, ce19, ce20]) (ys := [ce21, ce22, ce23, ce24, ce25, ce26, ce27, ce28, ce29, ce30, ce31]) (by simp) (H.viewM 0 rfl (by simp))) (H.view 0 rfl) (by first | assumption | (intro e he; cases he))) ?_
 rintro _ _ i rfl
 have H := H.ext i
 refine uC #[.slice none 0 0, .slice none 0 0] 28 H ?_
 intro q _ H
 refine uW 28 0 #[.slice av C.voters.length kv, .slice aw C.learners.length kw] H 0 rfl ?_
 intro j H
 refine uF 0 ?_
 refine uR 1 [.c [1, 0], .c [2]] ?_
 refine WK.draw1 9 [(0, .qui), (1, .qui), (2, .qui), (3, .qui), (4, .qui), (5, .qui), (6, .qui), (7, .chn), (8, .qui)] [(0, .qui), (1, .qui), (2, .qui), (3, .qui), (4, .qui), (5, .qui), (6, .qui), (7, .chn), (8, .qui)] Tryz_mixed (by as_aux_lemma => kernel_rfl) (by as_aux_lemma => kernel_rfl) (by as_aux_lemma => kernel_rfl) ?_
 have H := H.draw
 generalize ({ j with drawn := j.drawn + 1 } : World) = s at H ⊢
 refine uV 28 0 (H.cells 0 rfl) ?_
 refine uP 5 ?_
 refine uV 32 17 (H.cells 1 rfl) ?_
 refine qK .chn (some 18) [(8, .qui)] 130 #[.agg #[.slice av C.voters.length kv, .slice aw C.learners.length kw], .slice ap pn kp] (matched0p (S := fun _ => True) (C := C) hpn (H.view 1 rfl) (H.viewR 0 rfl) hcv hpx hpm) ?_
 rintro _ _ m ⟨rfl, hm1, _⟩
 have H := H.ext m
 refine uF 1 ?_
 refine uR 2 [.c [2, 0, 0], .c [2, 0, 1], .c [3]] ?_
 refine qG (sq 0 10) ?_
 refine uP 4 ?_
 refine qK .seq (some 24) (sq 5 10) 44 #[.P mb 0, .int .u64 m1] (term0_spec (S := fun _ => True) (l := l) (Fc.pre (xs := [.I id, ce1, ce2, .int .u64 term, ce4, .int .u64 bs, .int .u64 bq, .slice av C.voters.length kv, .slice aw C.learners.length kw, ce9, .slice al l.length kl, .int .u64 cm, ce12, ce13, ce14, ce15, ce16, .slice ap pn kp, ce18, ce19, ce20]) (ys := [ce21, ce22, ce23, ce24, ce25, ce26, ce27, ce28, ce29, ce30, ce31]) (by simp) (H.viewM 1 rfl (by simp))) (H.view 0 rfl) (by first | assumption | omega) (by first | assumption | omega) (by omega) (by omega) (by first | rfl | assumption)) ?_
 rintro _ _ d rfl
 have H := H.ext d
 refine uF 5 ?_
 refine uR 1 [.c [2, 0, 1, 0], .c [2, 0, 2], .c [3]] ?_
 refine qG (sq 0 22) ?_
 refine uP 6 ?_
 refine uV 25 11 (H.cells 1 rfl) ?_
 refine uP 2 ?_
 refine uD 35 ((m1 : Int) ≤ cm) (fun n => ?_) (fun n => ?_)
 ·
  omega
 ·
  refine uP 10 ?_
  refine uV 25 3 (H.cells 1 rfl) ?_
  refine uF 2 ?_
  refine qN ((lastL l bs bq).2) term (fun o => ?_) (fun o => ?_)
  ·
   omega
  ·
   refine uR 2 [.c [3, 0], .c [4]] ?_
   refine qG (sq 0 7) ?_
   refine uP 6 ?_
   refine uW 25 11 #[.I id, ce1, ce2, .int .u64 term, ce4, .int .u64 bs, .int .u64 bq, .slice av C.voters.length kv, .slice aw C.learners.length kw, ce9, .slice al l.length kl, .int .u64 m1, ce12, ce13, ce14, ce15, ce16, .slice ap pn kp, ce18, ce19, ce20, ce21, ce22, ce23, ce24, ce25, ce26, ce27, ce28, ce29, ce30, ce31] H 1 rfl ?_
   intro _ H
   refine uF 0 ?_
   refine uR 1 [.c [4, 0], .c [5]] ?_
   refine qG (sq 0 2) ?_
   refine qP 1 (sq 1 2) [(0, .P mb 0), (2, .P q 0), (3, .int .u64 m1), (55, .P mb 0)] ?_
   have H := H.frontM 1 rfl
   have H := H.frontW 1 rfl
   refine uKS (feed0_spec (by first | exact hall | exact hall9) (by first | rfl | omega | assumption) (by first | omega | assumption) ((H.lend (M1 := [(mb, .cells #[.I id, ce1, ce2, .int .u64 term, ce4, .int .u64 bs, .int .u64 bq, .slice av C.voters.length kv, .slice aw C.learners.length kw, ce9, .slice al l.length kl, .int .u64 m1, ce12, ce13, ce14, ce15, ce16, .slice ap pn kp, ce18, ce19, ce20, ce21, ce22, ce23, ce24, ce25, ce26, ce27, ce28, ce29, ce30, ce31] 99 (0, 0))]) (W1 := [⟨peerS, 123, .slice ap pn kp, ps⟩])).pick [] rfl)) ?_
   rintro _ _ ⟨rfl, H'⟩
   have H := H.back (M1 := [(mb, .cells #[.I id, ce1, ce2, .int .u64 term, ce4, .int .u64 bs, .int .u64 bq, .slice av C.voters.length kv, .slice aw C.learners.length kw, ce9, .slice al l.length kl, .int .u64 m1, ce12, ce13, ce14, ce15, ce16, .slice ap pn kp, ce18, ce19, ce20, ce21, ce22, ce23, ce24, ce25, ce26, ce27, ce28, ce29, ce30, ce31] 99 (0, 0))]) (W1 := [⟨peerS, 123, .slice ap pn kp, ps⟩]) H'
   have H : Hp w S O [_, _] [_, _] [_, _] _ := H
   refine uF 0 ?_
   refine uR 1 [.c [5, 0], .c [6]] ?_
   refine qG (sq 0 5) ?_
   refine uP 3 ?_
   refine uK (change0_spec (S := fun _ => True) (l := l) (Fc.pre (xs := [.I id, ce1, ce2, .int .u64 term, ce4, .int .u64 bs, .int .u64 bq, .slice av C.voters.length kv, .slice aw C.learners.length kw, ce9, .slice al l.length kl, .int .u64 m1, ce12, ce13, ce14, ce15, ce16, .slice ap pn kp, ce18, ce19, ce20]) (ys := [ce21, ce22, ce23, ce24, ce25, ce26, ce27, ce28, ce29, ce30, ce31]) (by simp) (H.viewM 0 rfl (by simp))) (H.view 1 rfl) (by first | assumption | (intro e he; cases he))) ?_
   rintro _ b f rfl
   have H := H.ext f
   refine uF 1 ?_
   refine uR 1 [.c [6, 0], .c [7]] ?_
   refine WK.draw1 33 [(0, .qui), (1, .qui), (2, .qui), (3, .qui), (4, .qui), (5, .qui), (6, .qui), (7, .chn), (8, .qui), (9, .qui), (10, .qui), (11, .qui), (12, .qui), (13, .qui), (14, .qui), (15, .qui), (16, .qui), (17, .qui), (18, .chn), (19, .qui), (20, .qui), (21, .qui), (22, .qui), (23, .qui), (24, .qui), (25, .qui), (26, .qui), (27, .qui), (28, .qui), (29, .qui), (30, .qui), (31, .qui), (32, .qui)] [(0, .qui), (1, .qui), (2, .qui), (3, .qui), (4, .qui), (5, .qui), (6, .qui), (7, .chn), (8, .qui), (9, .qui), (10, .qui), (11, .qui), (12, .qui), (13, .qui), (14, .qui), (15, .qui), (16, .qui), (17, .qui), (18, .chn), (19, .qui), (20, .qui), (21, .qui), (22, .qui), (23, .qui), (24, .qui), (25, .qui), (26, .qui), (27, .qui), (28, .qui), (29, .qui), (30, .qui), (31, .qui), (32, .qui)] Tryz_mixed (by as_aux_lemma => kernel_rfl) (by as_aux_lemma => kernel_rfl) (by as_aux_lemma => kernel_rfl) ?_
   have H := H.draw
   generalize ({ b with drawn := b.drawn + 1 } : World) = r at H ⊢
   refine uV 28 0 (H.cells 1 rfl) ?_
   refine uP 5 ?_
   refine uV 3 0 (H.cells 0 rfl) ?_
   refine uK (votes_spec (C := C) (conf_mk (H.rp 0 rfl) (H.rp 1 rfl)) id) ?_
   rintro _ _ g rfl
   have H := H.ext g
   refine uP 2 ?_
   refine uT 70 (!(decide (id ∈ C.voters))) (fun a => ?_) (fun a => ?_)
   ·
    replace a : (decide (id ∈ C.voters)) = false := by revert a; cases (decide (id ∈ C.voters)) <;> simp
    replace a := of_decide_eq_false a
    exact absurd (by rw [hcv]; exact List.mem_singleton.2 rfl) a
   ·
    replace a : (decide (id ∈ C.voters)) = true := by revert a; cases (decide (id ∈ C.voters)) <;> simp
    replace a := of_decide_eq_true a
    refine uF 23 ?_
    refine uR 2 [] ?_
    refine WK.fin (v := .tuple #[]) Tryz.func111 (by as_aux_lemma => kernel_rfl) ?_
    have H := H.frontW 1 rfl
    have H := H.take 1 2
    exact ⟨_, rfl, rfl, H.pick [] rfl⟩
end Go.Proofs.YtkjkmogipidkiaaGreat
