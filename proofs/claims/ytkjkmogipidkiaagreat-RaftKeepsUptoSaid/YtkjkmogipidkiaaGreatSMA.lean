import Derived.Test.YtkjkmogipidkiaaGreatSBxA
import Derived.Test.YtkjkmogipidkiaaGreatSM9
namespace Go.Proofs.YtkjkmogipidkiaaGreat
open Go.BX
def zeroE : Ent := ⟨0, 0, 0, ⟨0, 0, 0, .empty, 0, 0#32, 0, 0, 0, 0, false, ⟨0, 0, 0⟩, ⟨0, []⟩⟩, ⟨[], []⟩⟩
theorem zeroE_rng : EntR zeroE := by
 unfold EntR zeroE
 simp [maxLen]
theorem lastL_snoc (l : List Ent) (e : Ent) (b t : Int) : lastL (l ++ [e]) b t = (e.index, e.term) := by
 unfold lastL
 simp
theorem sortedI_one (x : Int) : sortedI [x] = [x] := by
 unfold sortedI; exact List.mergeSort_singleton ..
def peer1 (id nx : Int) : Peer := ⟨id, nx + 1, nx, false⟩
theorem know1 {C : Conf} {id nx : Int} (h : C.voters = [id]) (h2 : C.learners = []) : (sortedI [C.voters, C.learners].flatten).map (mkP nx) = [mkP nx id] := by
 rw [h, h2]
 show (sortedI [id]).map (mkP nx) = _
 rw [sortedI_one]; rfl
theorem bump_mk (id nx : Int) : [mkP nx id].map (bump1 id nx) = [peer1 id nx] := by
 show [bump1 id nx (mkP nx id)] = _
 unfold bump1 mkP peer1
 rw [if_pos rfl]
theorem one_all (id nx : Int) : ∀ p ∈ [peer1 id nx], p.id = id := fun p h => by rw [List.mem_singleton.1 h]; rfl
theorem one_ex (id nx : Int) : ∃ p ∈ [peer1 id nx], p.id = id := ⟨_, List.mem_singleton.2 rfl, rfl⟩
theorem one_mat (id nx : Int) : ∀ k (h : k < [peer1 id nx].length), [peer1 id nx][k].id = id → [peer1 id nx][k].mat = nx := fun k h _ => by
 have h0 : k = 0 := by simpa using h
 subst h0; rfl
theorem add_no {l : List Ent} {nx term : Int} (h : ∀ e ∈ l, e.kind ≠ 2) : ∀ e ∈ l ++ [addE zeroE nx term], e.kind ≠ 2 := fun e he => by
 rcases List.mem_append.1 he with he | he
 · exact h e he
 · rw [List.mem_singleton.1 he]
   show (0 : Int) ≠ 2
   decide
set_option maxHeartbeats 4000000 in
theorem lead0_spec {S : Nat → Prop} {w : World} {O : List Nat} {mb : Nat} {ce1 : Value} {ce2 : Value} {ce4 : Value} {ce9 : Value} {ce12 : Value} {ce13 : Value} {ce14 : Value} {ce15 : Value} {ce16 : Value} {ce17 : Value} {ce18 : Value} {ce19 : Value} {ce20 : Value} {ce21 : Value} {ce22 : Value} {ce24 : Value} {ce25 : Value} {ce26 : Value} {ce27 : Value} {ce28 : Value} {ce29 : Value} {ce30 : Value} {ce31 : Value} {id term bs bq cm : Int} {ds : List Ent} {ad : Option Addr} {kd : Nat} {C : Conf} {l : List Ent} {al av aw : Option Addr} {kl kv kw : Nat} (hno : ∀ e ∈ l, e.kind ≠ 2) (hsm : C.voters.length ≤ 1048576) (hcv : C.voters = [id]) (hle : C.learners = []) (hid : 1 ≤ id ∧ id ≤ 32) (hl : l.length ≤ 1000000) (hd : ds.length ≤ 1000000) (hl1 : 0 ≤ (lastL l bs bq).1 ∧ (lastL l bs bq).1 ≤ 4611686018427387000) (hl2 : 0 ≤ (lastL l bs bq).2 ∧ (lastL l bs bq).2 ≤ 18446744073709551615) (hch : (lastL l bs bq).1 = bs + (l.length : Int)) (hbs : 0 ≤ bs) (hcm : cm ≤ (lastL l bs bq).1) (hte : 0 ≤ term ∧ term ≤ 4611686018427387904) (H0 : Hp w S O [(mb, .cells #[.I id, ce1, ce2, .int .u64 term, ce4, .int .u64 bs, .int .u64 bq, .slice av C.voters.length kv, .slice aw C.learners.length kw, ce9, .slice al l.length kl, .int .u64 cm, ce12, ce13, ce14, ce15, ce16, ce17, ce18, ce19, ce20, ce21, ce22, .slice ad ds.length kd, ce24, ce25, ce26, ce27, ce28, ce29, ce30, ce31] 99 (0, 0))] [⟨entS, 71, .slice al l.length kl, l⟩, ⟨entS, 71, .slice ad ds.length kd, ds⟩] [Rp (Shape.slice (Shape.int .i64)) [.slice av C.voters.length kv] C.voters, Rp (Shape.slice (Shape.int .i64)) [.slice aw C.learners.length kw] C.learners] w) :
 Calls Tryz.prog 82 #[.P mb 0] w (Ret fun v w' => ∃ (al9 : Option Addr) (kl9 : Nat) (ap9 : Option Addr) (np9 : Nat) (kp9 : Nat) (ad9 : Option Addr) (kd9 : Nat), v = .tuple #[] ∧ Hp w S O [(mb, .cells #[.I id, ce1, ce2, .int .u64 term, ce4, .int .u64 bs, .int .u64 bq, .slice av C.voters.length kv, .slice aw C.learners.length kw, ce9, .slice al9 ((l ++ [(addE zeroE ((lastL l bs bq).1 + 1) term)]).length) kl9, .int .u64 ((lastL l bs bq).1 + 1), .I 3, .I id, .I 0, ce15, .slice none 0 0, .slice ap9 np9 kp9, ce18, ce19, ce20, ce21, ce22, .slice ad9 ((ds ++ [(addE zeroE ((lastL l bs bq).1 + 1) term)]).length) kd9, ce24, ce25, ce26, ce27, ce28, ce29, ce30, ce31] 99 (0, 0))] [⟨entS, 71, .slice al9 ((l ++ [(addE zeroE ((lastL l bs bq).1 + 1) term)]).length) kl9, (l ++ [(addE zeroE ((lastL l bs bq).1 + 1) term)])⟩, ⟨peerS, 123, .slice ap9 np9 kp9, [peer1 id ((lastL l bs bq).1 + 1)]⟩, ⟨entS, 71, .slice ad9 ((ds ++ [(addE zeroE ((lastL l bs bq).1 + 1) term)]).length) kd9, (ds ++ [(addE zeroE ((lastL l bs bq).1 + 1) term)])⟩] [] w') := by
 have j : 0 < C.voters.length := by rw [hcv]; exact Nat.one_pos
 have k := hsm
 have m : C.learners.length ≤ 1048576 := by rw [hle]; decide
 refine uS1 Tryz.func82 ?_
 have H := H0
 refine uR 1 [.c [0], .c [1]] ?_
 refine qG (sq 0 36) ?_
 refine uP 10 ?_
 refine uV 3 0 (H.cells 0 rfl) ?_
 refine uP 4 ?_
 refine uW 31 12 #[.I id, ce1, ce2, .int .u64 term, ce4, .int .u64 bs, .int .u64 bq, .slice av C.voters.length kv, .slice aw C.learners.length kw, ce9, .slice al l.length kl, .int .u64 cm, .I 3, ce13, ce14, ce15, ce16, ce17, ce18, ce19, ce20, ce21, ce22, .slice ad ds.length kd, ce24, ce25, ce26, ce27, ce28, ce29, ce30, ce31] H 0 rfl ?_
 intro _ H
 refine uP 4 ?_
 refine uW 3 13 #[.I id, ce1, ce2, .int .u64 term, ce4, .int .u64 bs, .int .u64 bq, .slice av C.voters.length kv, .slice aw C.learners.length kw, ce9, .slice al l.length kl, .int .u64 cm, .I 3, .I id, ce14, ce15, ce16, ce17, ce18, ce19, ce20, ce21, ce22, .slice ad ds.length kd, ce24, ce25, ce26, ce27, ce28, ce29, ce30, ce31] H 0 rfl ?_
 intro _ H
 refine uP 4 ?_
 refine uW 3 14 #[.I id, ce1, ce2, .int .u64 term, ce4, .int .u64 bs, .int .u64 bq, .slice av C.voters.length kv, .slice aw C.learners.length kw, ce9, .slice al l.length kl, .int .u64 cm, .I 3, .I id, .I 0, ce15, ce16, ce17, ce18, ce19, ce20, ce21, ce22, .slice ad ds.length kd, ce24, ce25, ce26, ce27, ce28, ce29, ce30, ce31] H 0 rfl ?_
 intro _ H
 refine uP 4 ?_
 refine uW 26 16 #[.I id, ce1, ce2, .int .u64 term, ce4, .int .u64 bs, .int .u64 bq, .slice av C.voters.length kv, .slice aw C.learners.length kw, ce9, .slice al l.length kl, .int .u64 cm, .I 3, .I id, .I 0, ce15, .slice none 0 0, ce17, ce18, ce19, ce20, ce21, ce22, .slice ad ds.length kd, ce24, ce25, ce26, ce27, ce28, ce29, ce30, ce31] H 0 rfl ?_
 intro _ H
 refine uP 4 ?_
 refine uW 32 17 #[.I id, ce1, ce2, .int .u64 term, ce4, .int .u64 bs, .int .u64 bq, .slice av C.voters.length kv, .slice aw C.learners.length kw, ce9, .slice al l.length kl, .int .u64 cm, .I 3, .I id, .I 0, ce15, .slice none 0 0, .slice none 0 0, ce18, ce19, ce20, ce21, ce22, .slice ad ds.length kd, ce24, ce25, ce26, ce27, ce28, ce29, ce30, ce31] H 0 rfl ?_
 intro _ H
 refine uF 0 ?_
 refine uR 1 [.c [1, 0], .c [2]] ?_
 refine qG (sq 0 9) ?_
 refine uP 3 ?_
 refine uK (last0_spec (S := fun _ => True) (l := l) (Fc.pre (xs := [.I id, ce1, ce2, .int .u64 term, ce4, .int .u64 bs, .int .u64 bq, .slice av C.voters.length kv, .slice aw C.learners.length kw, ce9, .slice al l.length kl, .int .u64 cm, .I 3, .I id, .I 0, ce15, .slice none 0 0, .slice none 0 0, ce18, ce19, ce20]) (ys := [ce21, ce22, .slice ad ds.length kd, ce24, ce25, ce26, ce27, ce28, ce29, ce30, ce31]) (by simp) (H.viewM 0 rfl (by simp))) (H.view 0 rfl)) ?_
 rintro _ _ n rfl
 have H := H.ext n
 refine qF 5 [(0, .P mb 0), (2, .int .u64 ((lastL l bs bq).1))] ?_
 refine uR 1 [.c [2, 0], .c [3]] ?_
 refine qG (sq 0 8) ?_
 refine uP 4 ?_
 refine uK (conf0_spec (S := fun _ => True) (l := l) (Fc.pre (xs := [.I id, ce1, ce2, .int .u64 term, ce4, .int .u64 bs, .int .u64 bq, .slice av C.voters.length kv, .slice aw C.learners.length kw, ce9, .slice al l.length kl, .int .u64 cm, .I 3, .I id, .I 0, ce15, .slice none 0 0, .slice none 0 0, ce18, ce19, ce20]) (ys := [ce21, ce22, .slice ad ds.length kd, ce24, ce25, ce26, ce27, ce28, ce29, ce30, ce31]) (by simp) (H.viewM 0 rfl (by simp))) (H.view 0 rfl) (by first | assumption | (intro e he; cases he))) ?_
 rintro _ _ o rfl
 have H := H.ext o
 refine uP 1 ?_
 refine RW.pv (κ := .seq) (d := some 48) (r := (sq 7 8)) (v := .int .u64 (IntKind.u64.wrap (((lastL l bs bq).1) + 1))) (v' := .int .u64 (((lastL l bs bq).1) + 1)) (by as_aux_lemma => kernel_rfl) (wr_u64 (by omega)) ?_
 refine uKS (know_spec (C := C) (nx := (((lastL l bs bq).1) + 1)) j k m (by omega) ((H.lend (M1 := [(mb, .cells #[.I id, ce1, ce2, .int .u64 term, ce4, .int .u64 bs, .int .u64 bq, .slice av C.voters.length kv, .slice aw C.learners.length kw, ce9, .slice al l.length kl, .int .u64 cm, .I 3, .I id, .I 0, ce15, .slice none 0 0, .slice none 0 0, ce18, ce19, ce20, ce21, ce22, .slice ad ds.length kd, ce24, ce25, ce26, ce27, ce28, ce29, ce30, ce31] 99 (0, 0))]) (W1 := [])).pick [0, 1] rfl)) ?_
 rintro _ _ ⟨a, b, rfl, H'⟩
 have H := H.back (M1 := [(mb, .cells #[.I id, ce1, ce2, .int .u64 term, ce4, .int .u64 bs, .int .u64 bq, .slice av C.voters.length kv, .slice aw C.learners.length kw, ce9, .slice al l.length kl, .int .u64 cm, .I 3, .I id, .I 0, ce15, .slice none 0 0, .slice none 0 0, ce18, ce19, ce20, ce21, ce22, .slice ad ds.length kd, ce24, ce25, ce26, ce27, ce28, ce29, ce30, ce31] 99 (0, 0))]) (W1 := []) H'
 have H : Hp w S O [(mb, .cells #[.I id, ce1, ce2, .int .u64 term, ce4, .int .u64 bs, .int .u64 bq, .slice av C.voters.length kv, .slice aw C.learners.length kw, ce9, .slice al l.length kl, .int .u64 cm, .I 3, .I id, .I 0, ce15, .slice none 0 0, .slice a (((sortedI [C.voters, C.learners].flatten).map (mkP (((lastL l bs bq).1) + 1))).length) b, ce18, ce19, ce20, ce21, ce22, .slice ad ds.length kd, ce24, ce25, ce26, ce27, ce28, ce29, ce30, ce31] 99 (0, 0))] [⟨peerS, 123, .slice a (((sortedI [C.voters, C.learners].flatten).map (mkP (((lastL l bs bq).1) + 1))).length) b, ((sortedI [C.voters, C.learners].flatten).map (mkP (((lastL l bs bq).1) + 1)))⟩, _, _] [_, _] _ := H
 have H := H.reW (ys := [mkP (((lastL l bs bq).1) + 1) id]) (know1 hcv hle)
 have hpk := congrArg List.length (know1 (nx := ((lastL l bs bq).1) + 1) hcv hle)
 refine uF 0 ?_
 refine uR 1 [.c [3, 0], .c [4]] ?_
 refine qG (sq 0 3) ?_
 refine uP 2 ?_
 have H := H.frontW 2 rfl
 have H := H.frontW 1 rfl
 have H := H.frontW 2 rfl
 have H := H.add (F := Rp (Shape.slice memS) [.slice (none : Option Addr) 0 0] []) Shape.slice_nil
 have H := H.add (F := Rp (Shape.slice (Shape.int .i64)) [.slice (none : Option Addr) 0 0] []) Shape.slice_nil
 refine uKS (add_spec (e := zeroE) zeroE_rng (by omega) (by omega) (by first | omega | assumption) (by first | omega | assumption) hpk (by show 1 ≤ _; decide) (by omega) (by omega) ((H.lend (M1 := [(mb, .cells #[.I id, ce1, ce2, .int .u64 term, ce4, .int .u64 bs, .int .u64 bq, .slice av C.voters.length kv, .slice aw C.learners.length kw, ce9, .slice al l.length kl, .int .u64 cm, .I 3, .I id, .I 0, ce15, .slice none 0 0, .slice a (((sortedI [C.voters, C.learners].flatten).map (mkP (((lastL l bs bq).1) + 1))).length) b, ce18, ce19, ce20, ce21, ce22, .slice ad ds.length kd, ce24, ce25, ce26, ce27, ce28, ce29, ce30, ce31] 99 (0, 0))]) (W1 := [⟨entS, 71, .slice al l.length kl, l⟩, ⟨peerS, 123, .slice a (((sortedI [C.voters, C.learners].flatten).map (mkP (((lastL l bs bq).1) + 1))).length) b, [mkP (((lastL l bs bq).1) + 1) id]⟩, ⟨entS, 71, .slice ad ds.length kd, ds⟩])).pick [1, 0, 0] rfl)) ?_
 rintro _ _ ⟨f, g, h, i, rfl, H'⟩
 have H := H.back (M1 := [(mb, .cells #[.I id, ce1, ce2, .int .u64 term, ce4, .int .u64 bs, .int .u64 bq, .slice av C.voters.length kv, .slice aw C.learners.length kw, ce9, .slice al l.length kl, .int .u64 cm, .I 3, .I id, .I 0, ce15, .slice none 0 0, .slice a (((sortedI [C.voters, C.learners].flatten).map (mkP (((lastL l bs bq).1) + 1))).length) b, ce18, ce19, ce20, ce21, ce22, .slice ad ds.length kd, ce24, ce25, ce26, ce27, ce28, ce29, ce30, ce31] 99 (0, 0))]) (W1 := [⟨entS, 71, .slice al l.length kl, l⟩, ⟨peerS, 123, .slice a (((sortedI [C.voters, C.learners].flatten).map (mkP (((lastL l bs bq).1) + 1))).length) b, [mkP (((lastL l bs bq).1) + 1) id]⟩, ⟨entS, 71, .slice ad ds.length kd, ds⟩]) H'
 have H : Hp w S O [(mb, .cells #[.I id, ce1, ce2, .int .u64 term, ce4, .int .u64 bs, .int .u64 bq, .slice av C.voters.length kv, .slice aw C.learners.length kw, ce9, .slice f ((l ++ [(addE zeroE ((lastL l bs bq).1 + 1) term)]).length) g, .int .u64 cm, .I 3, .I id, .I 0, ce15, .slice none 0 0, .slice a (((sortedI [C.voters, C.learners].flatten).map (mkP (((lastL l bs bq).1) + 1))).length) b, ce18, ce19, ce20, ce21, ce22, .slice h ((ds ++ [(addE zeroE ((lastL l bs bq).1 + 1) term)]).length) i, ce24, ce25, ce26, ce27, ce28, ce29, ce30, ce31] 99 (0, 0))] [⟨entS, 71, .slice f ((l ++ [(addE zeroE ((lastL l bs bq).1 + 1) term)]).length) g, (l ++ [(addE zeroE ((lastL l bs bq).1 + 1) term)])⟩, ⟨peerS, 123, .slice a (((sortedI [C.voters, C.learners].flatten).map (mkP (((lastL l bs bq).1) + 1))).length) b, ([mkP (((lastL l bs bq).1) + 1) id].map (bump1 id ((lastL l bs bq).1 + 1)))⟩, ⟨entS, 71, .slice h ((ds ++ [(addE zeroE ((lastL l bs bq).1 + 1) term)]).length) i, (ds ++ [(addE zeroE ((lastL l bs bq).1 + 1) term)])⟩] [_, _, _, _] _ := H
 have H := H.frontW 1 rfl
 have H := H.reW (ys := [peer1 id ((lastL l bs bq).1 + 1)]) (bump_mk id ((lastL l bs bq).1 + 1))
 refine uF 0 ?_
 refine uR 1 [.c [4, 0], .c [5]] ?_
 have H := H.pick [2, 3] rfl
 refine qG (sq 0 2) ?_
 refine uP 1 ?_
 refine uKS (feed0_spec (one_all _ _) hpk (by show 1 ≤ _; decide) ((H.lend (M1 := [(mb, .cells #[.I id, ce1, ce2, .int .u64 term, ce4, .int .u64 bs, .int .u64 bq, .slice av C.voters.length kv, .slice aw C.learners.length kw, ce9, .slice f ((l ++ [(addE zeroE ((lastL l bs bq).1 + 1) term)]).length) g, .int .u64 cm, .I 3, .I id, .I 0, ce15, .slice none 0 0, .slice a (((sortedI [C.voters, C.learners].flatten).map (mkP (((lastL l bs bq).1) + 1))).length) b, ce18, ce19, ce20, ce21, ce22, .slice h ((ds ++ [(addE zeroE ((lastL l bs bq).1 + 1) term)]).length) i, ce24, ce25, ce26, ce27, ce28, ce29, ce30, ce31] 99 (0, 0))]) (W1 := [⟨peerS, 123, .slice a (((sortedI [C.voters, C.learners].flatten).map (mkP (((lastL l bs bq).1) + 1))).length) b, [peer1 id ((lastL l bs bq).1 + 1)]⟩])).pick [] rfl)) ?_
 rintro _ _ ⟨rfl, H'⟩
 have H := H.back (M1 := [(mb, .cells #[.I id, ce1, ce2, .int .u64 term, ce4, .int .u64 bs, .int .u64 bq, .slice av C.voters.length kv, .slice aw C.learners.length kw, ce9, .slice f ((l ++ [(addE zeroE ((lastL l bs bq).1 + 1) term)]).length) g, .int .u64 cm, .I 3, .I id, .I 0, ce15, .slice none 0 0, .slice a (((sortedI [C.voters, C.learners].flatten).map (mkP (((lastL l bs bq).1) + 1))).length) b, ce18, ce19, ce20, ce21, ce22, .slice h ((ds ++ [(addE zeroE ((lastL l bs bq).1 + 1) term)]).length) i, ce24, ce25, ce26, ce27, ce28, ce29, ce30, ce31] 99 (0, 0))]) (W1 := [⟨peerS, 123, .slice a (((sortedI [C.voters, C.learners].flatten).map (mkP (((lastL l bs bq).1) + 1))).length) b, [peer1 id ((lastL l bs bq).1 + 1)]⟩]) H'
 have H : Hp w S O [_] [_, _, _] [_, _] _ := H
 refine uF 0 ?_
 refine qG (sq 0 2) ?_
 refine qP 1 (sq 1 2) [(55, .P mb 0)] ?_
 have H := H.frontW 1 rfl
 refine uKS (commit0_spec (C := C) (l := (l ++ [(addE zeroE ((lastL l bs bq).1 + 1) term)])) (m1 := ((lastL l bs bq).1 + 1)) (add_no hno) (by omega) (by rw [List.length_append]; exact Nat.succ_pos _) (by rw [lastL_snoc, List.length_append]; show ((lastL l bs bq).1 + 1) = bs + ((l.length + 1 : Nat) : Int); omega) (by omega) (by rw [lastL_snoc]; show ((lastL l bs bq).1 + 1) ≤ _; omega) (one_all _ _) hpk (by show 1 ≤ _; decide) hcv (one_ex _ _) (one_mat _ _) (by rw [lastL_snoc]; rfl) (by omega) (by rw [lastL_snoc]; rfl) ((H.lend (M1 := [(mb, .cells #[.I id, ce1, ce2, .int .u64 term, ce4, .int .u64 bs, .int .u64 bq, .slice av C.voters.length kv, .slice aw C.learners.length kw, ce9, .slice f ((l ++ [(addE zeroE ((lastL l bs bq).1 + 1) term)]).length) g, .int .u64 cm, .I 3, .I id, .I 0, ce15, .slice none 0 0, .slice a (((sortedI [C.voters, C.learners].flatten).map (mkP (((lastL l bs bq).1) + 1))).length) b, ce18, ce19, ce20, ce21, ce22, .slice h ((ds ++ [(addE zeroE ((lastL l bs bq).1 + 1) term)]).length) i, ce24, ce25, ce26, ce27, ce28, ce29, ce30, ce31] 99 (0, 0))]) (W1 := [⟨entS, 71, .slice f ((l ++ [(addE zeroE ((lastL l bs bq).1 + 1) term)]).length) g, (l ++ [(addE zeroE ((lastL l bs bq).1 + 1) term)])⟩, ⟨peerS, 123, .slice a (((sortedI [C.voters, C.learners].flatten).map (mkP (((lastL l bs bq).1) + 1))).length) b, [peer1 id ((lastL l bs bq).1 + 1)]⟩])).pick [0, 1] rfl)) ?_
 rintro _ _ ⟨rfl, H'⟩
 have H := H.back (M1 := [(mb, .cells #[.I id, ce1, ce2, .int .u64 term, ce4, .int .u64 bs, .int .u64 bq, .slice av C.voters.length kv, .slice aw C.learners.length kw, ce9, .slice f ((l ++ [(addE zeroE ((lastL l bs bq).1 + 1) term)]).length) g, .int .u64 cm, .I 3, .I id, .I 0, ce15, .slice none 0 0, .slice a (((sortedI [C.voters, C.learners].flatten).map (mkP (((lastL l bs bq).1) + 1))).length) b, ce18, ce19, ce20, ce21, ce22, .slice h ((ds ++ [(addE zeroE ((lastL l bs bq).1 + 1) term)]).length) i, ce24, ce25, ce26, ce27, ce28, ce29, ce30, ce31] 99 (0, 0))]) (W1 := [⟨entS, 71, .slice f ((l ++ [(addE zeroE ((lastL l bs bq).1 + 1) term)]).length) g, (l ++ [(addE zeroE ((lastL l bs bq).1 + 1) term)])⟩, ⟨peerS, 123, .slice a (((sortedI [C.voters, C.learners].flatten).map (mkP (((lastL l bs bq).1) + 1))).length) b, [peer1 id ((lastL l bs bq).1 + 1)]⟩]) H'
 have H : Hp w S O [(mb, .cells #[.I id, ce1, ce2, .int .u64 term, ce4, .int .u64 bs, .int .u64 bq, .slice av C.voters.length kv, .slice aw C.learners.length kw, ce9, .slice f ((l ++ [(addE zeroE ((lastL l bs bq).1 + 1) term)]).length) g, .int .u64 ((lastL l bs bq).1 + 1), .I 3, .I id, .I 0, ce15, .slice none 0 0, .slice a (((sortedI [C.voters, C.learners].flatten).map (mkP (((lastL l bs bq).1) + 1))).length) b, ce18, ce19, ce20, ce21, ce22, .slice h ((ds ++ [(addE zeroE ((lastL l bs bq).1 + 1) term)]).length) i, ce24, ce25, ce26, ce27, ce28, ce29, ce30, ce31] 99 (0, 0))] [_, _, _] [_, _] _ := H
 refine uF 0 ?_
 refine WK.fin (v := .tuple #[]) Tryz.func82 (by as_aux_lemma => kernel_rfl) ?_
 have H := H.take 1 3
 exact ⟨_, rfl, _, _, _, _, _, _, _, rfl, H.pick [] rfl⟩
end Go.Proofs.YtkjkmogipidkiaaGreat
