import Derived.Test.YtkjkmogipidkiaaGreatSBxA
import Derived.Test.YtkjkmogipidkiaaGreatSA3
namespace Go.Proofs.YtkjkmogipidkiaaGreat
open Go.BX
theorem confOf_ok : ∀ {l : List Ent} {c : Conf} {ix t m : Int}, okRow l ix t m = true → okConf c = true → okConf (confOf l c) = true
 | [], _, _, _, _, _, h => h
 | e :: r, c, ix, t, m, h, hc => by
  unfold okRow at h
  split at h
  · cases h
  · rename_i hn
    unfold confOf
    refine confOf_ok h ?_
    by_cases hk : e.kind = 2
    · rw [if_pos hk]
      exact Bool.of_not_eq_false fun q => hn (.inr (.inr (.inr ⟨hk, q⟩)))
    · rw [if_neg hk]; exact hc
theorem okR_conf {R : Raft} (h : okR R) : okConf (confOf R.log R.baseConf) = true := confOf_ok h.2.1.2.2.2.2 h.2.1.2.2.2.1
theorem againOf_ok {id el bt : Int} {K : Kept} (h : okR (mkR id el bt K)) : againOf id el bt K = (mkR id el bt K, 0) := if_pos (okB_of h)
theorem againOf_no {id el bt : Int} {K : Kept} (h : ¬ okR (mkR id el bt K)) : againOf id el bt K = (R0, 2) := if_neg (fun q => h (okB_iff.1 q))
theorem keptOf_ok {R : Raft} (h : okR R) : keptOf R = ⟨R.term, R.vote, R.base, R.baseTerm, R.baseConf, R.snap, R.log⟩ := if_pos (okB_of h)
theorem keptOf_no {R : Raft} (h : ¬ okR R) : keptOf R = K0 := if_neg (fun q => h (okB_iff.1 q))
theorem confR_ok {R : Raft} (h : okR R) : confR R = confOf R.log R.baseConf := if_pos (okB_of h)
theorem confR_no {R : Raft} (h : ¬ okR R) : confR R = ⟨[], []⟩ := if_neg (fun q => h (okB_iff.1 q))
theorem lastR_ok {R : Raft} (h : okR R) : lastR R = lastOf R := if_pos (okB_of h)
theorem lastR_no {R : Raft} (h : ¬ okR R) : lastR R = (0, 0) := if_neg (fun q => h (okB_iff.1 q))
theorem termR_ok {R : Raft} {ix : Int} (h : okR R) : termR R ix = termOf R ix := if_pos (okB_of h)
theorem termR_no {R : Raft} {ix : Int} (h : ¬ okR R) : termR R ix = (0, false) := if_neg (fun q => h (okB_iff.1 q))
theorem termOf_out {R : Raft} {ix : Int} (h : ix < R.base ∨ (lastOf R).1 < ix) : termOf R ix = (0, false) := if_pos h
theorem termOf_base {R : Raft} {ix : Int} (h : ¬ (ix < R.base ∨ (lastOf R).1 < ix)) (h2 : ix = R.base) : termOf R ix = (R.baseTerm, true) := by
 unfold termOf
 rw [if_neg h, if_pos h2]
theorem termOf_in {R : Raft} {ix : Int} (h : ¬ (ix < R.base ∨ (lastOf R).1 < ix)) (h2 : ix ≠ R.base) (hk : (ix - R.base - 1).toNat < R.log.length) : termOf R ix = (R.log[(ix - R.base - 1).toNat].term, true) := by
 unfold termOf
 rw [if_neg h, if_neg h2, List.getElem?_eq_getElem hk]
set_option maxHeartbeats 4000000 in
theorem again_spec {S : Nat → Prop} {w : World} {K : Kept} {ks : List Value} (hK : keptS.rep S w ks K) (id el bt : Int) (hid : -9223372036854775808 ≤ id ∧ id ≤ 9223372036854775807) (hel : -9223372036854775808 ≤ el ∧ el ≤ 9223372036854775807) (hbt : -9223372036854775808 ≤ bt ∧ bt ≤ 9223372036854775807) (hz1 : K.log.length ≤ 1048576) (hz2 : K.snap.length ≤ 1048576) (hz3 : K.baseConf.voters.length ≤ 1048576) (hz4 : K.baseConf.learners.length ≤ 1048576) :
 Calls Tryz.prog 17 #[.I id, .I el, .I bt, .agg ks.toArray] w (Ret fun v w' => Ext w w' ∧ ∃ (ds : List Value), v = .tuple #[.agg ds.toArray, .I (againOf id el bt K).2] ∧ raftS.rep (Nw S w) w' ds (againOf id el bt K).1) := by
 obtain ⟨_, z, A, B, D, rfl, _, _, _, _, r0, s0, a0⟩ := kept_open hK
 obtain ⟨a, b, d, e, rfl, n, o⟩ := conf_open r0
 have hlK := Shape.slice_len a0
 refine uS1 Tryz.func17 ?_
 have H := Hp.startF (.rp n (.rp o (.rp s0 (.rp a0 .nil))))
 refine uR 1 [.c [0], .c [1]] ?_
 refine qG (sq 0 3) ?_
 refine uC #[.int .u64 K.term, .I K.vote, .int .u64 K.base, .int .u64 K.baseTerm, .slice a K.baseConf.voters.length b, .slice d K.baseConf.learners.length e, .slice z K.snap.length A, .slice B K.log.length D] 82 H ?_
 intro b1 _ H
 refine uC #[.I 0, .I 0, .I 0, .int .u64 0, .I 0, .int .u64 0, .int .u64 0, .slice none 0 0, .slice none 0 0, .slice none 0 0, .slice none 0 0, .int .u64 0, .I 0, .I 0, .I 0, .I 0, .slice none 0 0, .slice none 0 0, .int .u64 0, .slice none 0 0, .I 0] 35 H ?_
 intro b3 w4 H
 refine uF 1 ?_
 refine uR 1 [.c [1, 0], .c [2]] ?_
 refine WK.joinV (α := Nat × Option Addr × Option Addr × Option Addr × Option Addr × Nat × Nat × Nat × Nat) (fun (jb, f, g, h, i, j, k, l, m) w_ => Hp w S [] [(jb, .cells #[.I id, .I el, .I bt, .int .u64 K.term, .I K.vote, .int .u64 K.base, .int .u64 K.baseTerm, .slice f K.baseConf.voters.length j, .slice g K.baseConf.learners.length k, .slice h K.snap.length l, .slice i K.log.length m, .int .u64 K.base, .I 0, .I 0, .I 0, .I el, .slice none 0 0, .slice none 0 0, .int .u64 0, .slice none 0 0, .I 0] 35 (0, 0)), (b3, .cells #[.I 0, .I 0, .I 0, .int .u64 0, .I 0, .int .u64 0, .int .u64 0, .slice none 0 0, .slice none 0 0, .slice none 0 0, .slice none 0 0, .int .u64 0, .I 0, .I 0, .I 0, .I 0, .slice none 0 0, .slice none 0 0, .int .u64 0, .slice none 0 0, .I 0] 35 (0, 0)), (b1, .cells #[.int .u64 K.term, .I K.vote, .int .u64 K.base, .int .u64 K.baseTerm, .slice a K.baseConf.voters.length b, .slice d K.baseConf.learners.length e, .slice z K.snap.length A, .slice B K.log.length D] 82 (0, 0))] [] [Rp (Shape.slice (Shape.int .i64)) [.slice f K.baseConf.voters.length j] K.baseConf.voters, Rp (Shape.slice (Shape.int .i64)) [.slice g K.baseConf.learners.length k] K.baseConf.learners, Rp SB [.slice h K.snap.length l] K.snap, Rp (Shape.slice entS) [.slice i K.log.length m] K.log, Rp (Shape.slice (Shape.int .i64)) [.slice a K.baseConf.voters.length b] K.baseConf.voters, Rp (Shape.slice (Shape.int .i64)) [.slice d K.baseConf.learners.length e] K.baseConf.learners, Rp SB [.slice z K.snap.length A] K.snap, Rp (Shape.slice entS) [.slice B K.log.length D] K.log] w_ ∧ True) (fun (jb, f, g, h, i, j, k, l, m) => [(8, .P b3 0), (10, .P jb 0)]) [Cq Tryz.prog 17 [2]] (fun E => ?_) ?_
 ·
  refine WK.drawT1 25 [true, true, true, true, true, true, true, true, true, true, true, true, true, true, true, true, true, true, true, true, true, true, true, true, true, false] (.node (qs [0, 1, 2, 3, 4, 5, 6, 7, 8, 9, 10, 11, 12, 14, 15, 17, 18, 20, 21, 22]) (.cons 13 (.node [] (.cons 16 (.node [] (.cons 19 (.leaf [(23, .qui), (24, .chn)]) (.cons 24 (.leaf [(19, .chn), (23, .qui)]) .nil))) (.cons 24 (.leaf [(16, .chn), (19, .chn), (23, .qui)]) .nil))) (.cons 24 (.leaf [(13, .chn), (16, .chn), (19, .chn), (23, .qui)]) .nil))) Tryz_mixed (by as_aux_lemma => kernel_rfl) (by as_aux_lemma => kernel_rfl) ?_
  have H := H.draw
  generalize ({ w4 with drawn := w4.drawn + 1 } : World) = w7 at H ⊢
  refine RT.node' (qs [0, 1, 2, 3, 4, 5, 6, 7, 8, 9, 10, 11, 12, 14, 15, 17, 18, 20, 21, 22]) (by as_aux_lemma => kernel_rfl) ?_
  refine uP 4 ?_
  refine uV 25 0 (H.cells 1 rfl) ?_
  refine uP 1 ?_
  refine uV 3 1 (H.cells 1 rfl) ?_
  refine uP 1 ?_
  refine uV 25 2 (H.cells 1 rfl) ?_
  refine uP 1 ?_
  refine uV 25 3 (H.cells 1 rfl) ?_
  refine uP 1 ?_
  refine uV 28 4 (H.cells 1 rfl) ?_
  refine uP 1 ?_
  refine uV 29 6 (H.cells 1 rfl) ?_
  refine uP 1 ?_
  refine uV 30 7 (H.cells 1 rfl) ?_
  refine qP 1 (qs [21, 22]) [(1, .I el), (8, .P b3 0), (12, .I id), (13, .I el), (14, .I bt), (16, .int .u64 K.term), (18, .I K.vote), (20, .int .u64 K.base), (22, .int .u64 K.baseTerm), (24, .agg #[.slice a K.baseConf.voters.length b, .slice d K.baseConf.learners.length e]), (27, .slice z K.snap.length A), (30, .slice B K.log.length D), (32, .P b1 2)] ?_
  refine uV 25 2 (H.cells 1 rfl) ?_
  refine uTF 1 ?_
  refine (RB.cons' ?_ (RB.cons' ?_ RB.nil'))
  ·
   refine RT.node' [(13, .chn)] (by as_aux_lemma => kernel_rfl) ?_
   refine uK (ccopied_spec (C := K.baseConf) (conf_mk (H.rp 0 rfl) (H.rp 1 rfl)) (by omega) (by omega)) ?_
   rintro _ _ b0 ⟨_, rfl, j0⟩
   obtain ⟨p, r, s, t, rfl, k0, m0⟩ := conf_open j0
   have H2 := H.addM b0 k0
   have H := H2.addO H b0 m0
   refine uTF 0 ?_
   refine (RB.cons' ?_ (RB.cons' ?_ RB.nil'))
   ·
    refine RT.node' [(16, .chn)] (by as_aux_lemma => kernel_rfl) ?_
    refine uK (bclone_spec (H.rp 4 rfl) (by omega)) ?_
    rintro _ _ - H'
    have H := H.back (M1 := []) (W1 := []) H'
    obtain ⟨u, x, rfl, _, _⟩ := H.ownForm 0 rfl
    have H : Hp w S [] [_, _] [⟨Sb, 5, .slice u K.snap.length x, K.snap⟩] [_, _, _, _, _, _] _ := H
    refine uTF 0 ?_
    refine (RB.cons' ?_ (RB.cons' ?_ RB.nil'))
    ·
     refine RT.leaf' [(19, .chn), (23, .qui), (24, .chn), (25, .seq)] (by as_aux_lemma => kernel_rfl) ?_
     refine uK (eclone_spec (H.rp 5 rfl) (by omega)) ?_
     rintro _ _ - H'
     have H := H.back (M1 := []) (W1 := []) H'
     obtain ⟨F, G, rfl, _, _⟩ := H.ownForm 0 rfl
     have H : Hp w S [] [_, _] [⟨entS, 71, .slice F K.log.length G, K.log⟩, _] [_, _, _, _, _, _] _ := H
     refine uP 1 ?_
     refine uC #[.I 0, .I 0, .I 0, .int .u64 0, .I 0, .int .u64 0, .int .u64 0, .slice none 0 0, .slice none 0 0, .slice none 0 0, .slice none 0 0, .int .u64 0, .I 0, .I 0, .I 0, .I 0, .slice none 0 0, .slice none 0 0, .int .u64 0, .slice none 0 0, .I 0] 35 H ?_
     intro t0 _ H
     refine uW 35 0 #[.I id, .I el, .I bt, .int .u64 K.term, .I K.vote, .int .u64 K.base, .int .u64 K.baseTerm, .slice p K.baseConf.voters.length r, .slice s K.baseConf.learners.length t, .slice u K.snap.length x, .slice F K.log.length G, .int .u64 K.base, .I 0, .I 0, .I 0, .I el, .slice none 0 0, .slice none 0 0, .int .u64 0, .slice none 0 0, .I 0] H 0 rfl ?_
     intro _ H
     refine uF 0 ?_
     have H : Hp w S [] [_, _, _] [_] [Rp SB [.slice u K.snap.length x] K.snap, _, _, _, _, _, _] _ := H.freezeW 1 rfl
     have H : Hp w S [] [_, _, _] [] [Rp (Shape.slice entS) [.slice F K.log.length G] K.log, _, _, _, _, _, _, _] _ := H.freezeW 0 rfl
     have H := H.pick [3, 2, 1, 0, 4, 5, 6, 7] rfl
     exact uB (E (t0, p, s, u, F, r, t, x, G) _ ⟨H, trivial⟩)
    ·
     refine RT.leaf' [(24, .chn), (19, .chn), (23, .qui), (25, .seq)] (by as_aux_lemma => kernel_rfl) ?_
     refine uC #[.I 0, .I 0, .I 0, .int .u64 0, .I 0, .int .u64 0, .int .u64 0, .slice none 0 0, .slice none 0 0, .slice none 0 0, .slice none 0 0, .int .u64 0, .I 0, .I 0, .I 0, .I 0, .slice none 0 0, .slice none 0 0, .int .u64 0, .slice none 0 0, .I 0] 35 H ?_
     intro c0 _ H
     refine uK (eclone_spec (H.rp 5 rfl) (by omega)) ?_
     rintro _ _ - H'
     have H := H.back (M1 := []) (W1 := []) H'
     obtain ⟨J, L, rfl, _, _⟩ := H.ownForm 0 rfl
     have H : Hp w S [] [(c0, .cells #[.I 0, .I 0, .I 0, .int .u64 0, .I 0, .int .u64 0, .int .u64 0, .slice none 0 0, .slice none 0 0, .slice none 0 0, .slice none 0 0, .int .u64 0, .I 0, .I 0, .I 0, .I 0, .slice none 0 0, .slice none 0 0, .int .u64 0, .slice none 0 0, .I 0] 35 (0, 0)), _, _] [⟨entS, 71, .slice J K.log.length L, K.log⟩, _] [_, _, _, _, _, _] _ := H
     refine uP 1 ?_
     refine uW 35 0 #[.I id, .I el, .I bt, .int .u64 K.term, .I K.vote, .int .u64 K.base, .int .u64 K.baseTerm, .slice p K.baseConf.voters.length r, .slice s K.baseConf.learners.length t, .slice u K.snap.length x, .slice J K.log.length L, .int .u64 K.base, .I 0, .I 0, .I 0, .I el, .slice none 0 0, .slice none 0 0, .int .u64 0, .slice none 0 0, .I 0] H 0 rfl ?_
     intro _ H
     refine uF 0 ?_
     have H : Hp w S [] [_, _, _] [_] [_, _, _, _, _, _, _] _ := H.freezeW 1 rfl
     have H : Hp w S [] [_, _, _] [] [Rp (Shape.slice entS) [.slice J K.log.length L] K.log, _, _, _, _, _, _, _] _ := H.freezeW 0 rfl
     have H := H.pick [3, 2, 1, 0, 4, 5, 6, 7] rfl
     exact uB (E (c0, p, s, u, J, r, t, x, L) _ ⟨H, trivial⟩)
   ·
    refine RT.leaf' [(24, .chn), (16, .chn), (19, .chn), (23, .qui), (25, .seq)] (by as_aux_lemma => kernel_rfl) ?_
    refine uC #[.I 0, .I 0, .I 0, .int .u64 0, .I 0, .int .u64 0, .int .u64 0, .slice none 0 0, .slice none 0 0, .slice none 0 0, .slice none 0 0, .int .u64 0, .I 0, .I 0, .I 0, .I 0, .slice none 0 0, .slice none 0 0, .int .u64 0, .slice none 0 0, .I 0] 35 H ?_
    intro d0 _ H
    refine uK (bclone_spec (H.rp 4 rfl) (by omega)) ?_
    rintro _ _ - H'
    have H := H.back (M1 := []) (W1 := []) H'
    obtain ⟨M, N, rfl, _, _⟩ := H.ownForm 0 rfl
    have H : Hp w S [] [(d0, .cells #[.I 0, .I 0, .I 0, .int .u64 0, .I 0, .int .u64 0, .int .u64 0, .slice none 0 0, .slice none 0 0, .slice none 0 0, .slice none 0 0, .int .u64 0, .I 0, .I 0, .I 0, .I 0, .slice none 0 0, .slice none 0 0, .int .u64 0, .slice none 0 0, .I 0] 35 (0, 0)), _, _] [⟨Sb, 5, .slice M K.snap.length N, K.snap⟩] [_, _, _, _, _, _] _ := H
    refine uK (eclone_spec (H.rp 5 rfl) (by omega)) ?_
    rintro _ _ - H'
    have H := H.back (M1 := []) (W1 := []) H'
    obtain ⟨O, Q, rfl, _, _⟩ := H.ownForm 0 rfl
    have H : Hp w S [] [_, _, _] [⟨entS, 71, .slice O K.log.length Q, K.log⟩, _] [_, _, _, _, _, _] _ := H
    refine uP 1 ?_
    refine uW 35 0 #[.I id, .I el, .I bt, .int .u64 K.term, .I K.vote, .int .u64 K.base, .int .u64 K.baseTerm, .slice p K.baseConf.voters.length r, .slice s K.baseConf.learners.length t, .slice M K.snap.length N, .slice O K.log.length Q, .int .u64 K.base, .I 0, .I 0, .I 0, .I el, .slice none 0 0, .slice none 0 0, .int .u64 0, .slice none 0 0, .I 0] H 0 rfl ?_
    intro _ H
    refine uF 0 ?_
    have H : Hp w S [] [_, _, _] [_] [Rp SB [.slice M K.snap.length N] K.snap, _, _, _, _, _, _] _ := H.freezeW 1 rfl
    have H : Hp w S [] [_, _, _] [] [Rp (Shape.slice entS) [.slice O K.log.length Q] K.log, _, _, _, _, _, _, _] _ := H.freezeW 0 rfl
    have H := H.pick [3, 2, 1, 0, 4, 5, 6, 7] rfl
    exact uB (E (d0, p, s, M, O, r, t, N, Q) _ ⟨H, trivial⟩)
  ·
   refine RT.leaf' [(24, .chn), (13, .chn), (16, .chn), (19, .chn), (23, .qui), (25, .seq)] (by as_aux_lemma => kernel_rfl) ?_
   refine uC #[.I 0, .I 0, .I 0, .int .u64 0, .I 0, .int .u64 0, .int .u64 0, .slice none 0 0, .slice none 0 0, .slice none 0 0, .slice none 0 0, .int .u64 0, .I 0, .I 0, .I 0, .I 0, .slice none 0 0, .slice none 0 0, .int .u64 0, .slice none 0 0, .I 0] 35 H ?_
   intro e0 _ H
   refine uK (ccopied_spec (C := K.baseConf) (conf_mk (H.rp 0 rfl) (H.rp 1 rfl)) (by omega) (by omega)) ?_
   rintro _ _ Y ⟨_, rfl, n0⟩
   obtain ⟨f0, g0, h0, i0, rfl, o0, p0⟩ := conf_open n0
   have H2 := H.addM Y o0
   have H := H2.addO H Y p0
   refine uK (bclone_spec (H.rp 4 rfl) (by omega)) ?_
   rintro _ _ - H'
   have H := H.back (M1 := []) (W1 := []) H'
   obtain ⟨T, U, rfl, _, _⟩ := H.ownForm 0 rfl
   have H : Hp w S [] [(e0, .cells #[.I 0, .I 0, .I 0, .int .u64 0, .I 0, .int .u64 0, .int .u64 0, .slice none 0 0, .slice none 0 0, .slice none 0 0, .slice none 0 0, .int .u64 0, .I 0, .I 0, .I 0, .I 0, .slice none 0 0, .slice none 0 0, .int .u64 0, .slice none 0 0, .I 0] 35 (0, 0)), _, _] [⟨Sb, 5, .slice T K.snap.length U, K.snap⟩] [_, _, _, _, _, _] _ := H
   refine uK (eclone_spec (H.rp 5 rfl) (by omega)) ?_
   rintro _ _ - H'
   have H := H.back (M1 := []) (W1 := []) H'
   obtain ⟨V, W, rfl, _, _⟩ := H.ownForm 0 rfl
   have H : Hp w S [] [_, _, _] [⟨entS, 71, .slice V K.log.length W, K.log⟩, _] [_, _, _, _, _, _] _ := H
   refine uP 1 ?_
   refine uW 35 0 #[.I id, .I el, .I bt, .int .u64 K.term, .I K.vote, .int .u64 K.base, .int .u64 K.baseTerm, .slice f0 K.baseConf.voters.length g0, .slice h0 K.baseConf.learners.length i0, .slice T K.snap.length U, .slice V K.log.length W, .int .u64 K.base, .I 0, .I 0, .I 0, .I el, .slice none 0 0, .slice none 0 0, .int .u64 0, .slice none 0 0, .I 0] H 0 rfl ?_
   intro _ H
   refine uF 0 ?_
   have H : Hp w S [] [_, _, _] [_] [Rp SB [.slice T K.snap.length U] K.snap, _, _, _, _, _, _] _ := H.freezeW 1 rfl
   have H : Hp w S [] [_, _, _] [] [Rp (Shape.slice entS) [.slice V K.log.length W] K.log, _, _, _, _, _, _, _] _ := H.freezeW 0 rfl
   have H := H.pick [3, 2, 1, 0, 4, 5, 6, 7] rfl
   exact uB (E (e0, f0, h0, T, V, g0, i0, U, W) _ ⟨H, trivial⟩)
 ·
  rintro ⟨jb, f, g, h, i, j, k, l, m⟩ _ ⟨H, hjT⟩
  refine uR 2 [.c [2, 0, 0], .c [2, 0, 1], .c [3]] ?_
  refine qG (sq 0 3) ?_
  refine uV 35 0 (H.cells 0 rfl) ?_
  refine uK (rcheck_spec (R := ⟨id, el, bt, K.term, K.vote, K.base, K.baseTerm, K.baseConf, K.snap, K.log, K.base, 0, 0, 0, el, [], [], 0, [], 0⟩) (raft_mk (l0 := [.I id]) (y0 := id) (l1 := [.I el]) (y1 := el) (l2 := [.I bt]) (y2 := bt) (l3 := [.int .u64 K.term]) (y3 := K.term) (l4 := [.I K.vote]) (y4 := K.vote) (l5 := [.int .u64 K.base]) (y5 := K.base) (l6 := [.int .u64 K.baseTerm]) (y6 := K.baseTerm) (l7 := [.slice f K.baseConf.voters.length j, .slice g K.baseConf.learners.length k]) (y7 := K.baseConf) (l8 := [.slice h K.snap.length l]) (y8 := K.snap) (l9 := [.slice i K.log.length m]) (y9 := K.log) (l10 := [.int .u64 K.base]) (y10 := K.base) (l11 := [.I 0]) (y11 := 0) (l12 := [.I 0]) (y12 := 0) (l13 := [.I 0]) (y13 := 0) (l14 := [.I el]) (y14 := el) (l15 := [.slice none 0 0]) (y15 := []) (l16 := [.slice none 0 0]) (y16 := []) (l17 := [.int .u64 0]) (y17 := 0) (l18 := [.slice none 0 0]) (y18 := []) (l19 := [.I 0]) (y19 := 0) i64a i64a i64a u64a i64a u64a u64a (conf_mk (H.rp 0 rfl) (H.rp 1 rfl)) (H.rp 2 rfl) (H.rp 3 rfl) u64a (Shape.int_mk (by decide)) (Shape.int_mk (by decide)) (Shape.int_mk (by decide)) i64a Shape.slice_nil Shape.slice_nil (Shape.int_mk (by decide)) Shape.slice_nil (Shape.int_mk (by decide)))) ?_
  rintro _ _ q0 ⟨y, rfl, Z, X⟩
  have H := H.ext q0
  refine uF 1 ?_
  refine uR 2 [.c [2, 0, 2], .c [3]] ?_
  refine qN y 0 (fun u0 => ?_) (fun u0 => ?_)
  ·
   refine uR 1 [.c [2, 0, 2, 0, 0], .c [2, 0, 2, 0, 1], .c [3]] ?_
   refine qG (sq 0 4) ?_
   refine uP 2 ?_
   refine uW 35 0 #[.I 0, .I 0, .I 0, .int .u64 0, .I 0, .int .u64 0, .int .u64 0, .slice none 0 0, .slice none 0 0, .slice none 0 0, .slice none 0 0, .int .u64 0, .I 0, .I 0, .I 0, .I 0, .slice none 0 0, .slice none 0 0, .int .u64 0, .slice none 0 0, .I 0] H 1 rfl ?_
   intro _ H
   refine uF 1 ?_
   refine qRB (.tuple #[.agg #[.I 0, .I 0, .I 0, .int .u64 0, .I 0, .int .u64 0, .int .u64 0, .slice none 0 0, .slice none 0 0, .slice none 0 0, .slice none 0 0, .int .u64 0, .I 0, .I 0, .I 0, .I 0, .slice none 0 0, .slice none 0 0, .int .u64 0, .slice none 0 0, .I 0], .I y]) Tryz.func17 (v2 (.cell 8 35) (.tmp 9) (vC (H.cells 1 rfl)) vT) ?_
   obtain rfl : y = 2 := Z.resolve_left (by assumption)
   rw [againOf_no (fun q => absurd (X.2 q) (by decide))]
   exact ⟨_, rfl, H.done, [.I 0, .I 0, .I 0, .int .u64 0, .I 0, .int .u64 0, .int .u64 0, .slice none 0 0, .slice none 0 0, .slice none 0 0, .slice none 0 0, .int .u64 0, .I 0, .I 0, .I 0, .I 0, .slice none 0 0, .slice none 0 0, .int .u64 0, .slice none 0 0, .I 0], rfl, H.out (raft_mk (l0 := [.I 0]) (y0 := 0) (l1 := [.I 0]) (y1 := 0) (l2 := [.I 0]) (y2 := 0) (l3 := [.int .u64 0]) (y3 := 0) (l4 := [.I 0]) (y4 := 0) (l5 := [.int .u64 0]) (y5 := 0) (l6 := [.int .u64 0]) (y6 := 0) (l7 := [.slice none 0 0, .slice none 0 0]) (y7 := ⟨[], []⟩) (l8 := [.slice none 0 0]) (y8 := []) (l9 := [.slice none 0 0]) (y9 := []) (l10 := [.int .u64 0]) (y10 := 0) (l11 := [.I 0]) (y11 := 0) (l12 := [.I 0]) (y12 := 0) (l13 := [.I 0]) (y13 := 0) (l14 := [.I 0]) (y14 := 0) (l15 := [.slice none 0 0]) (y15 := []) (l16 := [.slice none 0 0]) (y16 := []) (l17 := [.int .u64 0]) (y17 := 0) (l18 := [.slice none 0 0]) (y18 := []) (l19 := [.I 0]) (y19 := 0) (Shape.int_mk (by decide)) (Shape.int_mk (by decide)) (Shape.int_mk (by decide)) (Shape.int_mk (by decide)) (Shape.int_mk (by decide)) (Shape.int_mk (by decide)) (Shape.int_mk (by decide)) (conf_mk Shape.slice_nil Shape.slice_nil) Shape.slice_nil Shape.slice_nil (Shape.int_mk (by decide)) (Shape.int_mk (by decide)) (Shape.int_mk (by decide)) (Shape.int_mk (by decide)) (Shape.int_mk (by decide)) Shape.slice_nil Shape.slice_nil (Shape.int_mk (by decide)) Shape.slice_nil (Shape.int_mk (by decide)))⟩
  ·
   refine uR 2 [.c [3, 0], .c [4]] ?_
   refine qG (sq 0 3) ?_
   refine uV 35 0 (H.cells 0 rfl) ?_
   refine uW 35 0 #[.I id, .I el, .I bt, .int .u64 K.term, .I K.vote, .int .u64 K.base, .int .u64 K.baseTerm, .slice f K.baseConf.voters.length j, .slice g K.baseConf.learners.length k, .slice h K.snap.length l, .slice i K.log.length m, .int .u64 K.base, .I 0, .I 0, .I 0, .I el, .slice none 0 0, .slice none 0 0, .int .u64 0, .slice none 0 0, .I 0] H 1 rfl ?_
   intro _ H
   refine uF 1 ?_
   refine qRB (.tuple #[.agg #[.I id, .I el, .I bt, .int .u64 K.term, .I K.vote, .int .u64 K.base, .int .u64 K.baseTerm, .slice f K.baseConf.voters.length j, .slice g K.baseConf.learners.length k, .slice h K.snap.length l, .slice i K.log.length m, .int .u64 K.base, .I 0, .I 0, .I 0, .I el, .slice none 0 0, .slice none 0 0, .int .u64 0, .slice none 0 0, .I 0], .I 0]) Tryz.func17 (v2 (.cell 8 35) (.tmp 9) (vC (H.cells 1 rfl)) vT) ?_
   rw [againOf_ok (X.1 (by first | assumption | omega))]
   exact ⟨_, rfl, H.done, [.I id, .I el, .I bt, .int .u64 K.term, .I K.vote, .int .u64 K.base, .int .u64 K.baseTerm, .slice f K.baseConf.voters.length j, .slice g K.baseConf.learners.length k, .slice h K.snap.length l, .slice i K.log.length m, .int .u64 K.base, .I 0, .I 0, .I 0, .I el, .slice none 0 0, .slice none 0 0, .int .u64 0, .slice none 0 0, .I 0], rfl, H.out (raft_mk (l0 := [.I id]) (y0 := id) (l1 := [.I el]) (y1 := el) (l2 := [.I bt]) (y2 := bt) (l3 := [.int .u64 K.term]) (y3 := K.term) (l4 := [.I K.vote]) (y4 := K.vote) (l5 := [.int .u64 K.base]) (y5 := K.base) (l6 := [.int .u64 K.baseTerm]) (y6 := K.baseTerm) (l7 := [.slice f K.baseConf.voters.length j, .slice g K.baseConf.learners.length k]) (y7 := K.baseConf) (l8 := [.slice h K.snap.length l]) (y8 := K.snap) (l9 := [.slice i K.log.length m]) (y9 := K.log) (l10 := [.int .u64 K.base]) (y10 := K.base) (l11 := [.I 0]) (y11 := 0) (l12 := [.I 0]) (y12 := 0) (l13 := [.I 0]) (y13 := 0) (l14 := [.I el]) (y14 := el) (l15 := [.slice none 0 0]) (y15 := []) (l16 := [.slice none 0 0]) (y16 := []) (l17 := [.int .u64 0]) (y17 := 0) (l18 := [.slice none 0 0]) (y18 := []) (l19 := [.I 0]) (y19 := 0) i64a i64a i64a u64a i64a u64a u64a (conf_mk (H.rp 0 rfl) (H.rp 1 rfl)) (H.rp 2 rfl) (H.rp 3 rfl) u64a (Shape.int_mk (by decide)) (Shape.int_mk (by decide)) (Shape.int_mk (by decide)) i64a Shape.slice_nil Shape.slice_nil (Shape.int_mk (by decide)) Shape.slice_nil (Shape.int_mk (by decide)))⟩
set_option maxHeartbeats 4000000 in
theorem refagain_spec {S : Nat → Prop} {w : World} {K : Kept} {ks : List Value} (hK : keptS.rep S w ks K) (id el bt : Int) (hid : -9223372036854775808 ≤ id ∧ id ≤ 9223372036854775807) (hel : -9223372036854775808 ≤ el ∧ el ≤ 9223372036854775807) (hbt : -9223372036854775808 ≤ bt ∧ bt ≤ 9223372036854775807) (hz1 : K.log.length ≤ 1048576) (hz2 : K.snap.length ≤ 1048576) (hz3 : K.baseConf.voters.length ≤ 1048576) (hz4 : K.baseConf.learners.length ≤ 1048576) :
 Calls Tryz.prog 18 #[.I id, .I el, .I bt, .agg ks.toArray] w (Ret fun v w' => Ext w w' ∧ ∃ (ds : List Value), v = .tuple #[.agg ds.toArray, .I (againOf id el bt K).2] ∧ raftS.rep (Nw S w) w' ds (againOf id el bt K).1) := by
 obtain ⟨_, h, i, a, f, rfl, _, _, _, _, p7, q7, P5⟩ := kept_open hK
 obtain ⟨y, z, A, B, rfl, v0, w0⟩ := conf_open p7
 have hlK := Shape.slice_len P5
 refine uS1 Tryz.func18 ?_
 have H := Hp.startF (.rp v0 (.rp w0 (.rp q7 (.rp P5 .nil))))
 refine uR 1 [.c [0], .c [1]] ?_
 refine qG (sq 0 3) ?_
 refine uC #[.int .u64 K.term, .I K.vote, .int .u64 K.base, .int .u64 K.baseTerm, .slice y K.baseConf.voters.length z, .slice A K.baseConf.learners.length B, .slice h K.snap.length i, .slice a K.log.length f] 82 H ?_
 intro b1 _ H
 refine uC #[.I 0, .I 0, .I 0, .int .u64 0, .I 0, .int .u64 0, .int .u64 0, .slice none 0 0, .slice none 0 0, .slice none 0 0, .slice none 0 0, .int .u64 0, .I 0, .I 0, .I 0, .I 0, .slice none 0 0, .slice none 0 0, .int .u64 0, .slice none 0 0, .I 0] 35 H ?_
 intro b3 w4 H
 refine uF 1 ?_
 refine uR 1 [.c [1, 0], .c [2]] ?_
 refine WK.joinV (α := Nat × Option Addr × Option Addr × Option Addr × Option Addr × Nat × Nat × Nat × Nat) (fun (jb, V, W, X, Y, Z, b0, c0, d0) w_ => Hp w S [] [(jb, .cells #[.I id, .I el, .I bt, .int .u64 K.term, .I K.vote, .int .u64 K.base, .int .u64 K.baseTerm, .slice V K.baseConf.voters.length Z, .slice W K.baseConf.learners.length b0, .slice X K.snap.length c0, .slice Y K.log.length d0, .int .u64 K.base, .I 0, .I 0, .I 0, .I el, .slice none 0 0, .slice none 0 0, .int .u64 0, .slice none 0 0, .I 0] 35 (0, 0)), (b3, .cells #[.I 0, .I 0, .I 0, .int .u64 0, .I 0, .int .u64 0, .int .u64 0, .slice none 0 0, .slice none 0 0, .slice none 0 0, .slice none 0 0, .int .u64 0, .I 0, .I 0, .I 0, .I 0, .slice none 0 0, .slice none 0 0, .int .u64 0, .slice none 0 0, .I 0] 35 (0, 0)), (b1, .cells #[.int .u64 K.term, .I K.vote, .int .u64 K.base, .int .u64 K.baseTerm, .slice y K.baseConf.voters.length z, .slice A K.baseConf.learners.length B, .slice h K.snap.length i, .slice a K.log.length f] 82 (0, 0))] [] [Rp (Shape.slice (Shape.int .i64)) [.slice V K.baseConf.voters.length Z] K.baseConf.voters, Rp (Shape.slice (Shape.int .i64)) [.slice W K.baseConf.learners.length b0] K.baseConf.learners, Rp SB [.slice X K.snap.length c0] K.snap, Rp (Shape.slice entS) [.slice Y K.log.length d0] K.log, Rp (Shape.slice (Shape.int .i64)) [.slice y K.baseConf.voters.length z] K.baseConf.voters, Rp (Shape.slice (Shape.int .i64)) [.slice A K.baseConf.learners.length B] K.baseConf.learners, Rp SB [.slice h K.snap.length i] K.snap, Rp (Shape.slice entS) [.slice a K.log.length f] K.log] w_ ∧ True) (fun (jb, V, W, X, Y, Z, b0, c0, d0) => [(8, .P b3 0), (10, .P jb 0)]) [Cq Tryz.prog 18 [2]] (fun g => ?_) ?_
 ·
  refine WK.drawT1 27 [true, true, true, true, true, true, true, true, true, true, true, true, true, true, true, true, true, true, true, true, true, true, true, true, true, true, true, false] (.node (qs [0, 1, 2, 3, 4, 5, 6, 7, 8, 9, 10, 11, 12, 15, 16, 19, 20, 22, 23, 24]) (.cons 13 (.node [] (.cons 14 (.node [] (.cons 17 (.node [] (.cons 18 (.node [] (.cons 21 (.leaf [(25, .qui), (26, .chn)]) (.cons 26 (.leaf [(21, .chn), (25, .qui)]) .nil))) (.cons 26 (.leaf [(18, .chn), (21, .chn), (25, .qui)]) .nil))) (.cons 18 (.node [] (.cons 17 (.node [] (.cons 21 (.leaf [(25, .qui), (26, .chn)]) (.cons 26 (.leaf [(21, .chn), (25, .qui)]) .nil))) (.cons 26 (.leaf [(17, .chn), (21, .chn), (25, .qui)]) .nil))) (.cons 26 (.node [] (.cons 17 (.leaf [(18, .chn), (21, .chn), (25, .qui)]) (.cons 18 (.leaf [(17, .chn), (21, .chn), (25, .qui)]) .nil))) .nil)))) (.cons 18 (.node [] (.cons 14 (.node [] (.cons 17 (.node [] (.cons 21 (.leaf [(25, .qui), (26, .chn)]) (.cons 26 (.leaf [(21, .chn), (25, .qui)]) .nil))) (.cons 26 (.leaf [(17, .chn), (21, .chn), (25, .qui)]) .nil))) (.cons 26 (.leaf [(14, .chn), (17, .chn), (21, .chn), (25, .qui)]) .nil))) (.cons 26 (.node [] (.cons 14 (.node [] (.cons 17 (.leaf [(18, .chn), (21, .chn), (25, .qui)]) (.cons 18 (.leaf [(17, .chn), (21, .chn), (25, .qui)]) .nil))) (.cons 18 (.leaf [(14, .chn), (17, .chn), (21, .chn), (25, .qui)]) .nil))) .nil)))) (.cons 14 (.node [] (.cons 13 (.node [] (.cons 17 (.node [] (.cons 18 (.node [] (.cons 21 (.leaf [(25, .qui), (26, .chn)]) (.cons 26 (.leaf [(21, .chn), (25, .qui)]) .nil))) (.cons 26 (.leaf [(18, .chn), (21, .chn), (25, .qui)]) .nil))) (.cons 18 (.node [] (.cons 17 (.node [] (.cons 21 (.leaf [(25, .qui), (26, .chn)]) (.cons 26 (.leaf [(21, .chn), (25, .qui)]) .nil))) (.cons 26 (.leaf [(17, .chn), (21, .chn), (25, .qui)]) .nil))) (.cons 26 (.node [] (.cons 17 (.leaf [(18, .chn), (21, .chn), (25, .qui)]) (.cons 18 (.leaf [(17, .chn), (21, .chn), (25, .qui)]) .nil))) .nil)))) (.cons 18 (.node [] (.cons 13 (.node [] (.cons 17 (.node [] (.cons 21 (.leaf [(25, .qui), (26, .chn)]) (.cons 26 (.leaf [(21, .chn), (25, .qui)]) .nil))) (.cons 26 (.leaf [(17, .chn), (21, .chn), (25, .qui)]) .nil))) (.cons 26 (.leaf [(13, .chn), (17, .chn), (21, .chn), (25, .qui)]) .nil))) (.cons 26 (.node [] (.cons 13 (.node [] (.cons 17 (.leaf [(18, .chn), (21, .chn), (25, .qui)]) (.cons 18 (.leaf [(17, .chn), (21, .chn), (25, .qui)]) .nil))) (.cons 18 (.leaf [(13, .chn), (17, .chn), (21, .chn), (25, .qui)]) .nil))) .nil)))) (.cons 18 (.node [] (.cons 13 (.node [] (.cons 14 (.node [] (.cons 17 (.node [] (.cons 21 (.leaf [(25, .qui), (26, .chn)]) (.cons 26 (.leaf [(21, .chn), (25, .qui)]) .nil))) (.cons 26 (.leaf [(17, .chn), (21, .chn), (25, .qui)]) .nil))) (.cons 26 (.leaf [(14, .chn), (17, .chn), (21, .chn), (25, .qui)]) .nil))) (.cons 14 (.node [] (.cons 13 (.node [] (.cons 17 (.node [] (.cons 21 (.leaf [(25, .qui), (26, .chn)]) (.cons 26 (.leaf [(21, .chn), (25, .qui)]) .nil))) (.cons 26 (.leaf [(17, .chn), (21, .chn), (25, .qui)]) .nil))) (.cons 26 (.leaf [(13, .chn), (17, .chn), (21, .chn), (25, .qui)]) .nil))) (.cons 26 (.node [] (.cons 13 (.leaf [(14, .chn), (17, .chn), (21, .chn), (25, .qui)]) (.cons 14 (.leaf [(13, .chn), (17, .chn), (21, .chn), (25, .qui)]) .nil))) .nil)))) (.cons 26 (.node [] (.cons 13 (.node [] (.cons 14 (.node [] (.cons 17 (.leaf [(18, .chn), (21, .chn), (25, .qui)]) (.cons 18 (.leaf [(17, .chn), (21, .chn), (25, .qui)]) .nil))) (.cons 18 (.leaf [(14, .chn), (17, .chn), (21, .chn), (25, .qui)]) .nil))) (.cons 14 (.node [] (.cons 13 (.node [] (.cons 17 (.leaf [(18, .chn), (21, .chn), (25, .qui)]) (.cons 18 (.leaf [(17, .chn), (21, .chn), (25, .qui)]) .nil))) (.cons 18 (.leaf [(13, .chn), (17, .chn), (21, .chn), (25, .qui)]) .nil))) (.cons 18 (.node [] (.cons 13 (.leaf [(14, .chn), (17, .chn), (21, .chn), (25, .qui)]) (.cons 14 (.leaf [(13, .chn), (17, .chn), (21, .chn), (25, .qui)]) .nil))) .nil)))) .nil))))) Tryz_mixed (by as_aux_lemma => kernel_rfl) (by as_aux_lemma => kernel_rfl) ?_
  have H := H.draw
  generalize ({ w4 with drawn := w4.drawn + 1 } : World) = w7 at H ⊢
  refine RT.node' (qs [0, 1, 2, 3, 4, 5, 6, 7, 8, 9, 10, 11, 12, 15, 16, 19, 20, 22, 23, 24]) (by as_aux_lemma => kernel_rfl) ?_
  refine uP 4 ?_
  refine uV 25 0 (H.cells 1 rfl) ?_
  refine uP 1 ?_
  refine uV 3 1 (H.cells 1 rfl) ?_
  refine uP 1 ?_
  refine uV 25 2 (H.cells 1 rfl) ?_
  refine uP 1 ?_
  refine uV 25 3 (H.cells 1 rfl) ?_
  refine uP 1 ?_
  refine uV 28 4 (H.cells 1 rfl) ?_
  refine uP 1 ?_
  refine uV 29 6 (H.cells 1 rfl) ?_
  refine uP 1 ?_
  refine uV 30 7 (H.cells 1 rfl) ?_
  refine qP 1 (qs [23, 24]) [(1, .I el), (8, .P b3 0), (11, .I id), (12, .I el), (13, .I bt), (15, .int .u64 K.term), (17, .I K.vote), (19, .int .u64 K.base), (21, .int .u64 K.baseTerm), (23, .agg #[.slice y K.baseConf.voters.length z, .slice A K.baseConf.learners.length B]), (27, .slice h K.snap.length i), (31, .slice a K.log.length f), (33, .P b1 2)] ?_
  refine uV 25 2 (H.cells 1 rfl) ?_
  refine uTF 1 ?_
  refine (RB.cons' ?_ (RB.cons' ?_ (RB.cons' ?_ (RB.cons' ?_ RB.nil'))))
  ·
   refine RT.node' [(13, .chn)] (by as_aux_lemma => kernel_rfl) ?_
   refine uK (refcopy_spec (C := K.baseConf) (conf_mk (H.rp 0 rfl) (H.rp 1 rfl)) (by omega) (by omega)) ?_
   rintro _ _ Q5 ⟨_, rfl, t6⟩
   obtain ⟨j, k, l, n, rfl, u6, v6⟩ := conf_open t6
   have x := H.addM Q5 u6
   have H := x.addO H Q5 v6
   refine uTF 0 ?_
   refine (RB.cons' ?_ (RB.cons' ?_ (RB.cons' ?_ RB.nil')))
   ·
    refine RT.node' [(14, .chn)] (by as_aux_lemma => kernel_rfl) ?_
    refine RW.new (κ := .chn) (d := some 25) (r := []) (o := .cells #[] 5 (0, 0)) (v := fun b => .slice (some ⟨b, 0, none⟩) 0 0) (fun b => by as_aux_lemma => kernel_rfl) (nofun) H ?_
    intro M0 _ H
    refine uTF 0 ?_
    refine (RB.cons' ?_ (RB.cons' ?_ (RB.cons' ?_ RB.nil')))
    ·
     refine RT.node' [(17, .chn)] (by as_aux_lemma => kernel_rfl) ?_
     refine RW.appendN (κ := .chn) (d := some 28) (r := []) (T := 29) (ty := 29) (e := 5) (m := 1) (by_ := 1) (a0 := (some ⟨M0, 0, none⟩)) (a2 := h) (l2 := K.snap.length) (c2 := i) (by as_aux_lemma => kernel_rfl) (nofun) (.inr ⟨_, rfl⟩) (by as_aux_lemma => kernel_rfl) rfl H 4 rfl (by omega) ?_
     intro x0 z0 _ H
     refine uTF 0 ?_
     refine (RB.cons' ?_ (RB.cons' ?_ RB.nil'))
     ·
      refine RT.node' [(18, .chn)] (by as_aux_lemma => kernel_rfl) ?_
      refine RW.new (κ := .chn) (d := some 29) (r := []) (o := .cells #[] 71 (0, 0)) (v := fun b => .slice (some ⟨b, 0, none⟩) 0 0) (fun b => by as_aux_lemma => kernel_rfl) (nofun) H ?_
      intro R5 _ H
      refine uTF 0 ?_
      refine (RB.cons' ?_ (RB.cons' ?_ RB.nil'))
      ·
       refine RT.leaf' [(21, .chn), (25, .qui), (26, .chn), (27, .seq)] (by as_aux_lemma => kernel_rfl) ?_
       refine RW.appendN (κ := .chn) (d := some 32) (r := [(25, .qui), (26, .chn), (27, .seq)]) (T := 30) (ty := 30) (e := 71) (m := 21) (by_ := 224) (a0 := (some ⟨R5, 0, none⟩)) (a2 := a) (l2 := K.log.length) (c2 := f) (by as_aux_lemma => kernel_rfl) (nofun) (.inr ⟨_, rfl⟩) (by as_aux_lemma => kernel_rfl) rfl H 6 rfl (by omega) ?_
       intro S5 T5 _ H
       refine uP 1 ?_
       refine uC #[.I 0, .I 0, .I 0, .int .u64 0, .I 0, .int .u64 0, .int .u64 0, .slice none 0 0, .slice none 0 0, .slice none 0 0, .slice none 0 0, .int .u64 0, .I 0, .I 0, .I 0, .I 0, .slice none 0 0, .slice none 0 0, .int .u64 0, .slice none 0 0, .I 0] 35 H ?_
       intro r7 _ H
       refine uW 35 0 #[.I id, .I el, .I bt, .int .u64 K.term, .I K.vote, .int .u64 K.base, .int .u64 K.baseTerm, .slice j K.baseConf.voters.length k, .slice l K.baseConf.learners.length n, .slice x0 K.snap.length z0, .slice S5 K.log.length T5, .int .u64 K.base, .I 0, .I 0, .I 0, .I el, .slice none 0 0, .slice none 0 0, .int .u64 0, .slice none 0 0, .I 0] H 0 rfl ?_
       intro _ H
       refine uF 0 ?_
       have H := H.pick [3, 2, 1, 0, 4, 5, 6, 7] rfl
       have H := H.frontM 4 rfl
       have H := H.frontM 4 rfl
       have H := H.frontM 2 rfl
       have H := H.take 3 0
       exact uB (g (r7, j, l, x0, S5, k, n, z0, T5) _ ⟨H, trivial⟩)
      ·
       refine RT.leaf' [(26, .chn), (21, .chn), (25, .qui), (27, .seq)] (by as_aux_lemma => kernel_rfl) ?_
       refine uC #[.I 0, .I 0, .I 0, .int .u64 0, .I 0, .int .u64 0, .int .u64 0, .slice none 0 0, .slice none 0 0, .slice none 0 0, .slice none 0 0, .int .u64 0, .I 0, .I 0, .I 0, .I 0, .slice none 0 0, .slice none 0 0, .int .u64 0, .slice none 0 0, .I 0] 35 H ?_
       intro s7 _ H
       refine RW.appendN (κ := .chn) (d := some 32) (r := [(25, .qui), (27, .seq)]) (T := 30) (ty := 30) (e := 71) (m := 21) (by_ := 224) (a0 := (some ⟨R5, 0, none⟩)) (a2 := a) (l2 := K.log.length) (c2 := f) (by as_aux_lemma => kernel_rfl) (nofun) (.inr ⟨_, rfl⟩) (by as_aux_lemma => kernel_rfl) rfl H 6 rfl (by omega) ?_
       intro U5 V5 _ H
       refine uP 1 ?_
       refine uW 35 0 #[.I id, .I el, .I bt, .int .u64 K.term, .I K.vote, .int .u64 K.base, .int .u64 K.baseTerm, .slice j K.baseConf.voters.length k, .slice l K.baseConf.learners.length n, .slice x0 K.snap.length z0, .slice U5 K.log.length V5, .int .u64 K.base, .I 0, .I 0, .I 0, .I el, .slice none 0 0, .slice none 0 0, .int .u64 0, .slice none 0 0, .I 0] H 0 rfl ?_
       intro _ H
       refine uF 0 ?_
       have H := H.pick [3, 2, 1, 0, 4, 5, 6, 7] rfl
       have H := H.frontM 4 rfl
       have H := H.frontM 4 rfl
       have H := H.frontM 2 rfl
       have H := H.take 3 0
       exact uB (g (s7, j, l, x0, U5, k, n, z0, V5) _ ⟨H, trivial⟩)
     ·
      refine RT.leaf' [(26, .chn), (18, .chn), (21, .chn), (25, .qui), (27, .seq)] (by as_aux_lemma => kernel_rfl) ?_
      refine uC #[.I 0, .I 0, .I 0, .int .u64 0, .I 0, .int .u64 0, .int .u64 0, .slice none 0 0, .slice none 0 0, .slice none 0 0, .slice none 0 0, .int .u64 0, .I 0, .I 0, .I 0, .I 0, .slice none 0 0, .slice none 0 0, .int .u64 0, .slice none 0 0, .I 0] 35 H ?_
      intro t7 _ H
      refine RW.new (κ := .chn) (d := some 29) (r := [(21, .chn), (25, .qui), (27, .seq)]) (o := .cells #[] 71 (0, 0)) (v := fun b => .slice (some ⟨b, 0, none⟩) 0 0) (fun b => by as_aux_lemma => kernel_rfl) (nofun) H ?_
      intro u7 _ H
      refine RW.appendN (κ := .chn) (d := some 32) (r := [(25, .qui), (27, .seq)]) (T := 30) (ty := 30) (e := 71) (m := 21) (by_ := 224) (a0 := (some ⟨u7, 0, none⟩)) (a2 := a) (l2 := K.log.length) (c2 := f) (by as_aux_lemma => kernel_rfl) (nofun) (.inr ⟨_, rfl⟩) (by as_aux_lemma => kernel_rfl) rfl H 6 rfl (by omega) ?_
      intro W5 X5 _ H
      refine uP 1 ?_
      refine uW 35 0 #[.I id, .I el, .I bt, .int .u64 K.term, .I K.vote, .int .u64 K.base, .int .u64 K.baseTerm, .slice j K.baseConf.voters.length k, .slice l K.baseConf.learners.length n, .slice x0 K.snap.length z0, .slice W5 K.log.length X5, .int .u64 K.base, .I 0, .I 0, .I 0, .I el, .slice none 0 0, .slice none 0 0, .int .u64 0, .slice none 0 0, .I 0] H 1 rfl ?_
      intro _ H
      refine uF 0 ?_
      have H := H.pick [3, 2, 1, 0, 4, 5, 6, 7] rfl
      have H := H.frontM 4 rfl
      have H := H.frontM 4 rfl
      have H := H.frontM 3 rfl
      have H := H.take 3 0
      exact uB (g (t7, j, l, x0, W5, k, n, z0, X5) _ ⟨H, trivial⟩)
    ·
     refine RT.node' [(18, .chn)] (by as_aux_lemma => kernel_rfl) ?_
     refine RW.new (κ := .chn) (d := some 29) (r := []) (o := .cells #[] 71 (0, 0)) (v := fun b => .slice (some ⟨b, 0, none⟩) 0 0) (fun b => by as_aux_lemma => kernel_rfl) (nofun) H ?_
     intro E1 _ H
     refine uTF 0 ?_
     refine (RB.cons' ?_ (RB.cons' ?_ RB.nil'))
     ·
      refine RT.node' [(17, .chn)] (by as_aux_lemma => kernel_rfl) ?_
      refine RW.appendN (κ := .chn) (d := some 28) (r := []) (T := 29) (ty := 29) (e := 5) (m := 1) (by_ := 1) (a0 := (some ⟨M0, 0, none⟩)) (a2 := h) (l2 := K.snap.length) (c2 := i) (by as_aux_lemma => kernel_rfl) (nofun) (.inr ⟨_, rfl⟩) (by as_aux_lemma => kernel_rfl) rfl H 4 rfl (by omega) ?_
      intro i1 j1 _ H
      refine uTF 0 ?_
      refine (RB.cons' ?_ (RB.cons' ?_ RB.nil'))
      ·
       refine RT.leaf' [(21, .chn), (25, .qui), (26, .chn), (27, .seq)] (by as_aux_lemma => kernel_rfl) ?_
       refine RW.appendN (κ := .chn) (d := some 32) (r := [(25, .qui), (26, .chn), (27, .seq)]) (T := 30) (ty := 30) (e := 71) (m := 21) (by_ := 224) (a0 := (some ⟨E1, 0, none⟩)) (a2 := a) (l2 := K.log.length) (c2 := f) (by as_aux_lemma => kernel_rfl) (nofun) (.inr ⟨_, rfl⟩) (by as_aux_lemma => kernel_rfl) rfl H 6 rfl (by omega) ?_
       intro Y5 Z5 _ H
       refine uP 1 ?_
       refine uC #[.I 0, .I 0, .I 0, .int .u64 0, .I 0, .int .u64 0, .int .u64 0, .slice none 0 0, .slice none 0 0, .slice none 0 0, .slice none 0 0, .int .u64 0, .I 0, .I 0, .I 0, .I 0, .slice none 0 0, .slice none 0 0, .int .u64 0, .slice none 0 0, .I 0] 35 H ?_
       intro v7 _ H
       refine uW 35 0 #[.I id, .I el, .I bt, .int .u64 K.term, .I K.vote, .int .u64 K.base, .int .u64 K.baseTerm, .slice j K.baseConf.voters.length k, .slice l K.baseConf.learners.length n, .slice i1 K.snap.length j1, .slice Y5 K.log.length Z5, .int .u64 K.base, .I 0, .I 0, .I 0, .I el, .slice none 0 0, .slice none 0 0, .int .u64 0, .slice none 0 0, .I 0] H 0 rfl ?_
       intro _ H
       refine uF 0 ?_
       have H := H.pick [3, 2, 1, 0, 4, 5, 6, 7] rfl
       have H := H.frontM 4 rfl
       have H := H.frontM 4 rfl
       have H := H.frontM 2 rfl
       have H := H.take 3 0
       exact uB (g (v7, j, l, i1, Y5, k, n, j1, Z5) _ ⟨H, trivial⟩)
      ·
       refine RT.leaf' [(26, .chn), (21, .chn), (25, .qui), (27, .seq)] (by as_aux_lemma => kernel_rfl) ?_
       refine uC #[.I 0, .I 0, .I 0, .int .u64 0, .I 0, .int .u64 0, .int .u64 0, .slice none 0 0, .slice none 0 0, .slice none 0 0, .slice none 0 0, .int .u64 0, .I 0, .I 0, .I 0, .I 0, .slice none 0 0, .slice none 0 0, .int .u64 0, .slice none 0 0, .I 0] 35 H ?_
       intro b55 _ H
       refine RW.appendN (κ := .chn) (d := some 32) (r := [(25, .qui), (27, .seq)]) (T := 30) (ty := 30) (e := 71) (m := 21) (by_ := 224) (a0 := (some ⟨E1, 0, none⟩)) (a2 := a) (l2 := K.log.length) (c2 := f) (by as_aux_lemma => kernel_rfl) (nofun) (.inr ⟨_, rfl⟩) (by as_aux_lemma => kernel_rfl) rfl H 6 rfl (by omega) ?_
       intro a6 b6 _ H
       refine uP 1 ?_
       refine uW 35 0 #[.I id, .I el, .I bt, .int .u64 K.term, .I K.vote, .int .u64 K.base, .int .u64 K.baseTerm, .slice j K.baseConf.voters.length k, .slice l K.baseConf.learners.length n, .slice i1 K.snap.length j1, .slice a6 K.log.length b6, .int .u64 K.base, .I 0, .I 0, .I 0, .I el, .slice none 0 0, .slice none 0 0, .int .u64 0, .slice none 0 0, .I 0] H 0 rfl ?_
       intro _ H
       refine uF 0 ?_
       have H := H.pick [3, 2, 1, 0, 4, 5, 6, 7] rfl
       have H := H.frontM 4 rfl
       have H := H.frontM 4 rfl
       have H := H.frontM 2 rfl
       have H := H.take 3 0
       exact uB (g (b55, j, l, i1, a6, k, n, j1, b6) _ ⟨H, trivial⟩)
     ·
      refine RT.leaf' [(26, .chn), (17, .chn), (21, .chn), (25, .qui), (27, .seq)] (by as_aux_lemma => kernel_rfl) ?_
      refine uC #[.I 0, .I 0, .I 0, .int .u64 0, .I 0, .int .u64 0, .int .u64 0, .slice none 0 0, .slice none 0 0, .slice none 0 0, .slice none 0 0, .int .u64 0, .I 0, .I 0, .I 0, .I 0, .slice none 0 0, .slice none 0 0, .int .u64 0, .slice none 0 0, .I 0] 35 H ?_
      intro x7 _ H
      refine RW.appendN (κ := .chn) (d := some 28) (r := [(21, .chn), (25, .qui), (27, .seq)]) (T := 29) (ty := 29) (e := 5) (m := 1) (by_ := 1) (a0 := (some ⟨M0, 0, none⟩)) (a2 := h) (l2 := K.snap.length) (c2 := i) (by as_aux_lemma => kernel_rfl) (nofun) (.inr ⟨_, rfl⟩) (by as_aux_lemma => kernel_rfl) rfl H 4 rfl (by omega) ?_
      intro c6 d6 _ H
      refine RW.appendN (κ := .chn) (d := some 32) (r := [(25, .qui), (27, .seq)]) (T := 30) (ty := 30) (e := 71) (m := 21) (by_ := 224) (a0 := (some ⟨E1, 0, none⟩)) (a2 := a) (l2 := K.log.length) (c2 := f) (by as_aux_lemma => kernel_rfl) (nofun) (.inr ⟨_, rfl⟩) (by as_aux_lemma => kernel_rfl) rfl H 6 rfl (by omega) ?_
      intro e6 f6 _ H
      refine uP 1 ?_
      refine uW 35 0 #[.I id, .I el, .I bt, .int .u64 K.term, .I K.vote, .int .u64 K.base, .int .u64 K.baseTerm, .slice j K.baseConf.voters.length k, .slice l K.baseConf.learners.length n, .slice c6 K.snap.length d6, .slice e6 K.log.length f6, .int .u64 K.base, .I 0, .I 0, .I 0, .I el, .slice none 0 0, .slice none 0 0, .int .u64 0, .slice none 0 0, .I 0] H 0 rfl ?_
      intro _ H
      refine uF 0 ?_
      have H := H.pick [3, 2, 1, 0, 4, 5, 6, 7] rfl
      have H := H.frontM 4 rfl
      have H := H.frontM 4 rfl
      have H := H.frontM 2 rfl
      have H := H.take 3 0
      exact uB (g (x7, j, l, c6, e6, k, n, d6, f6) _ ⟨H, trivial⟩)
    ·
     refine RT.node' [(26, .chn)] (by as_aux_lemma => kernel_rfl) ?_
     refine uC #[.I 0, .I 0, .I 0, .int .u64 0, .I 0, .int .u64 0, .int .u64 0, .slice none 0 0, .slice none 0 0, .slice none 0 0, .slice none 0 0, .int .u64 0, .I 0, .I 0, .I 0, .I 0, .slice none 0 0, .slice none 0 0, .int .u64 0, .slice none 0 0, .I 0] 35 H ?_
     intro g6 _ H
     refine uTF 0 ?_
     refine (RB.cons' ?_ (RB.cons' ?_ RB.nil'))
     ·
      refine RT.leaf' [(17, .chn), (18, .chn), (21, .chn), (25, .qui), (27, .seq)] (by as_aux_lemma => kernel_rfl) ?_
      refine RW.appendN (κ := .chn) (d := some 28) (r := [(18, .chn), (21, .chn), (25, .qui), (27, .seq)]) (T := 29) (ty := 29) (e := 5) (m := 1) (by_ := 1) (a0 := (some ⟨M0, 0, none⟩)) (a2 := h) (l2 := K.snap.length) (c2 := i) (by as_aux_lemma => kernel_rfl) (nofun) (.inr ⟨_, rfl⟩) (by as_aux_lemma => kernel_rfl) rfl H 4 rfl (by omega) ?_
      intro h6 i6 _ H
      refine RW.new (κ := .chn) (d := some 29) (r := [(21, .chn), (25, .qui), (27, .seq)]) (o := .cells #[] 71 (0, 0)) (v := fun b => .slice (some ⟨b, 0, none⟩) 0 0) (fun b => by as_aux_lemma => kernel_rfl) (nofun) H ?_
      intro z7 _ H
      refine RW.appendN (κ := .chn) (d := some 32) (r := [(25, .qui), (27, .seq)]) (T := 30) (ty := 30) (e := 71) (m := 21) (by_ := 224) (a0 := (some ⟨z7, 0, none⟩)) (a2 := a) (l2 := K.log.length) (c2 := f) (by as_aux_lemma => kernel_rfl) (nofun) (.inr ⟨_, rfl⟩) (by as_aux_lemma => kernel_rfl) rfl H 6 rfl (by omega) ?_
      intro j6 k6 _ H
      refine uP 1 ?_
      refine uW 35 0 #[.I id, .I el, .I bt, .int .u64 K.term, .I K.vote, .int .u64 K.base, .int .u64 K.baseTerm, .slice j K.baseConf.voters.length k, .slice l K.baseConf.learners.length n, .slice h6 K.snap.length i6, .slice j6 K.log.length k6, .int .u64 K.base, .I 0, .I 0, .I 0, .I el, .slice none 0 0, .slice none 0 0, .int .u64 0, .slice none 0 0, .I 0] H 1 rfl ?_
      intro _ H
      refine uF 0 ?_
      have H := H.pick [3, 2, 1, 0, 4, 5, 6, 7] rfl
      have H := H.frontM 4 rfl
      have H := H.frontM 4 rfl
      have H := H.frontM 3 rfl
      have H := H.take 3 0
      exact uB (g (g6, j, l, h6, j6, k, n, i6, k6) _ ⟨H, trivial⟩)
     ·
      refine RT.leaf' [(18, .chn), (17, .chn), (21, .chn), (25, .qui), (27, .seq)] (by as_aux_lemma => kernel_rfl) ?_
      refine RW.new (κ := .chn) (d := some 29) (r := [(17, .chn), (21, .chn), (25, .qui), (27, .seq)]) (o := .cells #[] 71 (0, 0)) (v := fun b => .slice (some ⟨b, 0, none⟩) 0 0) (fun b => by as_aux_lemma => kernel_rfl) (nofun) H ?_
      intro A7 _ H
      refine RW.appendN (κ := .chn) (d := some 28) (r := [(21, .chn), (25, .qui), (27, .seq)]) (T := 29) (ty := 29) (e := 5) (m := 1) (by_ := 1) (a0 := (some ⟨M0, 0, none⟩)) (a2 := h) (l2 := K.snap.length) (c2 := i) (by as_aux_lemma => kernel_rfl) (nofun) (.inr ⟨_, rfl⟩) (by as_aux_lemma => kernel_rfl) rfl H 4 rfl (by omega) ?_
      intro m6 n6 _ H
      refine RW.appendN (κ := .chn) (d := some 32) (r := [(25, .qui), (27, .seq)]) (T := 30) (ty := 30) (e := 71) (m := 21) (by_ := 224) (a0 := (some ⟨A7, 0, none⟩)) (a2 := a) (l2 := K.log.length) (c2 := f) (by as_aux_lemma => kernel_rfl) (nofun) (.inr ⟨_, rfl⟩) (by as_aux_lemma => kernel_rfl) rfl H 6 rfl (by omega) ?_
      intro o6 p6 _ H
      refine uP 1 ?_
      refine uW 35 0 #[.I id, .I el, .I bt, .int .u64 K.term, .I K.vote, .int .u64 K.base, .int .u64 K.baseTerm, .slice j K.baseConf.voters.length k, .slice l K.baseConf.learners.length n, .slice m6 K.snap.length n6, .slice o6 K.log.length p6, .int .u64 K.base, .I 0, .I 0, .I 0, .I el, .slice none 0 0, .slice none 0 0, .int .u64 0, .slice none 0 0, .I 0] H 1 rfl ?_
      intro _ H
      refine uF 0 ?_
      have H := H.pick [3, 2, 1, 0, 4, 5, 6, 7] rfl
      have H := H.frontM 4 rfl
      have H := H.frontM 4 rfl
      have H := H.frontM 3 rfl
      have H := H.take 3 0
      exact uB (g (g6, j, l, m6, o6, k, n, n6, p6) _ ⟨H, trivial⟩)
   ·
    refine RT.node' [(18, .chn)] (by as_aux_lemma => kernel_rfl) ?_
    refine RW.new (κ := .chn) (d := some 29) (r := []) (o := .cells #[] 71 (0, 0)) (v := fun b => .slice (some ⟨b, 0, none⟩) 0 0) (fun b => by as_aux_lemma => kernel_rfl) (nofun) H ?_
    intro k1 _ H
    refine uTF 0 ?_
    refine (RB.cons' ?_ (RB.cons' ?_ RB.nil'))
    ·
     refine RT.node' [(14, .chn)] (by as_aux_lemma => kernel_rfl) ?_
     refine RW.new (κ := .chn) (d := some 25) (r := []) (o := .cells #[] 5 (0, 0)) (v := fun b => .slice (some ⟨b, 0, none⟩) 0 0) (fun b => by as_aux_lemma => kernel_rfl) (nofun) H ?_
     intro q6 _ H
     refine uTF 0 ?_
     refine (RB.cons' ?_ (RB.cons' ?_ RB.nil'))
     ·
      refine RT.node' [(17, .chn)] (by as_aux_lemma => kernel_rfl) ?_
      refine RW.appendN (κ := .chn) (d := some 28) (r := []) (T := 29) (ty := 29) (e := 5) (m := 1) (by_ := 1) (a0 := (some ⟨q6, 0, none⟩)) (a2 := h) (l2 := K.snap.length) (c2 := i) (by as_aux_lemma => kernel_rfl) (nofun) (.inr ⟨_, rfl⟩) (by as_aux_lemma => kernel_rfl) rfl H 4 rfl (by omega) ?_
      intro m1 n1 _ H
      refine uTF 0 ?_
      refine (RB.cons' ?_ (RB.cons' ?_ RB.nil'))
      ·
       refine RT.leaf' [(21, .chn), (25, .qui), (26, .chn), (27, .seq)] (by as_aux_lemma => kernel_rfl) ?_
       refine RW.appendN (κ := .chn) (d := some 32) (r := [(25, .qui), (26, .chn), (27, .seq)]) (T := 30) (ty := 30) (e := 71) (m := 21) (by_ := 224) (a0 := (some ⟨k1, 0, none⟩)) (a2 := a) (l2 := K.log.length) (c2 := f) (by as_aux_lemma => kernel_rfl) (nofun) (.inr ⟨_, rfl⟩) (by as_aux_lemma => kernel_rfl) rfl H 6 rfl (by omega) ?_
       intro r6 s6 _ H
       refine uP 1 ?_
       refine uC #[.I 0, .I 0, .I 0, .int .u64 0, .I 0, .int .u64 0, .int .u64 0, .slice none 0 0, .slice none 0 0, .slice none 0 0, .slice none 0 0, .int .u64 0, .I 0, .I 0, .I 0, .I 0, .slice none 0 0, .slice none 0 0, .int .u64 0, .slice none 0 0, .I 0] 35 H ?_
       intro x6 _ H
       refine uW 35 0 #[.I id, .I el, .I bt, .int .u64 K.term, .I K.vote, .int .u64 K.base, .int .u64 K.baseTerm, .slice j K.baseConf.voters.length k, .slice l K.baseConf.learners.length n, .slice m1 K.snap.length n1, .slice r6 K.log.length s6, .int .u64 K.base, .I 0, .I 0, .I 0, .I el, .slice none 0 0, .slice none 0 0, .int .u64 0, .slice none 0 0, .I 0] H 0 rfl ?_
       intro _ H
       refine uF 0 ?_
       have H := H.pick [3, 2, 1, 0, 4, 5, 6, 7] rfl
       have H := H.frontM 4 rfl
       have H := H.frontM 4 rfl
       have H := H.frontM 2 rfl
       have H := H.take 3 0
       exact uB (g (x6, j, l, m1, r6, k, n, n1, s6) _ ⟨H, trivial⟩)
      ·
       refine RT.leaf' [(26, .chn), (21, .chn), (25, .qui), (27, .seq)] (by as_aux_lemma => kernel_rfl) ?_
       refine uC #[.I 0, .I 0, .I 0, .int .u64 0, .I 0, .int .u64 0, .int .u64 0, .slice none 0 0, .slice none 0 0, .slice none 0 0, .slice none 0 0, .int .u64 0, .I 0, .I 0, .I 0, .I 0, .slice none 0 0, .slice none 0 0, .int .u64 0, .slice none 0 0, .I 0] 35 H ?_
       intro z6 _ H
       refine RW.appendN (κ := .chn) (d := some 32) (r := [(25, .qui), (27, .seq)]) (T := 30) (ty := 30) (e := 71) (m := 21) (by_ := 224) (a0 := (some ⟨k1, 0, none⟩)) (a2 := a) (l2 := K.log.length) (c2 := f) (by as_aux_lemma => kernel_rfl) (nofun) (.inr ⟨_, rfl⟩) (by as_aux_lemma => kernel_rfl) rfl H 6 rfl (by omega) ?_
       intro F1 G1 _ H
       refine uP 1 ?_
       refine uW 35 0 #[.I id, .I el, .I bt, .int .u64 K.term, .I K.vote, .int .u64 K.base, .int .u64 K.baseTerm, .slice j K.baseConf.voters.length k, .slice l K.baseConf.learners.length n, .slice m1 K.snap.length n1, .slice F1 K.log.length G1, .int .u64 K.base, .I 0, .I 0, .I 0, .I el, .slice none 0 0, .slice none 0 0, .int .u64 0, .slice none 0 0, .I 0] H 0 rfl ?_
       intro _ H
       refine uF 0 ?_
       have H := H.pick [3, 2, 1, 0, 4, 5, 6, 7] rfl
       have H := H.frontM 4 rfl
       have H := H.frontM 4 rfl
       have H := H.frontM 2 rfl
       have H := H.take 3 0
       exact uB (g (z6, j, l, m1, F1, k, n, n1, G1) _ ⟨H, trivial⟩)
     ·
      refine RT.leaf' [(26, .chn), (17, .chn), (21, .chn), (25, .qui), (27, .seq)] (by as_aux_lemma => kernel_rfl) ?_
      refine uC #[.I 0, .I 0, .I 0, .int .u64 0, .I 0, .int .u64 0, .int .u64 0, .slice none 0 0, .slice none 0 0, .slice none 0 0, .slice none 0 0, .int .u64 0, .I 0, .I 0, .I 0, .I 0, .slice none 0 0, .slice none 0 0, .int .u64 0, .slice none 0 0, .I 0] 35 H ?_
      intro A6 _ H
      refine RW.appendN (κ := .chn) (d := some 28) (r := [(21, .chn), (25, .qui), (27, .seq)]) (T := 29) (ty := 29) (e := 5) (m := 1) (by_ := 1) (a0 := (some ⟨q6, 0, none⟩)) (a2 := h) (l2 := K.snap.length) (c2 := i) (by as_aux_lemma => kernel_rfl) (nofun) (.inr ⟨_, rfl⟩) (by as_aux_lemma => kernel_rfl) rfl H 4 rfl (by omega) ?_
      intro H1 I1 _ H
      refine RW.appendN (κ := .chn) (d := some 32) (r := [(25, .qui), (27, .seq)]) (T := 30) (ty := 30) (e := 71) (m := 21) (by_ := 224) (a0 := (some ⟨k1, 0, none⟩)) (a2 := a) (l2 := K.log.length) (c2 := f) (by as_aux_lemma => kernel_rfl) (nofun) (.inr ⟨_, rfl⟩) (by as_aux_lemma => kernel_rfl) rfl H 6 rfl (by omega) ?_
      intro J1 K1 _ H
      refine uP 1 ?_
      refine uW 35 0 #[.I id, .I el, .I bt, .int .u64 K.term, .I K.vote, .int .u64 K.base, .int .u64 K.baseTerm, .slice j K.baseConf.voters.length k, .slice l K.baseConf.learners.length n, .slice H1 K.snap.length I1, .slice J1 K.log.length K1, .int .u64 K.base, .I 0, .I 0, .I 0, .I el, .slice none 0 0, .slice none 0 0, .int .u64 0, .slice none 0 0, .I 0] H 0 rfl ?_
      intro _ H
      refine uF 0 ?_
      have H := H.pick [3, 2, 1, 0, 4, 5, 6, 7] rfl
      have H := H.frontM 4 rfl
      have H := H.frontM 4 rfl
      have H := H.frontM 2 rfl
      have H := H.take 3 0
      exact uB (g (A6, j, l, H1, J1, k, n, I1, K1) _ ⟨H, trivial⟩)
    ·
     refine RT.leaf' [(26, .chn), (14, .chn), (17, .chn), (21, .chn), (25, .qui), (27, .seq)] (by as_aux_lemma => kernel_rfl) ?_
     refine uC #[.I 0, .I 0, .I 0, .int .u64 0, .I 0, .int .u64 0, .int .u64 0, .slice none 0 0, .slice none 0 0, .slice none 0 0, .slice none 0 0, .int .u64 0, .I 0, .I 0, .I 0, .I 0, .slice none 0 0, .slice none 0 0, .int .u64 0, .slice none 0 0, .I 0] 35 H ?_
     intro B6 _ H
     refine RW.new (κ := .chn) (d := some 25) (r := [(17, .chn), (21, .chn), (25, .qui), (27, .seq)]) (o := .cells #[] 5 (0, 0)) (v := fun b => .slice (some ⟨b, 0, none⟩) 0 0) (fun b => by as_aux_lemma => kernel_rfl) (nofun) H ?_
     intro C6 _ H
     refine RW.appendN (κ := .chn) (d := some 28) (r := [(21, .chn), (25, .qui), (27, .seq)]) (T := 29) (ty := 29) (e := 5) (m := 1) (by_ := 1) (a0 := (some ⟨C6, 0, none⟩)) (a2 := h) (l2 := K.snap.length) (c2 := i) (by as_aux_lemma => kernel_rfl) (nofun) (.inr ⟨_, rfl⟩) (by as_aux_lemma => kernel_rfl) rfl H 4 rfl (by omega) ?_
     intro L1 M1 _ H
     refine RW.appendN (κ := .chn) (d := some 32) (r := [(25, .qui), (27, .seq)]) (T := 30) (ty := 30) (e := 71) (m := 21) (by_ := 224) (a0 := (some ⟨k1, 0, none⟩)) (a2 := a) (l2 := K.log.length) (c2 := f) (by as_aux_lemma => kernel_rfl) (nofun) (.inr ⟨_, rfl⟩) (by as_aux_lemma => kernel_rfl) rfl H 6 rfl (by omega) ?_
     intro N1 O1 _ H
     refine uP 1 ?_
     refine uW 35 0 #[.I id, .I el, .I bt, .int .u64 K.term, .I K.vote, .int .u64 K.base, .int .u64 K.baseTerm, .slice j K.baseConf.voters.length k, .slice l K.baseConf.learners.length n, .slice L1 K.snap.length M1, .slice N1 K.log.length O1, .int .u64 K.base, .I 0, .I 0, .I 0, .I el, .slice none 0 0, .slice none 0 0, .int .u64 0, .slice none 0 0, .I 0] H 1 rfl ?_
     intro _ H
     refine uF 0 ?_
     have H := H.pick [3, 2, 1, 0, 4, 5, 6, 7] rfl
     have H := H.frontM 4 rfl
     have H := H.frontM 4 rfl
     have H := H.frontM 3 rfl
     have H := H.take 3 0
     exact uB (g (B6, j, l, L1, N1, k, n, M1, O1) _ ⟨H, trivial⟩)
   ·
    refine RT.node' [(26, .chn)] (by as_aux_lemma => kernel_rfl) ?_
    refine uC #[.I 0, .I 0, .I 0, .int .u64 0, .I 0, .int .u64 0, .int .u64 0, .slice none 0 0, .slice none 0 0, .slice none 0 0, .slice none 0 0, .int .u64 0, .I 0, .I 0, .I 0, .I 0, .slice none 0 0, .slice none 0 0, .int .u64 0, .slice none 0 0, .I 0] 35 H ?_
    intro O0 _ H
    refine uTF 0 ?_
    refine (RB.cons' ?_ (RB.cons' ?_ RB.nil'))
    ·
     refine RT.node' [(14, .chn)] (by as_aux_lemma => kernel_rfl) ?_
     refine RW.new (κ := .chn) (d := some 25) (r := []) (o := .cells #[] 5 (0, 0)) (v := fun b => .slice (some ⟨b, 0, none⟩) 0 0) (fun b => by as_aux_lemma => kernel_rfl) (nofun) H ?_
     intro P1 _ H
     refine uTF 0 ?_
     refine (RB.cons' ?_ (RB.cons' ?_ RB.nil'))
     ·
      refine RT.leaf' [(17, .chn), (18, .chn), (21, .chn), (25, .qui), (27, .seq)] (by as_aux_lemma => kernel_rfl) ?_
      refine RW.appendN (κ := .chn) (d := some 28) (r := [(18, .chn), (21, .chn), (25, .qui), (27, .seq)]) (T := 29) (ty := 29) (e := 5) (m := 1) (by_ := 1) (a0 := (some ⟨P1, 0, none⟩)) (a2 := h) (l2 := K.snap.length) (c2 := i) (by as_aux_lemma => kernel_rfl) (nofun) (.inr ⟨_, rfl⟩) (by as_aux_lemma => kernel_rfl) rfl H 4 rfl (by omega) ?_
      intro Q1 R1 _ H
      refine RW.new (κ := .chn) (d := some 29) (r := [(21, .chn), (25, .qui), (27, .seq)]) (o := .cells #[] 71 (0, 0)) (v := fun b => .slice (some ⟨b, 0, none⟩) 0 0) (fun b => by as_aux_lemma => kernel_rfl) (nofun) H ?_
      intro D6 _ H
      refine RW.appendN (κ := .chn) (d := some 32) (r := [(25, .qui), (27, .seq)]) (T := 30) (ty := 30) (e := 71) (m := 21) (by_ := 224) (a0 := (some ⟨D6, 0, none⟩)) (a2 := a) (l2 := K.log.length) (c2 := f) (by as_aux_lemma => kernel_rfl) (nofun) (.inr ⟨_, rfl⟩) (by as_aux_lemma => kernel_rfl) rfl H 6 rfl (by omega) ?_
      intro S1 T1 _ H
      refine uP 1 ?_
      refine uW 35 0 #[.I id, .I el, .I bt, .int .u64 K.term, .I K.vote, .int .u64 K.base, .int .u64 K.baseTerm, .slice j K.baseConf.voters.length k, .slice l K.baseConf.learners.length n, .slice Q1 K.snap.length R1, .slice S1 K.log.length T1, .int .u64 K.base, .I 0, .I 0, .I 0, .I el, .slice none 0 0, .slice none 0 0, .int .u64 0, .slice none 0 0, .I 0] H 2 rfl ?_
      intro _ H
      refine uF 0 ?_
      have H := H.pick [3, 2, 1, 0, 4, 5, 6, 7] rfl
      have H := H.frontM 4 rfl
      have H := H.frontM 4 rfl
      have H := H.frontM 4 rfl
      have H := H.take 3 0
      exact uB (g (O0, j, l, Q1, S1, k, n, R1, T1) _ ⟨H, trivial⟩)
     ·
      refine RT.leaf' [(18, .chn), (17, .chn), (21, .chn), (25, .qui), (27, .seq)] (by as_aux_lemma => kernel_rfl) ?_
      refine RW.new (κ := .chn) (d := some 29) (r := [(17, .chn), (21, .chn), (25, .qui), (27, .seq)]) (o := .cells #[] 71 (0, 0)) (v := fun b => .slice (some ⟨b, 0, none⟩) 0 0) (fun b => by as_aux_lemma => kernel_rfl) (nofun) H ?_
      intro E6 _ H
      refine RW.appendN (κ := .chn) (d := some 28) (r := [(21, .chn), (25, .qui), (27, .seq)]) (T := 29) (ty := 29) (e := 5) (m := 1) (by_ := 1) (a0 := (some ⟨P1, 0, none⟩)) (a2 := h) (l2 := K.snap.length) (c2 := i) (by as_aux_lemma => kernel_rfl) (nofun) (.inr ⟨_, rfl⟩) (by as_aux_lemma => kernel_rfl) rfl H 4 rfl (by omega) ?_
      intro U1 V1 _ H
      refine RW.appendN (κ := .chn) (d := some 32) (r := [(25, .qui), (27, .seq)]) (T := 30) (ty := 30) (e := 71) (m := 21) (by_ := 224) (a0 := (some ⟨E6, 0, none⟩)) (a2 := a) (l2 := K.log.length) (c2 := f) (by as_aux_lemma => kernel_rfl) (nofun) (.inr ⟨_, rfl⟩) (by as_aux_lemma => kernel_rfl) rfl H 6 rfl (by omega) ?_
      intro W1 X1 _ H
      refine uP 1 ?_
      refine uW 35 0 #[.I id, .I el, .I bt, .int .u64 K.term, .I K.vote, .int .u64 K.base, .int .u64 K.baseTerm, .slice j K.baseConf.voters.length k, .slice l K.baseConf.learners.length n, .slice U1 K.snap.length V1, .slice W1 K.log.length X1, .int .u64 K.base, .I 0, .I 0, .I 0, .I el, .slice none 0 0, .slice none 0 0, .int .u64 0, .slice none 0 0, .I 0] H 2 rfl ?_
      intro _ H
      refine uF 0 ?_
      have H := H.pick [3, 2, 1, 0, 4, 5, 6, 7] rfl
      have H := H.frontM 4 rfl
      have H := H.frontM 4 rfl
      have H := H.frontM 4 rfl
      have H := H.take 3 0
      exact uB (g (O0, j, l, U1, W1, k, n, V1, X1) _ ⟨H, trivial⟩)
    ·
     refine RT.leaf' [(18, .chn), (14, .chn), (17, .chn), (21, .chn), (25, .qui), (27, .seq)] (by as_aux_lemma => kernel_rfl) ?_
     refine RW.new (κ := .chn) (d := some 29) (r := [(14, .chn), (17, .chn), (21, .chn), (25, .qui), (27, .seq)]) (o := .cells #[] 71 (0, 0)) (v := fun b => .slice (some ⟨b, 0, none⟩) 0 0) (fun b => by as_aux_lemma => kernel_rfl) (nofun) H ?_
     intro F6 _ H
     refine RW.new (κ := .chn) (d := some 25) (r := [(17, .chn), (21, .chn), (25, .qui), (27, .seq)]) (o := .cells #[] 5 (0, 0)) (v := fun b => .slice (some ⟨b, 0, none⟩) 0 0) (fun b => by as_aux_lemma => kernel_rfl) (nofun) H ?_
     intro G6 _ H
     refine RW.appendN (κ := .chn) (d := some 28) (r := [(21, .chn), (25, .qui), (27, .seq)]) (T := 29) (ty := 29) (e := 5) (m := 1) (by_ := 1) (a0 := (some ⟨G6, 0, none⟩)) (a2 := h) (l2 := K.snap.length) (c2 := i) (by as_aux_lemma => kernel_rfl) (nofun) (.inr ⟨_, rfl⟩) (by as_aux_lemma => kernel_rfl) rfl H 4 rfl (by omega) ?_
     intro Y1 Z1 _ H
     refine RW.appendN (κ := .chn) (d := some 32) (r := [(25, .qui), (27, .seq)]) (T := 30) (ty := 30) (e := 71) (m := 21) (by_ := 224) (a0 := (some ⟨F6, 0, none⟩)) (a2 := a) (l2 := K.log.length) (c2 := f) (by as_aux_lemma => kernel_rfl) (nofun) (.inr ⟨_, rfl⟩) (by as_aux_lemma => kernel_rfl) rfl H 6 rfl (by omega) ?_
     intro b2 d2 _ H
     refine uP 1 ?_
     refine uW 35 0 #[.I id, .I el, .I bt, .int .u64 K.term, .I K.vote, .int .u64 K.base, .int .u64 K.baseTerm, .slice j K.baseConf.voters.length k, .slice l K.baseConf.learners.length n, .slice Y1 K.snap.length Z1, .slice b2 K.log.length d2, .int .u64 K.base, .I 0, .I 0, .I 0, .I el, .slice none 0 0, .slice none 0 0, .int .u64 0, .slice none 0 0, .I 0] H 2 rfl ?_
     intro _ H
     refine uF 0 ?_
     have H := H.pick [3, 2, 1, 0, 4, 5, 6, 7] rfl
     have H := H.frontM 4 rfl
     have H := H.frontM 4 rfl
     have H := H.frontM 4 rfl
     have H := H.take 3 0
     exact uB (g (O0, j, l, Y1, b2, k, n, Z1, d2) _ ⟨H, trivial⟩)
  ·
   refine RT.node' [(14, .chn)] (by as_aux_lemma => kernel_rfl) ?_
   refine RW.new (κ := .chn) (d := some 25) (r := []) (o := .cells #[] 5 (0, 0)) (v := fun b => .slice (some ⟨b, 0, none⟩) 0 0) (fun b => by as_aux_lemma => kernel_rfl) (nofun) H ?_
   intro D _ H
   refine uTF 0 ?_
   refine (RB.cons' ?_ (RB.cons' ?_ (RB.cons' ?_ RB.nil')))
   ·
    refine RT.node' [(13, .chn)] (by as_aux_lemma => kernel_rfl) ?_
    refine uK (refcopy_spec (C := K.baseConf) (conf_mk (H.rp 0 rfl) (H.rp 1 rfl)) (by omega) (by omega)) ?_
    rintro _ _ o1 ⟨_, rfl, S4⟩
    obtain ⟨p, s, t, u, rfl, T4, U4⟩ := conf_open S4
    have x := H.addM o1 T4
    have H := x.addO H o1 U4
    refine uTF 0 ?_
    refine (RB.cons' ?_ (RB.cons' ?_ (RB.cons' ?_ RB.nil')))
    ·
     refine RT.node' [(17, .chn)] (by as_aux_lemma => kernel_rfl) ?_
     refine RW.appendN (κ := .chn) (d := some 28) (r := []) (T := 29) (ty := 29) (e := 5) (m := 1) (by_ := 1) (a0 := (some ⟨D, 0, none⟩)) (a2 := h) (l2 := K.snap.length) (c2 := i) (by as_aux_lemma => kernel_rfl) (nofun) (.inr ⟨_, rfl⟩) (by as_aux_lemma => kernel_rfl) rfl H 4 rfl (by omega) ?_
     intro e0 f0 _ H
     refine uTF 0 ?_
     refine (RB.cons' ?_ (RB.cons' ?_ RB.nil'))
     ·
      refine RT.node' [(18, .chn)] (by as_aux_lemma => kernel_rfl) ?_
      refine RW.new (κ := .chn) (d := some 29) (r := []) (o := .cells #[] 71 (0, 0)) (v := fun b => .slice (some ⟨b, 0, none⟩) 0 0) (fun b => by as_aux_lemma => kernel_rfl) (nofun) H ?_
      intro e2 _ H
      refine uTF 0 ?_
      refine (RB.cons' ?_ (RB.cons' ?_ RB.nil'))
      ·
       refine RT.leaf' [(21, .chn), (25, .qui), (26, .chn), (27, .seq)] (by as_aux_lemma => kernel_rfl) ?_
       refine RW.appendN (κ := .chn) (d := some 32) (r := [(25, .qui), (26, .chn), (27, .seq)]) (T := 30) (ty := 30) (e := 71) (m := 21) (by_ := 224) (a0 := (some ⟨e2, 0, none⟩)) (a2 := a) (l2 := K.log.length) (c2 := f) (by as_aux_lemma => kernel_rfl) (nofun) (.inr ⟨_, rfl⟩) (by as_aux_lemma => kernel_rfl) rfl H 6 rfl (by omega) ?_
       intro f2 g2 _ H
       refine uP 1 ?_
       refine uC #[.I 0, .I 0, .I 0, .int .u64 0, .I 0, .int .u64 0, .int .u64 0, .slice none 0 0, .slice none 0 0, .slice none 0 0, .slice none 0 0, .int .u64 0, .I 0, .I 0, .I 0, .I 0, .slice none 0 0, .slice none 0 0, .int .u64 0, .slice none 0 0, .I 0] 35 H ?_
       intro H6 _ H
       refine uW 35 0 #[.I id, .I el, .I bt, .int .u64 K.term, .I K.vote, .int .u64 K.base, .int .u64 K.baseTerm, .slice p K.baseConf.voters.length s, .slice t K.baseConf.learners.length u, .slice e0 K.snap.length f0, .slice f2 K.log.length g2, .int .u64 K.base, .I 0, .I 0, .I 0, .I el, .slice none 0 0, .slice none 0 0, .int .u64 0, .slice none 0 0, .I 0] H 0 rfl ?_
       intro _ H
       refine uF 0 ?_
       have H := H.pick [3, 2, 1, 0, 4, 5, 6, 7] rfl
       have H := H.frontM 4 rfl
       have H := H.frontM 4 rfl
       have H := H.frontM 2 rfl
       have H := H.take 3 0
       exact uB (g (H6, p, t, e0, f2, s, u, f0, g2) _ ⟨H, trivial⟩)
      ·
       refine RT.leaf' [(26, .chn), (21, .chn), (25, .qui), (27, .seq)] (by as_aux_lemma => kernel_rfl) ?_
       refine uC #[.I 0, .I 0, .I 0, .int .u64 0, .I 0, .int .u64 0, .int .u64 0, .slice none 0 0, .slice none 0 0, .slice none 0 0, .slice none 0 0, .int .u64 0, .I 0, .I 0, .I 0, .I 0, .slice none 0 0, .slice none 0 0, .int .u64 0, .slice none 0 0, .I 0] 35 H ?_
       intro I6 _ H
       refine RW.appendN (κ := .chn) (d := some 32) (r := [(25, .qui), (27, .seq)]) (T := 30) (ty := 30) (e := 71) (m := 21) (by_ := 224) (a0 := (some ⟨e2, 0, none⟩)) (a2 := a) (l2 := K.log.length) (c2 := f) (by as_aux_lemma => kernel_rfl) (nofun) (.inr ⟨_, rfl⟩) (by as_aux_lemma => kernel_rfl) rfl H 6 rfl (by omega) ?_
       intro h2 i2 _ H
       refine uP 1 ?_
       refine uW 35 0 #[.I id, .I el, .I bt, .int .u64 K.term, .I K.vote, .int .u64 K.base, .int .u64 K.baseTerm, .slice p K.baseConf.voters.length s, .slice t K.baseConf.learners.length u, .slice e0 K.snap.length f0, .slice h2 K.log.length i2, .int .u64 K.base, .I 0, .I 0, .I 0, .I el, .slice none 0 0, .slice none 0 0, .int .u64 0, .slice none 0 0, .I 0] H 0 rfl ?_
       intro _ H
       refine uF 0 ?_
       have H := H.pick [3, 2, 1, 0, 4, 5, 6, 7] rfl
       have H := H.frontM 4 rfl
       have H := H.frontM 4 rfl
       have H := H.frontM 2 rfl
       have H := H.take 3 0
       exact uB (g (I6, p, t, e0, h2, s, u, f0, i2) _ ⟨H, trivial⟩)
     ·
      refine RT.leaf' [(26, .chn), (18, .chn), (21, .chn), (25, .qui), (27, .seq)] (by as_aux_lemma => kernel_rfl) ?_
      refine uC #[.I 0, .I 0, .I 0, .int .u64 0, .I 0, .int .u64 0, .int .u64 0, .slice none 0 0, .slice none 0 0, .slice none 0 0, .slice none 0 0, .int .u64 0, .I 0, .I 0, .I 0, .I 0, .slice none 0 0, .slice none 0 0, .int .u64 0, .slice none 0 0, .I 0] 35 H ?_
      intro J6 _ H
      refine RW.new (κ := .chn) (d := some 29) (r := [(21, .chn), (25, .qui), (27, .seq)]) (o := .cells #[] 71 (0, 0)) (v := fun b => .slice (some ⟨b, 0, none⟩) 0 0) (fun b => by as_aux_lemma => kernel_rfl) (nofun) H ?_
      intro K6 _ H
      refine RW.appendN (κ := .chn) (d := some 32) (r := [(25, .qui), (27, .seq)]) (T := 30) (ty := 30) (e := 71) (m := 21) (by_ := 224) (a0 := (some ⟨K6, 0, none⟩)) (a2 := a) (l2 := K.log.length) (c2 := f) (by as_aux_lemma => kernel_rfl) (nofun) (.inr ⟨_, rfl⟩) (by as_aux_lemma => kernel_rfl) rfl H 6 rfl (by omega) ?_
      intro j2 k2 _ H
      refine uP 1 ?_
      refine uW 35 0 #[.I id, .I el, .I bt, .int .u64 K.term, .I K.vote, .int .u64 K.base, .int .u64 K.baseTerm, .slice p K.baseConf.voters.length s, .slice t K.baseConf.learners.length u, .slice e0 K.snap.length f0, .slice j2 K.log.length k2, .int .u64 K.base, .I 0, .I 0, .I 0, .I el, .slice none 0 0, .slice none 0 0, .int .u64 0, .slice none 0 0, .I 0] H 1 rfl ?_
      intro _ H
      refine uF 0 ?_
      have H := H.pick [3, 2, 1, 0, 4, 5, 6, 7] rfl
      have H := H.frontM 4 rfl
      have H := H.frontM 4 rfl
      have H := H.frontM 3 rfl
      have H := H.take 3 0
      exact uB (g (J6, p, t, e0, j2, s, u, f0, k2) _ ⟨H, trivial⟩)
    ·
     refine RT.node' [(18, .chn)] (by as_aux_lemma => kernel_rfl) ?_
     refine RW.new (κ := .chn) (d := some 29) (r := []) (o := .cells #[] 71 (0, 0)) (v := fun b => .slice (some ⟨b, 0, none⟩) 0 0) (fun b => by as_aux_lemma => kernel_rfl) (nofun) H ?_
     intro P0 _ H
     refine uTF 0 ?_
     refine (RB.cons' ?_ (RB.cons' ?_ RB.nil'))
     ·
      refine RT.node' [(17, .chn)] (by as_aux_lemma => kernel_rfl) ?_
      refine RW.appendN (κ := .chn) (d := some 28) (r := []) (T := 29) (ty := 29) (e := 5) (m := 1) (by_ := 1) (a0 := (some ⟨D, 0, none⟩)) (a2 := h) (l2 := K.snap.length) (c2 := i) (by as_aux_lemma => kernel_rfl) (nofun) (.inr ⟨_, rfl⟩) (by as_aux_lemma => kernel_rfl) rfl H 4 rfl (by omega) ?_
      intro A0 B0 _ H
      refine uTF 0 ?_
      refine (RB.cons' ?_ (RB.cons' ?_ RB.nil'))
      ·
       refine RT.leaf' [(21, .chn), (25, .qui), (26, .chn), (27, .seq)] (by as_aux_lemma => kernel_rfl) ?_
       refine RW.appendN (κ := .chn) (d := some 32) (r := [(25, .qui), (26, .chn), (27, .seq)]) (T := 30) (ty := 30) (e := 71) (m := 21) (by_ := 224) (a0 := (some ⟨P0, 0, none⟩)) (a2 := a) (l2 := K.log.length) (c2 := f) (by as_aux_lemma => kernel_rfl) (nofun) (.inr ⟨_, rfl⟩) (by as_aux_lemma => kernel_rfl) rfl H 6 rfl (by omega) ?_
       intro m2 n2 _ H
       refine uP 1 ?_
       refine uC #[.I 0, .I 0, .I 0, .int .u64 0, .I 0, .int .u64 0, .int .u64 0, .slice none 0 0, .slice none 0 0, .slice none 0 0, .slice none 0 0, .int .u64 0, .I 0, .I 0, .I 0, .I 0, .slice none 0 0, .slice none 0 0, .int .u64 0, .slice none 0 0, .I 0] 35 H ?_
       intro L6 _ H
       refine uW 35 0 #[.I id, .I el, .I bt, .int .u64 K.term, .I K.vote, .int .u64 K.base, .int .u64 K.baseTerm, .slice p K.baseConf.voters.length s, .slice t K.baseConf.learners.length u, .slice A0 K.snap.length B0, .slice m2 K.log.length n2, .int .u64 K.base, .I 0, .I 0, .I 0, .I el, .slice none 0 0, .slice none 0 0, .int .u64 0, .slice none 0 0, .I 0] H 0 rfl ?_
       intro _ H
       refine uF 0 ?_
       have H := H.pick [3, 2, 1, 0, 4, 5, 6, 7] rfl
       have H := H.frontM 4 rfl
       have H := H.frontM 4 rfl
       have H := H.frontM 2 rfl
       have H := H.take 3 0
       exact uB (g (L6, p, t, A0, m2, s, u, B0, n2) _ ⟨H, trivial⟩)
      ·
       refine RT.leaf' [(26, .chn), (21, .chn), (25, .qui), (27, .seq)] (by as_aux_lemma => kernel_rfl) ?_
       refine uC #[.I 0, .I 0, .I 0, .int .u64 0, .I 0, .int .u64 0, .int .u64 0, .slice none 0 0, .slice none 0 0, .slice none 0 0, .slice none 0 0, .int .u64 0, .I 0, .I 0, .I 0, .I 0, .slice none 0 0, .slice none 0 0, .int .u64 0, .slice none 0 0, .I 0] 35 H ?_
       intro o2 _ H
       refine RW.appendN (κ := .chn) (d := some 32) (r := [(25, .qui), (27, .seq)]) (T := 30) (ty := 30) (e := 71) (m := 21) (by_ := 224) (a0 := (some ⟨P0, 0, none⟩)) (a2 := a) (l2 := K.log.length) (c2 := f) (by as_aux_lemma => kernel_rfl) (nofun) (.inr ⟨_, rfl⟩) (by as_aux_lemma => kernel_rfl) rfl H 6 rfl (by omega) ?_
       intro p2 q2 _ H
       refine uP 1 ?_
       refine uW 35 0 #[.I id, .I el, .I bt, .int .u64 K.term, .I K.vote, .int .u64 K.base, .int .u64 K.baseTerm, .slice p K.baseConf.voters.length s, .slice t K.baseConf.learners.length u, .slice A0 K.snap.length B0, .slice p2 K.log.length q2, .int .u64 K.base, .I 0, .I 0, .I 0, .I el, .slice none 0 0, .slice none 0 0, .int .u64 0, .slice none 0 0, .I 0] H 0 rfl ?_
       intro _ H
       refine qF 0 [(8, .P b3 0), (10, .P o2 0)] ?_
       have H := H.pick [3, 2, 1, 0, 4, 5, 6, 7] rfl
       have H := H.frontM 4 rfl
       have H := H.frontM 4 rfl
       have H := H.frontM 2 rfl
       have H := H.take 3 0
       exact uB (g (o2, p, t, A0, p2, s, u, B0, q2) _ ⟨H, trivial⟩)
     ·
      refine RT.leaf' [(26, .chn), (17, .chn), (21, .chn), (25, .qui), (27, .seq)] (by as_aux_lemma => kernel_rfl) ?_
      refine uC #[.I 0, .I 0, .I 0, .int .u64 0, .I 0, .int .u64 0, .int .u64 0, .slice none 0 0, .slice none 0 0, .slice none 0 0, .slice none 0 0, .int .u64 0, .I 0, .I 0, .I 0, .I 0, .slice none 0 0, .slice none 0 0, .int .u64 0, .slice none 0 0, .I 0] 35 H ?_
      intro M6 _ H
      refine RW.appendN (κ := .chn) (d := some 28) (r := [(21, .chn), (25, .qui), (27, .seq)]) (T := 29) (ty := 29) (e := 5) (m := 1) (by_ := 1) (a0 := (some ⟨D, 0, none⟩)) (a2 := h) (l2 := K.snap.length) (c2 := i) (by as_aux_lemma => kernel_rfl) (nofun) (.inr ⟨_, rfl⟩) (by as_aux_lemma => kernel_rfl) rfl H 4 rfl (by omega) ?_
      intro r2 s2 _ H
      refine RW.appendN (κ := .chn) (d := some 32) (r := [(25, .qui), (27, .seq)]) (T := 30) (ty := 30) (e := 71) (m := 21) (by_ := 224) (a0 := (some ⟨P0, 0, none⟩)) (a2 := a) (l2 := K.log.length) (c2 := f) (by as_aux_lemma => kernel_rfl) (nofun) (.inr ⟨_, rfl⟩) (by as_aux_lemma => kernel_rfl) rfl H 6 rfl (by omega) ?_
      intro t2 u2 _ H
      refine uP 1 ?_
      refine uW 35 0 #[.I id, .I el, .I bt, .int .u64 K.term, .I K.vote, .int .u64 K.base, .int .u64 K.baseTerm, .slice p K.baseConf.voters.length s, .slice t K.baseConf.learners.length u, .slice r2 K.snap.length s2, .slice t2 K.log.length u2, .int .u64 K.base, .I 0, .I 0, .I 0, .I el, .slice none 0 0, .slice none 0 0, .int .u64 0, .slice none 0 0, .I 0] H 0 rfl ?_
      intro _ H
      refine uF 0 ?_
      have H := H.pick [3, 2, 1, 0, 4, 5, 6, 7] rfl
      have H := H.frontM 4 rfl
      have H := H.frontM 4 rfl
      have H := H.frontM 2 rfl
      have H := H.take 3 0
      exact uB (g (M6, p, t, r2, t2, s, u, s2, u2) _ ⟨H, trivial⟩)
    ·
     refine RT.node' [(26, .chn)] (by as_aux_lemma => kernel_rfl) ?_
     refine uC #[.I 0, .I 0, .I 0, .int .u64 0, .I 0, .int .u64 0, .int .u64 0, .slice none 0 0, .slice none 0 0, .slice none 0 0, .slice none 0 0, .int .u64 0, .I 0, .I 0, .I 0, .I 0, .slice none 0 0, .slice none 0 0, .int .u64 0, .slice none 0 0, .I 0] 35 H ?_
     intro Q0 _ H
     refine uTF 0 ?_
     refine (RB.cons' ?_ (RB.cons' ?_ RB.nil'))
     ·
      refine RT.leaf' [(17, .chn), (18, .chn), (21, .chn), (25, .qui), (27, .seq)] (by as_aux_lemma => kernel_rfl) ?_
      refine RW.appendN (κ := .chn) (d := some 28) (r := [(18, .chn), (21, .chn), (25, .qui), (27, .seq)]) (T := 29) (ty := 29) (e := 5) (m := 1) (by_ := 1) (a0 := (some ⟨D, 0, none⟩)) (a2 := h) (l2 := K.snap.length) (c2 := i) (by as_aux_lemma => kernel_rfl) (nofun) (.inr ⟨_, rfl⟩) (by as_aux_lemma => kernel_rfl) rfl H 4 rfl (by omega) ?_
      intro x2 z2 _ H
      refine RW.new (κ := .chn) (d := some 29) (r := [(21, .chn), (25, .qui), (27, .seq)]) (o := .cells #[] 71 (0, 0)) (v := fun b => .slice (some ⟨b, 0, none⟩) 0 0) (fun b => by as_aux_lemma => kernel_rfl) (nofun) H ?_
      intro N6 _ H
      refine RW.appendN (κ := .chn) (d := some 32) (r := [(25, .qui), (27, .seq)]) (T := 30) (ty := 30) (e := 71) (m := 21) (by_ := 224) (a0 := (some ⟨N6, 0, none⟩)) (a2 := a) (l2 := K.log.length) (c2 := f) (by as_aux_lemma => kernel_rfl) (nofun) (.inr ⟨_, rfl⟩) (by as_aux_lemma => kernel_rfl) rfl H 6 rfl (by omega) ?_
      intro A2 B2 _ H
      refine uP 1 ?_
      refine uW 35 0 #[.I id, .I el, .I bt, .int .u64 K.term, .I K.vote, .int .u64 K.base, .int .u64 K.baseTerm, .slice p K.baseConf.voters.length s, .slice t K.baseConf.learners.length u, .slice x2 K.snap.length z2, .slice A2 K.log.length B2, .int .u64 K.base, .I 0, .I 0, .I 0, .I el, .slice none 0 0, .slice none 0 0, .int .u64 0, .slice none 0 0, .I 0] H 1 rfl ?_
      intro _ H
      refine uF 0 ?_
      have H := H.pick [3, 2, 1, 0, 4, 5, 6, 7] rfl
      have H := H.frontM 4 rfl
      have H := H.frontM 4 rfl
      have H := H.frontM 3 rfl
      have H := H.take 3 0
      exact uB (g (Q0, p, t, x2, A2, s, u, z2, B2) _ ⟨H, trivial⟩)
     ·
      refine RT.leaf' [(18, .chn), (17, .chn), (21, .chn), (25, .qui), (27, .seq)] (by as_aux_lemma => kernel_rfl) ?_
      refine RW.new (κ := .chn) (d := some 29) (r := [(17, .chn), (21, .chn), (25, .qui), (27, .seq)]) (o := .cells #[] 71 (0, 0)) (v := fun b => .slice (some ⟨b, 0, none⟩) 0 0) (fun b => by as_aux_lemma => kernel_rfl) (nofun) H ?_
      intro O6 _ H
      refine RW.appendN (κ := .chn) (d := some 28) (r := [(21, .chn), (25, .qui), (27, .seq)]) (T := 29) (ty := 29) (e := 5) (m := 1) (by_ := 1) (a0 := (some ⟨D, 0, none⟩)) (a2 := h) (l2 := K.snap.length) (c2 := i) (by as_aux_lemma => kernel_rfl) (nofun) (.inr ⟨_, rfl⟩) (by as_aux_lemma => kernel_rfl) rfl H 4 rfl (by omega) ?_
      intro C2 D2 _ H
      refine RW.appendN (κ := .chn) (d := some 32) (r := [(25, .qui), (27, .seq)]) (T := 30) (ty := 30) (e := 71) (m := 21) (by_ := 224) (a0 := (some ⟨O6, 0, none⟩)) (a2 := a) (l2 := K.log.length) (c2 := f) (by as_aux_lemma => kernel_rfl) (nofun) (.inr ⟨_, rfl⟩) (by as_aux_lemma => kernel_rfl) rfl H 6 rfl (by omega) ?_
      intro E2 F2 _ H
      refine uP 1 ?_
      refine uW 35 0 #[.I id, .I el, .I bt, .int .u64 K.term, .I K.vote, .int .u64 K.base, .int .u64 K.baseTerm, .slice p K.baseConf.voters.length s, .slice t K.baseConf.learners.length u, .slice C2 K.snap.length D2, .slice E2 K.log.length F2, .int .u64 K.base, .I 0, .I 0, .I 0, .I el, .slice none 0 0, .slice none 0 0, .int .u64 0, .slice none 0 0, .I 0] H 1 rfl ?_
      intro _ H
      refine qF 0 [(8, .P b3 0), (10, .P Q0 0)] ?_
      have H := H.pick [3, 2, 1, 0, 4, 5, 6, 7] rfl
      have H := H.frontM 4 rfl
      have H := H.frontM 4 rfl
      have H := H.frontM 3 rfl
      have H := H.take 3 0
      exact uB (g (Q0, p, t, C2, E2, s, u, D2, F2) _ ⟨H, trivial⟩)
   ·
    refine RT.node' [(18, .chn)] (by as_aux_lemma => kernel_rfl) ?_
    refine RW.new (κ := .chn) (d := some 29) (r := []) (o := .cells #[] 71 (0, 0)) (v := fun b => .slice (some ⟨b, 0, none⟩) 0 0) (fun b => by as_aux_lemma => kernel_rfl) (nofun) H ?_
    intro C0 _ H
    refine uTF 0 ?_
    refine (RB.cons' ?_ (RB.cons' ?_ RB.nil'))
    ·
     refine RT.node' [(13, .chn)] (by as_aux_lemma => kernel_rfl) ?_
     refine uK (refcopy_spec (C := K.baseConf) (conf_mk (H.rp 0 rfl) (H.rp 1 rfl)) (by omega) (by omega)) ?_
     rintro _ _ p1 ⟨_, rfl, V4⟩
     obtain ⟨g0, h0, i0, j0, rfl, W4, X4⟩ := conf_open V4
     have x := H.addM p1 W4
     have H := x.addO H p1 X4
     refine uTF 0 ?_
     refine (RB.cons' ?_ (RB.cons' ?_ RB.nil'))
     ·
      refine RT.node' [(17, .chn)] (by as_aux_lemma => kernel_rfl) ?_
      refine RW.appendN (κ := .chn) (d := some 28) (r := []) (T := 29) (ty := 29) (e := 5) (m := 1) (by_ := 1) (a0 := (some ⟨D, 0, none⟩)) (a2 := h) (l2 := K.snap.length) (c2 := i) (by as_aux_lemma => kernel_rfl) (nofun) (.inr ⟨_, rfl⟩) (by as_aux_lemma => kernel_rfl) rfl H 4 rfl (by omega) ?_
      intro D0 E0 _ H
      refine uTF 0 ?_
      refine (RB.cons' ?_ (RB.cons' ?_ RB.nil'))
      ·
       refine RT.leaf' [(21, .chn), (25, .qui), (26, .chn), (27, .seq)] (by as_aux_lemma => kernel_rfl) ?_
       refine RW.appendN (κ := .chn) (d := some 32) (r := [(25, .qui), (26, .chn), (27, .seq)]) (T := 30) (ty := 30) (e := 71) (m := 21) (by_ := 224) (a0 := (some ⟨C0, 0, none⟩)) (a2 := a) (l2 := K.log.length) (c2 := f) (by as_aux_lemma => kernel_rfl) (nofun) (.inr ⟨_, rfl⟩) (by as_aux_lemma => kernel_rfl) rfl H 6 rfl (by omega) ?_
       intro G2 H2 _ H
       refine uP 1 ?_
       refine uC #[.I 0, .I 0, .I 0, .int .u64 0, .I 0, .int .u64 0, .int .u64 0, .slice none 0 0, .slice none 0 0, .slice none 0 0, .slice none 0 0, .int .u64 0, .I 0, .I 0, .I 0, .I 0, .slice none 0 0, .slice none 0 0, .int .u64 0, .slice none 0 0, .I 0] 35 H ?_
       intro P6 _ H
       refine uW 35 0 #[.I id, .I el, .I bt, .int .u64 K.term, .I K.vote, .int .u64 K.base, .int .u64 K.baseTerm, .slice g0 K.baseConf.voters.length h0, .slice i0 K.baseConf.learners.length j0, .slice D0 K.snap.length E0, .slice G2 K.log.length H2, .int .u64 K.base, .I 0, .I 0, .I 0, .I el, .slice none 0 0, .slice none 0 0, .int .u64 0, .slice none 0 0, .I 0] H 0 rfl ?_
       intro _ H
       refine uF 0 ?_
       have H := H.pick [3, 2, 1, 0, 4, 5, 6, 7] rfl
       have H := H.frontM 4 rfl
       have H := H.frontM 4 rfl
       have H := H.frontM 2 rfl
       have H := H.take 3 0
       exact uB (g (P6, g0, i0, D0, G2, h0, j0, E0, H2) _ ⟨H, trivial⟩)
      ·
       refine RT.leaf' [(26, .chn), (21, .chn), (25, .qui), (27, .seq)] (by as_aux_lemma => kernel_rfl) ?_
       refine uC #[.I 0, .I 0, .I 0, .int .u64 0, .I 0, .int .u64 0, .int .u64 0, .slice none 0 0, .slice none 0 0, .slice none 0 0, .slice none 0 0, .int .u64 0, .I 0, .I 0, .I 0, .I 0, .slice none 0 0, .slice none 0 0, .int .u64 0, .slice none 0 0, .I 0] 35 H ?_
       intro I2 _ H
       refine RW.appendN (κ := .chn) (d := some 32) (r := [(25, .qui), (27, .seq)]) (T := 30) (ty := 30) (e := 71) (m := 21) (by_ := 224) (a0 := (some ⟨C0, 0, none⟩)) (a2 := a) (l2 := K.log.length) (c2 := f) (by as_aux_lemma => kernel_rfl) (nofun) (.inr ⟨_, rfl⟩) (by as_aux_lemma => kernel_rfl) rfl H 6 rfl (by omega) ?_
       intro J2 K2 _ H
       refine uP 1 ?_
       refine uW 35 0 #[.I id, .I el, .I bt, .int .u64 K.term, .I K.vote, .int .u64 K.base, .int .u64 K.baseTerm, .slice g0 K.baseConf.voters.length h0, .slice i0 K.baseConf.learners.length j0, .slice D0 K.snap.length E0, .slice J2 K.log.length K2, .int .u64 K.base, .I 0, .I 0, .I 0, .I el, .slice none 0 0, .slice none 0 0, .int .u64 0, .slice none 0 0, .I 0] H 0 rfl ?_
       intro _ H
       refine qF 0 [(8, .P b3 0), (10, .P I2 0)] ?_
       have H := H.pick [3, 2, 1, 0, 4, 5, 6, 7] rfl
       have H := H.frontM 4 rfl
       have H := H.frontM 4 rfl
       have H := H.frontM 2 rfl
       have H := H.take 3 0
       exact uB (g (I2, g0, i0, D0, J2, h0, j0, E0, K2) _ ⟨H, trivial⟩)
     ·
      refine RT.leaf' [(26, .chn), (17, .chn), (21, .chn), (25, .qui), (27, .seq)] (by as_aux_lemma => kernel_rfl) ?_
      refine uC #[.I 0, .I 0, .I 0, .int .u64 0, .I 0, .int .u64 0, .int .u64 0, .slice none 0 0, .slice none 0 0, .slice none 0 0, .slice none 0 0, .int .u64 0, .I 0, .I 0, .I 0, .I 0, .slice none 0 0, .slice none 0 0, .int .u64 0, .slice none 0 0, .I 0] 35 H ?_
      intro Q6 _ H
      refine RW.appendN (κ := .chn) (d := some 28) (r := [(21, .chn), (25, .qui), (27, .seq)]) (T := 29) (ty := 29) (e := 5) (m := 1) (by_ := 1) (a0 := (some ⟨D, 0, none⟩)) (a2 := h) (l2 := K.snap.length) (c2 := i) (by as_aux_lemma => kernel_rfl) (nofun) (.inr ⟨_, rfl⟩) (by as_aux_lemma => kernel_rfl) rfl H 4 rfl (by omega) ?_
      intro L2 M2 _ H
      refine RW.appendN (κ := .chn) (d := some 32) (r := [(25, .qui), (27, .seq)]) (T := 30) (ty := 30) (e := 71) (m := 21) (by_ := 224) (a0 := (some ⟨C0, 0, none⟩)) (a2 := a) (l2 := K.log.length) (c2 := f) (by as_aux_lemma => kernel_rfl) (nofun) (.inr ⟨_, rfl⟩) (by as_aux_lemma => kernel_rfl) rfl H 6 rfl (by omega) ?_
      intro N2 O2 _ H
      refine uP 1 ?_
      refine uW 35 0 #[.I id, .I el, .I bt, .int .u64 K.term, .I K.vote, .int .u64 K.base, .int .u64 K.baseTerm, .slice g0 K.baseConf.voters.length h0, .slice i0 K.baseConf.learners.length j0, .slice L2 K.snap.length M2, .slice N2 K.log.length O2, .int .u64 K.base, .I 0, .I 0, .I 0, .I el, .slice none 0 0, .slice none 0 0, .int .u64 0, .slice none 0 0, .I 0] H 0 rfl ?_
      intro _ H
      refine uF 0 ?_
      have H := H.pick [3, 2, 1, 0, 4, 5, 6, 7] rfl
      have H := H.frontM 4 rfl
      have H := H.frontM 4 rfl
      have H := H.frontM 2 rfl
      have H := H.take 3 0
      exact uB (g (Q6, g0, i0, L2, N2, h0, j0, M2, O2) _ ⟨H, trivial⟩)
    ·
     refine RT.leaf' [(26, .chn), (13, .chn), (17, .chn), (21, .chn), (25, .qui), (27, .seq)] (by as_aux_lemma => kernel_rfl) ?_
     refine uC #[.I 0, .I 0, .I 0, .int .u64 0, .I 0, .int .u64 0, .int .u64 0, .slice none 0 0, .slice none 0 0, .slice none 0 0, .slice none 0 0, .int .u64 0, .I 0, .I 0, .I 0, .I 0, .slice none 0 0, .slice none 0 0, .int .u64 0, .slice none 0 0, .I 0] 35 H ?_
     intro R6 _ H
     refine uK (refcopy_spec (C := K.baseConf) (conf_mk (H.rp 0 rfl) (H.rp 1 rfl)) (by omega) (by omega)) ?_
     rintro _ _ q1 ⟨_, rfl, Y4⟩
     obtain ⟨P2, Q2, R2, S2, rfl, Z4, a5⟩ := conf_open Y4
     have x := H.addM q1 Z4
     have H := x.addO H q1 a5
     refine RW.appendN (κ := .chn) (d := some 28) (r := [(21, .chn), (25, .qui), (27, .seq)]) (T := 29) (ty := 29) (e := 5) (m := 1) (by_ := 1) (a0 := (some ⟨D, 0, none⟩)) (a2 := h) (l2 := K.snap.length) (c2 := i) (by as_aux_lemma => kernel_rfl) (nofun) (.inr ⟨_, rfl⟩) (by as_aux_lemma => kernel_rfl) rfl H 4 rfl (by omega) ?_
     intro T2 U2 _ H
     refine RW.appendN (κ := .chn) (d := some 32) (r := [(25, .qui), (27, .seq)]) (T := 30) (ty := 30) (e := 71) (m := 21) (by_ := 224) (a0 := (some ⟨C0, 0, none⟩)) (a2 := a) (l2 := K.log.length) (c2 := f) (by as_aux_lemma => kernel_rfl) (nofun) (.inr ⟨_, rfl⟩) (by as_aux_lemma => kernel_rfl) rfl H 6 rfl (by omega) ?_
     intro V2 W2 _ H
     refine uP 1 ?_
     refine uW 35 0 #[.I id, .I el, .I bt, .int .u64 K.term, .I K.vote, .int .u64 K.base, .int .u64 K.baseTerm, .slice P2 K.baseConf.voters.length Q2, .slice R2 K.baseConf.learners.length S2, .slice T2 K.snap.length U2, .slice V2 K.log.length W2, .int .u64 K.base, .I 0, .I 0, .I 0, .I el, .slice none 0 0, .slice none 0 0, .int .u64 0, .slice none 0 0, .I 0] H 0 rfl ?_
     intro _ H
     refine uF 0 ?_
     have H := H.pick [3, 2, 1, 0, 4, 5, 6, 7] rfl
     have H := H.frontM 4 rfl
     have H := H.frontM 4 rfl
     have H := H.frontM 2 rfl
     have H := H.take 3 0
     exact uB (g (R6, P2, R2, T2, V2, Q2, S2, U2, W2) _ ⟨H, trivial⟩)
   ·
    refine RT.node' [(26, .chn)] (by as_aux_lemma => kernel_rfl) ?_
    refine uC #[.I 0, .I 0, .I 0, .int .u64 0, .I 0, .int .u64 0, .int .u64 0, .slice none 0 0, .slice none 0 0, .slice none 0 0, .slice none 0 0, .int .u64 0, .I 0, .I 0, .I 0, .I 0, .slice none 0 0, .slice none 0 0, .int .u64 0, .slice none 0 0, .I 0] 35 H ?_
    intro F0 _ H
    refine uTF 0 ?_
    refine (RB.cons' ?_ (RB.cons' ?_ RB.nil'))
    ·
     refine RT.node' [(13, .chn)] (by as_aux_lemma => kernel_rfl) ?_
     refine uK (refcopy_spec (C := K.baseConf) (conf_mk (H.rp 0 rfl) (H.rp 1 rfl)) (by omega) (by omega)) ?_
     rintro _ _ r1 ⟨_, rfl, b5⟩
     obtain ⟨G0, H0, I0, J0, rfl, c5, d5⟩ := conf_open b5
     have x := H.addM r1 c5
     have H := x.addO H r1 d5
     refine uTF 0 ?_
     refine (RB.cons' ?_ (RB.cons' ?_ RB.nil'))
     ·
      refine RT.leaf' [(17, .chn), (18, .chn), (21, .chn), (25, .qui), (27, .seq)] (by as_aux_lemma => kernel_rfl) ?_
      refine RW.appendN (κ := .chn) (d := some 28) (r := [(18, .chn), (21, .chn), (25, .qui), (27, .seq)]) (T := 29) (ty := 29) (e := 5) (m := 1) (by_ := 1) (a0 := (some ⟨D, 0, none⟩)) (a2 := h) (l2 := K.snap.length) (c2 := i) (by as_aux_lemma => kernel_rfl) (nofun) (.inr ⟨_, rfl⟩) (by as_aux_lemma => kernel_rfl) rfl H 4 rfl (by omega) ?_
      intro X2 Y2 _ H
      refine RW.new (κ := .chn) (d := some 29) (r := [(21, .chn), (25, .qui), (27, .seq)]) (o := .cells #[] 71 (0, 0)) (v := fun b => .slice (some ⟨b, 0, none⟩) 0 0) (fun b => by as_aux_lemma => kernel_rfl) (nofun) H ?_
      intro S6 _ H
      refine RW.appendN (κ := .chn) (d := some 32) (r := [(25, .qui), (27, .seq)]) (T := 30) (ty := 30) (e := 71) (m := 21) (by_ := 224) (a0 := (some ⟨S6, 0, none⟩)) (a2 := a) (l2 := K.log.length) (c2 := f) (by as_aux_lemma => kernel_rfl) (nofun) (.inr ⟨_, rfl⟩) (by as_aux_lemma => kernel_rfl) rfl H 6 rfl (by omega) ?_
      intro Z2 a3 _ H
      refine uP 1 ?_
      refine uW 35 0 #[.I id, .I el, .I bt, .int .u64 K.term, .I K.vote, .int .u64 K.base, .int .u64 K.baseTerm, .slice G0 K.baseConf.voters.length H0, .slice I0 K.baseConf.learners.length J0, .slice X2 K.snap.length Y2, .slice Z2 K.log.length a3, .int .u64 K.base, .I 0, .I 0, .I 0, .I el, .slice none 0 0, .slice none 0 0, .int .u64 0, .slice none 0 0, .I 0] H 1 rfl ?_
      intro _ H
      refine uF 0 ?_
      have H := H.pick [3, 2, 1, 0, 4, 5, 6, 7] rfl
      have H := H.frontM 4 rfl
      have H := H.frontM 4 rfl
      have H := H.frontM 3 rfl
      have H := H.take 3 0
      exact uB (g (F0, G0, I0, X2, Z2, H0, J0, Y2, a3) _ ⟨H, trivial⟩)
     ·
      refine RT.leaf' [(18, .chn), (17, .chn), (21, .chn), (25, .qui), (27, .seq)] (by as_aux_lemma => kernel_rfl) ?_
      refine RW.new (κ := .chn) (d := some 29) (r := [(17, .chn), (21, .chn), (25, .qui), (27, .seq)]) (o := .cells #[] 71 (0, 0)) (v := fun b => .slice (some ⟨b, 0, none⟩) 0 0) (fun b => by as_aux_lemma => kernel_rfl) (nofun) H ?_
      intro T6 _ H
      refine RW.appendN (κ := .chn) (d := some 28) (r := [(21, .chn), (25, .qui), (27, .seq)]) (T := 29) (ty := 29) (e := 5) (m := 1) (by_ := 1) (a0 := (some ⟨D, 0, none⟩)) (a2 := h) (l2 := K.snap.length) (c2 := i) (by as_aux_lemma => kernel_rfl) (nofun) (.inr ⟨_, rfl⟩) (by as_aux_lemma => kernel_rfl) rfl H 4 rfl (by omega) ?_
      intro a319 c3 _ H
      refine RW.appendN (κ := .chn) (d := some 32) (r := [(25, .qui), (27, .seq)]) (T := 30) (ty := 30) (e := 71) (m := 21) (by_ := 224) (a0 := (some ⟨T6, 0, none⟩)) (a2 := a) (l2 := K.log.length) (c2 := f) (by as_aux_lemma => kernel_rfl) (nofun) (.inr ⟨_, rfl⟩) (by as_aux_lemma => kernel_rfl) rfl H 6 rfl (by omega) ?_
      intro d3 e3 _ H
      refine uP 1 ?_
      refine uW 35 0 #[.I id, .I el, .I bt, .int .u64 K.term, .I K.vote, .int .u64 K.base, .int .u64 K.baseTerm, .slice G0 K.baseConf.voters.length H0, .slice I0 K.baseConf.learners.length J0, .slice a319 K.snap.length c3, .slice d3 K.log.length e3, .int .u64 K.base, .I 0, .I 0, .I 0, .I el, .slice none 0 0, .slice none 0 0, .int .u64 0, .slice none 0 0, .I 0] H 1 rfl ?_
      intro _ H
      refine qF 0 [(8, .P b3 0), (10, .P F0 0)] ?_
      have H := H.pick [3, 2, 1, 0, 4, 5, 6, 7] rfl
      have H := H.frontM 4 rfl
      have H := H.frontM 4 rfl
      have H := H.frontM 3 rfl
      have H := H.take 3 0
      exact uB (g (F0, G0, I0, a319, d3, H0, J0, c3, e3) _ ⟨H, trivial⟩)
    ·
     refine RT.leaf' [(18, .chn), (13, .chn), (17, .chn), (21, .chn), (25, .qui), (27, .seq)] (by as_aux_lemma => kernel_rfl) ?_
     refine RW.new (κ := .chn) (d := some 29) (r := [(13, .chn), (17, .chn), (21, .chn), (25, .qui), (27, .seq)]) (o := .cells #[] 71 (0, 0)) (v := fun b => .slice (some ⟨b, 0, none⟩) 0 0) (fun b => by as_aux_lemma => kernel_rfl) (nofun) H ?_
     intro U6 _ H
     refine uK (refcopy_spec (C := K.baseConf) (conf_mk (H.rp 0 rfl) (H.rp 1 rfl)) (by omega) (by omega)) ?_
     rintro _ _ s1 ⟨_, rfl, e5⟩
     obtain ⟨f3, g3, h3, i3, rfl, f5, g5⟩ := conf_open e5
     have x := H.addM s1 f5
     have H := x.addO H s1 g5
     refine RW.appendN (κ := .chn) (d := some 28) (r := [(21, .chn), (25, .qui), (27, .seq)]) (T := 29) (ty := 29) (e := 5) (m := 1) (by_ := 1) (a0 := (some ⟨D, 0, none⟩)) (a2 := h) (l2 := K.snap.length) (c2 := i) (by as_aux_lemma => kernel_rfl) (nofun) (.inr ⟨_, rfl⟩) (by as_aux_lemma => kernel_rfl) rfl H 4 rfl (by omega) ?_
     intro j3 k3 _ H
     refine RW.appendN (κ := .chn) (d := some 32) (r := [(25, .qui), (27, .seq)]) (T := 30) (ty := 30) (e := 71) (m := 21) (by_ := 224) (a0 := (some ⟨U6, 0, none⟩)) (a2 := a) (l2 := K.log.length) (c2 := f) (by as_aux_lemma => kernel_rfl) (nofun) (.inr ⟨_, rfl⟩) (by as_aux_lemma => kernel_rfl) rfl H 6 rfl (by omega) ?_
     intro m3 n3 _ H
     refine uP 1 ?_
     refine uW 35 0 #[.I id, .I el, .I bt, .int .u64 K.term, .I K.vote, .int .u64 K.base, .int .u64 K.baseTerm, .slice f3 K.baseConf.voters.length g3, .slice h3 K.baseConf.learners.length i3, .slice j3 K.snap.length k3, .slice m3 K.log.length n3, .int .u64 K.base, .I 0, .I 0, .I 0, .I el, .slice none 0 0, .slice none 0 0, .int .u64 0, .slice none 0 0, .I 0] H 1 rfl ?_
     intro _ H
     refine uF 0 ?_
     have H := H.pick [3, 2, 1, 0, 4, 5, 6, 7] rfl
     have H := H.frontM 4 rfl
     have H := H.frontM 4 rfl
     have H := H.frontM 3 rfl
     have H := H.take 3 0
     exact uB (g (F0, f3, h3, j3, m3, g3, i3, k3, n3) _ ⟨H, trivial⟩)
  ·
   refine RT.node' [(18, .chn)] (by as_aux_lemma => kernel_rfl) ?_
   refine RW.new (κ := .chn) (d := some 29) (r := []) (o := .cells #[] 71 (0, 0)) (v := fun b => .slice (some ⟨b, 0, none⟩) 0 0) (fun b => by as_aux_lemma => kernel_rfl) (nofun) H ?_
   intro F _ H
   refine uTF 0 ?_
   refine (RB.cons' ?_ (RB.cons' ?_ (RB.cons' ?_ RB.nil')))
   ·
    refine RT.node' [(13, .chn)] (by as_aux_lemma => kernel_rfl) ?_
    refine uK (refcopy_spec (C := K.baseConf) (conf_mk (H.rp 0 rfl) (H.rp 1 rfl)) (by omega) (by omega)) ?_
    rintro _ _ t1 ⟨_, rfl, h5⟩
    obtain ⟨G, J, L, M, rfl, i5, j5⟩ := conf_open h5
    have x := H.addM t1 i5
    have H := x.addO H t1 j5
    refine uTF 0 ?_
    refine (RB.cons' ?_ (RB.cons' ?_ RB.nil'))
    ·
     refine RT.node' [(14, .chn)] (by as_aux_lemma => kernel_rfl) ?_
     refine RW.new (κ := .chn) (d := some 25) (r := []) (o := .cells #[] 5 (0, 0)) (v := fun b => .slice (some ⟨b, 0, none⟩) 0 0) (fun b => by as_aux_lemma => kernel_rfl) (nofun) H ?_
     intro o3 _ H
     refine uTF 0 ?_
     refine (RB.cons' ?_ (RB.cons' ?_ RB.nil'))
     ·
      refine RT.node' [(17, .chn)] (by as_aux_lemma => kernel_rfl) ?_
      refine RW.appendN (κ := .chn) (d := some 28) (r := []) (T := 29) (ty := 29) (e := 5) (m := 1) (by_ := 1) (a0 := (some ⟨o3, 0, none⟩)) (a2 := h) (l2 := K.snap.length) (c2 := i) (by as_aux_lemma => kernel_rfl) (nofun) (.inr ⟨_, rfl⟩) (by as_aux_lemma => kernel_rfl) rfl H 4 rfl (by omega) ?_
      intro K0 L0 _ H
      refine uTF 0 ?_
      refine (RB.cons' ?_ (RB.cons' ?_ RB.nil'))
      ·
       refine RT.leaf' [(21, .chn), (25, .qui), (26, .chn), (27, .seq)] (by as_aux_lemma => kernel_rfl) ?_
       refine RW.appendN (κ := .chn) (d := some 32) (r := [(25, .qui), (26, .chn), (27, .seq)]) (T := 30) (ty := 30) (e := 71) (m := 21) (by_ := 224) (a0 := (some ⟨F, 0, none⟩)) (a2 := a) (l2 := K.log.length) (c2 := f) (by as_aux_lemma => kernel_rfl) (nofun) (.inr ⟨_, rfl⟩) (by as_aux_lemma => kernel_rfl) rfl H 6 rfl (by omega) ?_
       intro p3 q3 _ H
       refine uP 1 ?_
       refine uC #[.I 0, .I 0, .I 0, .int .u64 0, .I 0, .int .u64 0, .int .u64 0, .slice none 0 0, .slice none 0 0, .slice none 0 0, .slice none 0 0, .int .u64 0, .I 0, .I 0, .I 0, .I 0, .slice none 0 0, .slice none 0 0, .int .u64 0, .slice none 0 0, .I 0] 35 H ?_
       intro V6 _ H
       refine uW 35 0 #[.I id, .I el, .I bt, .int .u64 K.term, .I K.vote, .int .u64 K.base, .int .u64 K.baseTerm, .slice G K.baseConf.voters.length J, .slice L K.baseConf.learners.length M, .slice K0 K.snap.length L0, .slice p3 K.log.length q3, .int .u64 K.base, .I 0, .I 0, .I 0, .I el, .slice none 0 0, .slice none 0 0, .int .u64 0, .slice none 0 0, .I 0] H 0 rfl ?_
       intro _ H
       refine uF 0 ?_
       have H := H.pick [3, 2, 1, 0, 4, 5, 6, 7] rfl
       have H := H.frontM 4 rfl
       have H := H.frontM 4 rfl
       have H := H.frontM 2 rfl
       have H := H.take 3 0
       exact uB (g (V6, G, L, K0, p3, J, M, L0, q3) _ ⟨H, trivial⟩)
      ·
       refine RT.leaf' [(26, .chn), (21, .chn), (25, .qui), (27, .seq)] (by as_aux_lemma => kernel_rfl) ?_
       refine uC #[.I 0, .I 0, .I 0, .int .u64 0, .I 0, .int .u64 0, .int .u64 0, .slice none 0 0, .slice none 0 0, .slice none 0 0, .slice none 0 0, .int .u64 0, .I 0, .I 0, .I 0, .I 0, .slice none 0 0, .slice none 0 0, .int .u64 0, .slice none 0 0, .I 0] 35 H ?_
       intro r3 _ H
       refine RW.appendN (κ := .chn) (d := some 32) (r := [(25, .qui), (27, .seq)]) (T := 30) (ty := 30) (e := 71) (m := 21) (by_ := 224) (a0 := (some ⟨F, 0, none⟩)) (a2 := a) (l2 := K.log.length) (c2 := f) (by as_aux_lemma => kernel_rfl) (nofun) (.inr ⟨_, rfl⟩) (by as_aux_lemma => kernel_rfl) rfl H 6 rfl (by omega) ?_
       intro s3 t3 _ H
       refine uP 1 ?_
       refine uW 35 0 #[.I id, .I el, .I bt, .int .u64 K.term, .I K.vote, .int .u64 K.base, .int .u64 K.baseTerm, .slice G K.baseConf.voters.length J, .slice L K.baseConf.learners.length M, .slice K0 K.snap.length L0, .slice s3 K.log.length t3, .int .u64 K.base, .I 0, .I 0, .I 0, .I el, .slice none 0 0, .slice none 0 0, .int .u64 0, .slice none 0 0, .I 0] H 0 rfl ?_
       intro _ H
       refine qF 0 [(8, .P b3 0), (10, .P r3 0)] ?_
       have H := H.pick [3, 2, 1, 0, 4, 5, 6, 7] rfl
       have H := H.frontM 4 rfl
       have H := H.frontM 4 rfl
       have H := H.frontM 2 rfl
       have H := H.take 3 0
       exact uB (g (r3, G, L, K0, s3, J, M, L0, t3) _ ⟨H, trivial⟩)
     ·
      refine RT.leaf' [(26, .chn), (17, .chn), (21, .chn), (25, .qui), (27, .seq)] (by as_aux_lemma => kernel_rfl) ?_
      refine uC #[.I 0, .I 0, .I 0, .int .u64 0, .I 0, .int .u64 0, .int .u64 0, .slice none 0 0, .slice none 0 0, .slice none 0 0, .slice none 0 0, .int .u64 0, .I 0, .I 0, .I 0, .I 0, .slice none 0 0, .slice none 0 0, .int .u64 0, .slice none 0 0, .I 0] 35 H ?_
      intro W6 _ H
      refine RW.appendN (κ := .chn) (d := some 28) (r := [(21, .chn), (25, .qui), (27, .seq)]) (T := 29) (ty := 29) (e := 5) (m := 1) (by_ := 1) (a0 := (some ⟨o3, 0, none⟩)) (a2 := h) (l2 := K.snap.length) (c2 := i) (by as_aux_lemma => kernel_rfl) (nofun) (.inr ⟨_, rfl⟩) (by as_aux_lemma => kernel_rfl) rfl H 4 rfl (by omega) ?_
      intro u3 v3 _ H
      refine RW.appendN (κ := .chn) (d := some 32) (r := [(25, .qui), (27, .seq)]) (T := 30) (ty := 30) (e := 71) (m := 21) (by_ := 224) (a0 := (some ⟨F, 0, none⟩)) (a2 := a) (l2 := K.log.length) (c2 := f) (by as_aux_lemma => kernel_rfl) (nofun) (.inr ⟨_, rfl⟩) (by as_aux_lemma => kernel_rfl) rfl H 6 rfl (by omega) ?_
      intro w3 x3 _ H
      refine uP 1 ?_
      refine uW 35 0 #[.I id, .I el, .I bt, .int .u64 K.term, .I K.vote, .int .u64 K.base, .int .u64 K.baseTerm, .slice G K.baseConf.voters.length J, .slice L K.baseConf.learners.length M, .slice u3 K.snap.length v3, .slice w3 K.log.length x3, .int .u64 K.base, .I 0, .I 0, .I 0, .I el, .slice none 0 0, .slice none 0 0, .int .u64 0, .slice none 0 0, .I 0] H 0 rfl ?_
      intro _ H
      refine uF 0 ?_
      have H := H.pick [3, 2, 1, 0, 4, 5, 6, 7] rfl
      have H := H.frontM 4 rfl
      have H := H.frontM 4 rfl
      have H := H.frontM 2 rfl
      have H := H.take 3 0
      exact uB (g (W6, G, L, u3, w3, J, M, v3, x3) _ ⟨H, trivial⟩)
    ·
     refine RT.leaf' [(26, .chn), (14, .chn), (17, .chn), (21, .chn), (25, .qui), (27, .seq)] (by as_aux_lemma => kernel_rfl) ?_
     refine uC #[.I 0, .I 0, .I 0, .int .u64 0, .I 0, .int .u64 0, .int .u64 0, .slice none 0 0, .slice none 0 0, .slice none 0 0, .slice none 0 0, .int .u64 0, .I 0, .I 0, .I 0, .I 0, .slice none 0 0, .slice none 0 0, .int .u64 0, .slice none 0 0, .I 0] 35 H ?_
     intro X6 _ H
     refine RW.new (κ := .chn) (d := some 25) (r := [(17, .chn), (21, .chn), (25, .qui), (27, .seq)]) (o := .cells #[] 5 (0, 0)) (v := fun b => .slice (some ⟨b, 0, none⟩) 0 0) (fun b => by as_aux_lemma => kernel_rfl) (nofun) H ?_
     intro Y6 _ H
     refine RW.appendN (κ := .chn) (d := some 28) (r := [(21, .chn), (25, .qui), (27, .seq)]) (T := 29) (ty := 29) (e := 5) (m := 1) (by_ := 1) (a0 := (some ⟨Y6, 0, none⟩)) (a2 := h) (l2 := K.snap.length) (c2 := i) (by as_aux_lemma => kernel_rfl) (nofun) (.inr ⟨_, rfl⟩) (by as_aux_lemma => kernel_rfl) rfl H 4 rfl (by omega) ?_
     intro z3 A3 _ H
     refine RW.appendN (κ := .chn) (d := some 32) (r := [(25, .qui), (27, .seq)]) (T := 30) (ty := 30) (e := 71) (m := 21) (by_ := 224) (a0 := (some ⟨F, 0, none⟩)) (a2 := a) (l2 := K.log.length) (c2 := f) (by as_aux_lemma => kernel_rfl) (nofun) (.inr ⟨_, rfl⟩) (by as_aux_lemma => kernel_rfl) rfl H 6 rfl (by omega) ?_
     intro B3 C3 _ H
     refine uP 1 ?_
     refine uW 35 0 #[.I id, .I el, .I bt, .int .u64 K.term, .I K.vote, .int .u64 K.base, .int .u64 K.baseTerm, .slice G K.baseConf.voters.length J, .slice L K.baseConf.learners.length M, .slice z3 K.snap.length A3, .slice B3 K.log.length C3, .int .u64 K.base, .I 0, .I 0, .I 0, .I el, .slice none 0 0, .slice none 0 0, .int .u64 0, .slice none 0 0, .I 0] H 1 rfl ?_
     intro _ H
     refine uF 0 ?_
     have H := H.pick [3, 2, 1, 0, 4, 5, 6, 7] rfl
     have H := H.frontM 4 rfl
     have H := H.frontM 4 rfl
     have H := H.frontM 3 rfl
     have H := H.take 3 0
     exact uB (g (X6, G, L, z3, B3, J, M, A3, C3) _ ⟨H, trivial⟩)
   ·
    refine RT.node' [(14, .chn)] (by as_aux_lemma => kernel_rfl) ?_
    refine RW.new (κ := .chn) (d := some 25) (r := []) (o := .cells #[] 5 (0, 0)) (v := fun b => .slice (some ⟨b, 0, none⟩) 0 0) (fun b => by as_aux_lemma => kernel_rfl) (nofun) H ?_
    intro R0 _ H
    refine uTF 0 ?_
    refine (RB.cons' ?_ (RB.cons' ?_ RB.nil'))
    ·
     refine RT.node' [(13, .chn)] (by as_aux_lemma => kernel_rfl) ?_
     refine uK (refcopy_spec (C := K.baseConf) (conf_mk (H.rp 0 rfl) (H.rp 1 rfl)) (by omega) (by omega)) ?_
     rintro _ _ u1 ⟨_, rfl, k5⟩
     obtain ⟨N, O, Q, U, rfl, m5, n5⟩ := conf_open k5
     have x := H.addM u1 m5
     have H := x.addO H u1 n5
     refine uTF 0 ?_
     refine (RB.cons' ?_ (RB.cons' ?_ RB.nil'))
     ·
      refine RT.node' [(17, .chn)] (by as_aux_lemma => kernel_rfl) ?_
      refine RW.appendN (κ := .chn) (d := some 28) (r := []) (T := 29) (ty := 29) (e := 5) (m := 1) (by_ := 1) (a0 := (some ⟨R0, 0, none⟩)) (a2 := h) (l2 := K.snap.length) (c2 := i) (by as_aux_lemma => kernel_rfl) (nofun) (.inr ⟨_, rfl⟩) (by as_aux_lemma => kernel_rfl) rfl H 4 rfl (by omega) ?_
      intro p0 q0 _ H
      refine uTF 0 ?_
      refine (RB.cons' ?_ (RB.cons' ?_ RB.nil'))
      ·
       refine RT.leaf' [(21, .chn), (25, .qui), (26, .chn), (27, .seq)] (by as_aux_lemma => kernel_rfl) ?_
       refine RW.appendN (κ := .chn) (d := some 32) (r := [(25, .qui), (26, .chn), (27, .seq)]) (T := 30) (ty := 30) (e := 71) (m := 21) (by_ := 224) (a0 := (some ⟨F, 0, none⟩)) (a2 := a) (l2 := K.log.length) (c2 := f) (by as_aux_lemma => kernel_rfl) (nofun) (.inr ⟨_, rfl⟩) (by as_aux_lemma => kernel_rfl) rfl H 6 rfl (by omega) ?_
       intro D3 E3 _ H
       refine uP 1 ?_
       refine uC #[.I 0, .I 0, .I 0, .int .u64 0, .I 0, .int .u64 0, .int .u64 0, .slice none 0 0, .slice none 0 0, .slice none 0 0, .slice none 0 0, .int .u64 0, .I 0, .I 0, .I 0, .I 0, .slice none 0 0, .slice none 0 0, .int .u64 0, .slice none 0 0, .I 0] 35 H ?_
       intro Z6 _ H
       refine uW 35 0 #[.I id, .I el, .I bt, .int .u64 K.term, .I K.vote, .int .u64 K.base, .int .u64 K.baseTerm, .slice N K.baseConf.voters.length O, .slice Q K.baseConf.learners.length U, .slice p0 K.snap.length q0, .slice D3 K.log.length E3, .int .u64 K.base, .I 0, .I 0, .I 0, .I el, .slice none 0 0, .slice none 0 0, .int .u64 0, .slice none 0 0, .I 0] H 0 rfl ?_
       intro _ H
       refine uF 0 ?_
       have H := H.pick [3, 2, 1, 0, 4, 5, 6, 7] rfl
       have H := H.frontM 4 rfl
       have H := H.frontM 4 rfl
       have H := H.frontM 2 rfl
       have H := H.take 3 0
       exact uB (g (Z6, N, Q, p0, D3, O, U, q0, E3) _ ⟨H, trivial⟩)
      ·
       refine RT.leaf' [(26, .chn), (21, .chn), (25, .qui), (27, .seq)] (by as_aux_lemma => kernel_rfl) ?_
       refine uC #[.I 0, .I 0, .I 0, .int .u64 0, .I 0, .int .u64 0, .int .u64 0, .slice none 0 0, .slice none 0 0, .slice none 0 0, .slice none 0 0, .int .u64 0, .I 0, .I 0, .I 0, .I 0, .slice none 0 0, .slice none 0 0, .int .u64 0, .slice none 0 0, .I 0] 35 H ?_
       intro F3 _ H
       refine RW.appendN (κ := .chn) (d := some 32) (r := [(25, .qui), (27, .seq)]) (T := 30) (ty := 30) (e := 71) (m := 21) (by_ := 224) (a0 := (some ⟨F, 0, none⟩)) (a2 := a) (l2 := K.log.length) (c2 := f) (by as_aux_lemma => kernel_rfl) (nofun) (.inr ⟨_, rfl⟩) (by as_aux_lemma => kernel_rfl) rfl H 6 rfl (by omega) ?_
       intro S0 T0 _ H
       refine qP 1 [(27, .seq)] [(8, .P b3 0), (10, .P F3 0), (36, .agg #[.I id, .I el, .I bt, .int .u64 K.term, .I K.vote, .int .u64 K.base, .int .u64 K.baseTerm, .slice N K.baseConf.voters.length O, .slice Q K.baseConf.learners.length U, .slice p0 K.snap.length q0, .slice S0 K.log.length T0, .int .u64 K.base, .I 0, .I 0, .I 0, .I el, .slice none 0 0, .slice none 0 0, .int .u64 0, .slice none 0 0, .I 0])] ?_
       refine uW 35 0 #[.I id, .I el, .I bt, .int .u64 K.term, .I K.vote, .int .u64 K.base, .int .u64 K.baseTerm, .slice N K.baseConf.voters.length O, .slice Q K.baseConf.learners.length U, .slice p0 K.snap.length q0, .slice S0 K.log.length T0, .int .u64 K.base, .I 0, .I 0, .I 0, .I el, .slice none 0 0, .slice none 0 0, .int .u64 0, .slice none 0 0, .I 0] H 0 rfl ?_
       intro _ H
       refine uF 0 ?_
       have H := H.pick [3, 2, 1, 0, 4, 5, 6, 7] rfl
       have H := H.frontM 4 rfl
       have H := H.frontM 4 rfl
       have H := H.frontM 2 rfl
       have H := H.take 3 0
       exact uB (g (F3, N, Q, p0, S0, O, U, q0, T0) _ ⟨H, trivial⟩)
     ·
      refine RT.leaf' [(26, .chn), (17, .chn), (21, .chn), (25, .qui), (27, .seq)] (by as_aux_lemma => kernel_rfl) ?_
      refine uC #[.I 0, .I 0, .I 0, .int .u64 0, .I 0, .int .u64 0, .int .u64 0, .slice none 0 0, .slice none 0 0, .slice none 0 0, .slice none 0 0, .int .u64 0, .I 0, .I 0, .I 0, .I 0, .slice none 0 0, .slice none 0 0, .int .u64 0, .slice none 0 0, .I 0] 35 H ?_
      intro a7 _ H
      refine RW.appendN (κ := .chn) (d := some 28) (r := [(21, .chn), (25, .qui), (27, .seq)]) (T := 29) (ty := 29) (e := 5) (m := 1) (by_ := 1) (a0 := (some ⟨R0, 0, none⟩)) (a2 := h) (l2 := K.snap.length) (c2 := i) (by as_aux_lemma => kernel_rfl) (nofun) (.inr ⟨_, rfl⟩) (by as_aux_lemma => kernel_rfl) rfl H 4 rfl (by omega) ?_
      intro G3 H3 _ H
      refine RW.appendN (κ := .chn) (d := some 32) (r := [(25, .qui), (27, .seq)]) (T := 30) (ty := 30) (e := 71) (m := 21) (by_ := 224) (a0 := (some ⟨F, 0, none⟩)) (a2 := a) (l2 := K.log.length) (c2 := f) (by as_aux_lemma => kernel_rfl) (nofun) (.inr ⟨_, rfl⟩) (by as_aux_lemma => kernel_rfl) rfl H 6 rfl (by omega) ?_
      intro I3 J3 _ H
      refine uP 1 ?_
      refine uW 35 0 #[.I id, .I el, .I bt, .int .u64 K.term, .I K.vote, .int .u64 K.base, .int .u64 K.baseTerm, .slice N K.baseConf.voters.length O, .slice Q K.baseConf.learners.length U, .slice G3 K.snap.length H3, .slice I3 K.log.length J3, .int .u64 K.base, .I 0, .I 0, .I 0, .I el, .slice none 0 0, .slice none 0 0, .int .u64 0, .slice none 0 0, .I 0] H 0 rfl ?_
      intro _ H
      refine uF 0 ?_
      have H := H.pick [3, 2, 1, 0, 4, 5, 6, 7] rfl
      have H := H.frontM 4 rfl
      have H := H.frontM 4 rfl
      have H := H.frontM 2 rfl
      have H := H.take 3 0
      exact uB (g (a7, N, Q, G3, I3, O, U, H3, J3) _ ⟨H, trivial⟩)
    ·
     refine RT.leaf' [(26, .chn), (13, .chn), (17, .chn), (21, .chn), (25, .qui), (27, .seq)] (by as_aux_lemma => kernel_rfl) ?_
     refine uC #[.I 0, .I 0, .I 0, .int .u64 0, .I 0, .int .u64 0, .int .u64 0, .slice none 0 0, .slice none 0 0, .slice none 0 0, .slice none 0 0, .int .u64 0, .I 0, .I 0, .I 0, .I 0, .slice none 0 0, .slice none 0 0, .int .u64 0, .slice none 0 0, .I 0] 35 H ?_
     intro b7 _ H
     refine uK (refcopy_spec (C := K.baseConf) (conf_mk (H.rp 0 rfl) (H.rp 1 rfl)) (by omega) (by omega)) ?_
     rintro _ _ v1 ⟨_, rfl, o5⟩
     obtain ⟨K3, L3, M3, N3, rfl, p5, q5⟩ := conf_open o5
     have x := H.addM v1 p5
     have H := x.addO H v1 q5
     refine RW.appendN (κ := .chn) (d := some 28) (r := [(21, .chn), (25, .qui), (27, .seq)]) (T := 29) (ty := 29) (e := 5) (m := 1) (by_ := 1) (a0 := (some ⟨R0, 0, none⟩)) (a2 := h) (l2 := K.snap.length) (c2 := i) (by as_aux_lemma => kernel_rfl) (nofun) (.inr ⟨_, rfl⟩) (by as_aux_lemma => kernel_rfl) rfl H 4 rfl (by omega) ?_
     intro O3 P3 _ H
     refine RW.appendN (κ := .chn) (d := some 32) (r := [(25, .qui), (27, .seq)]) (T := 30) (ty := 30) (e := 71) (m := 21) (by_ := 224) (a0 := (some ⟨F, 0, none⟩)) (a2 := a) (l2 := K.log.length) (c2 := f) (by as_aux_lemma => kernel_rfl) (nofun) (.inr ⟨_, rfl⟩) (by as_aux_lemma => kernel_rfl) rfl H 6 rfl (by omega) ?_
     intro Q3 R3 _ H
     refine uP 1 ?_
     refine uW 35 0 #[.I id, .I el, .I bt, .int .u64 K.term, .I K.vote, .int .u64 K.base, .int .u64 K.baseTerm, .slice K3 K.baseConf.voters.length L3, .slice M3 K.baseConf.learners.length N3, .slice O3 K.snap.length P3, .slice Q3 K.log.length R3, .int .u64 K.base, .I 0, .I 0, .I 0, .I el, .slice none 0 0, .slice none 0 0, .int .u64 0, .slice none 0 0, .I 0] H 0 rfl ?_
     intro _ H
     refine uF 0 ?_
     have H := H.pick [3, 2, 1, 0, 4, 5, 6, 7] rfl
     have H := H.frontM 4 rfl
     have H := H.frontM 4 rfl
     have H := H.frontM 2 rfl
     have H := H.take 3 0
     exact uB (g (b7, K3, M3, O3, Q3, L3, N3, P3, R3) _ ⟨H, trivial⟩)
   ·
    refine RT.node' [(26, .chn)] (by as_aux_lemma => kernel_rfl) ?_
    refine uC #[.I 0, .I 0, .I 0, .int .u64 0, .I 0, .int .u64 0, .int .u64 0, .slice none 0 0, .slice none 0 0, .slice none 0 0, .slice none 0 0, .int .u64 0, .I 0, .I 0, .I 0, .I 0, .slice none 0 0, .slice none 0 0, .int .u64 0, .slice none 0 0, .I 0] 35 H ?_
    intro U0 _ H
    refine uTF 0 ?_
    refine (RB.cons' ?_ (RB.cons' ?_ RB.nil'))
    ·
     refine RT.leaf' [(13, .chn), (14, .chn), (17, .chn), (21, .chn), (25, .qui), (27, .seq)] (by as_aux_lemma => kernel_rfl) ?_
     refine uK (refcopy_spec (C := K.baseConf) (conf_mk (H.rp 0 rfl) (H.rp 1 rfl)) (by omega) (by omega)) ?_
     rintro _ _ w1 ⟨_, rfl, r5⟩
     obtain ⟨S3, T3, U3, V3, rfl, s5, t5⟩ := conf_open r5
     have x := H.addM w1 s5
     have H := x.addO H w1 t5
     refine RW.new (κ := .chn) (d := some 25) (r := [(17, .chn), (21, .chn), (25, .qui), (27, .seq)]) (o := .cells #[] 5 (0, 0)) (v := fun b => .slice (some ⟨b, 0, none⟩) 0 0) (fun b => by as_aux_lemma => kernel_rfl) (nofun) H ?_
     intro c7 _ H
     refine RW.appendN (κ := .chn) (d := some 28) (r := [(21, .chn), (25, .qui), (27, .seq)]) (T := 29) (ty := 29) (e := 5) (m := 1) (by_ := 1) (a0 := (some ⟨c7, 0, none⟩)) (a2 := h) (l2 := K.snap.length) (c2 := i) (by as_aux_lemma => kernel_rfl) (nofun) (.inr ⟨_, rfl⟩) (by as_aux_lemma => kernel_rfl) rfl H 4 rfl (by omega) ?_
     intro W3 X3 _ H
     refine RW.appendN (κ := .chn) (d := some 32) (r := [(25, .qui), (27, .seq)]) (T := 30) (ty := 30) (e := 71) (m := 21) (by_ := 224) (a0 := (some ⟨F, 0, none⟩)) (a2 := a) (l2 := K.log.length) (c2 := f) (by as_aux_lemma => kernel_rfl) (nofun) (.inr ⟨_, rfl⟩) (by as_aux_lemma => kernel_rfl) rfl H 6 rfl (by omega) ?_
     intro Y3 Z3 _ H
     refine uP 1 ?_
     refine uW 35 0 #[.I id, .I el, .I bt, .int .u64 K.term, .I K.vote, .int .u64 K.base, .int .u64 K.baseTerm, .slice S3 K.baseConf.voters.length T3, .slice U3 K.baseConf.learners.length V3, .slice W3 K.snap.length X3, .slice Y3 K.log.length Z3, .int .u64 K.base, .I 0, .I 0, .I 0, .I el, .slice none 0 0, .slice none 0 0, .int .u64 0, .slice none 0 0, .I 0] H 1 rfl ?_
     intro _ H
     refine uF 0 ?_
     have H := H.pick [3, 2, 1, 0, 4, 5, 6, 7] rfl
     have H := H.frontM 4 rfl
     have H := H.frontM 4 rfl
     have H := H.frontM 3 rfl
     have H := H.take 3 0
     exact uB (g (U0, S3, U3, W3, Y3, T3, V3, X3, Z3) _ ⟨H, trivial⟩)
    ·
     refine RT.leaf' [(14, .chn), (13, .chn), (17, .chn), (21, .chn), (25, .qui), (27, .seq)] (by as_aux_lemma => kernel_rfl) ?_
     refine RW.new (κ := .chn) (d := some 25) (r := [(13, .chn), (17, .chn), (21, .chn), (25, .qui), (27, .seq)]) (o := .cells #[] 5 (0, 0)) (v := fun b => .slice (some ⟨b, 0, none⟩) 0 0) (fun b => by as_aux_lemma => kernel_rfl) (nofun) H ?_
     intro d7 _ H
     refine uK (refcopy_spec (C := K.baseConf) (conf_mk (H.rp 0 rfl) (H.rp 1 rfl)) (by omega) (by omega)) ?_
     rintro _ _ x1 ⟨_, rfl, u5⟩
     obtain ⟨a4, b4, c4, d4, rfl, v5, w5⟩ := conf_open u5
     have x := H.addM x1 v5
     have H := x.addO H x1 w5
     refine RW.appendN (κ := .chn) (d := some 28) (r := [(21, .chn), (25, .qui), (27, .seq)]) (T := 29) (ty := 29) (e := 5) (m := 1) (by_ := 1) (a0 := (some ⟨d7, 0, none⟩)) (a2 := h) (l2 := K.snap.length) (c2 := i) (by as_aux_lemma => kernel_rfl) (nofun) (.inr ⟨_, rfl⟩) (by as_aux_lemma => kernel_rfl) rfl H 4 rfl (by omega) ?_
     intro e4 f4 _ H
     refine RW.appendN (κ := .chn) (d := some 32) (r := [(25, .qui), (27, .seq)]) (T := 30) (ty := 30) (e := 71) (m := 21) (by_ := 224) (a0 := (some ⟨F, 0, none⟩)) (a2 := a) (l2 := K.log.length) (c2 := f) (by as_aux_lemma => kernel_rfl) (nofun) (.inr ⟨_, rfl⟩) (by as_aux_lemma => kernel_rfl) rfl H 6 rfl (by omega) ?_
     intro g4 h4 _ H
     refine uP 1 ?_
     refine uW 35 0 #[.I id, .I el, .I bt, .int .u64 K.term, .I K.vote, .int .u64 K.base, .int .u64 K.baseTerm, .slice a4 K.baseConf.voters.length b4, .slice c4 K.baseConf.learners.length d4, .slice e4 K.snap.length f4, .slice g4 K.log.length h4, .int .u64 K.base, .I 0, .I 0, .I 0, .I el, .slice none 0 0, .slice none 0 0, .int .u64 0, .slice none 0 0, .I 0] H 1 rfl ?_
     intro _ H
     refine qF 0 [(8, .P b3 0), (10, .P U0 0)] ?_
     have H := H.pick [3, 2, 1, 0, 4, 5, 6, 7] rfl
     have H := H.frontM 4 rfl
     have H := H.frontM 4 rfl
     have H := H.frontM 3 rfl
     have H := H.take 3 0
     exact uB (g (U0, a4, c4, e4, g4, b4, d4, f4, h4) _ ⟨H, trivial⟩)
  ·
   refine RT.node' [(26, .chn)] (by as_aux_lemma => kernel_rfl) ?_
   refine uC #[.I 0, .I 0, .I 0, .int .u64 0, .I 0, .int .u64 0, .int .u64 0, .slice none 0 0, .slice none 0 0, .slice none 0 0, .slice none 0 0, .int .u64 0, .I 0, .I 0, .I 0, .I 0, .slice none 0 0, .slice none 0 0, .int .u64 0, .slice none 0 0, .I 0] 35 H ?_
   intro E _ H
   refine uTF 0 ?_
   refine (RB.cons' ?_ (RB.cons' ?_ (RB.cons' ?_ RB.nil')))
   ·
    refine RT.node' [(13, .chn)] (by as_aux_lemma => kernel_rfl) ?_
    refine uK (refcopy_spec (C := K.baseConf) (conf_mk (H.rp 0 rfl) (H.rp 1 rfl)) (by omega) (by omega)) ?_
    rintro _ _ z1 ⟨_, rfl, x5⟩
    obtain ⟨k0, m0, n0, o0, rfl, z5, A5⟩ := conf_open x5
    have x := H.addM z1 z5
    have H := x.addO H z1 A5
    refine uTF 0 ?_
    refine (RB.cons' ?_ (RB.cons' ?_ RB.nil'))
    ·
     refine RT.node' [(14, .chn)] (by as_aux_lemma => kernel_rfl) ?_
     refine RW.new (κ := .chn) (d := some 25) (r := []) (o := .cells #[] 5 (0, 0)) (v := fun b => .slice (some ⟨b, 0, none⟩) 0 0) (fun b => by as_aux_lemma => kernel_rfl) (nofun) H ?_
     intro i4 _ H
     refine uTF 0 ?_
     refine (RB.cons' ?_ (RB.cons' ?_ RB.nil'))
     ·
      refine RT.leaf' [(17, .chn), (18, .chn), (21, .chn), (25, .qui), (27, .seq)] (by as_aux_lemma => kernel_rfl) ?_
      refine RW.appendN (κ := .chn) (d := some 28) (r := [(18, .chn), (21, .chn), (25, .qui), (27, .seq)]) (T := 29) (ty := 29) (e := 5) (m := 1) (by_ := 1) (a0 := (some ⟨i4, 0, none⟩)) (a2 := h) (l2 := K.snap.length) (c2 := i) (by as_aux_lemma => kernel_rfl) (nofun) (.inr ⟨_, rfl⟩) (by as_aux_lemma => kernel_rfl) rfl H 4 rfl (by omega) ?_
      intro j4 k4 _ H
      refine RW.new (κ := .chn) (d := some 29) (r := [(21, .chn), (25, .qui), (27, .seq)]) (o := .cells #[] 71 (0, 0)) (v := fun b => .slice (some ⟨b, 0, none⟩) 0 0) (fun b => by as_aux_lemma => kernel_rfl) (nofun) H ?_
      intro e7 _ H
      refine RW.appendN (κ := .chn) (d := some 32) (r := [(25, .qui), (27, .seq)]) (T := 30) (ty := 30) (e := 71) (m := 21) (by_ := 224) (a0 := (some ⟨e7, 0, none⟩)) (a2 := a) (l2 := K.log.length) (c2 := f) (by as_aux_lemma => kernel_rfl) (nofun) (.inr ⟨_, rfl⟩) (by as_aux_lemma => kernel_rfl) rfl H 6 rfl (by omega) ?_
      intro m4 n4 _ H
      refine uP 1 ?_
      refine uW 35 0 #[.I id, .I el, .I bt, .int .u64 K.term, .I K.vote, .int .u64 K.base, .int .u64 K.baseTerm, .slice k0 K.baseConf.voters.length m0, .slice n0 K.baseConf.learners.length o0, .slice j4 K.snap.length k4, .slice m4 K.log.length n4, .int .u64 K.base, .I 0, .I 0, .I 0, .I el, .slice none 0 0, .slice none 0 0, .int .u64 0, .slice none 0 0, .I 0] H 2 rfl ?_
      intro _ H
      refine uF 0 ?_
      have H := H.pick [3, 2, 1, 0, 4, 5, 6, 7] rfl
      have H := H.frontM 4 rfl
      have H := H.frontM 4 rfl
      have H := H.frontM 4 rfl
      have H := H.take 3 0
      exact uB (g (E, k0, n0, j4, m4, m0, o0, k4, n4) _ ⟨H, trivial⟩)
     ·
      refine RT.leaf' [(18, .chn), (17, .chn), (21, .chn), (25, .qui), (27, .seq)] (by as_aux_lemma => kernel_rfl) ?_
      refine RW.new (κ := .chn) (d := some 29) (r := [(17, .chn), (21, .chn), (25, .qui), (27, .seq)]) (o := .cells #[] 71 (0, 0)) (v := fun b => .slice (some ⟨b, 0, none⟩) 0 0) (fun b => by as_aux_lemma => kernel_rfl) (nofun) H ?_
      intro f7 _ H
      refine RW.appendN (κ := .chn) (d := some 28) (r := [(21, .chn), (25, .qui), (27, .seq)]) (T := 29) (ty := 29) (e := 5) (m := 1) (by_ := 1) (a0 := (some ⟨i4, 0, none⟩)) (a2 := h) (l2 := K.snap.length) (c2 := i) (by as_aux_lemma => kernel_rfl) (nofun) (.inr ⟨_, rfl⟩) (by as_aux_lemma => kernel_rfl) rfl H 4 rfl (by omega) ?_
      intro o4 p4 _ H
      refine RW.appendN (κ := .chn) (d := some 32) (r := [(25, .qui), (27, .seq)]) (T := 30) (ty := 30) (e := 71) (m := 21) (by_ := 224) (a0 := (some ⟨f7, 0, none⟩)) (a2 := a) (l2 := K.log.length) (c2 := f) (by as_aux_lemma => kernel_rfl) (nofun) (.inr ⟨_, rfl⟩) (by as_aux_lemma => kernel_rfl) rfl H 6 rfl (by omega) ?_
      intro q4 r4 _ H
      refine uP 1 ?_
      refine uW 35 0 #[.I id, .I el, .I bt, .int .u64 K.term, .I K.vote, .int .u64 K.base, .int .u64 K.baseTerm, .slice k0 K.baseConf.voters.length m0, .slice n0 K.baseConf.learners.length o0, .slice o4 K.snap.length p4, .slice q4 K.log.length r4, .int .u64 K.base, .I 0, .I 0, .I 0, .I el, .slice none 0 0, .slice none 0 0, .int .u64 0, .slice none 0 0, .I 0] H 2 rfl ?_
      intro _ H
      refine qF 0 [(8, .P b3 0), (10, .P E 0)] ?_
      have H := H.pick [3, 2, 1, 0, 4, 5, 6, 7] rfl
      have H := H.frontM 4 rfl
      have H := H.frontM 4 rfl
      have H := H.frontM 4 rfl
      have H := H.take 3 0
      exact uB (g (E, k0, n0, o4, q4, m0, o0, p4, r4) _ ⟨H, trivial⟩)
    ·
     refine RT.leaf' [(18, .chn), (14, .chn), (17, .chn), (21, .chn), (25, .qui), (27, .seq)] (by as_aux_lemma => kernel_rfl) ?_
     refine RW.new (κ := .chn) (d := some 29) (r := [(14, .chn), (17, .chn), (21, .chn), (25, .qui), (27, .seq)]) (o := .cells #[] 71 (0, 0)) (v := fun b => .slice (some ⟨b, 0, none⟩) 0 0) (fun b => by as_aux_lemma => kernel_rfl) (nofun) H ?_
     intro g7 _ H
     refine RW.new (κ := .chn) (d := some 25) (r := [(17, .chn), (21, .chn), (25, .qui), (27, .seq)]) (o := .cells #[] 5 (0, 0)) (v := fun b => .slice (some ⟨b, 0, none⟩) 0 0) (fun b => by as_aux_lemma => kernel_rfl) (nofun) H ?_
     intro h7 _ H
     refine RW.appendN (κ := .chn) (d := some 28) (r := [(21, .chn), (25, .qui), (27, .seq)]) (T := 29) (ty := 29) (e := 5) (m := 1) (by_ := 1) (a0 := (some ⟨h7, 0, none⟩)) (a2 := h) (l2 := K.snap.length) (c2 := i) (by as_aux_lemma => kernel_rfl) (nofun) (.inr ⟨_, rfl⟩) (by as_aux_lemma => kernel_rfl) rfl H 4 rfl (by omega) ?_
     intro s4 t4 _ H
     refine RW.appendN (κ := .chn) (d := some 32) (r := [(25, .qui), (27, .seq)]) (T := 30) (ty := 30) (e := 71) (m := 21) (by_ := 224) (a0 := (some ⟨g7, 0, none⟩)) (a2 := a) (l2 := K.log.length) (c2 := f) (by as_aux_lemma => kernel_rfl) (nofun) (.inr ⟨_, rfl⟩) (by as_aux_lemma => kernel_rfl) rfl H 6 rfl (by omega) ?_
     intro u4 v4 _ H
     refine uP 1 ?_
     refine uW 35 0 #[.I id, .I el, .I bt, .int .u64 K.term, .I K.vote, .int .u64 K.base, .int .u64 K.baseTerm, .slice k0 K.baseConf.voters.length m0, .slice n0 K.baseConf.learners.length o0, .slice s4 K.snap.length t4, .slice u4 K.log.length v4, .int .u64 K.base, .I 0, .I 0, .I 0, .I el, .slice none 0 0, .slice none 0 0, .int .u64 0, .slice none 0 0, .I 0] H 2 rfl ?_
     intro _ H
     refine uF 0 ?_
     have H := H.pick [3, 2, 1, 0, 4, 5, 6, 7] rfl
     have H := H.frontM 4 rfl
     have H := H.frontM 4 rfl
     have H := H.frontM 4 rfl
     have H := H.take 3 0
     exact uB (g (E, k0, n0, s4, u4, m0, o0, t4, v4) _ ⟨H, trivial⟩)
   ·
    refine RT.node' [(14, .chn)] (by as_aux_lemma => kernel_rfl) ?_
    refine RW.new (κ := .chn) (d := some 25) (r := []) (o := .cells #[] 5 (0, 0)) (v := fun b => .slice (some ⟨b, 0, none⟩) 0 0) (fun b => by as_aux_lemma => kernel_rfl) (nofun) H ?_
    intro V0 _ H
    refine uTF 0 ?_
    refine (RB.cons' ?_ (RB.cons' ?_ RB.nil'))
    ·
     refine RT.node' [(13, .chn)] (by as_aux_lemma => kernel_rfl) ?_
     refine uK (refcopy_spec (C := K.baseConf) (conf_mk (H.rp 0 rfl) (H.rp 1 rfl)) (by omega) (by omega)) ?_
     rintro _ _ A1 ⟨_, rfl, B5⟩
     obtain ⟨r0, s0, t0, u0, rfl, C5, D5⟩ := conf_open B5
     have x := H.addM A1 C5
     have H := x.addO H A1 D5
     refine uTF 0 ?_
     refine (RB.cons' ?_ (RB.cons' ?_ RB.nil'))
     ·
      refine RT.leaf' [(17, .chn), (18, .chn), (21, .chn), (25, .qui), (27, .seq)] (by as_aux_lemma => kernel_rfl) ?_
      refine RW.appendN (κ := .chn) (d := some 28) (r := [(18, .chn), (21, .chn), (25, .qui), (27, .seq)]) (T := 29) (ty := 29) (e := 5) (m := 1) (by_ := 1) (a0 := (some ⟨V0, 0, none⟩)) (a2 := h) (l2 := K.snap.length) (c2 := i) (by as_aux_lemma => kernel_rfl) (nofun) (.inr ⟨_, rfl⟩) (by as_aux_lemma => kernel_rfl) rfl H 4 rfl (by omega) ?_
      intro a536 x4 _ H
      refine RW.new (κ := .chn) (d := some 29) (r := [(21, .chn), (25, .qui), (27, .seq)]) (o := .cells #[] 71 (0, 0)) (v := fun b => .slice (some ⟨b, 0, none⟩) 0 0) (fun b => by as_aux_lemma => kernel_rfl) (nofun) H ?_
      intro i7 _ H
      refine RW.appendN (κ := .chn) (d := some 32) (r := [(25, .qui), (27, .seq)]) (T := 30) (ty := 30) (e := 71) (m := 21) (by_ := 224) (a0 := (some ⟨i7, 0, none⟩)) (a2 := a) (l2 := K.log.length) (c2 := f) (by as_aux_lemma => kernel_rfl) (nofun) (.inr ⟨_, rfl⟩) (by as_aux_lemma => kernel_rfl) rfl H 6 rfl (by omega) ?_
      intro z4 A4 _ H
      refine uP 1 ?_
      refine uW 35 0 #[.I id, .I el, .I bt, .int .u64 K.term, .I K.vote, .int .u64 K.base, .int .u64 K.baseTerm, .slice r0 K.baseConf.voters.length s0, .slice t0 K.baseConf.learners.length u0, .slice a536 K.snap.length x4, .slice z4 K.log.length A4, .int .u64 K.base, .I 0, .I 0, .I 0, .I el, .slice none 0 0, .slice none 0 0, .int .u64 0, .slice none 0 0, .I 0] H 2 rfl ?_
      intro _ H
      refine uF 0 ?_
      have H := H.pick [3, 2, 1, 0, 4, 5, 6, 7] rfl
      have H := H.frontM 4 rfl
      have H := H.frontM 4 rfl
      have H := H.frontM 4 rfl
      have H := H.take 3 0
      exact uB (g (E, r0, t0, a536, z4, s0, u0, x4, A4) _ ⟨H, trivial⟩)
     ·
      refine RT.leaf' [(18, .chn), (17, .chn), (21, .chn), (25, .qui), (27, .seq)] (by as_aux_lemma => kernel_rfl) ?_
      refine RW.new (κ := .chn) (d := some 29) (r := [(17, .chn), (21, .chn), (25, .qui), (27, .seq)]) (o := .cells #[] 71 (0, 0)) (v := fun b => .slice (some ⟨b, 0, none⟩) 0 0) (fun b => by as_aux_lemma => kernel_rfl) (nofun) H ?_
      intro j7 _ H
      refine RW.appendN (κ := .chn) (d := some 28) (r := [(21, .chn), (25, .qui), (27, .seq)]) (T := 29) (ty := 29) (e := 5) (m := 1) (by_ := 1) (a0 := (some ⟨V0, 0, none⟩)) (a2 := h) (l2 := K.snap.length) (c2 := i) (by as_aux_lemma => kernel_rfl) (nofun) (.inr ⟨_, rfl⟩) (by as_aux_lemma => kernel_rfl) rfl H 4 rfl (by omega) ?_
      intro W0 X0 _ H
      refine RW.appendN (κ := .chn) (d := some 32) (r := [(25, .qui), (27, .seq)]) (T := 30) (ty := 30) (e := 71) (m := 21) (by_ := 224) (a0 := (some ⟨j7, 0, none⟩)) (a2 := a) (l2 := K.log.length) (c2 := f) (by as_aux_lemma => kernel_rfl) (nofun) (.inr ⟨_, rfl⟩) (by as_aux_lemma => kernel_rfl) rfl H 6 rfl (by omega) ?_
      intro Y0 Z0 _ H
      refine qP 1 [(27, .seq)] [(8, .P b3 0), (10, .P E 0), (36, .agg #[.I id, .I el, .I bt, .int .u64 K.term, .I K.vote, .int .u64 K.base, .int .u64 K.baseTerm, .slice r0 K.baseConf.voters.length s0, .slice t0 K.baseConf.learners.length u0, .slice W0 K.snap.length X0, .slice Y0 K.log.length Z0, .int .u64 K.base, .I 0, .I 0, .I 0, .I el, .slice none 0 0, .slice none 0 0, .int .u64 0, .slice none 0 0, .I 0])] ?_
      refine uW 35 0 #[.I id, .I el, .I bt, .int .u64 K.term, .I K.vote, .int .u64 K.base, .int .u64 K.baseTerm, .slice r0 K.baseConf.voters.length s0, .slice t0 K.baseConf.learners.length u0, .slice W0 K.snap.length X0, .slice Y0 K.log.length Z0, .int .u64 K.base, .I 0, .I 0, .I 0, .I el, .slice none 0 0, .slice none 0 0, .int .u64 0, .slice none 0 0, .I 0] H 2 rfl ?_
      intro _ H
      refine uF 0 ?_
      have H := H.pick [3, 2, 1, 0, 4, 5, 6, 7] rfl
      have H := H.frontM 4 rfl
      have H := H.frontM 4 rfl
      have H := H.frontM 4 rfl
      have H := H.take 3 0
      exact uB (g (E, r0, t0, W0, Y0, s0, u0, X0, Z0) _ ⟨H, trivial⟩)
    ·
     refine RT.leaf' [(18, .chn), (13, .chn), (17, .chn), (21, .chn), (25, .qui), (27, .seq)] (by as_aux_lemma => kernel_rfl) ?_
     refine RW.new (κ := .chn) (d := some 29) (r := [(13, .chn), (17, .chn), (21, .chn), (25, .qui), (27, .seq)]) (o := .cells #[] 71 (0, 0)) (v := fun b => .slice (some ⟨b, 0, none⟩) 0 0) (fun b => by as_aux_lemma => kernel_rfl) (nofun) H ?_
     intro k7 _ H
     refine uK (refcopy_spec (C := K.baseConf) (conf_mk (H.rp 0 rfl) (H.rp 1 rfl)) (by omega) (by omega)) ?_
     rintro _ _ B1 ⟨_, rfl, E5⟩
     obtain ⟨B4, C4, D4, E4, rfl, F5, G5⟩ := conf_open E5
     have x := H.addM B1 F5
     have H := x.addO H B1 G5
     refine RW.appendN (κ := .chn) (d := some 28) (r := [(21, .chn), (25, .qui), (27, .seq)]) (T := 29) (ty := 29) (e := 5) (m := 1) (by_ := 1) (a0 := (some ⟨V0, 0, none⟩)) (a2 := h) (l2 := K.snap.length) (c2 := i) (by as_aux_lemma => kernel_rfl) (nofun) (.inr ⟨_, rfl⟩) (by as_aux_lemma => kernel_rfl) rfl H 4 rfl (by omega) ?_
     intro F4 G4 _ H
     refine RW.appendN (κ := .chn) (d := some 32) (r := [(25, .qui), (27, .seq)]) (T := 30) (ty := 30) (e := 71) (m := 21) (by_ := 224) (a0 := (some ⟨k7, 0, none⟩)) (a2 := a) (l2 := K.log.length) (c2 := f) (by as_aux_lemma => kernel_rfl) (nofun) (.inr ⟨_, rfl⟩) (by as_aux_lemma => kernel_rfl) rfl H 6 rfl (by omega) ?_
     intro H4 I4 _ H
     refine uP 1 ?_
     refine uW 35 0 #[.I id, .I el, .I bt, .int .u64 K.term, .I K.vote, .int .u64 K.base, .int .u64 K.baseTerm, .slice B4 K.baseConf.voters.length C4, .slice D4 K.baseConf.learners.length E4, .slice F4 K.snap.length G4, .slice H4 K.log.length I4, .int .u64 K.base, .I 0, .I 0, .I 0, .I el, .slice none 0 0, .slice none 0 0, .int .u64 0, .slice none 0 0, .I 0] H 2 rfl ?_
     intro _ H
     refine uF 0 ?_
     have H := H.pick [3, 2, 1, 0, 4, 5, 6, 7] rfl
     have H := H.frontM 4 rfl
     have H := H.frontM 4 rfl
     have H := H.frontM 4 rfl
     have H := H.take 3 0
     exact uB (g (E, B4, D4, F4, H4, C4, E4, G4, I4) _ ⟨H, trivial⟩)
   ·
    refine RT.node' [(18, .chn)] (by as_aux_lemma => kernel_rfl) ?_
    refine RW.new (κ := .chn) (d := some 29) (r := []) (o := .cells #[] 71 (0, 0)) (v := fun b => .slice (some ⟨b, 0, none⟩) 0 0) (fun b => by as_aux_lemma => kernel_rfl) (nofun) H ?_
    intro J4 _ H
    refine uTF 0 ?_
    refine (RB.cons' ?_ (RB.cons' ?_ RB.nil'))
    ·
     refine RT.leaf' [(13, .chn), (14, .chn), (17, .chn), (21, .chn), (25, .qui), (27, .seq)] (by as_aux_lemma => kernel_rfl) ?_
     refine uK (refcopy_spec (C := K.baseConf) (conf_mk (H.rp 0 rfl) (H.rp 1 rfl)) (by omega) (by omega)) ?_
     rintro _ _ C1 ⟨_, rfl, H5⟩
     obtain ⟨K4, L4, M4, N4, rfl, I5, J5⟩ := conf_open H5
     have x := H.addM C1 I5
     have H := x.addO H C1 J5
     refine RW.new (κ := .chn) (d := some 25) (r := [(17, .chn), (21, .chn), (25, .qui), (27, .seq)]) (o := .cells #[] 5 (0, 0)) (v := fun b => .slice (some ⟨b, 0, none⟩) 0 0) (fun b => by as_aux_lemma => kernel_rfl) (nofun) H ?_
     intro m7 _ H
     refine RW.appendN (κ := .chn) (d := some 28) (r := [(21, .chn), (25, .qui), (27, .seq)]) (T := 29) (ty := 29) (e := 5) (m := 1) (by_ := 1) (a0 := (some ⟨m7, 0, none⟩)) (a2 := h) (l2 := K.snap.length) (c2 := i) (by as_aux_lemma => kernel_rfl) (nofun) (.inr ⟨_, rfl⟩) (by as_aux_lemma => kernel_rfl) rfl H 4 rfl (by omega) ?_
     intro O4 P4 _ H
     refine RW.appendN (κ := .chn) (d := some 32) (r := [(25, .qui), (27, .seq)]) (T := 30) (ty := 30) (e := 71) (m := 21) (by_ := 224) (a0 := (some ⟨J4, 0, none⟩)) (a2 := a) (l2 := K.log.length) (c2 := f) (by as_aux_lemma => kernel_rfl) (nofun) (.inr ⟨_, rfl⟩) (by as_aux_lemma => kernel_rfl) rfl H 6 rfl (by omega) ?_
     intro Q4 R4 _ H
     refine uP 1 ?_
     refine uW 35 0 #[.I id, .I el, .I bt, .int .u64 K.term, .I K.vote, .int .u64 K.base, .int .u64 K.baseTerm, .slice K4 K.baseConf.voters.length L4, .slice M4 K.baseConf.learners.length N4, .slice O4 K.snap.length P4, .slice Q4 K.log.length R4, .int .u64 K.base, .I 0, .I 0, .I 0, .I el, .slice none 0 0, .slice none 0 0, .int .u64 0, .slice none 0 0, .I 0] H 2 rfl ?_
     intro _ H
     refine uF 0 ?_
     have H := H.pick [3, 2, 1, 0, 4, 5, 6, 7] rfl
     have H := H.frontM 4 rfl
     have H := H.frontM 4 rfl
     have H := H.frontM 4 rfl
     have H := H.take 3 0
     exact uB (g (E, K4, M4, O4, Q4, L4, N4, P4, R4) _ ⟨H, trivial⟩)
    ·
     refine RT.leaf' [(14, .chn), (13, .chn), (17, .chn), (21, .chn), (25, .qui), (27, .seq)] (by as_aux_lemma => kernel_rfl) ?_
     refine RW.new (κ := .chn) (d := some 25) (r := [(13, .chn), (17, .chn), (21, .chn), (25, .qui), (27, .seq)]) (o := .cells #[] 5 (0, 0)) (v := fun b => .slice (some ⟨b, 0, none⟩) 0 0) (fun b => by as_aux_lemma => kernel_rfl) (nofun) H ?_
     intro n7 _ H
     refine uK (refcopy_spec (C := K.baseConf) (conf_mk (H.rp 0 rfl) (H.rp 1 rfl)) (by omega) (by omega)) ?_
     rintro _ _ D1 ⟨_, rfl, K5⟩
     obtain ⟨a1, k598, c1, d1, rfl, L5, M5⟩ := conf_open K5
     have x := H.addM D1 L5
     have H := x.addO H D1 M5
     refine RW.appendN (κ := .chn) (d := some 28) (r := [(21, .chn), (25, .qui), (27, .seq)]) (T := 29) (ty := 29) (e := 5) (m := 1) (by_ := 1) (a0 := (some ⟨n7, 0, none⟩)) (a2 := h) (l2 := K.snap.length) (c2 := i) (by as_aux_lemma => kernel_rfl) (nofun) (.inr ⟨_, rfl⟩) (by as_aux_lemma => kernel_rfl) rfl H 4 rfl (by omega) ?_
     intro e1 f1 _ H
     refine RW.appendN (κ := .chn) (d := some 32) (r := [(25, .qui), (27, .seq)]) (T := 30) (ty := 30) (e := 71) (m := 21) (by_ := 224) (a0 := (some ⟨J4, 0, none⟩)) (a2 := a) (l2 := K.log.length) (c2 := f) (by as_aux_lemma => kernel_rfl) (nofun) (.inr ⟨_, rfl⟩) (by as_aux_lemma => kernel_rfl) rfl H 6 rfl (by omega) ?_
     intro g1 h1 _ H
     refine qP 1 [(27, .seq)] [(8, .P b3 0), (10, .P E 0), (36, .agg #[.I id, .I el, .I bt, .int .u64 K.term, .I K.vote, .int .u64 K.base, .int .u64 K.baseTerm, .slice a1 K.baseConf.voters.length k598, .slice c1 K.baseConf.learners.length d1, .slice e1 K.snap.length f1, .slice g1 K.log.length h1, .int .u64 K.base, .I 0, .I 0, .I 0, .I el, .slice none 0 0, .slice none 0 0, .int .u64 0, .slice none 0 0, .I 0])] ?_
     refine uW 35 0 #[.I id, .I el, .I bt, .int .u64 K.term, .I K.vote, .int .u64 K.base, .int .u64 K.baseTerm, .slice a1 K.baseConf.voters.length k598, .slice c1 K.baseConf.learners.length d1, .slice e1 K.snap.length f1, .slice g1 K.log.length h1, .int .u64 K.base, .I 0, .I 0, .I 0, .I el, .slice none 0 0, .slice none 0 0, .int .u64 0, .slice none 0 0, .I 0] H 2 rfl ?_
     intro _ H
     refine uF 0 ?_
     have H := H.pick [3, 2, 1, 0, 4, 5, 6, 7] rfl
     have H := H.frontM 4 rfl
     have H := H.frontM 4 rfl
     have H := H.frontM 4 rfl
     have H := H.take 3 0
     exact uB (g (E, a1, c1, e1, g1, k598, d1, f1, h1) _ ⟨H, trivial⟩)
 ·
  rintro ⟨jb, V, W, X, Y, Z, b0, c0, d0⟩ _ ⟨H, hjT⟩
  refine uR 2 [.c [2, 0, 0], .c [2, 0, 1], .c [3]] ?_
  refine qG (sq 0 3) ?_
  refine uV 35 0 (H.cells 0 rfl) ?_
  refine uK (refrcheck_spec (R := ⟨id, el, bt, K.term, K.vote, K.base, K.baseTerm, K.baseConf, K.snap, K.log, K.base, 0, 0, 0, el, [], [], 0, [], 0⟩) (raft_mk (l0 := [.I id]) (y0 := id) (l1 := [.I el]) (y1 := el) (l2 := [.I bt]) (y2 := bt) (l3 := [.int .u64 K.term]) (y3 := K.term) (l4 := [.I K.vote]) (y4 := K.vote) (l5 := [.int .u64 K.base]) (y5 := K.base) (l6 := [.int .u64 K.baseTerm]) (y6 := K.baseTerm) (l7 := [.slice V K.baseConf.voters.length Z, .slice W K.baseConf.learners.length b0]) (y7 := K.baseConf) (l8 := [.slice X K.snap.length c0]) (y8 := K.snap) (l9 := [.slice Y K.log.length d0]) (y9 := K.log) (l10 := [.int .u64 K.base]) (y10 := K.base) (l11 := [.I 0]) (y11 := 0) (l12 := [.I 0]) (y12 := 0) (l13 := [.I 0]) (y13 := 0) (l14 := [.I el]) (y14 := el) (l15 := [.slice none 0 0]) (y15 := []) (l16 := [.slice none 0 0]) (y16 := []) (l17 := [.int .u64 0]) (y17 := 0) (l18 := [.slice none 0 0]) (y18 := []) (l19 := [.I 0]) (y19 := 0) i64a i64a i64a u64a i64a u64a u64a (conf_mk (H.rp 0 rfl) (H.rp 1 rfl)) (H.rp 2 rfl) (H.rp 3 rfl) u64a (Shape.int_mk (by decide)) (Shape.int_mk (by decide)) (Shape.int_mk (by decide)) i64a Shape.slice_nil Shape.slice_nil (Shape.int_mk (by decide)) Shape.slice_nil (Shape.int_mk (by decide)))) ?_
  rintro _ _ N5 ⟨O5, rfl, _, N0⟩
  have H := H.ext N5
  refine uF 1 ?_
  refine qN O5 0 (fun o7 => ?_) (fun o7 => ?_)
  ·
   refine uR 1 [.c [2, 0, 1, 0, 0], .c [2, 0, 1, 0, 1], .c [3]] ?_
   refine qG (sq 0 3) ?_
   refine uP 1 ?_
   refine uW 35 0 #[.I 0, .I 0, .I 0, .int .u64 0, .I 0, .int .u64 0, .int .u64 0, .slice none 0 0, .slice none 0 0, .slice none 0 0, .slice none 0 0, .int .u64 0, .I 0, .I 0, .I 0, .I 0, .slice none 0 0, .slice none 0 0, .int .u64 0, .slice none 0 0, .I 0] H 1 rfl ?_
   intro _ H
   refine uF 1 ?_
   refine qRB (.tuple #[.agg #[.I 0, .I 0, .I 0, .int .u64 0, .I 0, .int .u64 0, .int .u64 0, .slice none 0 0, .slice none 0 0, .slice none 0 0, .slice none 0 0, .int .u64 0, .I 0, .I 0, .I 0, .I 0, .slice none 0 0, .slice none 0 0, .int .u64 0, .slice none 0 0, .I 0], .I 2]) Tryz.func18 (v2 (.cell 8 35) (.tmp 9) (vC (H.cells 1 rfl)) vT) ?_
   rw [againOf_no (fun q => absurd (N0.2 q) (by assumption))]
   exact ⟨_, rfl, H.done, [.I 0, .I 0, .I 0, .int .u64 0, .I 0, .int .u64 0, .int .u64 0, .slice none 0 0, .slice none 0 0, .slice none 0 0, .slice none 0 0, .int .u64 0, .I 0, .I 0, .I 0, .I 0, .slice none 0 0, .slice none 0 0, .int .u64 0, .slice none 0 0, .I 0], rfl, H.out (raft_mk (l0 := [.I 0]) (y0 := 0) (l1 := [.I 0]) (y1 := 0) (l2 := [.I 0]) (y2 := 0) (l3 := [.int .u64 0]) (y3 := 0) (l4 := [.I 0]) (y4 := 0) (l5 := [.int .u64 0]) (y5 := 0) (l6 := [.int .u64 0]) (y6 := 0) (l7 := [.slice none 0 0, .slice none 0 0]) (y7 := ⟨[], []⟩) (l8 := [.slice none 0 0]) (y8 := []) (l9 := [.slice none 0 0]) (y9 := []) (l10 := [.int .u64 0]) (y10 := 0) (l11 := [.I 0]) (y11 := 0) (l12 := [.I 0]) (y12 := 0) (l13 := [.I 0]) (y13 := 0) (l14 := [.I 0]) (y14 := 0) (l15 := [.slice none 0 0]) (y15 := []) (l16 := [.slice none 0 0]) (y16 := []) (l17 := [.int .u64 0]) (y17 := 0) (l18 := [.slice none 0 0]) (y18 := []) (l19 := [.I 0]) (y19 := 0) (Shape.int_mk (by decide)) (Shape.int_mk (by decide)) (Shape.int_mk (by decide)) (Shape.int_mk (by decide)) (Shape.int_mk (by decide)) (Shape.int_mk (by decide)) (Shape.int_mk (by decide)) (conf_mk Shape.slice_nil Shape.slice_nil) Shape.slice_nil Shape.slice_nil (Shape.int_mk (by decide)) (Shape.int_mk (by decide)) (Shape.int_mk (by decide)) (Shape.int_mk (by decide)) (Shape.int_mk (by decide)) Shape.slice_nil Shape.slice_nil (Shape.int_mk (by decide)) Shape.slice_nil (Shape.int_mk (by decide)))⟩
  ·
   refine uR 2 [.c [3, 0], .c [4]] ?_
   refine qG (sq 0 3) ?_
   refine uV 35 0 (H.cells 0 rfl) ?_
   refine uW 35 0 #[.I id, .I el, .I bt, .int .u64 K.term, .I K.vote, .int .u64 K.base, .int .u64 K.baseTerm, .slice V K.baseConf.voters.length Z, .slice W K.baseConf.learners.length b0, .slice X K.snap.length c0, .slice Y K.log.length d0, .int .u64 K.base, .I 0, .I 0, .I 0, .I el, .slice none 0 0, .slice none 0 0, .int .u64 0, .slice none 0 0, .I 0] H 1 rfl ?_
   intro _ H
   refine uF 1 ?_
   refine qRB (.tuple #[.agg #[.I id, .I el, .I bt, .int .u64 K.term, .I K.vote, .int .u64 K.base, .int .u64 K.baseTerm, .slice V K.baseConf.voters.length Z, .slice W K.baseConf.learners.length b0, .slice X K.snap.length c0, .slice Y K.log.length d0, .int .u64 K.base, .I 0, .I 0, .I 0, .I el, .slice none 0 0, .slice none 0 0, .int .u64 0, .slice none 0 0, .I 0], .I 0]) Tryz.func18 (v2 (.cell 8 35) (.tmp 9) (vC (H.cells 1 rfl)) vT) ?_
   rw [againOf_ok (N0.1 (by first | assumption | omega))]
   exact ⟨_, rfl, H.done, [.I id, .I el, .I bt, .int .u64 K.term, .I K.vote, .int .u64 K.base, .int .u64 K.baseTerm, .slice V K.baseConf.voters.length Z, .slice W K.baseConf.learners.length b0, .slice X K.snap.length c0, .slice Y K.log.length d0, .int .u64 K.base, .I 0, .I 0, .I 0, .I el, .slice none 0 0, .slice none 0 0, .int .u64 0, .slice none 0 0, .I 0], rfl, H.out (raft_mk (l0 := [.I id]) (y0 := id) (l1 := [.I el]) (y1 := el) (l2 := [.I bt]) (y2 := bt) (l3 := [.int .u64 K.term]) (y3 := K.term) (l4 := [.I K.vote]) (y4 := K.vote) (l5 := [.int .u64 K.base]) (y5 := K.base) (l6 := [.int .u64 K.baseTerm]) (y6 := K.baseTerm) (l7 := [.slice V K.baseConf.voters.length Z, .slice W K.baseConf.learners.length b0]) (y7 := K.baseConf) (l8 := [.slice X K.snap.length c0]) (y8 := K.snap) (l9 := [.slice Y K.log.length d0]) (y9 := K.log) (l10 := [.int .u64 K.base]) (y10 := K.base) (l11 := [.I 0]) (y11 := 0) (l12 := [.I 0]) (y12 := 0) (l13 := [.I 0]) (y13 := 0) (l14 := [.I el]) (y14 := el) (l15 := [.slice none 0 0]) (y15 := []) (l16 := [.slice none 0 0]) (y16 := []) (l17 := [.int .u64 0]) (y17 := 0) (l18 := [.slice none 0 0]) (y18 := []) (l19 := [.I 0]) (y19 := 0) i64a i64a i64a u64a i64a u64a u64a (conf_mk (H.rp 0 rfl) (H.rp 1 rfl)) (H.rp 2 rfl) (H.rp 3 rfl) u64a (Shape.int_mk (by decide)) (Shape.int_mk (by decide)) (Shape.int_mk (by decide)) i64a Shape.slice_nil Shape.slice_nil (Shape.int_mk (by decide)) Shape.slice_nil (Shape.int_mk (by decide)))⟩
theorem new_spec {S : Nat → Prop} {w : World} {cs : List Value} {C : Conf} (h : confS.rep S w cs C) (id el bt : Int) (hid : -9223372036854775808 ≤ id ∧ id ≤ 9223372036854775807) (hel : -9223372036854775808 ≤ el ∧ el ≤ 9223372036854775807) (hbt : -9223372036854775808 ≤ bt ∧ bt ≤ 9223372036854775807) (hz3 : C.voters.length ≤ 1048576) (hz4 : C.learners.length ≤ 1048576) :
 Calls Tryz.prog 7 #[.I id, .I el, .I bt, .agg cs.toArray] w (Ret fun v w' => Ext w w' ∧ ∃ (ds : List Value), v = .tuple #[.agg ds.toArray, .I (againOf id el bt ⟨0, 0, 0, 0, C, [], []⟩).2] ∧ raftS.rep (Nw S w) w' ds (againOf id el bt ⟨0, 0, 0, 0, C, [], []⟩).1) := by
 obtain ⟨B, D, E, G, rfl, hvC, hlC⟩ := conf_open h
 refine uS1 Tryz.func7 ?_
 have H := Hp.startF (.rp hvC (.rp hlC .nil))
 refine uR 1 [.c [0], .c [1]] ?_
 refine qG (sq 0 3) ?_
 refine uC #[.slice B C.voters.length D, .slice E C.learners.length G] 28 H ?_
 intro L _ H
 refine uC #[.I 0, .I 0, .I 0, .int .u64 0, .I 0, .int .u64 0, .int .u64 0, .slice none 0 0, .slice none 0 0, .slice none 0 0, .slice none 0 0, .int .u64 0, .I 0, .I 0, .I 0, .I 0, .slice none 0 0, .slice none 0 0, .int .u64 0, .slice none 0 0, .I 0] 35 H ?_
 intro M _ H
 refine uF 1 ?_
 refine uR 1 [.c [1, 0], .c [2]] ?_
 refine qG (sq 0 10) ?_
 refine uP 3 ?_
 refine uV 28 0 (H.cells 1 rfl) ?_
 refine uP 1 ?_
 refine uK (again_spec (K := ⟨0, 0, 0, 0, C, [], []⟩) (kept_mk (Shape.int_mk (by decide)) (Shape.int_mk (by decide)) (Shape.int_mk (by decide)) (Shape.int_mk (by decide)) (conf_mk (H.rp 0 rfl) (H.rp 1 rfl)) Shape.slice_nil Shape.slice_nil) id el bt (by omega) (by omega) (by omega) (by first | assumption | omega | simp | (simp only []; omega)) (by first | assumption | omega | simp | (simp only []; omega)) (by first | assumption | omega | simp | (simp only []; omega)) (by first | assumption | omega | simp | (simp only []; omega))) ?_
 rintro _ _ A ⟨_, rfl, J⟩
 obtain ⟨_, k, l, m, n, d, e, f, g, i, j, rfl, _, _, _, _, _, _, _, x, y, z, _, _, _, _, _, s, t, _, u, _⟩ := raft_open J
 obtain ⟨o, p, a, b, rfl, q, r⟩ := conf_open x
 have Hq := H
 have H := H.addM A q
 have H := H.add (F := Rp (Shape.slice (Shape.int .i64)) [.slice a (((againOf id el bt (⟨0, 0, 0, 0, C, [], []⟩)).1).baseConf.learners.length) b] (((againOf id el bt (⟨0, 0, 0, 0, C, [], []⟩)).1).baseConf.learners)) ((Hq.addN A (F := Rp (Shape.slice (Shape.int .i64)) [.slice a (((againOf id el bt (⟨0, 0, 0, 0, C, [], []⟩)).1).baseConf.learners.length) b] (((againOf id el bt (⟨0, 0, 0, 0, C, [], []⟩)).1).baseConf.learners)) r).fact 0 rfl)
 have H := H.add (F := Rp SB [.slice k (((againOf id el bt (⟨0, 0, 0, 0, C, [], []⟩)).1).snap.length) l] (((againOf id el bt (⟨0, 0, 0, 0, C, [], []⟩)).1).snap)) ((Hq.addN A (F := Rp SB [.slice k (((againOf id el bt (⟨0, 0, 0, 0, C, [], []⟩)).1).snap.length) l] (((againOf id el bt (⟨0, 0, 0, 0, C, [], []⟩)).1).snap)) y).fact 0 rfl)
 have H := H.add (F := Rp (Shape.slice entS) [.slice m (((againOf id el bt (⟨0, 0, 0, 0, C, [], []⟩)).1).log.length) n] (((againOf id el bt (⟨0, 0, 0, 0, C, [], []⟩)).1).log)) ((Hq.addN A (F := Rp (Shape.slice entS) [.slice m (((againOf id el bt (⟨0, 0, 0, 0, C, [], []⟩)).1).log.length) n] (((againOf id el bt (⟨0, 0, 0, 0, C, [], []⟩)).1).log)) z).fact 0 rfl)
 have H := H.add (F := Rp (Shape.slice (Shape.int .i64)) [.slice d (((againOf id el bt (⟨0, 0, 0, 0, C, [], []⟩)).1).votes.length) e] (((againOf id el bt (⟨0, 0, 0, 0, C, [], []⟩)).1).votes)) ((Hq.addN A (F := Rp (Shape.slice (Shape.int .i64)) [.slice d (((againOf id el bt (⟨0, 0, 0, 0, C, [], []⟩)).1).votes.length) e] (((againOf id el bt (⟨0, 0, 0, 0, C, [], []⟩)).1).votes)) s).fact 0 rfl)
 have H := H.add (F := Rp (Shape.slice peerS) [.slice f (((againOf id el bt (⟨0, 0, 0, 0, C, [], []⟩)).1).peers.length) g] (((againOf id el bt (⟨0, 0, 0, 0, C, [], []⟩)).1).peers)) ((Hq.addN A (F := Rp (Shape.slice peerS) [.slice f (((againOf id el bt (⟨0, 0, 0, 0, C, [], []⟩)).1).peers.length) g] (((againOf id el bt (⟨0, 0, 0, 0, C, [], []⟩)).1).peers)) t).fact 0 rfl)
 have H := H.add (F := Rp (Shape.slice rdgS) [.slice i (((againOf id el bt (⟨0, 0, 0, 0, C, [], []⟩)).1).readings.length) j] (((againOf id el bt (⟨0, 0, 0, 0, C, [], []⟩)).1).readings)) ((Hq.addN A (F := Rp (Shape.slice rdgS) [.slice i (((againOf id el bt (⟨0, 0, 0, 0, C, [], []⟩)).1).readings.length) j] (((againOf id el bt (⟨0, 0, 0, 0, C, [], []⟩)).1).readings)) u).fact 0 rfl)
 have H : Hp w S [] [(M, .cells #[.I 0, .I 0, .I 0, .int .u64 0, .I 0, .int .u64 0, .int .u64 0, .slice none 0 0, .slice none 0 0, .slice none 0 0, .slice none 0 0, .int .u64 0, .I 0, .I 0, .I 0, .I 0, .slice none 0 0, .slice none 0 0, .int .u64 0, .slice none 0 0, .I 0] 35 (0, 0)), (L, .cells #[.slice B C.voters.length D, .slice E C.learners.length G] 28 (0, 0))] [] [_, _, _, _, _, _, _, _, _] _ := H
 clear Hq
 refine uP 2 ?_
 refine uW 35 0 #[.I (((againOf id el bt (⟨0, 0, 0, 0, C, [], []⟩)).1).id), .I (((againOf id el bt (⟨0, 0, 0, 0, C, [], []⟩)).1).election), .I (((againOf id el bt (⟨0, 0, 0, 0, C, [], []⟩)).1).beat), .int .u64 (((againOf id el bt (⟨0, 0, 0, 0, C, [], []⟩)).1).term), .I (((againOf id el bt (⟨0, 0, 0, 0, C, [], []⟩)).1).vote), .int .u64 (((againOf id el bt (⟨0, 0, 0, 0, C, [], []⟩)).1).base), .int .u64 (((againOf id el bt (⟨0, 0, 0, 0, C, [], []⟩)).1).baseTerm), .slice o (((againOf id el bt (⟨0, 0, 0, 0, C, [], []⟩)).1).baseConf.voters.length) p, .slice a (((againOf id el bt (⟨0, 0, 0, 0, C, [], []⟩)).1).baseConf.learners.length) b, .slice k (((againOf id el bt (⟨0, 0, 0, 0, C, [], []⟩)).1).snap.length) l, .slice m (((againOf id el bt (⟨0, 0, 0, 0, C, [], []⟩)).1).log.length) n, .int .u64 (((againOf id el bt (⟨0, 0, 0, 0, C, [], []⟩)).1).commit), .I (((againOf id el bt (⟨0, 0, 0, 0, C, [], []⟩)).1).role), .I (((againOf id el bt (⟨0, 0, 0, 0, C, [], []⟩)).1).lead), .I (((againOf id el bt (⟨0, 0, 0, 0, C, [], []⟩)).1).elapsed), .I (((againOf id el bt (⟨0, 0, 0, 0, C, [], []⟩)).1).timeout), .slice d (((againOf id el bt (⟨0, 0, 0, 0, C, [], []⟩)).1).votes.length) e, .slice f (((againOf id el bt (⟨0, 0, 0, 0, C, [], []⟩)).1).peers.length) g, .int .u64 (((againOf id el bt (⟨0, 0, 0, 0, C, [], []⟩)).1).ctx), .slice i (((againOf id el bt (⟨0, 0, 0, 0, C, [], []⟩)).1).readings.length) j, .I (((againOf id el bt (⟨0, 0, 0, 0, C, [], []⟩)).1).target)] H 0 rfl ?_
 intro _ H
 refine uF 1 ?_
 refine qRB (.tuple #[.agg #[.I (((againOf id el bt (⟨0, 0, 0, 0, C, [], []⟩)).1).id), .I (((againOf id el bt (⟨0, 0, 0, 0, C, [], []⟩)).1).election), .I (((againOf id el bt (⟨0, 0, 0, 0, C, [], []⟩)).1).beat), .int .u64 (((againOf id el bt (⟨0, 0, 0, 0, C, [], []⟩)).1).term), .I (((againOf id el bt (⟨0, 0, 0, 0, C, [], []⟩)).1).vote), .int .u64 (((againOf id el bt (⟨0, 0, 0, 0, C, [], []⟩)).1).base), .int .u64 (((againOf id el bt (⟨0, 0, 0, 0, C, [], []⟩)).1).baseTerm), .slice o (((againOf id el bt (⟨0, 0, 0, 0, C, [], []⟩)).1).baseConf.voters.length) p, .slice a (((againOf id el bt (⟨0, 0, 0, 0, C, [], []⟩)).1).baseConf.learners.length) b, .slice k (((againOf id el bt (⟨0, 0, 0, 0, C, [], []⟩)).1).snap.length) l, .slice m (((againOf id el bt (⟨0, 0, 0, 0, C, [], []⟩)).1).log.length) n, .int .u64 (((againOf id el bt (⟨0, 0, 0, 0, C, [], []⟩)).1).commit), .I (((againOf id el bt (⟨0, 0, 0, 0, C, [], []⟩)).1).role), .I (((againOf id el bt (⟨0, 0, 0, 0, C, [], []⟩)).1).lead), .I (((againOf id el bt (⟨0, 0, 0, 0, C, [], []⟩)).1).elapsed), .I (((againOf id el bt (⟨0, 0, 0, 0, C, [], []⟩)).1).timeout), .slice d (((againOf id el bt (⟨0, 0, 0, 0, C, [], []⟩)).1).votes.length) e, .slice f (((againOf id el bt (⟨0, 0, 0, 0, C, [], []⟩)).1).peers.length) g, .int .u64 (((againOf id el bt (⟨0, 0, 0, 0, C, [], []⟩)).1).ctx), .slice i (((againOf id el bt (⟨0, 0, 0, 0, C, [], []⟩)).1).readings.length) j, .I (((againOf id el bt (⟨0, 0, 0, 0, C, [], []⟩)).1).target)], .I ((againOf id el bt (⟨0, 0, 0, 0, C, [], []⟩)).2)]) Tryz.func7 (v2 (.cell 8 35) (.tmp 9) (vC (H.cells 0 rfl)) vT) ?_
 exact ⟨_, rfl, H.done, [.I (((againOf id el bt (⟨0, 0, 0, 0, C, [], []⟩)).1).id), .I (((againOf id el bt (⟨0, 0, 0, 0, C, [], []⟩)).1).election), .I (((againOf id el bt (⟨0, 0, 0, 0, C, [], []⟩)).1).beat), .int .u64 (((againOf id el bt (⟨0, 0, 0, 0, C, [], []⟩)).1).term), .I (((againOf id el bt (⟨0, 0, 0, 0, C, [], []⟩)).1).vote), .int .u64 (((againOf id el bt (⟨0, 0, 0, 0, C, [], []⟩)).1).base), .int .u64 (((againOf id el bt (⟨0, 0, 0, 0, C, [], []⟩)).1).baseTerm), .slice o (((againOf id el bt (⟨0, 0, 0, 0, C, [], []⟩)).1).baseConf.voters.length) p, .slice a (((againOf id el bt (⟨0, 0, 0, 0, C, [], []⟩)).1).baseConf.learners.length) b, .slice k (((againOf id el bt (⟨0, 0, 0, 0, C, [], []⟩)).1).snap.length) l, .slice m (((againOf id el bt (⟨0, 0, 0, 0, C, [], []⟩)).1).log.length) n, .int .u64 (((againOf id el bt (⟨0, 0, 0, 0, C, [], []⟩)).1).commit), .I (((againOf id el bt (⟨0, 0, 0, 0, C, [], []⟩)).1).role), .I (((againOf id el bt (⟨0, 0, 0, 0, C, [], []⟩)).1).lead), .I (((againOf id el bt (⟨0, 0, 0, 0, C, [], []⟩)).1).elapsed), .I (((againOf id el bt (⟨0, 0, 0, 0, C, [], []⟩)).1).timeout), .slice d (((againOf id el bt (⟨0, 0, 0, 0, C, [], []⟩)).1).votes.length) e, .slice f (((againOf id el bt (⟨0, 0, 0, 0, C, [], []⟩)).1).peers.length) g, .int .u64 (((againOf id el bt (⟨0, 0, 0, 0, C, [], []⟩)).1).ctx), .slice i (((againOf id el bt (⟨0, 0, 0, 0, C, [], []⟩)).1).readings.length) j, .I (((againOf id el bt (⟨0, 0, 0, 0, C, [], []⟩)).1).target)], rfl, H.out (raft_mk (l0 := [.I (((againOf id el bt (⟨0, 0, 0, 0, C, [], []⟩)).1).id)]) (y0 := ((againOf id el bt (⟨0, 0, 0, 0, C, [], []⟩)).1).id) (l1 := [.I (((againOf id el bt (⟨0, 0, 0, 0, C, [], []⟩)).1).election)]) (y1 := ((againOf id el bt (⟨0, 0, 0, 0, C, [], []⟩)).1).election) (l2 := [.I (((againOf id el bt (⟨0, 0, 0, 0, C, [], []⟩)).1).beat)]) (y2 := ((againOf id el bt (⟨0, 0, 0, 0, C, [], []⟩)).1).beat) (l3 := [.int .u64 (((againOf id el bt (⟨0, 0, 0, 0, C, [], []⟩)).1).term)]) (y3 := ((againOf id el bt (⟨0, 0, 0, 0, C, [], []⟩)).1).term) (l4 := [.I (((againOf id el bt (⟨0, 0, 0, 0, C, [], []⟩)).1).vote)]) (y4 := ((againOf id el bt (⟨0, 0, 0, 0, C, [], []⟩)).1).vote) (l5 := [.int .u64 (((againOf id el bt (⟨0, 0, 0, 0, C, [], []⟩)).1).base)]) (y5 := ((againOf id el bt (⟨0, 0, 0, 0, C, [], []⟩)).1).base) (l6 := [.int .u64 (((againOf id el bt (⟨0, 0, 0, 0, C, [], []⟩)).1).baseTerm)]) (y6 := ((againOf id el bt (⟨0, 0, 0, 0, C, [], []⟩)).1).baseTerm) (l7 := [.slice o (((againOf id el bt (⟨0, 0, 0, 0, C, [], []⟩)).1).baseConf.voters.length) p, .slice a (((againOf id el bt (⟨0, 0, 0, 0, C, [], []⟩)).1).baseConf.learners.length) b]) (y7 := ⟨((againOf id el bt (⟨0, 0, 0, 0, C, [], []⟩)).1).baseConf.voters, ((againOf id el bt (⟨0, 0, 0, 0, C, [], []⟩)).1).baseConf.learners⟩) (l8 := [.slice k (((againOf id el bt (⟨0, 0, 0, 0, C, [], []⟩)).1).snap.length) l]) (y8 := ((againOf id el bt (⟨0, 0, 0, 0, C, [], []⟩)).1).snap) (l9 := [.slice m (((againOf id el bt (⟨0, 0, 0, 0, C, [], []⟩)).1).log.length) n]) (y9 := ((againOf id el bt (⟨0, 0, 0, 0, C, [], []⟩)).1).log) (l10 := [.int .u64 (((againOf id el bt (⟨0, 0, 0, 0, C, [], []⟩)).1).commit)]) (y10 := ((againOf id el bt (⟨0, 0, 0, 0, C, [], []⟩)).1).commit) (l11 := [.I (((againOf id el bt (⟨0, 0, 0, 0, C, [], []⟩)).1).role)]) (y11 := ((againOf id el bt (⟨0, 0, 0, 0, C, [], []⟩)).1).role) (l12 := [.I (((againOf id el bt (⟨0, 0, 0, 0, C, [], []⟩)).1).lead)]) (y12 := ((againOf id el bt (⟨0, 0, 0, 0, C, [], []⟩)).1).lead) (l13 := [.I (((againOf id el bt (⟨0, 0, 0, 0, C, [], []⟩)).1).elapsed)]) (y13 := ((againOf id el bt (⟨0, 0, 0, 0, C, [], []⟩)).1).elapsed) (l14 := [.I (((againOf id el bt (⟨0, 0, 0, 0, C, [], []⟩)).1).timeout)]) (y14 := ((againOf id el bt (⟨0, 0, 0, 0, C, [], []⟩)).1).timeout) (l15 := [.slice d (((againOf id el bt (⟨0, 0, 0, 0, C, [], []⟩)).1).votes.length) e]) (y15 := ((againOf id el bt (⟨0, 0, 0, 0, C, [], []⟩)).1).votes) (l16 := [.slice f (((againOf id el bt (⟨0, 0, 0, 0, C, [], []⟩)).1).peers.length) g]) (y16 := ((againOf id el bt (⟨0, 0, 0, 0, C, [], []⟩)).1).peers) (l17 := [.int .u64 (((againOf id el bt (⟨0, 0, 0, 0, C, [], []⟩)).1).ctx)]) (y17 := ((againOf id el bt (⟨0, 0, 0, 0, C, [], []⟩)).1).ctx) (l18 := [.slice i (((againOf id el bt (⟨0, 0, 0, 0, C, [], []⟩)).1).readings.length) j]) (y18 := ((againOf id el bt (⟨0, 0, 0, 0, C, [], []⟩)).1).readings) (l19 := [.I (((againOf id el bt (⟨0, 0, 0, 0, C, [], []⟩)).1).target)]) (y19 := ((againOf id el bt (⟨0, 0, 0, 0, C, [], []⟩)).1).target) i64a i64a i64a u64a i64a u64a u64a (conf_mk (H.rp 6 rfl) (H.rp 5 rfl)) (H.rp 4 rfl) (H.rp 3 rfl) u64a i64a i64a i64a i64a (H.rp 2 rfl) (H.rp 1 rfl) u64a (H.rp 0 rfl) i64a)⟩
theorem refnew_spec {S : Nat → Prop} {w : World} {cs : List Value} {C : Conf} (h : confS.rep S w cs C) (id el bt : Int) (hid : -9223372036854775808 ≤ id ∧ id ≤ 9223372036854775807) (hel : -9223372036854775808 ≤ el ∧ el ≤ 9223372036854775807) (hbt : -9223372036854775808 ≤ bt ∧ bt ≤ 9223372036854775807) (hz3 : C.voters.length ≤ 1048576) (hz4 : C.learners.length ≤ 1048576) :
 Calls Tryz.prog 19 #[.I id, .I el, .I bt, .agg cs.toArray] w (Ret fun v w' => Ext w w' ∧ ∃ (ds : List Value), v = .tuple #[.agg ds.toArray, .I (againOf id el bt ⟨0, 0, 0, 0, C, [], []⟩).2] ∧ raftS.rep (Nw S w) w' ds (againOf id el bt ⟨0, 0, 0, 0, C, [], []⟩).1) := by
 obtain ⟨m, n, o, p, rfl, hvC, hlC⟩ := conf_open h
 refine uS1 Tryz.func19 ?_
 have H := Hp.startF (.rp hvC (.rp hlC .nil))
 refine uR 1 [.c [0], .c [1]] ?_
 refine qG (sq 0 3) ?_
 refine uC #[.slice m C.voters.length n, .slice o C.learners.length p] 28 H ?_
 intro _ _ H
 refine uC #[.I 0, .I 0, .I 0, .int .u64 0, .I 0, .int .u64 0, .int .u64 0, .slice none 0 0, .slice none 0 0, .slice none 0 0, .slice none 0 0, .int .u64 0, .I 0, .I 0, .I 0, .I 0, .slice none 0 0, .slice none 0 0, .int .u64 0, .slice none 0 0, .I 0] 35 H ?_
 intro t _ H
 refine uF 1 ?_
 refine uR 1 [.c [1, 0], .c [2]] ?_
 refine qG (sq 0 9) ?_
 refine uP 3 ?_
 refine uV 28 0 (H.cells 1 rfl) ?_
 refine uK (refcopy_spec (C := C) (conf_mk (H.rp 0 rfl) (H.rp 1 rfl)) (by omega) (by omega)) ?_
 rintro _ _ g ⟨_, rfl, r⟩
 obtain ⟨e, f, a, b, rfl, i, j⟩ := conf_open r
 have u := H.addM g i
 have H := u.addO H g j
 refine uP 2 ?_
 refine uC #[.I 0, .I 0, .I 0, .int .u64 0, .I 0, .int .u64 0, .int .u64 0, .slice none 0 0, .slice none 0 0, .slice none 0 0, .slice none 0 0, .int .u64 0, .I 0, .I 0, .I 0, .I 0, .slice none 0 0, .slice none 0 0, .int .u64 0, .slice none 0 0, .I 0] 35 H ?_
 intro _ _ H
 refine uW 35 0 #[.I id, .I el, .I bt, .int .u64 0, .I 0, .int .u64 0, .int .u64 0, .slice e C.voters.length f, .slice a C.learners.length b, .slice none 0 0, .slice none 0 0, .int .u64 0, .I 0, .I 0, .I 0, .I el, .slice none 0 0, .slice none 0 0, .int .u64 0, .slice none 0 0, .I 0] H 0 rfl ?_
 intro _ H
 refine uF 0 ?_
 refine uR 2 [.c [2, 0, 0], .c [2, 0, 1], .c [3]] ?_
 refine qG (sq 0 3) ?_
 refine uV 35 0 (H.cells 0 rfl) ?_
 refine uK (refrcheck_spec (R := ⟨id, el, bt, 0, 0, 0, 0, C, [], [], 0, 0, 0, 0, el, [], [], 0, [], 0⟩) (raft_mk (l0 := [.I id]) (y0 := id) (l1 := [.I el]) (y1 := el) (l2 := [.I bt]) (y2 := bt) (l3 := [.int .u64 0]) (y3 := 0) (l4 := [.I 0]) (y4 := 0) (l5 := [.int .u64 0]) (y5 := 0) (l6 := [.int .u64 0]) (y6 := 0) (l7 := [.slice e C.voters.length f, .slice a C.learners.length b]) (y7 := C) (l8 := [.slice none 0 0]) (y8 := []) (l9 := [.slice none 0 0]) (y9 := []) (l10 := [.int .u64 0]) (y10 := 0) (l11 := [.I 0]) (y11 := 0) (l12 := [.I 0]) (y12 := 0) (l13 := [.I 0]) (y13 := 0) (l14 := [.I el]) (y14 := el) (l15 := [.slice none 0 0]) (y15 := []) (l16 := [.slice none 0 0]) (y16 := []) (l17 := [.int .u64 0]) (y17 := 0) (l18 := [.slice none 0 0]) (y18 := []) (l19 := [.I 0]) (y19 := 0) i64a i64a i64a (Shape.int_mk (by decide)) (Shape.int_mk (by decide)) (Shape.int_mk (by decide)) (Shape.int_mk (by decide)) (conf_mk (H.rp 1 rfl) (H.rp 0 rfl)) Shape.slice_nil Shape.slice_nil (Shape.int_mk (by decide)) (Shape.int_mk (by decide)) (Shape.int_mk (by decide)) (Shape.int_mk (by decide)) i64a Shape.slice_nil Shape.slice_nil (Shape.int_mk (by decide)) Shape.slice_nil (Shape.int_mk (by decide)))) ?_
 rintro _ _ k ⟨l, rfl, _, d⟩
 have H := H.ext k
 refine uF 1 ?_
 refine qN l 0 (fun s => ?_) (fun s => ?_)
 ·
  refine uR 1 [.c [2, 0, 1, 0, 0], .c [2, 0, 1, 0, 1], .c [3]] ?_
  refine qG (sq 0 3) ?_
  refine uP 1 ?_
  refine uW 35 0 #[.I 0, .I 0, .I 0, .int .u64 0, .I 0, .int .u64 0, .int .u64 0, .slice none 0 0, .slice none 0 0, .slice none 0 0, .slice none 0 0, .int .u64 0, .I 0, .I 0, .I 0, .I 0, .slice none 0 0, .slice none 0 0, .int .u64 0, .slice none 0 0, .I 0] H 1 rfl ?_
  intro _ H
  refine qF 1 [(8, .P t 0), (9, .I 2)] ?_
  refine qRB (.tuple #[.agg #[.I 0, .I 0, .I 0, .int .u64 0, .I 0, .int .u64 0, .int .u64 0, .slice none 0 0, .slice none 0 0, .slice none 0 0, .slice none 0 0, .int .u64 0, .I 0, .I 0, .I 0, .I 0, .slice none 0 0, .slice none 0 0, .int .u64 0, .slice none 0 0, .I 0], .I 2]) Tryz.func19 (v2 (.cell 8 35) (.tmp 9) (vC (H.cells 1 rfl)) vT) ?_
  rw [againOf_no (K := ⟨0, 0, 0, 0, C, [], []⟩) (fun q => absurd (d.2 q) (by assumption))]
  exact ⟨_, rfl, H.done, [.I 0, .I 0, .I 0, .int .u64 0, .I 0, .int .u64 0, .int .u64 0, .slice none 0 0, .slice none 0 0, .slice none 0 0, .slice none 0 0, .int .u64 0, .I 0, .I 0, .I 0, .I 0, .slice none 0 0, .slice none 0 0, .int .u64 0, .slice none 0 0, .I 0], rfl, H.out (raft_mk (l0 := [.I 0]) (y0 := 0) (l1 := [.I 0]) (y1 := 0) (l2 := [.I 0]) (y2 := 0) (l3 := [.int .u64 0]) (y3 := 0) (l4 := [.I 0]) (y4 := 0) (l5 := [.int .u64 0]) (y5 := 0) (l6 := [.int .u64 0]) (y6 := 0) (l7 := [.slice none 0 0, .slice none 0 0]) (y7 := ⟨[], []⟩) (l8 := [.slice none 0 0]) (y8 := []) (l9 := [.slice none 0 0]) (y9 := []) (l10 := [.int .u64 0]) (y10 := 0) (l11 := [.I 0]) (y11 := 0) (l12 := [.I 0]) (y12 := 0) (l13 := [.I 0]) (y13 := 0) (l14 := [.I 0]) (y14 := 0) (l15 := [.slice none 0 0]) (y15 := []) (l16 := [.slice none 0 0]) (y16 := []) (l17 := [.int .u64 0]) (y17 := 0) (l18 := [.slice none 0 0]) (y18 := []) (l19 := [.I 0]) (y19 := 0) (Shape.int_mk (by decide)) (Shape.int_mk (by decide)) (Shape.int_mk (by decide)) (Shape.int_mk (by decide)) (Shape.int_mk (by decide)) (Shape.int_mk (by decide)) (Shape.int_mk (by decide)) (conf_mk Shape.slice_nil Shape.slice_nil) Shape.slice_nil Shape.slice_nil (Shape.int_mk (by decide)) (Shape.int_mk (by decide)) (Shape.int_mk (by decide)) (Shape.int_mk (by decide)) (Shape.int_mk (by decide)) Shape.slice_nil Shape.slice_nil (Shape.int_mk (by decide)) Shape.slice_nil (Shape.int_mk (by decide)))⟩
 ·
  refine uR 2 [.c [3, 0], .c [4]] ?_
  refine qG (sq 0 3) ?_
  refine uV 35 0 (H.cells 0 rfl) ?_
  refine uW 35 0 #[.I id, .I el, .I bt, .int .u64 0, .I 0, .int .u64 0, .int .u64 0, .slice e C.voters.length f, .slice a C.learners.length b, .slice none 0 0, .slice none 0 0, .int .u64 0, .I 0, .I 0, .I 0, .I el, .slice none 0 0, .slice none 0 0, .int .u64 0, .slice none 0 0, .I 0] H 1 rfl ?_
  intro _ H
  refine uF 1 ?_
  refine qRB (.tuple #[.agg #[.I id, .I el, .I bt, .int .u64 0, .I 0, .int .u64 0, .int .u64 0, .slice e C.voters.length f, .slice a C.learners.length b, .slice none 0 0, .slice none 0 0, .int .u64 0, .I 0, .I 0, .I 0, .I el, .slice none 0 0, .slice none 0 0, .int .u64 0, .slice none 0 0, .I 0], .I 0]) Tryz.func19 (v2 (.cell 8 35) (.tmp 9) (vC (H.cells 1 rfl)) vT) ?_
  rw [againOf_ok (K := ⟨0, 0, 0, 0, C, [], []⟩) (d.1 (by first | assumption | omega))]
  exact ⟨_, rfl, H.done, [.I id, .I el, .I bt, .int .u64 0, .I 0, .int .u64 0, .int .u64 0, .slice e C.voters.length f, .slice a C.learners.length b, .slice none 0 0, .slice none 0 0, .int .u64 0, .I 0, .I 0, .I 0, .I el, .slice none 0 0, .slice none 0 0, .int .u64 0, .slice none 0 0, .I 0], rfl, H.out (raft_mk (l0 := [.I id]) (y0 := id) (l1 := [.I el]) (y1 := el) (l2 := [.I bt]) (y2 := bt) (l3 := [.int .u64 0]) (y3 := 0) (l4 := [.I 0]) (y4 := 0) (l5 := [.int .u64 0]) (y5 := 0) (l6 := [.int .u64 0]) (y6 := 0) (l7 := [.slice e C.voters.length f, .slice a C.learners.length b]) (y7 := C) (l8 := [.slice none 0 0]) (y8 := []) (l9 := [.slice none 0 0]) (y9 := []) (l10 := [.int .u64 0]) (y10 := 0) (l11 := [.I 0]) (y11 := 0) (l12 := [.I 0]) (y12 := 0) (l13 := [.I 0]) (y13 := 0) (l14 := [.I el]) (y14 := el) (l15 := [.slice none 0 0]) (y15 := []) (l16 := [.slice none 0 0]) (y16 := []) (l17 := [.int .u64 0]) (y17 := 0) (l18 := [.slice none 0 0]) (y18 := []) (l19 := [.I 0]) (y19 := 0) i64a i64a i64a (Shape.int_mk (by decide)) (Shape.int_mk (by decide)) (Shape.int_mk (by decide)) (Shape.int_mk (by decide)) (conf_mk (H.rp 1 rfl) (H.rp 0 rfl)) Shape.slice_nil Shape.slice_nil (Shape.int_mk (by decide)) (Shape.int_mk (by decide)) (Shape.int_mk (by decide)) (Shape.int_mk (by decide)) i64a Shape.slice_nil Shape.slice_nil (Shape.int_mk (by decide)) Shape.slice_nil (Shape.int_mk (by decide)))⟩
set_option maxHeartbeats 4000000 in
theorem kept_spec {S : Nat → Prop} {w : World} {R : Raft} {cs : List Value} (hR : raftS.rep S w cs R) (hz1 : R.log.length ≤ 1048576) (hz2 : R.snap.length ≤ 1048576) (hz3 : R.baseConf.voters.length ≤ 1048576) (hz4 : R.baseConf.learners.length ≤ 1048576) :
 Calls Tryz.prog 15 #[.agg cs.toArray] w (Ret fun v w' => Ext w w' ∧ ∃ (ds : List Value), v = .agg ds.toArray ∧ keptS.rep (Nw S w) w' ds (keptOf R)) := by
 obtain ⟨_, y, z, A, B, p, r, s, t, u, x, rfl, _, _, _, _, _, _, _, d0, M, N, _, _, _, _, _, V, J, _, W, _⟩ := raft_open hR
 obtain ⟨a, b, d, e, rfl, f, g⟩ := conf_open d0
 have hlLR := Shape.slice_len N
 have hlPR := Shape.slice_len J
 have hlBR := Shape.slice_len M
 refine uS1 Tryz.func15 ?_
 have H := Hp.startF (.rp f (.rp g (.rp M (.rp N (.rp V (.rp J (.rp W .nil)))))))
 refine uR 1 [.c [0], .c [1]] ?_
 refine qG (sq 0 2) ?_
 refine uC #[.I R.id, .I R.election, .I R.beat, .int .u64 R.term, .I R.vote, .int .u64 R.base, .int .u64 R.baseTerm, .slice a R.baseConf.voters.length b, .slice d R.baseConf.learners.length e, .slice y R.snap.length z, .slice A R.log.length B, .int .u64 R.commit, .I R.role, .I R.lead, .I R.elapsed, .I R.timeout, .slice p R.votes.length r, .slice s R.peers.length t, .int .u64 R.ctx, .slice u R.readings.length x, .I R.target] 35 H ?_
 intro X _ H
 refine uC #[.int .u64 0, .I 0, .int .u64 0, .int .u64 0, .slice none 0 0, .slice none 0 0, .slice none 0 0, .slice none 0 0] 82 H ?_
 intro Y _ H
 refine uF 0 ?_
 refine uR 2 [.c [1, 0, 0], .c [1, 0, 1], .c [2]] ?_
 refine qG (sq 0 3) ?_
 refine uV 35 0 (H.cells 1 rfl) ?_
 refine uK (rcheck_spec (R := R) (raft_mk (l0 := [.I R.id]) (y0 := R.id) (l1 := [.I R.election]) (y1 := R.election) (l2 := [.I R.beat]) (y2 := R.beat) (l3 := [.int .u64 R.term]) (y3 := R.term) (l4 := [.I R.vote]) (y4 := R.vote) (l5 := [.int .u64 R.base]) (y5 := R.base) (l6 := [.int .u64 R.baseTerm]) (y6 := R.baseTerm) (l7 := [.slice a R.baseConf.voters.length b, .slice d R.baseConf.learners.length e]) (y7 := R.baseConf) (l8 := [.slice y R.snap.length z]) (y8 := R.snap) (l9 := [.slice A R.log.length B]) (y9 := R.log) (l10 := [.int .u64 R.commit]) (y10 := R.commit) (l11 := [.I R.role]) (y11 := R.role) (l12 := [.I R.lead]) (y12 := R.lead) (l13 := [.I R.elapsed]) (y13 := R.elapsed) (l14 := [.I R.timeout]) (y14 := R.timeout) (l15 := [.slice p R.votes.length r]) (y15 := R.votes) (l16 := [.slice s R.peers.length t]) (y16 := R.peers) (l17 := [.int .u64 R.ctx]) (y17 := R.ctx) (l18 := [.slice u R.readings.length x]) (y18 := R.readings) (l19 := [.I R.target]) (y19 := R.target) i64a i64a i64a u64a i64a u64a u64a (conf_mk (H.rp 0 rfl) (H.rp 1 rfl)) (H.rp 2 rfl) (H.rp 3 rfl) u64a i64a i64a i64a i64a (H.rp 4 rfl) (H.rp 5 rfl) u64a (H.rp 6 rfl) i64a)) ?_
 rintro _ w5 e0 ⟨f0, rfl, _, K⟩
 have H := H.ext e0
 refine uF 1 ?_
 refine qN f0 0 (fun g0 => ?_) (fun g0 => ?_)
 ·
  refine uR 1 [.c [1, 0, 1, 0, 0], .c [1, 0, 1, 0, 1], .c [2]] ?_
  refine qG (sq 0 2) ?_
  refine uP 1 ?_
  refine uW 82 0 #[.int .u64 0, .I 0, .int .u64 0, .int .u64 0, .slice none 0 0, .slice none 0 0, .slice none 0 0, .slice none 0 0] H 0 rfl ?_
  intro _ H
  refine uF 0 ?_
  refine qRB (.agg #[.int .u64 0, .I 0, .int .u64 0, .int .u64 0, .slice none 0 0, .slice none 0 0, .slice none 0 0, .slice none 0 0]) Tryz.func15 (v1 (.cell 2 82) (vC (H.cells 0 rfl))) ?_
  rw [keptOf_no (fun q => absurd (K.2 q) (by assumption))]
  exact ⟨_, rfl, H.done, [.int .u64 0, .I 0, .int .u64 0, .int .u64 0, .slice none 0 0, .slice none 0 0, .slice none 0 0, .slice none 0 0], rfl, H.out (kept_mk (Shape.int_mk (by decide)) (Shape.int_mk (by decide)) (Shape.int_mk (by decide)) (Shape.int_mk (by decide)) (conf_mk Shape.slice_nil Shape.slice_nil) Shape.slice_nil Shape.slice_nil)⟩
 ·
  refine uR 2 [.c [2, 0], .c [3]] ?_
  refine WK.joinV (α := Option Addr × Option Addr × Option Addr × Option Addr × Nat × Nat × Nat × Nat) (fun (h, i, j, k, l, m, n, o) w_ => Hp w S [] [(Y, .cells #[.int .u64 R.term, .I R.vote, .int .u64 R.base, .int .u64 R.baseTerm, .slice h R.baseConf.voters.length l, .slice i R.baseConf.learners.length m, .slice j R.snap.length n, .slice k R.log.length o] 82 (0, 0)), (X, .cells #[.I R.id, .I R.election, .I R.beat, .int .u64 R.term, .I R.vote, .int .u64 R.base, .int .u64 R.baseTerm, .slice a R.baseConf.voters.length b, .slice d R.baseConf.learners.length e, .slice y R.snap.length z, .slice A R.log.length B, .int .u64 R.commit, .I R.role, .I R.lead, .I R.elapsed, .I R.timeout, .slice p R.votes.length r, .slice s R.peers.length t, .int .u64 R.ctx, .slice u R.readings.length x, .I R.target] 35 (0, 0))] [] [Rp (Shape.slice (Shape.int .i64)) [.slice h R.baseConf.voters.length l] R.baseConf.voters, Rp (Shape.slice (Shape.int .i64)) [.slice i R.baseConf.learners.length m] R.baseConf.learners, Rp SB [.slice j R.snap.length n] R.snap, Rp (Shape.slice entS) [.slice k R.log.length o] R.log, Rp (Shape.slice (Shape.int .i64)) [.slice a R.baseConf.voters.length b] R.baseConf.voters, Rp (Shape.slice (Shape.int .i64)) [.slice d R.baseConf.learners.length e] R.baseConf.learners, Rp SB [.slice y R.snap.length z] R.snap, Rp (Shape.slice entS) [.slice A R.log.length B] R.log, Rp (Shape.slice (Shape.int .i64)) [.slice p R.votes.length r] R.votes, Rp (Shape.slice peerS) [.slice s R.peers.length t] R.peers, Rp (Shape.slice rdgS) [.slice u R.readings.length x] R.readings] w_ ∧ True) (fun (h, i, j, k, l, m, n, o) => [(2, .P Y 0)]) [Cq Tryz.prog 15 [3]] (fun Z => ?_) ?_
  ·
   refine WK.draw1 18 [(0, .qui), (1, .qui), (2, .qui), (3, .qui), (4, .qui), (5, .qui), (6, .qui), (7, .qui), (8, .qui), (9, .qui), (11, .qui), (12, .qui), (14, .qui), (15, .qui), (10, .chn), (13, .chn), (16, .chn), (17, .qui)] [(0, .qui), (1, .qui), (2, .qui), (3, .qui), (4, .qui), (5, .qui), (6, .qui), (7, .qui), (8, .qui), (9, .qui), (11, .qui), (12, .qui), (14, .qui), (15, .qui), (10, .chn), (13, .chn), (16, .chn), (17, .qui), (18, .seq)] Tryz_mixed (by as_aux_lemma => kernel_rfl) (by as_aux_lemma => kernel_rfl) (by as_aux_lemma => kernel_rfl) ?_
   have H := H.draw
   generalize ({ w5 with drawn := w5.drawn + 1 } : World) = h0 at H ⊢
   refine uP 1 ?_
   refine uV 25 3 (H.cells 1 rfl) ?_
   refine uP 1 ?_
   refine uV 3 4 (H.cells 1 rfl) ?_
   refine qP 1 [(5, .qui), (6, .qui), (7, .qui), (8, .qui), (9, .qui), (11, .qui), (12, .qui), (14, .qui), (15, .qui), (10, .chn), (13, .chn), (16, .chn), (17, .qui), (18, .seq)] [(1, .P X 0), (2, .P Y 0), (8, .int .u64 R.term), (10, .I R.vote), (11, .P X 5)] ?_
   refine uV 25 5 (H.cells 1 rfl) ?_
   refine uP 1 ?_
   refine uV 25 6 (H.cells 1 rfl) ?_
   refine uP 1 ?_
   refine uV 28 7 (H.cells 1 rfl) ?_
   refine uP 1 ?_
   refine uV 29 9 (H.cells 1 rfl) ?_
   refine uP 1 ?_
   refine uV 30 10 (H.cells 1 rfl) ?_
   refine uK (ccopied_spec (C := R.baseConf) (conf_mk (H.rp 0 rfl) (H.rp 1 rfl)) (by omega) (by omega)) ?_
   rintro _ _ L ⟨_, rfl, a0⟩
   obtain ⟨O, Q, T, U, rfl, b0, c0⟩ := conf_open a0
   have H2 := H.addM L b0
   have H := H2.addO H L c0
   refine uK (bclone_spec (H.rp 4 rfl) (by omega)) ?_
   rintro _ _ - H'
   have H := H.back (M1 := []) (W1 := []) H'
   obtain ⟨D, E, rfl, _, _⟩ := H.ownForm 0 rfl
   have H : Hp w S [] [_, _] [⟨Sb, 5, .slice D R.snap.length E, R.snap⟩] [_, _, _, _, _, _, _, _, _] _ := H
   refine uK (eclone_spec (H.rp 5 rfl) (by omega)) ?_
   rintro _ _ - H'
   have H := H.back (M1 := []) (W1 := []) H'
   obtain ⟨F, G, rfl, _, _⟩ := H.ownForm 0 rfl
   have H : Hp w S [] [_, _] [⟨entS, 71, .slice F R.log.length G, R.log⟩, _] [_, _, _, _, _, _, _, _, _] _ := H
   refine uP 1 ?_
   refine uW 82 0 #[.int .u64 R.term, .I R.vote, .int .u64 R.base, .int .u64 R.baseTerm, .slice O R.baseConf.voters.length Q, .slice T R.baseConf.learners.length U, .slice D R.snap.length E, .slice F R.log.length G] H 0 rfl ?_
   intro _ H
   refine uF 0 ?_
   have H : Hp w S [] [_, _] [_] [Rp SB [.slice D R.snap.length E] R.snap, _, _, _, _, _, _, _, _, _] _ := H.freezeW 1 rfl
   have H : Hp w S [] [_, _] [] [Rp (Shape.slice entS) [.slice F R.log.length G] R.log, _, _, _, _, _, _, _, _, _, _] _ := H.freezeW 0 rfl
   have H := H.pick [3, 2, 1, 0, 4, 5, 6, 7, 8, 9, 10] rfl
   exact uB (Z (O, T, D, F, Q, U, E, G) _ ⟨H, trivial⟩)
  ·
   rintro ⟨h, i, j, k, l, m, n, o⟩ _ ⟨H, hjT⟩
   refine qRB (.agg #[.int .u64 R.term, .I R.vote, .int .u64 R.base, .int .u64 R.baseTerm, .slice h R.baseConf.voters.length l, .slice i R.baseConf.learners.length m, .slice j R.snap.length n, .slice k R.log.length o]) Tryz.func15 (v1 (.cell 2 82) (vC (H.cells 0 rfl))) ?_
   rw [keptOf_ok (K.1 (by first | assumption | omega))]
   exact ⟨_, rfl, H.done, [.int .u64 R.term, .I R.vote, .int .u64 R.base, .int .u64 R.baseTerm, .slice h R.baseConf.voters.length l, .slice i R.baseConf.learners.length m, .slice j R.snap.length n, .slice k R.log.length o], rfl, H.out (kept_mk u64a i64a u64a u64a (conf_mk (H.rp 0 rfl) (H.rp 1 rfl)) (H.rp 2 rfl) (H.rp 3 rfl))⟩
set_option maxHeartbeats 4000000 in
theorem refkept_spec {S : Nat → Prop} {w : World} {R : Raft} {cs : List Value} (hR : raftS.rep S w cs R) (hz1 : R.log.length ≤ 1048576) (hz2 : R.snap.length ≤ 1048576) (hz3 : R.baseConf.voters.length ≤ 1048576) (hz4 : R.baseConf.learners.length ≤ 1048576) :
 Calls Tryz.prog 16 #[.agg cs.toArray] w (Ret fun v w' => Ext w w' ∧ ∃ (ds : List Value), v = .agg ds.toArray ∧ keptS.rep (Nw S w) w' ds (keptOf R)) := by
 obtain ⟨_, i, j, k, l, K, L, M, N, O, Q, rfl, _, _, _, _, _, _, _, C1, L0, M0, _, _, _, _, _, n1, k0, _, o1, _⟩ := raft_open hR
 obtain ⟨a, f, g, h, rfl, p, s⟩ := conf_open C1
 have hlLR := Shape.slice_len M0
 have hlPR := Shape.slice_len k0
 have hlBR := Shape.slice_len L0
 refine uS1 Tryz.func16 ?_
 have H := Hp.startF (.rp p (.rp s (.rp L0 (.rp M0 (.rp n1 (.rp k0 (.rp o1 .nil)))))))
 refine uR 1 [.c [0], .c [1]] ?_
 refine qG (sq 0 2) ?_
 refine uC #[.I R.id, .I R.election, .I R.beat, .int .u64 R.term, .I R.vote, .int .u64 R.base, .int .u64 R.baseTerm, .slice a R.baseConf.voters.length f, .slice g R.baseConf.learners.length h, .slice i R.snap.length j, .slice k R.log.length l, .int .u64 R.commit, .I R.role, .I R.lead, .I R.elapsed, .I R.timeout, .slice K R.votes.length L, .slice M R.peers.length N, .int .u64 R.ctx, .slice O R.readings.length Q, .I R.target] 35 H ?_
 intro b1 _ H
 refine uC #[.int .u64 0, .I 0, .int .u64 0, .int .u64 0, .slice none 0 0, .slice none 0 0, .slice none 0 0, .slice none 0 0] 82 H ?_
 intro b3 _ H
 refine uF 0 ?_
 refine uR 2 [.c [1, 0, 0], .c [1, 0, 1], .c [2]] ?_
 refine qG (sq 0 3) ?_
 refine uV 35 0 (H.cells 1 rfl) ?_
 refine uK (refrcheck_spec (R := R) (raft_mk (l0 := [.I R.id]) (y0 := R.id) (l1 := [.I R.election]) (y1 := R.election) (l2 := [.I R.beat]) (y2 := R.beat) (l3 := [.int .u64 R.term]) (y3 := R.term) (l4 := [.I R.vote]) (y4 := R.vote) (l5 := [.int .u64 R.base]) (y5 := R.base) (l6 := [.int .u64 R.baseTerm]) (y6 := R.baseTerm) (l7 := [.slice a R.baseConf.voters.length f, .slice g R.baseConf.learners.length h]) (y7 := R.baseConf) (l8 := [.slice i R.snap.length j]) (y8 := R.snap) (l9 := [.slice k R.log.length l]) (y9 := R.log) (l10 := [.int .u64 R.commit]) (y10 := R.commit) (l11 := [.I R.role]) (y11 := R.role) (l12 := [.I R.lead]) (y12 := R.lead) (l13 := [.I R.elapsed]) (y13 := R.elapsed) (l14 := [.I R.timeout]) (y14 := R.timeout) (l15 := [.slice K R.votes.length L]) (y15 := R.votes) (l16 := [.slice M R.peers.length N]) (y16 := R.peers) (l17 := [.int .u64 R.ctx]) (y17 := R.ctx) (l18 := [.slice O R.readings.length Q]) (y18 := R.readings) (l19 := [.I R.target]) (y19 := R.target) i64a i64a i64a u64a i64a u64a u64a (conf_mk (H.rp 0 rfl) (H.rp 1 rfl)) (H.rp 2 rfl) (H.rp 3 rfl) u64a i64a i64a i64a i64a (H.rp 4 rfl) (H.rp 5 rfl) u64a (H.rp 6 rfl) i64a)) ?_
 rintro _ w5 D1 ⟨E1, rfl, _, m0⟩
 have H := H.ext D1
 refine uF 1 ?_
 refine qN E1 0 (fun F1 => ?_) (fun F1 => ?_)
 ·
  refine uR 1 [.c [1, 0, 1, 0, 0], .c [1, 0, 1, 0, 1], .c [2]] ?_
  refine qG (sq 0 2) ?_
  refine uP 1 ?_
  refine uW 82 0 #[.int .u64 0, .I 0, .int .u64 0, .int .u64 0, .slice none 0 0, .slice none 0 0, .slice none 0 0, .slice none 0 0] H 0 rfl ?_
  intro _ H
  refine uF 0 ?_
  refine qRB (.agg #[.int .u64 0, .I 0, .int .u64 0, .int .u64 0, .slice none 0 0, .slice none 0 0, .slice none 0 0, .slice none 0 0]) Tryz.func16 (v1 (.cell 2 82) (vC (H.cells 0 rfl))) ?_
  rw [keptOf_no (fun q => absurd (m0.2 q) (by assumption))]
  exact ⟨_, rfl, H.done, [.int .u64 0, .I 0, .int .u64 0, .int .u64 0, .slice none 0 0, .slice none 0 0, .slice none 0 0, .slice none 0 0], rfl, H.out (kept_mk (Shape.int_mk (by decide)) (Shape.int_mk (by decide)) (Shape.int_mk (by decide)) (Shape.int_mk (by decide)) (conf_mk Shape.slice_nil Shape.slice_nil) Shape.slice_nil Shape.slice_nil)⟩
 ·
  refine uR 2 [.c [2, 0], .c [3]] ?_
  refine WK.joinV (α := Option Addr × Option Addr × Option Addr × Option Addr × Nat × Nat × Nat × Nat) (fun (t, u, x, y, z, A, B, D) w_ => Hp w S [] [(b3, .cells #[.int .u64 R.term, .I R.vote, .int .u64 R.base, .int .u64 R.baseTerm, .slice t R.baseConf.voters.length z, .slice u R.baseConf.learners.length A, .slice x R.snap.length B, .slice y R.log.length D] 82 (0, 0)), (b1, .cells #[.I R.id, .I R.election, .I R.beat, .int .u64 R.term, .I R.vote, .int .u64 R.base, .int .u64 R.baseTerm, .slice a R.baseConf.voters.length f, .slice g R.baseConf.learners.length h, .slice i R.snap.length j, .slice k R.log.length l, .int .u64 R.commit, .I R.role, .I R.lead, .I R.elapsed, .I R.timeout, .slice K R.votes.length L, .slice M R.peers.length N, .int .u64 R.ctx, .slice O R.readings.length Q, .I R.target] 35 (0, 0))] [] [Rp (Shape.slice (Shape.int .i64)) [.slice t R.baseConf.voters.length z] R.baseConf.voters, Rp (Shape.slice (Shape.int .i64)) [.slice u R.baseConf.learners.length A] R.baseConf.learners, Rp SB [.slice x R.snap.length B] R.snap, Rp (Shape.slice entS) [.slice y R.log.length D] R.log, Rp (Shape.slice (Shape.int .i64)) [.slice a R.baseConf.voters.length f] R.baseConf.voters, Rp (Shape.slice (Shape.int .i64)) [.slice g R.baseConf.learners.length h] R.baseConf.learners, Rp SB [.slice i R.snap.length j] R.snap, Rp (Shape.slice entS) [.slice k R.log.length l] R.log, Rp (Shape.slice (Shape.int .i64)) [.slice K R.votes.length L] R.votes, Rp (Shape.slice peerS) [.slice M R.peers.length N] R.peers, Rp (Shape.slice rdgS) [.slice O R.readings.length Q] R.readings] w_ ∧ True) (fun (t, u, x, y, z, A, B, D) => [(2, .P b3 0)]) [Cq Tryz.prog 16 [3]] (fun n => ?_) ?_
  ·
   refine WK.drawT1 20 [true, true, true, true, true, true, true, true, true, true, true, true, true, true, true, true, true, true, true, true, false] (.node (qs [0, 1, 2, 3, 4, 5, 6, 7, 8, 9, 12, 13, 16, 17]) (.cons 10 (.node [] (.cons 11 (.node [] (.cons 14 (.leaf [(15, .chn), (18, .chn), (19, .qui)]) (.cons 15 (.leaf [(14, .chn), (18, .chn), (19, .qui)]) .nil))) (.cons 15 (.leaf [(11, .chn), (14, .chn), (18, .chn), (19, .qui)]) .nil))) (.cons 11 (.node [] (.cons 10 (.node [] (.cons 14 (.leaf [(15, .chn), (18, .chn), (19, .qui)]) (.cons 15 (.leaf [(14, .chn), (18, .chn), (19, .qui)]) .nil))) (.cons 15 (.leaf [(10, .chn), (14, .chn), (18, .chn), (19, .qui)]) .nil))) (.cons 15 (.node [] (.cons 10 (.leaf [(11, .chn), (14, .chn), (18, .chn), (19, .qui)]) (.cons 11 (.leaf [(10, .chn), (14, .chn), (18, .chn), (19, .qui)]) .nil))) .nil)))) Tryz_mixed (by as_aux_lemma => kernel_rfl) (by as_aux_lemma => kernel_rfl) ?_
   have H := H.draw
   generalize ({ w5 with drawn := w5.drawn + 1 } : World) = N1 at H ⊢
   refine RT.node' (qs [0, 1, 2, 3, 4, 5, 6, 7, 8, 9, 12, 13, 16, 17]) (by as_aux_lemma => kernel_rfl) ?_
   refine uP 1 ?_
   refine uV 25 3 (H.cells 1 rfl) ?_
   refine uP 1 ?_
   refine uV 3 4 (H.cells 1 rfl) ?_
   refine qP 1 (qs [5, 6, 7, 8, 9, 12, 13, 16, 17]) [(1, .P b1 0), (2, .P b3 0), (8, .int .u64 R.term), (10, .I R.vote), (11, .P b1 5)] ?_
   refine uV 25 5 (H.cells 1 rfl) ?_
   refine uP 1 ?_
   refine uV 25 6 (H.cells 1 rfl) ?_
   refine uP 1 ?_
   refine uV 28 7 (H.cells 1 rfl) ?_
   refine uP 1 ?_
   refine uV 29 9 (H.cells 1 rfl) ?_
   refine uP 1 ?_
   refine uV 30 10 (H.cells 1 rfl) ?_
   refine uTF 0 ?_
   refine (RB.cons' ?_ (RB.cons' ?_ (RB.cons' ?_ RB.nil')))
   ·
    refine RT.node' [(10, .chn)] (by as_aux_lemma => kernel_rfl) ?_
    refine uK (refcopy_spec (C := R.baseConf) (conf_mk (H.rp 0 rfl) (H.rp 1 rfl)) (by omega) (by omega)) ?_
    rintro _ _ n0 ⟨_, rfl, p1⟩
    obtain ⟨E, F, G, J, rfl, q1, r1⟩ := conf_open p1
    have U := H.addM n0 q1
    have H := U.addO H n0 r1
    refine uTF 0 ?_
    refine (RB.cons' ?_ (RB.cons' ?_ RB.nil'))
    ·
     refine RT.node' [(11, .chn)] (by as_aux_lemma => kernel_rfl) ?_
     refine RW.new (κ := .chn) (d := some 18) (r := []) (o := .cells #[] 5 (0, 0)) (v := fun b => .slice (some ⟨b, 0, none⟩) 0 0) (fun b => by as_aux_lemma => kernel_rfl) (nofun) H ?_
     intro N0 _ H
     refine uTF 0 ?_
     refine (RB.cons' ?_ (RB.cons' ?_ RB.nil'))
     ·
      refine RT.leaf' [(14, .chn), (15, .chn), (18, .chn), (19, .qui), (20, .seq)] (by as_aux_lemma => kernel_rfl) ?_
      refine RW.appendN (κ := .chn) (d := some 21) (r := [(15, .chn), (18, .chn), (19, .qui), (20, .seq)]) (T := 29) (ty := 29) (e := 5) (m := 1) (by_ := 1) (a0 := (some ⟨N0, 0, none⟩)) (a2 := i) (l2 := R.snap.length) (c2 := j) (by as_aux_lemma => kernel_rfl) (nofun) (.inr ⟨_, rfl⟩) (by as_aux_lemma => kernel_rfl) rfl H 4 rfl (by omega) ?_
      intro O0 P0 _ H
      refine RW.new (κ := .chn) (d := some 22) (r := [(18, .chn), (19, .qui), (20, .seq)]) (o := .cells #[] 71 (0, 0)) (v := fun b => .slice (some ⟨b, 0, none⟩) 0 0) (fun b => by as_aux_lemma => kernel_rfl) (nofun) H ?_
      intro G1 _ H
      refine RW.appendN (κ := .chn) (d := some 25) (r := [(19, .qui), (20, .seq)]) (T := 30) (ty := 30) (e := 71) (m := 21) (by_ := 224) (a0 := (some ⟨G1, 0, none⟩)) (a2 := k) (l2 := R.log.length) (c2 := l) (by as_aux_lemma => kernel_rfl) (nofun) (.inr ⟨_, rfl⟩) (by as_aux_lemma => kernel_rfl) rfl H 6 rfl (by omega) ?_
      intro Q0 R0 _ H
      refine uP 1 ?_
      refine uW 82 0 #[.int .u64 R.term, .I R.vote, .int .u64 R.base, .int .u64 R.baseTerm, .slice E R.baseConf.voters.length F, .slice G R.baseConf.learners.length J, .slice O0 R.snap.length P0, .slice Q0 R.log.length R0] H 2 rfl ?_
      intro _ H
      refine uF 0 ?_
      have H := H.pick [3, 2, 1, 0, 4, 5, 6, 7, 8, 9, 10] rfl
      have H := H.frontM 3 rfl
      have H := H.frontM 3 rfl
      have H := H.take 2 0
      exact uB (n (E, G, O0, Q0, F, J, P0, R0) _ ⟨H, trivial⟩)
     ·
      refine RT.leaf' [(15, .chn), (14, .chn), (18, .chn), (19, .qui), (20, .seq)] (by as_aux_lemma => kernel_rfl) ?_
      refine RW.new (κ := .chn) (d := some 22) (r := [(14, .chn), (18, .chn), (19, .qui), (20, .seq)]) (o := .cells #[] 71 (0, 0)) (v := fun b => .slice (some ⟨b, 0, none⟩) 0 0) (fun b => by as_aux_lemma => kernel_rfl) (nofun) H ?_
      intro H1 _ H
      refine RW.appendN (κ := .chn) (d := some 21) (r := [(18, .chn), (19, .qui), (20, .seq)]) (T := 29) (ty := 29) (e := 5) (m := 1) (by_ := 1) (a0 := (some ⟨N0, 0, none⟩)) (a2 := i) (l2 := R.snap.length) (c2 := j) (by as_aux_lemma => kernel_rfl) (nofun) (.inr ⟨_, rfl⟩) (by as_aux_lemma => kernel_rfl) rfl H 4 rfl (by omega) ?_
      intro S0 T0 _ H
      refine RW.appendN (κ := .chn) (d := some 25) (r := [(19, .qui), (20, .seq)]) (T := 30) (ty := 30) (e := 71) (m := 21) (by_ := 224) (a0 := (some ⟨H1, 0, none⟩)) (a2 := k) (l2 := R.log.length) (c2 := l) (by as_aux_lemma => kernel_rfl) (nofun) (.inr ⟨_, rfl⟩) (by as_aux_lemma => kernel_rfl) rfl H 6 rfl (by omega) ?_
      intro U0 V0 _ H
      refine uP 1 ?_
      refine uW 82 0 #[.int .u64 R.term, .I R.vote, .int .u64 R.base, .int .u64 R.baseTerm, .slice E R.baseConf.voters.length F, .slice G R.baseConf.learners.length J, .slice S0 R.snap.length T0, .slice U0 R.log.length V0] H 2 rfl ?_
      intro _ H
      refine qF 0 [(2, .P b3 0)] ?_
      have H := H.pick [3, 2, 1, 0, 4, 5, 6, 7, 8, 9, 10] rfl
      have H := H.frontM 3 rfl
      have H := H.frontM 3 rfl
      have H := H.take 2 0
      exact uB (n (E, G, S0, U0, F, J, T0, V0) _ ⟨H, trivial⟩)
    ·
     refine RT.leaf' [(15, .chn), (11, .chn), (14, .chn), (18, .chn), (19, .qui), (20, .seq)] (by as_aux_lemma => kernel_rfl) ?_
     refine RW.new (κ := .chn) (d := some 22) (r := [(11, .chn), (14, .chn), (18, .chn), (19, .qui), (20, .seq)]) (o := .cells #[] 71 (0, 0)) (v := fun b => .slice (some ⟨b, 0, none⟩) 0 0) (fun b => by as_aux_lemma => kernel_rfl) (nofun) H ?_
     intro I1 _ H
     refine RW.new (κ := .chn) (d := some 18) (r := [(14, .chn), (18, .chn), (19, .qui), (20, .seq)]) (o := .cells #[] 5 (0, 0)) (v := fun b => .slice (some ⟨b, 0, none⟩) 0 0) (fun b => by as_aux_lemma => kernel_rfl) (nofun) H ?_
     intro J1 _ H
     refine RW.appendN (κ := .chn) (d := some 21) (r := [(18, .chn), (19, .qui), (20, .seq)]) (T := 29) (ty := 29) (e := 5) (m := 1) (by_ := 1) (a0 := (some ⟨J1, 0, none⟩)) (a2 := i) (l2 := R.snap.length) (c2 := j) (by as_aux_lemma => kernel_rfl) (nofun) (.inr ⟨_, rfl⟩) (by as_aux_lemma => kernel_rfl) rfl H 4 rfl (by omega) ?_
     intro W0 X0 _ H
     refine RW.appendN (κ := .chn) (d := some 25) (r := [(19, .qui), (20, .seq)]) (T := 30) (ty := 30) (e := 71) (m := 21) (by_ := 224) (a0 := (some ⟨I1, 0, none⟩)) (a2 := k) (l2 := R.log.length) (c2 := l) (by as_aux_lemma => kernel_rfl) (nofun) (.inr ⟨_, rfl⟩) (by as_aux_lemma => kernel_rfl) rfl H 6 rfl (by omega) ?_
     intro Y0 Z0 _ H
     refine uP 1 ?_
     refine uW 82 0 #[.int .u64 R.term, .I R.vote, .int .u64 R.base, .int .u64 R.baseTerm, .slice E R.baseConf.voters.length F, .slice G R.baseConf.learners.length J, .slice W0 R.snap.length X0, .slice Y0 R.log.length Z0] H 2 rfl ?_
     intro _ H
     refine uF 0 ?_
     have H := H.pick [3, 2, 1, 0, 4, 5, 6, 7, 8, 9, 10] rfl
     have H := H.frontM 3 rfl
     have H := H.frontM 3 rfl
     have H := H.take 2 0
     exact uB (n (E, G, W0, Y0, F, J, X0, Z0) _ ⟨H, trivial⟩)
   ·
    refine RT.node' [(11, .chn)] (by as_aux_lemma => kernel_rfl) ?_
    refine RW.new (κ := .chn) (d := some 18) (r := []) (o := .cells #[] 5 (0, 0)) (v := fun b => .slice (some ⟨b, 0, none⟩) 0 0) (fun b => by as_aux_lemma => kernel_rfl) (nofun) H ?_
    intro o0 _ H
    refine uTF 0 ?_
    refine (RB.cons' ?_ (RB.cons' ?_ RB.nil'))
    ·
     refine RT.node' [(10, .chn)] (by as_aux_lemma => kernel_rfl) ?_
     refine uK (refcopy_spec (C := R.baseConf) (conf_mk (H.rp 0 rfl) (H.rp 1 rfl)) (by omega) (by omega)) ?_
     rintro _ _ p0 ⟨_, rfl, s1⟩
     obtain ⟨V, W, X, Y, rfl, t1, u1⟩ := conf_open s1
     have U := H.addM p0 t1
     have H := U.addO H p0 u1
     refine uTF 0 ?_
     refine (RB.cons' ?_ (RB.cons' ?_ RB.nil'))
     ·
      refine RT.leaf' [(14, .chn), (15, .chn), (18, .chn), (19, .qui), (20, .seq)] (by as_aux_lemma => kernel_rfl) ?_
      refine RW.appendN (κ := .chn) (d := some 21) (r := [(15, .chn), (18, .chn), (19, .qui), (20, .seq)]) (T := 29) (ty := 29) (e := 5) (m := 1) (by_ := 1) (a0 := (some ⟨o0, 0, none⟩)) (a2 := i) (l2 := R.snap.length) (c2 := j) (by as_aux_lemma => kernel_rfl) (nofun) (.inr ⟨_, rfl⟩) (by as_aux_lemma => kernel_rfl) rfl H 4 rfl (by omega) ?_
      intro a1 c67 _ H
      refine RW.new (κ := .chn) (d := some 22) (r := [(18, .chn), (19, .qui), (20, .seq)]) (o := .cells #[] 71 (0, 0)) (v := fun b => .slice (some ⟨b, 0, none⟩) 0 0) (fun b => by as_aux_lemma => kernel_rfl) (nofun) H ?_
      intro K1 _ H
      refine RW.appendN (κ := .chn) (d := some 25) (r := [(19, .qui), (20, .seq)]) (T := 30) (ty := 30) (e := 71) (m := 21) (by_ := 224) (a0 := (some ⟨K1, 0, none⟩)) (a2 := k) (l2 := R.log.length) (c2 := l) (by as_aux_lemma => kernel_rfl) (nofun) (.inr ⟨_, rfl⟩) (by as_aux_lemma => kernel_rfl) rfl H 6 rfl (by omega) ?_
      intro c1 d1 _ H
      refine uP 1 ?_
      refine uW 82 0 #[.int .u64 R.term, .I R.vote, .int .u64 R.base, .int .u64 R.baseTerm, .slice V R.baseConf.voters.length W, .slice X R.baseConf.learners.length Y, .slice a1 R.snap.length c67, .slice c1 R.log.length d1] H 2 rfl ?_
      intro _ H
      refine uF 0 ?_
      have H := H.pick [3, 2, 1, 0, 4, 5, 6, 7, 8, 9, 10] rfl
      have H := H.frontM 3 rfl
      have H := H.frontM 3 rfl
      have H := H.take 2 0
      exact uB (n (V, X, a1, c1, W, Y, c67, d1) _ ⟨H, trivial⟩)
     ·
      refine RT.leaf' [(15, .chn), (14, .chn), (18, .chn), (19, .qui), (20, .seq)] (by as_aux_lemma => kernel_rfl) ?_
      refine RW.new (κ := .chn) (d := some 22) (r := [(14, .chn), (18, .chn), (19, .qui), (20, .seq)]) (o := .cells #[] 71 (0, 0)) (v := fun b => .slice (some ⟨b, 0, none⟩) 0 0) (fun b => by as_aux_lemma => kernel_rfl) (nofun) H ?_
      intro L1 _ H
      refine RW.appendN (κ := .chn) (d := some 21) (r := [(18, .chn), (19, .qui), (20, .seq)]) (T := 29) (ty := 29) (e := 5) (m := 1) (by_ := 1) (a0 := (some ⟨o0, 0, none⟩)) (a2 := i) (l2 := R.snap.length) (c2 := j) (by as_aux_lemma => kernel_rfl) (nofun) (.inr ⟨_, rfl⟩) (by as_aux_lemma => kernel_rfl) rfl H 4 rfl (by omega) ?_
      intro q0 r0 _ H
      refine RW.appendN (κ := .chn) (d := some 25) (r := [(19, .qui), (20, .seq)]) (T := 30) (ty := 30) (e := 71) (m := 21) (by_ := 224) (a0 := (some ⟨L1, 0, none⟩)) (a2 := k) (l2 := R.log.length) (c2 := l) (by as_aux_lemma => kernel_rfl) (nofun) (.inr ⟨_, rfl⟩) (by as_aux_lemma => kernel_rfl) rfl H 6 rfl (by omega) ?_
      intro s0 t0 _ H
      refine qP 1 [(20, .seq)] [(2, .P b3 0), (26, .agg #[.int .u64 R.term, .I R.vote, .int .u64 R.base, .int .u64 R.baseTerm, .slice V R.baseConf.voters.length W, .slice X R.baseConf.learners.length Y, .slice q0 R.snap.length r0, .slice s0 R.log.length t0])] ?_
      refine uW 82 0 #[.int .u64 R.term, .I R.vote, .int .u64 R.base, .int .u64 R.baseTerm, .slice V R.baseConf.voters.length W, .slice X R.baseConf.learners.length Y, .slice q0 R.snap.length r0, .slice s0 R.log.length t0] H 2 rfl ?_
      intro _ H
      refine uF 0 ?_
      have H := H.pick [3, 2, 1, 0, 4, 5, 6, 7, 8, 9, 10] rfl
      have H := H.frontM 3 rfl
      have H := H.frontM 3 rfl
      have H := H.take 2 0
      exact uB (n (V, X, q0, s0, W, Y, r0, t0) _ ⟨H, trivial⟩)
    ·
     refine RT.leaf' [(15, .chn), (10, .chn), (14, .chn), (18, .chn), (19, .qui), (20, .seq)] (by as_aux_lemma => kernel_rfl) ?_
     refine RW.new (κ := .chn) (d := some 22) (r := [(10, .chn), (14, .chn), (18, .chn), (19, .qui), (20, .seq)]) (o := .cells #[] 71 (0, 0)) (v := fun b => .slice (some ⟨b, 0, none⟩) 0 0) (fun b => by as_aux_lemma => kernel_rfl) (nofun) H ?_
     intro M1 _ H
     refine uK (refcopy_spec (C := R.baseConf) (conf_mk (H.rp 0 rfl) (H.rp 1 rfl)) (by omega) (by omega)) ?_
     rintro _ _ u0 ⟨_, rfl, w1⟩
     obtain ⟨e1, f1, g1, h1, rfl, x1, z1⟩ := conf_open w1
     have U := H.addM u0 x1
     have H := U.addO H u0 z1
     refine RW.appendN (κ := .chn) (d := some 21) (r := [(18, .chn), (19, .qui), (20, .seq)]) (T := 29) (ty := 29) (e := 5) (m := 1) (by_ := 1) (a0 := (some ⟨o0, 0, none⟩)) (a2 := i) (l2 := R.snap.length) (c2 := j) (by as_aux_lemma => kernel_rfl) (nofun) (.inr ⟨_, rfl⟩) (by as_aux_lemma => kernel_rfl) rfl H 4 rfl (by omega) ?_
     intro i1 j1 _ H
     refine RW.appendN (κ := .chn) (d := some 25) (r := [(19, .qui), (20, .seq)]) (T := 30) (ty := 30) (e := 71) (m := 21) (by_ := 224) (a0 := (some ⟨M1, 0, none⟩)) (a2 := k) (l2 := R.log.length) (c2 := l) (by as_aux_lemma => kernel_rfl) (nofun) (.inr ⟨_, rfl⟩) (by as_aux_lemma => kernel_rfl) rfl H 6 rfl (by omega) ?_
     intro k1 m1 _ H
     refine uP 1 ?_
     refine uW 82 0 #[.int .u64 R.term, .I R.vote, .int .u64 R.base, .int .u64 R.baseTerm, .slice e1 R.baseConf.voters.length f1, .slice g1 R.baseConf.learners.length h1, .slice i1 R.snap.length j1, .slice k1 R.log.length m1] H 2 rfl ?_
     intro _ H
     refine uF 0 ?_
     have H := H.pick [3, 2, 1, 0, 4, 5, 6, 7, 8, 9, 10] rfl
     have H := H.frontM 3 rfl
     have H := H.frontM 3 rfl
     have H := H.take 2 0
     exact uB (n (e1, g1, i1, k1, f1, h1, j1, m1) _ ⟨H, trivial⟩)
   ·
    refine RT.node' [(15, .chn)] (by as_aux_lemma => kernel_rfl) ?_
    refine RW.new (κ := .chn) (d := some 22) (r := []) (o := .cells #[] 71 (0, 0)) (v := fun b => .slice (some ⟨b, 0, none⟩) 0 0) (fun b => by as_aux_lemma => kernel_rfl) (nofun) H ?_
    intro v0 _ H
    refine uTF 0 ?_
    refine (RB.cons' ?_ (RB.cons' ?_ RB.nil'))
    ·
     refine RT.leaf' [(10, .chn), (11, .chn), (14, .chn), (18, .chn), (19, .qui), (20, .seq)] (by as_aux_lemma => kernel_rfl) ?_
     refine uK (refcopy_spec (C := R.baseConf) (conf_mk (H.rp 0 rfl) (H.rp 1 rfl)) (by omega) (by omega)) ?_
     rintro _ _ i0 ⟨_, rfl, F0⟩
     obtain ⟨w0, x0, z0, A0, rfl, G0, H0⟩ := conf_open F0
     have U := H.addM i0 G0
     have H := U.addO H i0 H0
     refine RW.new (κ := .chn) (d := some 18) (r := [(14, .chn), (18, .chn), (19, .qui), (20, .seq)]) (o := .cells #[] 5 (0, 0)) (v := fun b => .slice (some ⟨b, 0, none⟩) 0 0) (fun b => by as_aux_lemma => kernel_rfl) (nofun) H ?_
     intro A1 _ H
     refine RW.appendN (κ := .chn) (d := some 21) (r := [(18, .chn), (19, .qui), (20, .seq)]) (T := 29) (ty := 29) (e := 5) (m := 1) (by_ := 1) (a0 := (some ⟨A1, 0, none⟩)) (a2 := i) (l2 := R.snap.length) (c2 := j) (by as_aux_lemma => kernel_rfl) (nofun) (.inr ⟨_, rfl⟩) (by as_aux_lemma => kernel_rfl) rfl H 4 rfl (by omega) ?_
     intro B0 C0 _ H
     refine RW.appendN (κ := .chn) (d := some 25) (r := [(19, .qui), (20, .seq)]) (T := 30) (ty := 30) (e := 71) (m := 21) (by_ := 224) (a0 := (some ⟨v0, 0, none⟩)) (a2 := k) (l2 := R.log.length) (c2 := l) (by as_aux_lemma => kernel_rfl) (nofun) (.inr ⟨_, rfl⟩) (by as_aux_lemma => kernel_rfl) rfl H 6 rfl (by omega) ?_
     intro D0 E0 _ H
     refine uP 1 ?_
     refine uW 82 0 #[.int .u64 R.term, .I R.vote, .int .u64 R.base, .int .u64 R.baseTerm, .slice w0 R.baseConf.voters.length x0, .slice z0 R.baseConf.learners.length A0, .slice B0 R.snap.length C0, .slice D0 R.log.length E0] H 2 rfl ?_
     intro _ H
     refine uF 0 ?_
     have H := H.pick [3, 2, 1, 0, 4, 5, 6, 7, 8, 9, 10] rfl
     have H := H.frontM 3 rfl
     have H := H.frontM 3 rfl
     have H := H.take 2 0
     exact uB (n (w0, z0, B0, D0, x0, A0, C0, E0) _ ⟨H, trivial⟩)
    ·
     refine RT.leaf' [(11, .chn), (10, .chn), (14, .chn), (18, .chn), (19, .qui), (20, .seq)] (by as_aux_lemma => kernel_rfl) ?_
     refine RW.new (κ := .chn) (d := some 18) (r := [(10, .chn), (14, .chn), (18, .chn), (19, .qui), (20, .seq)]) (o := .cells #[] 5 (0, 0)) (v := fun b => .slice (some ⟨b, 0, none⟩) 0 0) (fun b => by as_aux_lemma => kernel_rfl) (nofun) H ?_
     intro B1 _ H
     refine uK (refcopy_spec (C := R.baseConf) (conf_mk (H.rp 0 rfl) (H.rp 1 rfl)) (by omega) (by omega)) ?_
     rintro _ _ j0 ⟨_, rfl, I0⟩
     obtain ⟨Z, b0, c0, d0, rfl, J0, K0⟩ := conf_open I0
     have U := H.addM j0 J0
     have H := U.addO H j0 K0
     refine RW.appendN (κ := .chn) (d := some 21) (r := [(18, .chn), (19, .qui), (20, .seq)]) (T := 29) (ty := 29) (e := 5) (m := 1) (by_ := 1) (a0 := (some ⟨B1, 0, none⟩)) (a2 := i) (l2 := R.snap.length) (c2 := j) (by as_aux_lemma => kernel_rfl) (nofun) (.inr ⟨_, rfl⟩) (by as_aux_lemma => kernel_rfl) rfl H 4 rfl (by omega) ?_
     intro e0 f0 _ H
     refine RW.appendN (κ := .chn) (d := some 25) (r := [(19, .qui), (20, .seq)]) (T := 30) (ty := 30) (e := 71) (m := 21) (by_ := 224) (a0 := (some ⟨v0, 0, none⟩)) (a2 := k) (l2 := R.log.length) (c2 := l) (by as_aux_lemma => kernel_rfl) (nofun) (.inr ⟨_, rfl⟩) (by as_aux_lemma => kernel_rfl) rfl H 6 rfl (by omega) ?_
     intro g0 h0 _ H
     refine qP 1 [(20, .seq)] [(2, .P b3 0), (26, .agg #[.int .u64 R.term, .I R.vote, .int .u64 R.base, .int .u64 R.baseTerm, .slice Z R.baseConf.voters.length b0, .slice c0 R.baseConf.learners.length d0, .slice e0 R.snap.length f0, .slice g0 R.log.length h0])] ?_
     refine uW 82 0 #[.int .u64 R.term, .I R.vote, .int .u64 R.base, .int .u64 R.baseTerm, .slice Z R.baseConf.voters.length b0, .slice c0 R.baseConf.learners.length d0, .slice e0 R.snap.length f0, .slice g0 R.log.length h0] H 2 rfl ?_
     intro _ H
     refine uF 0 ?_
     have H := H.pick [3, 2, 1, 0, 4, 5, 6, 7, 8, 9, 10] rfl
     have H := H.frontM 3 rfl
     have H := H.frontM 3 rfl
     have H := H.take 2 0
     exact uB (n (Z, c0, e0, g0, b0, d0, f0, h0) _ ⟨H, trivial⟩)
  ·
   rintro ⟨t, u, x, y, z, A, B, D⟩ _ ⟨H, hjT⟩
   refine qRB (.agg #[.int .u64 R.term, .I R.vote, .int .u64 R.base, .int .u64 R.baseTerm, .slice t R.baseConf.voters.length z, .slice u R.baseConf.learners.length A, .slice x R.snap.length B, .slice y R.log.length D]) Tryz.func16 (v1 (.cell 2 82) (vC (H.cells 0 rfl))) ?_
   rw [keptOf_ok (m0.1 (by first | assumption | omega))]
   exact ⟨_, rfl, H.done, [.int .u64 R.term, .I R.vote, .int .u64 R.base, .int .u64 R.baseTerm, .slice t R.baseConf.voters.length z, .slice u R.baseConf.learners.length A, .slice x R.snap.length B, .slice y R.log.length D], rfl, H.out (kept_mk u64a i64a u64a u64a (conf_mk (H.rp 0 rfl) (H.rp 1 rfl)) (H.rp 2 rfl) (H.rp 3 rfl))⟩
end Go.Proofs.YtkjkmogipidkiaaGreat
