import Derived.Test.YtkjkmogipidkiaaGreatSBxA
import Derived.Test.YtkjkmogipidkiaaGreatSMH
namespace Go.Proofs.YtkjkmogipidkiaaGreat
open Go.BX
set_option maxHeartbeats 8000000 in
theorem stepB_spec {S : Nat → Prop} {w : World} {R : Raft} {cs : List Value} (hR : raftS.rep S w cs R) (hy7 : R.baseConf.voters.length ≤ 1048576) (hy8 : R.baseConf.learners.length ≤ 1048576) (hy9 : R.snap.length ≤ 1048576) (hy10 : R.log.length ≤ 1048576) (hy16 : R.votes.length ≤ 1048576) (hy17 : R.peers.length ≤ 1048576) (hrd : R.readings = []) (hok : okR R) (hro : R.role ≠ 3) (hlg : R.log = []) (hb0 : R.base = 0) (htm : R.timeout ≤ R.elapsed + 1) (hea : R.elapsed < 1999) (hvb : 0 + R.baseConf.voters.length ≤ 1000) (hin : R.id ∈ R.baseConf.voters) (hmaj : majB R.baseConf [R.id] = false) :
 Calls Tryz.prog 8 #[.agg cs.toArray, tickI] w (Ret fun v w' => Ext w w' ∧ ∃ (d0 : Int) (d1 : Int) (d2 : Int) (d3 : Int) (d4 : Int) (d5 : Int) (d6 : Int) (da7 : Option Addr) (dn7 : Nat) (dc7 : Nat) (da8 : Option Addr) (dn8 : Nat) (dc8 : Nat) (da9 : Option Addr) (dn9 : Nat) (dc9 : Nat) (da10 : Option Addr) (dn10 : Nat) (dc10 : Nat) (d11 : Int) (d13 : Int) (d14 : Int) (d15 : Int) (da16 : Option Addr) (dn16 : Nat) (dc16 : Nat) (da17 : Option Addr) (dn17 : Nat) (dc17 : Nat) (d18 : Int) (da19 : Option Addr) (dn19 : Nat) (dc19 : Nat) (d20 : Int) (o0 : Bool) (o1 : Int) (oa2 : Option Addr) (on2 : Nat) (oc2 : Nat) (o3 : Bool) (oa5 : Option Addr) (on5 : Nat) (oc5 : Nat) (oa6 : Option Addr) (on6 : Nat) (oc6 : Nat) (oa7 : Option Addr) (on7 : Nat) (oc7 : Nat) (o8 : Bool) (o9 : Int) (ax9 : Option Addr) (cx9 : Nat), v = .tuple #[.agg #[.I d0, .I d1, .I d2, .int .u64 d3, .I d4, .int .u64 d5, .int .u64 d6, .slice da7 dn7 dc7, .slice da8 dn8 dc8, .slice da9 dn9 dc9, .slice da10 dn10 dc10, .int .u64 d11, .I 1, .I d13, .I d14, .I d15, .slice da16 dn16 dc16, .slice da17 dn17 dc17, .int .u64 d18, .slice da19 dn19 dc19, .I d20], .agg #[.bool o0, .int .u64 o1, .slice oa2 on2 oc2, .bool o3, .slice ax9 ((askL (preM (R.term + 1)) (lastL R.log R.base R.baseTerm).1 (lastL R.log R.base R.baseTerm).2 R.id R.baseConf.voters).length) cx9, .slice oa5 on5 oc5, .slice oa6 on6 oc6, .slice oa7 on7 oc7, .bool o8, .I o9]] ∧ (Shape.slice msgS).rep (Nw S w) w' [.slice ax9 ((askL (preM (R.term + 1)) (lastL R.log R.base R.baseTerm).1 (lastL R.log R.base R.baseTerm).2 R.id R.baseConf.voters).length) cx9] (askL (preM (R.term + 1)) (lastL R.log R.base R.baseTerm).1 (lastL R.log R.base R.baseTerm).2 R.id R.baseConf.voters)) := by
 obtain ⟨_, V, W, X, Y, F, G, J, K, L, M, rfl, _, _, _, _, _, _, _, w0, m0, n0, _, _, _, _, _, s0, e0, _, t0, _⟩ := raft_open hR
 obtain ⟨a, f, h, i, rfl, Z, a0⟩ := conf_open w0
 have hlLR := Shape.slice_len n0
 have hlPR := Shape.slice_len e0
 have hlBR := Shape.slice_len m0
 have hrl : R.readings.length = 0 := by rw [hrd]; rfl
 have hll : R.log.length = 0 := by rw [hlg]; rfl
 have hlt : lastL R.log R.base R.baseTerm = (R.base, R.baseTerm) := by rw [hlg]; rfl
 have x0 : (lastL R.log R.base R.baseTerm).1 = R.base := by rw [hlt]
 have D0 : (lastL R.log R.base R.baseTerm).2 = R.baseTerm := by rw [hlt]
 have hlo : (lastOf R).1 = R.base := x0
 have hno : ∀ e ∈ R.log, e.kind ≠ 2 := by rw [hlg]; intro e he; cases he
 obtain ⟨_, _, _⟩ := hok.2.2.2.2.1
 obtain ⟨_, _, _, _, _⟩ := hok.2.1
 obtain ⟨_, _, _, _, _⟩ := hok.1
 obtain ⟨_, _, _, _⟩ := hok.2.2.1
 refine uS1 Tryz.func8 ?_
 have H := Hp.startF (.rp Z (.rp a0 (.rp m0 (.rp n0 (.rp s0 (.rp e0 (.rp t0 .nil)))))))
 refine uR 1 [.c [0], .c [1]] ?_
 refine qG (sq 0 4) ?_
 refine uC #[.I R.id, .I R.election, .I R.beat, .int .u64 R.term, .I R.vote, .int .u64 R.base, .int .u64 R.baseTerm, .slice a R.baseConf.voters.length f, .slice h R.baseConf.learners.length i, .slice V R.snap.length W, .slice X R.log.length Y, .int .u64 R.commit, .I R.role, .I R.lead, .I R.elapsed, .I R.timeout, .slice F R.votes.length G, .slice J R.peers.length K, .int .u64 R.ctx, .slice L R.readings.length M, .I R.target] 35 H ?_
 intro b1 _ H
 refine uC ((tickC).toArray) 67 H ?_
 intro b3 _ H
 refine uC #[.I 0, .I 0, .I 0, .int .u64 0, .I 0, .int .u64 0, .int .u64 0, .slice none 0 0, .slice none 0 0, .slice none 0 0, .slice none 0 0, .int .u64 0, .I 0, .I 0, .I 0, .I 0, .slice none 0 0, .slice none 0 0, .int .u64 0, .slice none 0 0, .I 0] 35 H ?_
 intro b5 _ H
 refine uC #[.bool false, .int .u64 0, .slice none 0 0, .bool false, .slice none 0 0, .slice none 0 0, .slice none 0 0, .slice none 0 0, .bool false, .I 0] 42 H ?_
 intro b7 _ H
 refine uF 0 ?_
 refine uR 2 [.c [1, 0, 0], .c [1, 0, 1], .c [2]] ?_
 refine qG (sq 0 3) ?_
 refine uV 35 0 (H.cells 3 rfl) ?_
 refine uK (rcheck_spec (R := R) (raft_mk (l0 := [.I R.id]) (y0 := R.id) (l1 := [.I R.election]) (y1 := R.election) (l2 := [.I R.beat]) (y2 := R.beat) (l3 := [.int .u64 R.term]) (y3 := R.term) (l4 := [.I R.vote]) (y4 := R.vote) (l5 := [.int .u64 R.base]) (y5 := R.base) (l6 := [.int .u64 R.baseTerm]) (y6 := R.baseTerm) (l7 := [.slice a R.baseConf.voters.length f, .slice h R.baseConf.learners.length i]) (y7 := R.baseConf) (l8 := [.slice V R.snap.length W]) (y8 := R.snap) (l9 := [.slice X R.log.length Y]) (y9 := R.log) (l10 := [.int .u64 R.commit]) (y10 := R.commit) (l11 := [.I R.role]) (y11 := R.role) (l12 := [.I R.lead]) (y12 := R.lead) (l13 := [.I R.elapsed]) (y13 := R.elapsed) (l14 := [.I R.timeout]) (y14 := R.timeout) (l15 := [.slice F R.votes.length G]) (y15 := R.votes) (l16 := [.slice J R.peers.length K]) (y16 := R.peers) (l17 := [.int .u64 R.ctx]) (y17 := R.ctx) (l18 := [.slice L R.readings.length M]) (y18 := R.readings) (l19 := [.I R.target]) (y19 := R.target) i64a i64a i64a u64a i64a u64a u64a (conf_mk (H.rp 0 rfl) (H.rp 1 rfl)) (H.rp 2 rfl) (H.rp 3 rfl) u64a i64a i64a i64a i64a (H.rp 4 rfl) (H.rp 5 rfl) u64a (H.rp 6 rfl) i64a)) ?_
 rintro _ w9 u0 ⟨v0, rfl, _, i0⟩
 have H := H.ext u0
 refine uF 1 ?_
 refine uR 2 [.c [1, 0, 2], .c [2]] ?_
 refine qN v0 0 (fun p0 => ?_) (fun p0 => ?_)
 ·
  exact absurd (i0.2 hok) (by first | exact p0 | omega)
 ·
  refine uR 2 [.c [2, 0], .c [3]] ?_
  refine WK.draw1 9 [(0, .qui), (3, .qui), (4, .qui), (5, .qui), (1, .chn), (2, .qui), (6, .qui), (7, .chn), (8, .qui)] [(0, .qui), (3, .qui), (4, .qui), (5, .qui), (1, .chn), (2, .qui), (6, .qui), (7, .chn), (8, .qui)] Tryz_mixed (by as_aux_lemma => kernel_rfl) (by as_aux_lemma => kernel_rfl) (by as_aux_lemma => kernel_rfl) ?_
  have H := H.draw
  generalize ({ w9 with drawn := w9.drawn + 1 } : World) = E0 at H ⊢
  refine uV 35 0 (H.cells 3 rfl) ?_
  refine uP 1 ?_
  refine uV 3 1 (H.cells 2 rfl) ?_
  refine uP 1 ?_
  refine uK (rcopied_spec (R := R) (raft_mk (l0 := [.I R.id]) (y0 := R.id) (l1 := [.I R.election]) (y1 := R.election) (l2 := [.I R.beat]) (y2 := R.beat) (l3 := [.int .u64 R.term]) (y3 := R.term) (l4 := [.I R.vote]) (y4 := R.vote) (l5 := [.int .u64 R.base]) (y5 := R.base) (l6 := [.int .u64 R.baseTerm]) (y6 := R.baseTerm) (l7 := [.slice a R.baseConf.voters.length f, .slice h R.baseConf.learners.length i]) (y7 := R.baseConf) (l8 := [.slice V R.snap.length W]) (y8 := R.snap) (l9 := [.slice X R.log.length Y]) (y9 := R.log) (l10 := [.int .u64 R.commit]) (y10 := R.commit) (l11 := [.I R.role]) (y11 := R.role) (l12 := [.I R.lead]) (y12 := R.lead) (l13 := [.I R.elapsed]) (y13 := R.elapsed) (l14 := [.I R.timeout]) (y14 := R.timeout) (l15 := [.slice F R.votes.length G]) (y15 := R.votes) (l16 := [.slice J R.peers.length K]) (y16 := R.peers) (l17 := [.int .u64 R.ctx]) (y17 := R.ctx) (l18 := [.slice L R.readings.length M]) (y18 := R.readings) (l19 := [.I R.target]) (y19 := R.target) i64a i64a i64a u64a i64a u64a u64a (conf_mk (H.rp 0 rfl) (H.rp 1 rfl)) (H.rp 2 rfl) (H.rp 3 rfl) u64a i64a i64a i64a i64a (H.rp 4 rfl) (H.rp 5 rfl) u64a (H.rp 6 rfl) i64a) (by omega) (by omega) (by omega) (by omega) (by omega) (by omega) hrd) ?_
  rintro _ _ - ⟨n, o, q, s, t, u, j, m, b0, c0, x, y, A, B, rfl, H'⟩
  have H := H.back (M1 := []) (W1 := []) H'
  have H : Hp w S [] [(b7, .cells #[.bool false, .int .u64 0, .slice none 0 0, .bool false, .slice none 0 0, .slice none 0 0, .slice none 0 0, .slice none 0 0, .bool false, .I 0] 42 (0, 0)), (b5, .cells #[.I 0, .I 0, .I 0, .int .u64 0, .I 0, .int .u64 0, .int .u64 0, .slice none 0 0, .slice none 0 0, .slice none 0 0, .slice none 0 0, .int .u64 0, .I 0, .I 0, .I 0, .I 0, .slice none 0 0, .slice none 0 0, .int .u64 0, .slice none 0 0, .I 0] 35 (0, 0)), (b3, .cells (tickC).toArray 67 (0, 0)), (b1, .cells #[.I R.id, .I R.election, .I R.beat, .int .u64 R.term, .I R.vote, .int .u64 R.base, .int .u64 R.baseTerm, .slice a R.baseConf.voters.length f, .slice h R.baseConf.learners.length i, .slice V R.snap.length W, .slice X R.log.length Y, .int .u64 R.commit, .I R.role, .I R.lead, .I R.elapsed, .I R.timeout, .slice F R.votes.length G, .slice J R.peers.length K, .int .u64 R.ctx, .slice L R.readings.length M, .I R.target] 35 (0, 0))] [⟨entS, 71, .slice j R.log.length m, R.log⟩] [Rp (Shape.slice (Shape.int .i64)) [.slice n R.baseConf.voters.length o] R.baseConf.voters, Rp (Shape.slice (Shape.int .i64)) [.slice q R.baseConf.learners.length s] R.baseConf.learners, Rp SB [.slice t R.snap.length u] R.snap, Rp (Shape.slice (Shape.int .i64)) [.slice b0 R.votes.length c0] R.votes, Rp (Shape.slice peerS) [.slice x R.peers.length y] R.peers, Rp (Shape.slice rdgS) [.slice A R.readings.length B] R.readings, _, _, _, _, _, _, _] _ := H
  refine uP 2 ?_
  refine uC #[.I R.id, .I R.election, .I R.beat, .int .u64 R.term, .I R.vote, .int .u64 R.base, .int .u64 R.baseTerm, .slice n R.baseConf.voters.length o, .slice q R.baseConf.learners.length s, .slice t R.snap.length u, .slice j R.log.length m, .int .u64 R.commit, .I R.role, .I R.lead, .I R.elapsed, .I R.timeout, .slice b0 R.votes.length c0, .slice x R.peers.length y, .int .u64 R.ctx, .slice A R.readings.length B, .I R.target, .bool false, .int .u64 0, .slice none 0 0, .bool false, .slice none 0 0, .slice none 0 0, .slice none 0 0, .slice none 0 0, .bool false, .I 0, .I (if 0 > 0 then 0 else 0)] 99 H ?_
  intro D q0 H
  refine uF 1 ?_
  refine qR 4 [.c [4, 0, 0], .c [4, 0, 1], .c [5]] [(2, .P b1 0), (3, .P b3 0), (4, .P b5 0), (5, .P b7 0), (7, .P D 0), (8, .I 2)] ?_
  refine WK.draw1 9 [(1, .qui), (2, .qui), (0, .chn), (3, .qui), (4, .qui), (5, .qui), (6, .qui), (7, .qui), (8, .qui)] [(1, .qui), (2, .qui), (0, .chn), (3, .qui), (4, .qui), (5, .qui), (6, .qui), (7, .qui), (8, .qui)] Tryz_mixed (by as_aux_lemma => kernel_rfl) (by as_aux_lemma => kernel_rfl) (by as_aux_lemma => kernel_rfl) ?_
  have H := H.draw
  generalize ({ q0 with drawn := q0.drawn + 1 } : World) = F0 at H ⊢
  refine uP 1 ?_
  refine uV 45 0 (H.cells 3 rfl) ?_
  refine uK (deeds_spec (S := Av S w [] (idsOf [(D, .cells #[.I R.id, .I R.election, .I R.beat, .int .u64 R.term, .I R.vote, .int .u64 R.base, .int .u64 R.baseTerm, .slice n R.baseConf.voters.length o, .slice q R.baseConf.learners.length s, .slice t R.snap.length u, .slice j R.log.length m, .int .u64 R.commit, .I R.role, .I R.lead, .I R.elapsed, .I R.timeout, .slice b0 R.votes.length c0, .slice x R.peers.length y, .int .u64 R.ctx, .slice A R.readings.length B, .I R.target, .bool false, .int .u64 0, .slice none 0 0, .bool false, .slice none 0 0, .slice none 0 0, .slice none 0 0, .slice none 0 0, .bool false, .I 0, .I (if 0 > 0 then 0 else 0)] 99 (0, 0)), (b7, .cells #[.bool false, .int .u64 0, .slice none 0 0, .bool false, .slice none 0 0, .slice none 0 0, .slice none 0 0, .slice none 0 0, .bool false, .I 0] 42 (0, 0)), (b5, .cells #[.I 0, .I 0, .I 0, .int .u64 0, .I 0, .int .u64 0, .int .u64 0, .slice none 0 0, .slice none 0 0, .slice none 0 0, .slice none 0 0, .int .u64 0, .I 0, .I 0, .I 0, .I 0, .slice none 0 0, .slice none 0 0, .int .u64 0, .slice none 0 0, .I 0] 35 (0, 0)), (b3, .cells (tickC).toArray 67 (0, 0)), (b1, .cells #[.I R.id, .I R.election, .I R.beat, .int .u64 R.term, .I R.vote, .int .u64 R.base, .int .u64 R.baseTerm, .slice a R.baseConf.voters.length f, .slice h R.baseConf.learners.length i, .slice V R.snap.length W, .slice X R.log.length Y, .int .u64 R.commit, .I R.role, .I R.lead, .I R.elapsed, .I R.timeout, .slice F R.votes.length G, .slice J R.peers.length K, .int .u64 R.ctx, .slice L R.readings.length M, .I R.target] 35 (0, 0))] [⟨entS, 71, .slice j R.log.length m, R.log⟩]))) ?_
  rintro _ _ - ⟨z0, rfl, H'⟩
  have H := H.back (M1 := []) (W1 := []) H'
  have H : Hp w S [] [(z0, mapO (Value.int .i64) (fun v : Value => v) ([(1, (.func (.func 52) #[] #[] : Value), 0), (2, (.func (.func 53) #[] #[] : Value), 1), (3, (.func (.func 54) #[] #[] : Value), 2), (4, (.func (.func 55) #[] #[] : Value), 3), (5, (.func (.func 56) #[] #[] : Value), 4), (6, (.func (.func 57) #[] #[] : Value), 5), (7, (.func (.func 58) #[] #[] : Value), 6)] : List (Int × Value × Nat)) 7), _, _, _, _, _] [_] [_, _, _, _, _, _, _, _, _, _, _, _, _] _ := H
  refine RW.mapGet (κ := .qui) (d := some 32) (r := (qs [4, 5, 6, 7, 8])) (T := 103) (mk := (Value.int .i64)) (vk := (fun v : Value => v)) (Kt := 45) (E := 101) (z := (.nilFunc : Value)) 1 true (by as_aux_lemma => kernel_rfl) H 0 rfl (KeyOk.int (by as_aux_lemma => kernel_rfl)) (by as_aux_lemma => kernel_rfl) (fun w_ => zeroE_run (by as_aux_lemma => kernel_rfl) w_) ?_
  refine uF 5 ?_
  refine uR 3 [.c [4, 0, 2, 0], .c [5]] ?_
  have H := H.dropM 0
  refine qG (sq 0 5) ?_
  refine uP 2 ?_
  refine uV 67 0 (H.cells 3 rfl) ?_
  have H := H.ownNil msgS 56
  have H := H.frontW 1 rfl
  refine uKS (tickB_spec (C := R.baseConf) (l := R.log) (ms := ([] : List Msg)) (bs := R.base) (bq := R.baseTerm) (term := R.term) (id := R.id) (el := R.election) (dr := if 0 > 0 then 0 else 0) (ea := R.elapsed) (tm := R.timeout) (role := R.role) hno (by omega) (by omega) hvb (by omega) (by omega) (by omega) (by omega) (by first | decide | omega | simp) hmaj hin hro (by omega) (by omega) ((H.lend (M1 := [(D, .cells #[.I R.id, .I R.election, .I R.beat, .int .u64 R.term, .I R.vote, .int .u64 R.base, .int .u64 R.baseTerm, .slice n R.baseConf.voters.length o, .slice q R.baseConf.learners.length s, .slice t R.snap.length u, .slice j R.log.length m, .int .u64 R.commit, .I R.role, .I R.lead, .I R.elapsed, .I R.timeout, .slice b0 R.votes.length c0, .slice x R.peers.length y, .int .u64 R.ctx, .slice A R.readings.length B, .I R.target, .bool false, .int .u64 0, .slice none 0 0, .bool false, .slice none 0 0, .slice none 0 0, .slice none 0 0, .slice none 0 0, .bool false, .I 0, .I (if 0 > 0 then 0 else 0)] 99 (0, 0))]) (W1 := [⟨entS, 71, .slice j R.log.length m, R.log⟩, ⟨msgS, 56, .slice none 0 0, ([] : List Msg)⟩])).pick [0, 1] rfl)) ?_
  rintro _ r0 ⟨N, O, Q, U, rfl, H'⟩
  have H := H.back (M1 := [(D, .cells #[.I R.id, .I R.election, .I R.beat, .int .u64 R.term, .I R.vote, .int .u64 R.base, .int .u64 R.baseTerm, .slice n R.baseConf.voters.length o, .slice q R.baseConf.learners.length s, .slice t R.snap.length u, .slice j R.log.length m, .int .u64 R.commit, .I R.role, .I R.lead, .I R.elapsed, .I R.timeout, .slice b0 R.votes.length c0, .slice x R.peers.length y, .int .u64 R.ctx, .slice A R.readings.length B, .I R.target, .bool false, .int .u64 0, .slice none 0 0, .bool false, .slice none 0 0, .slice none 0 0, .slice none 0 0, .slice none 0 0, .bool false, .I 0, .I (if 0 > 0 then 0 else 0)] 99 (0, 0))]) (W1 := [⟨entS, 71, .slice j R.log.length m, R.log⟩, ⟨msgS, 56, .slice none 0 0, ([] : List Msg)⟩]) H'
  have H : Hp w S [] [(D, .cells #[.I R.id, .I R.election, .I R.beat, .int .u64 R.term, .I R.vote, .int .u64 R.base, .int .u64 R.baseTerm, .slice n R.baseConf.voters.length o, .slice q R.baseConf.learners.length s, .slice t R.snap.length u, .slice j R.log.length m, .int .u64 R.commit, .I 1, .I 0, .I 0, .I (R.election + (if 0 > 0 then 0 else 0) % R.election), .slice Q 1 U, .slice x R.peers.length y, .int .u64 R.ctx, .slice A R.readings.length B, .I R.target, .bool false, .int .u64 0, .slice none 0 0, .bool false, .slice N ((([] : List Msg) ++ (askL (preM (R.term + 1)) (lastL R.log R.base R.baseTerm).1 (lastL R.log R.base R.baseTerm).2 R.id R.baseConf.voters)).length) O, .slice none 0 0, .slice none 0 0, .slice none 0 0, .bool false, .I 0, .I (if 0 > 0 then 0 else 0)] 99 (0, 0)), _, _, _, _] [_, ⟨msgS, 56, .slice N ((([] : List Msg) ++ (askL (preM (R.term + 1)) (lastL R.log R.base R.baseTerm).1 (lastL R.log R.base R.baseTerm).2 R.id R.baseConf.voters)).length) O, (([] : List Msg) ++ (askL (preM (R.term + 1)) (lastL R.log R.base R.baseTerm).1 (lastL R.log R.base R.baseTerm).2 R.id R.baseConf.voters))⟩] [Rp (Shape.slice (Shape.int .i64)) [.slice Q 1 U] [R.id], _, _, _, _, _, _, _, _, _, _, _, _, _] _ := H
  refine uF 1 ?_
  refine uR 6 [.c [6, 0], .c [7]] ?_
  have H := H.dropM 3
  have H := H.pick [0, 1, 2, 3, 5, 6, 7, 8, 9, 10, 11, 12, 13] rfl
  refine WK.draw1 24 (qs [0, 1, 2, 3, 4, 5, 6, 7, 8, 9, 10, 11, 12, 13, 14, 15, 16, 17, 18, 19, 20, 21, 22, 23]) [(0, .qui), (1, .qui), (2, .qui), (3, .qui), (4, .qui), (5, .qui), (6, .qui), (7, .qui), (8, .qui), (9, .qui), (10, .qui), (11, .qui), (12, .qui), (13, .qui), (14, .qui), (15, .qui), (16, .qui), (17, .qui), (18, .qui), (19, .qui), (20, .qui), (21, .qui), (22, .qui), (23, .qui), (24, .seq)] Tryz_mixed (by as_aux_lemma => kernel_rfl) (by as_aux_lemma => kernel_rfl) (by as_aux_lemma => kernel_rfl) ?_
  have H := H.draw
  generalize ({ r0 with drawn := r0.drawn + 1 } : World) = G0 at H ⊢
  refine uP 6 ?_
  refine uV 25 3 (H.cells 0 rfl) ?_
  refine uP 1 ?_
  refine uV 25 3 (H.cells 3 rfl) ?_
  refine uP 2 ?_
  refine uN 56 R.term R.term (fun A0 => ?_) (fun A0 => ?_)
  ·
   omega
  ·
   refine uP 5 ?_
   refine uV 3 4 (H.cells 0 rfl) ?_
   refine qP 1 [(18, .qui), (19, .qui), (20, .qui), (21, .qui), (22, .qui), (23, .qui), (24, .seq)] [(2, .P b1 0), (4, .P b5 0), (5, .P b7 0), (7, .P D 0), (46, .P D 0), (56, .bool false), (62, .I R.vote), (63, .P b1 4)] ?_
   refine uV 3 4 (H.cells 3 rfl) ?_
   refine uP 5 ?_
   refine uW 4 21 #[.I R.id, .I R.election, .I R.beat, .int .u64 R.term, .I R.vote, .int .u64 R.base, .int .u64 R.baseTerm, .slice n R.baseConf.voters.length o, .slice q R.baseConf.learners.length s, .slice t R.snap.length u, .slice j R.log.length m, .int .u64 R.commit, .I 1, .I 0, .I 0, .I (R.election + (if 0 > 0 then 0 else 0) % R.election), .slice Q 1 U, .slice x R.peers.length y, .int .u64 R.ctx, .slice A R.readings.length B, .I R.target, .bool (R.vote != R.vote), .int .u64 0, .slice none 0 0, .bool false, .slice N ((([] : List Msg) ++ (askL (preM (R.term + 1)) (lastL R.log R.base R.baseTerm).1 (lastL R.log R.base R.baseTerm).2 R.id R.baseConf.voters)).length) O, .slice none 0 0, .slice none 0 0, .slice none 0 0, .bool false, .I 0, .I (if 0 > 0 then 0 else 0)] H 0 rfl ?_
   intro _ H
   refine uF 0 ?_
   refine uR 2 [.c [7, 0, 0], .c [7, 0, 1], .c [8]] ?_
   refine qG (sq 0 8) ?_
   refine uP 5 ?_
   refine uV 30 10 (H.cells 0 rfl) ?_
   refine uF 2 ?_
   refine uR 1 [.c [7, 0, 1, 0], .b 0, .c [8]] ?_
   refine uL (α := Unit) (g := 8) (p := [7, 0, 1, 0, 0]) (fun _ => [(2, .P b1 0), (4, .P b5 0), (5, .P b7 0), (7, .P D 0), (75, .slice j R.log.length m), (76, .I ((R.log.length : Nat) : Int)), (77, .I 0)]) (fun _ w' => Hp w S [] [(D, .cells #[.I R.id, .I R.election, .I R.beat, .int .u64 R.term, .I R.vote, .int .u64 R.base, .int .u64 R.baseTerm, .slice n R.baseConf.voters.length o, .slice q R.baseConf.learners.length s, .slice t R.snap.length u, .slice j R.log.length m, .int .u64 R.commit, .I 1, .I 0, .I 0, .I (R.election + (if 0 > 0 then 0 else 0) % R.election), .slice Q 1 U, .slice x R.peers.length y, .int .u64 R.ctx, .slice A R.readings.length B, .I R.target, .bool (R.vote != R.vote), .int .u64 0, .slice none 0 0, .bool false, .slice N ((([] : List Msg) ++ (askL (preM (R.term + 1)) (lastL R.log R.base R.baseTerm).1 (lastL R.log R.base R.baseTerm).2 R.id R.baseConf.voters)).length) O, .slice none 0 0, .slice none 0 0, .slice none 0 0, .bool false, .I 0, .I (if 0 > 0 then 0 else 0)] 99 (0, 0)), (b7, .cells #[.bool false, .int .u64 0, .slice none 0 0, .bool false, .slice none 0 0, .slice none 0 0, .slice none 0 0, .slice none 0 0, .bool false, .I 0] 42 (0, 0)), (b5, .cells #[.I 0, .I 0, .I 0, .int .u64 0, .I 0, .int .u64 0, .int .u64 0, .slice none 0 0, .slice none 0 0, .slice none 0 0, .slice none 0 0, .int .u64 0, .I 0, .I 0, .I 0, .I 0, .slice none 0 0, .slice none 0 0, .int .u64 0, .slice none 0 0, .I 0] 35 (0, 0)), (b1, .cells #[.I R.id, .I R.election, .I R.beat, .int .u64 R.term, .I R.vote, .int .u64 R.base, .int .u64 R.baseTerm, .slice a R.baseConf.voters.length f, .slice h R.baseConf.learners.length i, .slice V R.snap.length W, .slice X R.log.length Y, .int .u64 R.commit, .I R.role, .I R.lead, .I R.elapsed, .I R.timeout, .slice F R.votes.length G, .slice J R.peers.length K, .int .u64 R.ctx, .slice L R.readings.length M, .I R.target] 35 (0, 0))] [⟨entS, 71, .slice j R.log.length m, R.log⟩, ⟨msgS, 56, .slice N ((([] : List Msg) ++ (askL (preM (R.term + 1)) (lastL R.log R.base R.baseTerm).1 (lastL R.log R.base R.baseTerm).2 R.id R.baseConf.voters)).length) O, (([] : List Msg) ++ (askL (preM (R.term + 1)) (lastL R.log R.base R.baseTerm).1 (lastL R.log R.base R.baseTerm).2 R.id R.baseConf.voters))⟩] [Rp (Shape.slice (Shape.int .i64)) [.slice Q 1 U] [R.id], Rp (Shape.slice (Shape.int .i64)) [.slice n R.baseConf.voters.length o] R.baseConf.voters, Rp (Shape.slice (Shape.int .i64)) [.slice q R.baseConf.learners.length s] R.baseConf.learners, Rp SB [.slice t R.snap.length u] R.snap, Rp (Shape.slice peerS) [.slice x R.peers.length y] R.peers, Rp (Shape.slice rdgS) [.slice A R.readings.length B] R.readings, Rp (Shape.slice (Shape.int .i64)) [.slice a R.baseConf.voters.length f] R.baseConf.voters, Rp (Shape.slice (Shape.int .i64)) [.slice h R.baseConf.learners.length i] R.baseConf.learners, Rp SB [.slice V R.snap.length W] R.snap, Rp (Shape.slice entS) [.slice X R.log.length Y] R.log, Rp (Shape.slice (Shape.int .i64)) [.slice F R.votes.length G] R.votes, Rp (Shape.slice peerS) [.slice J R.peers.length K] R.peers, Rp (Shape.slice rdgS) [.slice L R.readings.length M] R.readings] w' ∧ True) (fun _ => 0) (()) ⟨H, trivial⟩ ?_
   rintro _ _ ⟨H, _⟩ _
   refine uR 3 [.c [7, 0, 1, 0, 0, 1, 0], .c [7, 0, 1, 0, 0, 2], .l [7, 0, 1, 0, 0], .b 0, .c [8]] ?_
   refine qD ((0 : Int) < ((R.log.length : Nat) : Int)) (fun B0 => ?_) (fun B0 => ?_)
   ·
    omega
   ·
    refine uR 2 [.c [8, 0], .c [9]] ?_
    refine WK.drawH1 [b5, b7] (.leaf [(0, .qui), (1, .qui), (2, .qui), (3, .qui), (4, .qui), (5, .qui), (6, .qui), (7, .qui), (8, .qui), (9, .seq), (10, .seq)]) Tryz_mixed (by as_aux_lemma => kernel_rfl) (by as_aux_lemma => kernel_rfl) ?_
    intro C0 f0
    have H := H.draw
    rw [← f0] at H
    clear f0
    have hS := Chg.refl C0 [b5, b7]
    refine RG.leaf' [(0, .qui), (1, .qui), (2, .qui), (3, .qui), (4, .qui), (5, .qui), (6, .qui), (7, .qui), (8, .qui), (9, .seq), (10, .seq)] (by as_aux_lemma => kernel_rfl) ?_
    refine uHP hS 4 ?_
    refine RH.load (d := some 114) (r := [(5, .qui), (6, .qui), (7, .qui), (8, .qui), (9, .seq), (10, .seq)]) (T := 35) (b := D) (o' := 0) (k := 0) (v := .agg #[.I R.id, .I R.election, .I R.beat, .int .u64 R.term, .I R.vote, .int .u64 R.base, .int .u64 R.baseTerm, .slice n R.baseConf.voters.length o, .slice q R.baseConf.learners.length s, .slice t R.snap.length u, .slice j R.log.length m, .int .u64 R.commit, .I 1, .I 0, .I 0, .I (R.election + (if 0 > 0 then 0 else 0) % R.election), .slice Q 1 U, .slice x R.peers.length y, .int .u64 R.ctx, .slice A R.readings.length B, .I R.target]) (by as_aux_lemma => kernel_rfl) hS (H.cells 0 rfl) (by intro hq; simp only [List.mem_cons, List.not_mem_nil, or_false] at hq; rcases hq with hq | hq; exact H.raws 0 2 rfl rfl (by decide) hq; exact H.raws 0 1 rfl rfl (by decide) hq) (by simp) rfl (by as_aux_lemma => kernel_rfl) ?_
    refine uHP hS 3 ?_
    refine RH.load (d := some 118) (r := [(9, .seq), (10, .seq)]) (T := 42) (b := D) (o' := 21) (k := 21) (v := .agg #[.bool (R.vote != R.vote), .int .u64 0, .slice none 0 0, .bool false, .slice N ((([] : List Msg) ++ (askL (preM (R.term + 1)) (lastL R.log R.base R.baseTerm).1 (lastL R.log R.base R.baseTerm).2 R.id R.baseConf.voters)).length) O, .slice none 0 0, .slice none 0 0, .slice none 0 0, .bool false, .I 0]) (by as_aux_lemma => kernel_rfl) hS (H.cells 0 rfl) (by intro hq; simp only [List.mem_cons, List.not_mem_nil, or_false] at hq; rcases hq with hq | hq; exact H.raws 0 2 rfl rfl (by decide) hq; exact H.raws 0 1 rfl rfl (by decide) hq) (by simp) rfl (by as_aux_lemma => kernel_rfl) ?_
    have Hr := H
    refine RH.sto ?_
    refine uWC 35 0 #[.I R.id, .I R.election, .I R.beat, .int .u64 R.term, .I R.vote, .int .u64 R.base, .int .u64 R.baseTerm, .slice n R.baseConf.voters.length o, .slice q R.baseConf.learners.length s, .slice t R.snap.length u, .slice j R.log.length m, .int .u64 R.commit, .I 1, .I 0, .I 0, .I (R.election + (if 0 > 0 then 0 else 0) % R.election), .slice Q 1 U, .slice x R.peers.length y, .int .u64 R.ctx, .slice A R.readings.length B, .I R.target] H 2 rfl ?_
    intro _ j0 H
    have g0 := hS.sto j0 (.inr (by simp))
    refine ⟨g0, ?_⟩
    have hS := g0
    refine RH.sto ?_
    refine uWC 42 0 #[.bool (R.vote != R.vote), .int .u64 0, .slice none 0 0, .bool false, .slice N ((([] : List Msg) ++ (askL (preM (R.term + 1)) (lastL R.log R.base R.baseTerm).1 (lastL R.log R.base R.baseTerm).2 R.id R.baseConf.voters)).length) O, .slice none 0 0, .slice none 0 0, .slice none 0 0, .bool false, .I 0] H 1 rfl ?_
    intro _ k0 H
    have h0 := hS.sto k0 (.inr (by simp))
    refine ⟨h0, ?_⟩
    have hS := h0
    refine uHF hS 0 ?_
    refine qRB (.tuple #[.agg #[.I R.id, .I R.election, .I R.beat, .int .u64 R.term, .I R.vote, .int .u64 R.base, .int .u64 R.baseTerm, .slice n R.baseConf.voters.length o, .slice q R.baseConf.learners.length s, .slice t R.snap.length u, .slice j R.log.length m, .int .u64 R.commit, .I 1, .I 0, .I 0, .I (R.election + (if 0 > 0 then 0 else 0) % R.election), .slice Q 1 U, .slice x R.peers.length y, .int .u64 R.ctx, .slice A R.readings.length B, .I R.target], .agg #[.bool (R.vote != R.vote), .int .u64 0, .slice none 0 0, .bool false, .slice N ((([] : List Msg) ++ (askL (preM (R.term + 1)) (lastL R.log R.base R.baseTerm).1 (lastL R.log R.base R.baseTerm).2 R.id R.baseConf.voters)).length) O, .slice none 0 0, .slice none 0 0, .slice none 0 0, .bool false, .I 0]]) Tryz.func8 (v2 (.cell 4 35) (.cell 5 42) (vC (H.cells 2 rfl)) (vC (H.cells 1 rfl))) ?_
    have H : Hp w S [] [_, _, _, _] [_] [Rp (Shape.slice msgS) [.slice N ((([] : List Msg) ++ (askL (preM (R.term + 1)) (lastL R.log R.base R.baseTerm).1 (lastL R.log R.base R.baseTerm).2 R.id R.baseConf.voters)).length) O] (([] : List Msg) ++ (askL (preM (R.term + 1)) (lastL R.log R.base R.baseTerm).1 (lastL R.log R.base R.baseTerm).2 R.id R.baseConf.voters)), _, _, _, _, _, _, _, _, _, _, _, _, _] _ := H.freezeW 1 rfl
    exact ⟨_, rfl, H.done, _, _, _, _, _, _, _, _, _, _, _, _, _, _, _, _, _, _, _, _, _, _, _, _, _, _, _, _, _, _, _, _, _, _, _, _, _, _, _, _, _, _, _, _, _, _, _, _, _, _, _, _, _, rfl, H.out (H.rp 0 rfl)⟩
end Go.Proofs.YtkjkmogipidkiaaGreat
