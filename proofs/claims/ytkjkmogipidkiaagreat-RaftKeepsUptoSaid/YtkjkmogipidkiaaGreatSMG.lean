import Derived.Test.YtkjkmogipidkiaaGreatSBxA
import Derived.Test.YtkjkmogipidkiaaGreatSMF
namespace Go.Proofs.YtkjkmogipidkiaaGreat
open Go.BX
def tickI : Value := .agg tickC.toArray
def zeroO : Value := .agg #[.bool false, .int .u64 0, .slice none 0 0, .bool false, .slice none 0 0, .slice none 0 0, .slice none 0 0, .slice none 0 0, .bool false, .I 0]
def waitR (R : Raft) : Raft := { R with elapsed := R.elapsed + 1 }
set_option maxHeartbeats 4000000 in
theorem stepW_spec {S : Nat → Prop} {w : World} {R : Raft} {cs : List Value} (hR : raftS.rep S w cs R) (hy7 : R.baseConf.voters.length ≤ 1048576) (hy8 : R.baseConf.learners.length ≤ 1048576) (hy9 : R.snap.length ≤ 1048576) (hy10 : R.log.length ≤ 1048576) (hy16 : R.votes.length ≤ 1048576) (hy17 : R.peers.length ≤ 1048576) (hrd : R.readings = []) (hok : okR R) (hro : R.role ≠ 3) (hlg : R.log = []) (htm : R.elapsed + 1 < R.timeout) :
 Calls Tryz.prog 8 #[.agg cs.toArray, tickI] w (Ret fun v w' => Ext w w' ∧ ∃ ds : List Value, v = .tuple #[.agg ds.toArray, zeroO] ∧ raftS.rep (Nw S w) w' ds (waitR R)) := by
 obtain ⟨_, N, O, Q, U, F, G, J, K, L, M, rfl, _, _, _, _, _, _, _, r0, h0, i0, _, _, _, _, _, n0, a0, _, o0, _⟩ := raft_open hR
 obtain ⟨a, e, f, h, rfl, V, W⟩ := conf_open r0
 have hlLR := Shape.slice_len i0
 have hlPR := Shape.slice_len a0
 have hlBR := Shape.slice_len h0
 have hll : R.log.length = 0 := by rw [hlg]; rfl
 obtain ⟨_, _, _⟩ := hok.2.2.2.2.1
 refine uS1 Tryz.func8 ?_
 have H := Hp.startF (.rp V (.rp W (.rp h0 (.rp i0 (.rp n0 (.rp a0 (.rp o0 .nil)))))))
 refine uR 1 [.c [0], .c [1]] ?_
 refine qG (sq 0 4) ?_
 refine uC #[.I R.id, .I R.election, .I R.beat, .int .u64 R.term, .I R.vote, .int .u64 R.base, .int .u64 R.baseTerm, .slice a R.baseConf.voters.length e, .slice f R.baseConf.learners.length h, .slice N R.snap.length O, .slice Q R.log.length U, .int .u64 R.commit, .I R.role, .I R.lead, .I R.elapsed, .I R.timeout, .slice F R.votes.length G, .slice J R.peers.length K, .int .u64 R.ctx, .slice L R.readings.length M, .I R.target] 35 H ?_
 intro Z _ H
 refine uC ((tickC).toArray) 67 H ?_
 intro b3 _ H
 refine uC #[.I 0, .I 0, .I 0, .int .u64 0, .I 0, .int .u64 0, .int .u64 0, .slice none 0 0, .slice none 0 0, .slice none 0 0, .slice none 0 0, .int .u64 0, .I 0, .I 0, .I 0, .I 0, .slice none 0 0, .slice none 0 0, .int .u64 0, .slice none 0 0, .I 0] 35 H ?_
 intro X _ H
 refine uC #[.bool false, .int .u64 0, .slice none 0 0, .bool false, .slice none 0 0, .slice none 0 0, .slice none 0 0, .slice none 0 0, .bool false, .I 0] 42 H ?_
 intro Y _ H
 refine uF 0 ?_
 refine uR 2 [.c [1, 0, 0], .c [1, 0, 1], .c [2]] ?_
 refine qG (sq 0 3) ?_
 refine uV 35 0 (H.cells 3 rfl) ?_
 refine uK (rcheck_spec (R := R) (raft_mk (l0 := [.I R.id]) (y0 := R.id) (l1 := [.I R.election]) (y1 := R.election) (l2 := [.I R.beat]) (y2 := R.beat) (l3 := [.int .u64 R.term]) (y3 := R.term) (l4 := [.I R.vote]) (y4 := R.vote) (l5 := [.int .u64 R.base]) (y5 := R.base) (l6 := [.int .u64 R.baseTerm]) (y6 := R.baseTerm) (l7 := [.slice a R.baseConf.voters.length e, .slice f R.baseConf.learners.length h]) (y7 := R.baseConf) (l8 := [.slice N R.snap.length O]) (y8 := R.snap) (l9 := [.slice Q R.log.length U]) (y9 := R.log) (l10 := [.int .u64 R.commit]) (y10 := R.commit) (l11 := [.I R.role]) (y11 := R.role) (l12 := [.I R.lead]) (y12 := R.lead) (l13 := [.I R.elapsed]) (y13 := R.elapsed) (l14 := [.I R.timeout]) (y14 := R.timeout) (l15 := [.slice F R.votes.length G]) (y15 := R.votes) (l16 := [.slice J R.peers.length K]) (y16 := R.peers) (l17 := [.int .u64 R.ctx]) (y17 := R.ctx) (l18 := [.slice L R.readings.length M]) (y18 := R.readings) (l19 := [.I R.target]) (y19 := R.target) i64a i64a i64a u64a i64a u64a u64a (conf_mk (H.rp 0 rfl) (H.rp 1 rfl)) (H.rp 2 rfl) (H.rp 3 rfl) u64a i64a i64a i64a i64a (H.rp 4 rfl) (H.rp 5 rfl) u64a (H.rp 6 rfl) i64a)) ?_
 rintro _ w9 p0 ⟨q0, rfl, _, e0⟩
 have H := H.ext p0
 refine uF 1 ?_
 refine uR 2 [.c [1, 0, 2], .c [2]] ?_
 refine qN q0 0 (fun j0 => ?_) (fun j0 => ?_)
 ·
  exact absurd (e0.2 hok) (by first | exact j0 | omega)
 ·
  refine uR 2 [.c [2, 0], .c [3]] ?_
  refine WK.draw1 9 [(0, .qui), (3, .qui), (4, .qui), (5, .qui), (1, .chn), (2, .qui), (6, .qui), (7, .chn), (8, .qui)] [(0, .qui), (3, .qui), (4, .qui), (5, .qui), (1, .chn), (2, .qui), (6, .qui), (7, .chn), (8, .qui)] Tryz_mixed (by as_aux_lemma => kernel_rfl) (by as_aux_lemma => kernel_rfl) (by as_aux_lemma => kernel_rfl) ?_
  have H := H.draw
  generalize ({ w9 with drawn := w9.drawn + 1 } : World) = w0 at H ⊢
  refine uV 35 0 (H.cells 3 rfl) ?_
  refine uP 1 ?_
  refine uV 3 1 (H.cells 2 rfl) ?_
  refine uP 1 ?_
  refine uK (rcopied_spec (R := R) (raft_mk (l0 := [.I R.id]) (y0 := R.id) (l1 := [.I R.election]) (y1 := R.election) (l2 := [.I R.beat]) (y2 := R.beat) (l3 := [.int .u64 R.term]) (y3 := R.term) (l4 := [.I R.vote]) (y4 := R.vote) (l5 := [.int .u64 R.base]) (y5 := R.base) (l6 := [.int .u64 R.baseTerm]) (y6 := R.baseTerm) (l7 := [.slice a R.baseConf.voters.length e, .slice f R.baseConf.learners.length h]) (y7 := R.baseConf) (l8 := [.slice N R.snap.length O]) (y8 := R.snap) (l9 := [.slice Q R.log.length U]) (y9 := R.log) (l10 := [.int .u64 R.commit]) (y10 := R.commit) (l11 := [.I R.role]) (y11 := R.role) (l12 := [.I R.lead]) (y12 := R.lead) (l13 := [.I R.elapsed]) (y13 := R.elapsed) (l14 := [.I R.timeout]) (y14 := R.timeout) (l15 := [.slice F R.votes.length G]) (y15 := R.votes) (l16 := [.slice J R.peers.length K]) (y16 := R.peers) (l17 := [.int .u64 R.ctx]) (y17 := R.ctx) (l18 := [.slice L R.readings.length M]) (y18 := R.readings) (l19 := [.I R.target]) (y19 := R.target) i64a i64a i64a u64a i64a u64a u64a (conf_mk (H.rp 0 rfl) (H.rp 1 rfl)) (H.rp 2 rfl) (H.rp 3 rfl) u64a i64a i64a i64a i64a (H.rp 4 rfl) (H.rp 5 rfl) u64a (H.rp 6 rfl) i64a) (by omega) (by omega) (by omega) (by omega) (by omega) (by omega) hrd) ?_
  rintro _ _ - ⟨m, n, o, q, s, t, i, j, u, x, y, A, B, C, rfl, H'⟩
  have H := H.back (M1 := []) (W1 := []) H'
  have H : Hp w S [] [(Y, .cells #[.bool false, .int .u64 0, .slice none 0 0, .bool false, .slice none 0 0, .slice none 0 0, .slice none 0 0, .slice none 0 0, .bool false, .I 0] 42 (0, 0)), (X, .cells #[.I 0, .I 0, .I 0, .int .u64 0, .I 0, .int .u64 0, .int .u64 0, .slice none 0 0, .slice none 0 0, .slice none 0 0, .slice none 0 0, .int .u64 0, .I 0, .I 0, .I 0, .I 0, .slice none 0 0, .slice none 0 0, .int .u64 0, .slice none 0 0, .I 0] 35 (0, 0)), (b3, .cells (tickC).toArray 67 (0, 0)), (Z, .cells #[.I R.id, .I R.election, .I R.beat, .int .u64 R.term, .I R.vote, .int .u64 R.base, .int .u64 R.baseTerm, .slice a R.baseConf.voters.length e, .slice f R.baseConf.learners.length h, .slice N R.snap.length O, .slice Q R.log.length U, .int .u64 R.commit, .I R.role, .I R.lead, .I R.elapsed, .I R.timeout, .slice F R.votes.length G, .slice J R.peers.length K, .int .u64 R.ctx, .slice L R.readings.length M, .I R.target] 35 (0, 0))] [⟨entS, 71, .slice i R.log.length j, R.log⟩] [Rp (Shape.slice (Shape.int .i64)) [.slice m R.baseConf.voters.length n] R.baseConf.voters, Rp (Shape.slice (Shape.int .i64)) [.slice o R.baseConf.learners.length q] R.baseConf.learners, Rp SB [.slice s R.snap.length t] R.snap, Rp (Shape.slice (Shape.int .i64)) [.slice u R.votes.length x] R.votes, Rp (Shape.slice peerS) [.slice y R.peers.length A] R.peers, Rp (Shape.slice rdgS) [.slice B R.readings.length C] R.readings, _, _, _, _, _, _, _] _ := H
  refine uP 2 ?_
  refine uC #[.I R.id, .I R.election, .I R.beat, .int .u64 R.term, .I R.vote, .int .u64 R.base, .int .u64 R.baseTerm, .slice m R.baseConf.voters.length n, .slice o R.baseConf.learners.length q, .slice s R.snap.length t, .slice i R.log.length j, .int .u64 R.commit, .I R.role, .I R.lead, .I R.elapsed, .I R.timeout, .slice u R.votes.length x, .slice y R.peers.length A, .int .u64 R.ctx, .slice B R.readings.length C, .I R.target, .bool false, .int .u64 0, .slice none 0 0, .bool false, .slice none 0 0, .slice none 0 0, .slice none 0 0, .slice none 0 0, .bool false, .I 0, .I (if 0 > 0 then 0 else 0)] 99 H ?_
  intro D k0 H
  refine uF 1 ?_
  refine qR 4 [.c [4, 0, 0], .c [4, 0, 1], .c [5]] [(2, .P Z 0), (3, .P b3 0), (4, .P X 0), (5, .P Y 0), (7, .P D 0), (8, .I 2)] ?_
  refine WK.draw1 9 [(1, .qui), (2, .qui), (0, .chn), (3, .qui), (4, .qui), (5, .qui), (6, .qui), (7, .qui), (8, .qui)] [(1, .qui), (2, .qui), (0, .chn), (3, .qui), (4, .qui), (5, .qui), (6, .qui), (7, .qui), (8, .qui)] Tryz_mixed (by as_aux_lemma => kernel_rfl) (by as_aux_lemma => kernel_rfl) (by as_aux_lemma => kernel_rfl) ?_
  have H := H.draw
  generalize ({ k0 with drawn := k0.drawn + 1 } : World) = x0 at H ⊢
  refine uP 1 ?_
  refine uV 45 0 (H.cells 3 rfl) ?_
  refine uK (deeds_spec (S := Av S w [] (idsOf [(D, .cells #[.I R.id, .I R.election, .I R.beat, .int .u64 R.term, .I R.vote, .int .u64 R.base, .int .u64 R.baseTerm, .slice m R.baseConf.voters.length n, .slice o R.baseConf.learners.length q, .slice s R.snap.length t, .slice i R.log.length j, .int .u64 R.commit, .I R.role, .I R.lead, .I R.elapsed, .I R.timeout, .slice u R.votes.length x, .slice y R.peers.length A, .int .u64 R.ctx, .slice B R.readings.length C, .I R.target, .bool false, .int .u64 0, .slice none 0 0, .bool false, .slice none 0 0, .slice none 0 0, .slice none 0 0, .slice none 0 0, .bool false, .I 0, .I (if 0 > 0 then 0 else 0)] 99 (0, 0)), (Y, .cells #[.bool false, .int .u64 0, .slice none 0 0, .bool false, .slice none 0 0, .slice none 0 0, .slice none 0 0, .slice none 0 0, .bool false, .I 0] 42 (0, 0)), (X, .cells #[.I 0, .I 0, .I 0, .int .u64 0, .I 0, .int .u64 0, .int .u64 0, .slice none 0 0, .slice none 0 0, .slice none 0 0, .slice none 0 0, .int .u64 0, .I 0, .I 0, .I 0, .I 0, .slice none 0 0, .slice none 0 0, .int .u64 0, .slice none 0 0, .I 0] 35 (0, 0)), (b3, .cells (tickC).toArray 67 (0, 0)), (Z, .cells #[.I R.id, .I R.election, .I R.beat, .int .u64 R.term, .I R.vote, .int .u64 R.base, .int .u64 R.baseTerm, .slice a R.baseConf.voters.length e, .slice f R.baseConf.learners.length h, .slice N R.snap.length O, .slice Q R.log.length U, .int .u64 R.commit, .I R.role, .I R.lead, .I R.elapsed, .I R.timeout, .slice F R.votes.length G, .slice J R.peers.length K, .int .u64 R.ctx, .slice L R.readings.length M, .I R.target] 35 (0, 0))] [⟨entS, 71, .slice i R.log.length j, R.log⟩]))) ?_
  rintro _ _ - ⟨s0, rfl, H'⟩
  have H := H.back (M1 := []) (W1 := []) H'
  have H : Hp w S [] [(s0, mapO (Value.int .i64) (fun v : Value => v) ([(1, (.func (.func 52) #[] #[] : Value), 0), (2, (.func (.func 53) #[] #[] : Value), 1), (3, (.func (.func 54) #[] #[] : Value), 2), (4, (.func (.func 55) #[] #[] : Value), 3), (5, (.func (.func 56) #[] #[] : Value), 4), (6, (.func (.func 57) #[] #[] : Value), 5), (7, (.func (.func 58) #[] #[] : Value), 6)] : List (Int × Value × Nat)) 7), _, _, _, _, _] [_] [_, _, _, _, _, _, _, _, _, _, _, _, _] _ := H
  refine RW.mapGet (κ := .qui) (d := some 32) (r := (qs [4, 5, 6, 7, 8])) (T := 103) (mk := (Value.int .i64)) (vk := (fun v : Value => v)) (Kt := 45) (E := 101) (z := (.nilFunc : Value)) 1 true (by as_aux_lemma => kernel_rfl) H 0 rfl (KeyOk.int (by as_aux_lemma => kernel_rfl)) (by as_aux_lemma => kernel_rfl) (fun w_ => zeroE_run (by as_aux_lemma => kernel_rfl) w_) ?_
  refine uF 5 ?_
  refine uR 3 [.c [4, 0, 2, 0], .c [5]] ?_
  have H := H.dropM 0
  refine qG (sq 0 5) ?_
  refine uP 2 ?_
  refine uV 67 0 (H.cells 3 rfl) ?_
  refine uKS (tickW_spec (by omega) (by omega) (by omega) ((H.lend (M1 := [(D, .cells #[.I R.id, .I R.election, .I R.beat, .int .u64 R.term, .I R.vote, .int .u64 R.base, .int .u64 R.baseTerm, .slice m R.baseConf.voters.length n, .slice o R.baseConf.learners.length q, .slice s R.snap.length t, .slice i R.log.length j, .int .u64 R.commit, .I R.role, .I R.lead, .I R.elapsed, .I R.timeout, .slice u R.votes.length x, .slice y R.peers.length A, .int .u64 R.ctx, .slice B R.readings.length C, .I R.target, .bool false, .int .u64 0, .slice none 0 0, .bool false, .slice none 0 0, .slice none 0 0, .slice none 0 0, .slice none 0 0, .bool false, .I 0, .I (if 0 > 0 then 0 else 0)] 99 (0, 0))]) (W1 := [])).pick [] rfl)) ?_
  rintro _ m0 ⟨rfl, H'⟩
  have H := H.back (M1 := [(D, .cells #[.I R.id, .I R.election, .I R.beat, .int .u64 R.term, .I R.vote, .int .u64 R.base, .int .u64 R.baseTerm, .slice m R.baseConf.voters.length n, .slice o R.baseConf.learners.length q, .slice s R.snap.length t, .slice i R.log.length j, .int .u64 R.commit, .I R.role, .I R.lead, .I R.elapsed, .I R.timeout, .slice u R.votes.length x, .slice y R.peers.length A, .int .u64 R.ctx, .slice B R.readings.length C, .I R.target, .bool false, .int .u64 0, .slice none 0 0, .bool false, .slice none 0 0, .slice none 0 0, .slice none 0 0, .slice none 0 0, .bool false, .I 0, .I (if 0 > 0 then 0 else 0)] 99 (0, 0))]) (W1 := []) H'
  have H : Hp w S [] [(D, .cells #[.I R.id, .I R.election, .I R.beat, .int .u64 R.term, .I R.vote, .int .u64 R.base, .int .u64 R.baseTerm, .slice m R.baseConf.voters.length n, .slice o R.baseConf.learners.length q, .slice s R.snap.length t, .slice i R.log.length j, .int .u64 R.commit, .I R.role, .I R.lead, .I (R.elapsed + 1), .I R.timeout, .slice u R.votes.length x, .slice y R.peers.length A, .int .u64 R.ctx, .slice B R.readings.length C, .I R.target, .bool false, .int .u64 0, .slice none 0 0, .bool false, .slice none 0 0, .slice none 0 0, .slice none 0 0, .slice none 0 0, .bool false, .I 0, .I (if 0 > 0 then 0 else 0)] 99 (0, 0)), _, _, _, _] [_] [_, _, _, _, _, _, _, _, _, _, _, _, _] _ := H
  refine uF 1 ?_
  refine uR 6 [.c [6, 0], .c [7]] ?_
  have H := H.dropM 3
  refine WK.draw1 24 (qs [0, 1, 2, 3, 4, 5, 6, 7, 8, 9, 10, 11, 12, 13, 14, 15, 16, 17, 18, 19, 20, 21, 22, 23]) [(0, .qui), (1, .qui), (2, .qui), (3, .qui), (4, .qui), (5, .qui), (6, .qui), (7, .qui), (8, .qui), (9, .qui), (10, .qui), (11, .qui), (12, .qui), (13, .qui), (14, .qui), (15, .qui), (16, .qui), (17, .qui), (18, .qui), (19, .qui), (20, .qui), (21, .qui), (22, .qui), (23, .qui), (24, .seq)] Tryz_mixed (by as_aux_lemma => kernel_rfl) (by as_aux_lemma => kernel_rfl) (by as_aux_lemma => kernel_rfl) ?_
  have H := H.draw
  generalize ({ m0 with drawn := m0.drawn + 1 } : World) = z0 at H ⊢
  refine uP 6 ?_
  refine uV 25 3 (H.cells 0 rfl) ?_
  refine uP 1 ?_
  refine uV 25 3 (H.cells 3 rfl) ?_
  refine uP 2 ?_
  refine uN 56 R.term R.term (fun t0 => ?_) (fun t0 => ?_)
  ·
   omega
  ·
   refine uP 5 ?_
   refine uV 3 4 (H.cells 0 rfl) ?_
   refine qP 1 [(18, .qui), (19, .qui), (20, .qui), (21, .qui), (22, .qui), (23, .qui), (24, .seq)] [(2, .P Z 0), (4, .P X 0), (5, .P Y 0), (7, .P D 0), (46, .P D 0), (56, .bool false), (62, .I R.vote), (63, .P Z 4)] ?_
   refine uV 3 4 (H.cells 3 rfl) ?_
   refine uP 5 ?_
   refine uW 4 21 #[.I R.id, .I R.election, .I R.beat, .int .u64 R.term, .I R.vote, .int .u64 R.base, .int .u64 R.baseTerm, .slice m R.baseConf.voters.length n, .slice o R.baseConf.learners.length q, .slice s R.snap.length t, .slice i R.log.length j, .int .u64 R.commit, .I R.role, .I R.lead, .I (R.elapsed + 1), .I R.timeout, .slice u R.votes.length x, .slice y R.peers.length A, .int .u64 R.ctx, .slice B R.readings.length C, .I R.target, .bool (R.vote != R.vote), .int .u64 0, .slice none 0 0, .bool false, .slice none 0 0, .slice none 0 0, .slice none 0 0, .slice none 0 0, .bool false, .I 0, .I (if 0 > 0 then 0 else 0)] H 0 rfl ?_
   intro _ H
   refine uF 0 ?_
   refine uR 2 [.c [7, 0, 0], .c [7, 0, 1], .c [8]] ?_
   refine qG (sq 0 8) ?_
   refine uP 5 ?_
   refine uV 30 10 (H.cells 0 rfl) ?_
   refine uF 2 ?_
   refine uR 1 [.c [7, 0, 1, 0], .b 0, .c [8]] ?_
   refine uL (α := Unit) (g := 8) (p := [7, 0, 1, 0, 0]) (fun _ => [(2, .P Z 0), (4, .P X 0), (5, .P Y 0), (7, .P D 0), (75, .slice i R.log.length j), (76, .I ((R.log.length : Nat) : Int)), (77, .I 0)]) (fun _ w' => Hp w S [] [(D, .cells #[.I R.id, .I R.election, .I R.beat, .int .u64 R.term, .I R.vote, .int .u64 R.base, .int .u64 R.baseTerm, .slice m R.baseConf.voters.length n, .slice o R.baseConf.learners.length q, .slice s R.snap.length t, .slice i R.log.length j, .int .u64 R.commit, .I R.role, .I R.lead, .I (R.elapsed + 1), .I R.timeout, .slice u R.votes.length x, .slice y R.peers.length A, .int .u64 R.ctx, .slice B R.readings.length C, .I R.target, .bool (R.vote != R.vote), .int .u64 0, .slice none 0 0, .bool false, .slice none 0 0, .slice none 0 0, .slice none 0 0, .slice none 0 0, .bool false, .I 0, .I (if 0 > 0 then 0 else 0)] 99 (0, 0)), (Y, .cells #[.bool false, .int .u64 0, .slice none 0 0, .bool false, .slice none 0 0, .slice none 0 0, .slice none 0 0, .slice none 0 0, .bool false, .I 0] 42 (0, 0)), (X, .cells #[.I 0, .I 0, .I 0, .int .u64 0, .I 0, .int .u64 0, .int .u64 0, .slice none 0 0, .slice none 0 0, .slice none 0 0, .slice none 0 0, .int .u64 0, .I 0, .I 0, .I 0, .I 0, .slice none 0 0, .slice none 0 0, .int .u64 0, .slice none 0 0, .I 0] 35 (0, 0)), (Z, .cells #[.I R.id, .I R.election, .I R.beat, .int .u64 R.term, .I R.vote, .int .u64 R.base, .int .u64 R.baseTerm, .slice a R.baseConf.voters.length e, .slice f R.baseConf.learners.length h, .slice N R.snap.length O, .slice Q R.log.length U, .int .u64 R.commit, .I R.role, .I R.lead, .I R.elapsed, .I R.timeout, .slice F R.votes.length G, .slice J R.peers.length K, .int .u64 R.ctx, .slice L R.readings.length M, .I R.target] 35 (0, 0))] [⟨entS, 71, .slice i R.log.length j, R.log⟩] [Rp (Shape.slice (Shape.int .i64)) [.slice m R.baseConf.voters.length n] R.baseConf.voters, Rp (Shape.slice (Shape.int .i64)) [.slice o R.baseConf.learners.length q] R.baseConf.learners, Rp SB [.slice s R.snap.length t] R.snap, Rp (Shape.slice (Shape.int .i64)) [.slice u R.votes.length x] R.votes, Rp (Shape.slice peerS) [.slice y R.peers.length A] R.peers, Rp (Shape.slice rdgS) [.slice B R.readings.length C] R.readings, Rp (Shape.slice (Shape.int .i64)) [.slice a R.baseConf.voters.length e] R.baseConf.voters, Rp (Shape.slice (Shape.int .i64)) [.slice f R.baseConf.learners.length h] R.baseConf.learners, Rp SB [.slice N R.snap.length O] R.snap, Rp (Shape.slice entS) [.slice Q R.log.length U] R.log, Rp (Shape.slice (Shape.int .i64)) [.slice F R.votes.length G] R.votes, Rp (Shape.slice peerS) [.slice J R.peers.length K] R.peers, Rp (Shape.slice rdgS) [.slice L R.readings.length M] R.readings] w' ∧ True) (fun _ => 0) (()) ⟨H, trivial⟩ ?_
   rintro _ _ ⟨H, _⟩ _
   refine uR 3 [.c [7, 0, 1, 0, 0, 1, 0], .c [7, 0, 1, 0, 0, 2], .l [7, 0, 1, 0, 0], .b 0, .c [8]] ?_
   refine qD ((0 : Int) < ((R.log.length : Nat) : Int)) (fun u0 => ?_) (fun u0 => ?_)
   ·
    omega
   ·
    refine uR 2 [.c [8, 0], .c [9]] ?_
    refine WK.drawH1 [X, Y] (.leaf [(0, .qui), (1, .qui), (2, .qui), (3, .qui), (4, .qui), (5, .qui), (6, .qui), (7, .qui), (8, .qui), (9, .seq), (10, .seq)]) Tryz_mixed (by as_aux_lemma => kernel_rfl) (by as_aux_lemma => kernel_rfl) ?_
    intro v0 b0
    have H := H.draw
    rw [← b0] at H
    clear b0
    have hS := Chg.refl v0 [X, Y]
    refine RG.leaf' [(0, .qui), (1, .qui), (2, .qui), (3, .qui), (4, .qui), (5, .qui), (6, .qui), (7, .qui), (8, .qui), (9, .seq), (10, .seq)] (by as_aux_lemma => kernel_rfl) ?_
    refine uHP hS 4 ?_
    refine RH.load (d := some 114) (r := [(5, .qui), (6, .qui), (7, .qui), (8, .qui), (9, .seq), (10, .seq)]) (T := 35) (b := D) (o' := 0) (k := 0) (v := .agg #[.I R.id, .I R.election, .I R.beat, .int .u64 R.term, .I R.vote, .int .u64 R.base, .int .u64 R.baseTerm, .slice m R.baseConf.voters.length n, .slice o R.baseConf.learners.length q, .slice s R.snap.length t, .slice i R.log.length j, .int .u64 R.commit, .I R.role, .I R.lead, .I (R.elapsed + 1), .I R.timeout, .slice u R.votes.length x, .slice y R.peers.length A, .int .u64 R.ctx, .slice B R.readings.length C, .I R.target]) (by as_aux_lemma => kernel_rfl) hS (H.cells 0 rfl) (by intro hq; simp only [List.mem_cons, List.not_mem_nil, or_false] at hq; rcases hq with hq | hq; exact H.raws 0 2 rfl rfl (by decide) hq; exact H.raws 0 1 rfl rfl (by decide) hq) (by simp) rfl (by as_aux_lemma => kernel_rfl) ?_
    refine uHP hS 3 ?_
    refine RH.load (d := some 118) (r := [(9, .seq), (10, .seq)]) (T := 42) (b := D) (o' := 21) (k := 21) (v := .agg #[.bool (R.vote != R.vote), .int .u64 0, .slice none 0 0, .bool false, .slice none 0 0, .slice none 0 0, .slice none 0 0, .slice none 0 0, .bool false, .I 0]) (by as_aux_lemma => kernel_rfl) hS (H.cells 0 rfl) (by intro hq; simp only [List.mem_cons, List.not_mem_nil, or_false] at hq; rcases hq with hq | hq; exact H.raws 0 2 rfl rfl (by decide) hq; exact H.raws 0 1 rfl rfl (by decide) hq) (by simp) rfl (by as_aux_lemma => kernel_rfl) ?_
    have Hr := H
    refine RH.sto ?_
    refine uWC 35 0 #[.I R.id, .I R.election, .I R.beat, .int .u64 R.term, .I R.vote, .int .u64 R.base, .int .u64 R.baseTerm, .slice m R.baseConf.voters.length n, .slice o R.baseConf.learners.length q, .slice s R.snap.length t, .slice i R.log.length j, .int .u64 R.commit, .I R.role, .I R.lead, .I (R.elapsed + 1), .I R.timeout, .slice u R.votes.length x, .slice y R.peers.length A, .int .u64 R.ctx, .slice B R.readings.length C, .I R.target] H 2 rfl ?_
    intro _ f0 H
    have c0 := hS.sto f0 (.inr (by simp))
    refine ⟨c0, ?_⟩
    have hS := c0
    refine RH.sto ?_
    refine uWC 42 0 #[.bool (R.vote != R.vote), .int .u64 0, .slice none 0 0, .bool false, .slice none 0 0, .slice none 0 0, .slice none 0 0, .slice none 0 0, .bool false, .I 0] H 1 rfl ?_
    intro _ g0 H
    have d0 := hS.sto g0 (.inr (by simp))
    refine ⟨d0, ?_⟩
    have hS := d0
    refine uHF hS 0 ?_
    refine qRB (.tuple #[.agg #[.I R.id, .I R.election, .I R.beat, .int .u64 R.term, .I R.vote, .int .u64 R.base, .int .u64 R.baseTerm, .slice m R.baseConf.voters.length n, .slice o R.baseConf.learners.length q, .slice s R.snap.length t, .slice i R.log.length j, .int .u64 R.commit, .I R.role, .I R.lead, .I (R.elapsed + 1), .I R.timeout, .slice u R.votes.length x, .slice y R.peers.length A, .int .u64 R.ctx, .slice B R.readings.length C, .I R.target], .agg #[.bool (R.vote != R.vote), .int .u64 0, .slice none 0 0, .bool false, .slice none 0 0, .slice none 0 0, .slice none 0 0, .slice none 0 0, .bool false, .I 0]]) Tryz.func8 (v2 (.cell 4 35) (.cell 5 42) (vC (H.cells 2 rfl)) (vC (H.cells 1 rfl))) ?_
    have H : Hp w S [] [_, _, _, _] [] [Rp (Shape.slice entS) [.slice i R.log.length j] R.log, _, _, _, _, _, _, _, _, _, _, _, _, _] _ := H.freezeW 0 rfl
    exact ⟨_, rfl, H.done, [.I R.id, .I R.election, .I R.beat, .int .u64 R.term, .I R.vote, .int .u64 R.base, .int .u64 R.baseTerm, .slice m R.baseConf.voters.length n, .slice o R.baseConf.learners.length q, .slice s R.snap.length t, .slice i R.log.length j, .int .u64 R.commit, .I R.role, .I R.lead, .I (R.elapsed + 1), .I R.timeout, .slice u R.votes.length x, .slice y R.peers.length A, .int .u64 R.ctx, .slice B R.readings.length C, .I R.target], (by simp only [bne_self_eq_false]; rfl), H.out (raft_mk (l0 := [.I R.id]) (y0 := R.id) (l1 := [.I R.election]) (y1 := R.election) (l2 := [.I R.beat]) (y2 := R.beat) (l3 := [.int .u64 R.term]) (y3 := R.term) (l4 := [.I R.vote]) (y4 := R.vote) (l5 := [.int .u64 R.base]) (y5 := R.base) (l6 := [.int .u64 R.baseTerm]) (y6 := R.baseTerm) (l7 := [.slice m R.baseConf.voters.length n, .slice o R.baseConf.learners.length q]) (y7 := R.baseConf) (l8 := [.slice s R.snap.length t]) (y8 := R.snap) (l9 := [.slice i R.log.length j]) (y9 := R.log) (l10 := [.int .u64 R.commit]) (y10 := R.commit) (l11 := [.I R.role]) (y11 := R.role) (l12 := [.I R.lead]) (y12 := R.lead) (l13 := [.I (R.elapsed + 1)]) (y13 := R.elapsed + 1) (l14 := [.I R.timeout]) (y14 := R.timeout) (l15 := [.slice u R.votes.length x]) (y15 := R.votes) (l16 := [.slice y R.peers.length A]) (y16 := R.peers) (l17 := [.int .u64 R.ctx]) (y17 := R.ctx) (l18 := [.slice B R.readings.length C]) (y18 := R.readings) (l19 := [.I R.target]) (y19 := R.target) i64a i64a i64a u64a i64a u64a u64a (conf_mk (H.rp 1 rfl) (H.rp 2 rfl)) (H.rp 3 rfl) (H.rp 0 rfl) u64a i64a i64a i64a i64a (H.rp 4 rfl) (H.rp 5 rfl) u64a (H.rp 6 rfl) i64a)⟩
end Go.Proofs.YtkjkmogipidkiaaGreat
