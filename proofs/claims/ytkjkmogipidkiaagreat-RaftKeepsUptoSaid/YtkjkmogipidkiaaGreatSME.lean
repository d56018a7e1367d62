import Derived.Test.YtkjkmogipidkiaaGreatSBxA
import Derived.Test.YtkjkmogipidkiaaGreatSMD
namespace Go.Proofs.YtkjkmogipidkiaaGreat
open Go.BX
set_option maxHeartbeats 4000000 in
theorem rcopied_spec {S : Nat → Prop} {w : World} {R : Raft} {cs : List Value} (hR : raftS.rep S w cs R) (hy7 : R.baseConf.voters.length ≤ 1048576) (hy8 : R.baseConf.learners.length ≤ 1048576) (hy9 : R.snap.length ≤ 1048576) (hy10 : R.log.length ≤ 1048576) (hy16 : R.votes.length ≤ 1048576) (hy17 : R.peers.length ≤ 1048576) (hrd : R.readings = []) :
 Calls Tryz.prog 27 #[.agg cs.toArray] w (Ret fun v w' => Ext w w' ∧ ∃ (avo : Option Addr) (kvo : Nat) (ale : Option Addr) (kle : Nat) (asn : Option Addr) (ksn : Nat) (alo : Option Addr) (klo : Nat) (avt : Option Addr) (kvt : Nat) (ape : Option Addr) (kpe : Nat) (ard : Option Addr) (krd : Nat), v = .agg #[.I R.id, .I R.election, .I R.beat, .int .u64 R.term, .I R.vote, .int .u64 R.base, .int .u64 R.baseTerm, .slice avo R.baseConf.voters.length kvo, .slice ale R.baseConf.learners.length kle, .slice asn R.snap.length ksn, .slice alo R.log.length klo, .int .u64 R.commit, .I R.role, .I R.lead, .I R.elapsed, .I R.timeout, .slice avt R.votes.length kvt, .slice ape R.peers.length kpe, .int .u64 R.ctx, .slice ard R.readings.length krd, .I R.target] ∧ Hp w S [] [] [⟨entS, 71, .slice alo R.log.length klo, R.log⟩] [Rp (Shape.slice (Shape.int .i64)) [.slice avo R.baseConf.voters.length kvo] R.baseConf.voters, Rp (Shape.slice (Shape.int .i64)) [.slice ale R.baseConf.learners.length kle] R.baseConf.learners, Rp SB [.slice asn R.snap.length ksn] R.snap, Rp (Shape.slice (Shape.int .i64)) [.slice avt R.votes.length kvt] R.votes, Rp (Shape.slice peerS) [.slice ape R.peers.length kpe] R.peers, Rp (Shape.slice rdgS) [.slice ard R.readings.length krd] R.readings] w') := by
 obtain ⟨_, Q, T, K, L, G, J, r, s, m, n, rfl, _, _, _, _, _, _, _, b0, U, V, _, _, _, _, _, X, M, _, Y, _⟩ := raft_open hR
 obtain ⟨x, y, z, A, rfl, B, D⟩ := conf_open b0
 have hlLR := Shape.slice_len V
 have hlPR := Shape.slice_len M
 have hlBR := Shape.slice_len U
 have hrl : R.readings.length = 0 := by rw [hrd]; rfl
 refine uS1 Tryz.func27 ?_
 have H := Hp.startF (.rp B (.rp D (.rp U (.rp V (.rp X (.rp M (.rp Y .nil)))))))
 refine uR 1 [.c [0], .c [1]] ?_
 refine qG (sq 0 2) ?_
 refine uC #[.I R.id, .I R.election, .I R.beat, .int .u64 R.term, .I R.vote, .int .u64 R.base, .int .u64 R.baseTerm, .slice x R.baseConf.voters.length y, .slice z R.baseConf.learners.length A, .slice Q R.snap.length T, .slice K R.log.length L, .int .u64 R.commit, .I R.role, .I R.lead, .I R.elapsed, .I R.timeout, .slice G R.votes.length J, .slice r R.peers.length s, .int .u64 R.ctx, .slice m R.readings.length n, .I R.target] 35 H ?_
 intro N _ H
 refine uC #[.I 0, .I 0, .I 0, .int .u64 0, .I 0, .int .u64 0, .int .u64 0, .slice none 0 0, .slice none 0 0, .slice none 0 0, .slice none 0 0, .int .u64 0, .I 0, .I 0, .I 0, .I 0, .slice none 0 0, .slice none 0 0, .int .u64 0, .slice none 0 0, .I 0] 35 H ?_
 intro O _ H
 refine uF 0 ?_
 refine uR 1 [.c [1, 0], .c [2]] ?_
 refine qG (sq 0 5) ?_
 refine uP 1 ?_
 refine uV 28 7 (H.cells 1 rfl) ?_
 refine uK (ccopied_spec (C := R.baseConf) (conf_mk (H.rp 0 rfl) (H.rp 1 rfl)) (by omega) (by omega)) ?_
 rintro _ _ W ⟨_, rfl, c0⟩
 obtain ⟨E, F, e, f, rfl, Z, a0⟩ := conf_open c0
 have H2 := H.addM W Z
 have H := H2.addO H W a0
 refine uP 1 ?_
 refine uW 28 7 #[.I R.id, .I R.election, .I R.beat, .int .u64 R.term, .I R.vote, .int .u64 R.base, .int .u64 R.baseTerm, .slice E R.baseConf.voters.length F, .slice e R.baseConf.learners.length f, .slice Q R.snap.length T, .slice K R.log.length L, .int .u64 R.commit, .I R.role, .I R.lead, .I R.elapsed, .I R.timeout, .slice G R.votes.length J, .slice r R.peers.length s, .int .u64 R.ctx, .slice m R.readings.length n, .I R.target] H 1 rfl ?_
 intro _ H
 refine uF 0 ?_
 refine uR 1 [.c [2, 0], .c [3]] ?_
 have H := H.pick [0, 1, 4, 5, 6, 7, 8] rfl
 refine qG (sq 0 5) ?_
 refine uP 1 ?_
 refine uV 29 9 (H.cells 1 rfl) ?_
 refine uK (bclone_spec (H.rp 2 rfl) (by omega)) ?_
 rintro _ _ - H'
 have H := H.back (M1 := []) (W1 := []) H'
 obtain ⟨a, d, rfl, _, _⟩ := H.ownForm 0 rfl
 have H : Hp w S [] [_, _] [⟨Sb, 5, .slice a R.snap.length d, R.snap⟩] [_, _, _, _, _, _, _] _ := H
 refine uP 1 ?_
 refine uW 29 9 #[.I R.id, .I R.election, .I R.beat, .int .u64 R.term, .I R.vote, .int .u64 R.base, .int .u64 R.baseTerm, .slice E R.baseConf.voters.length F, .slice e R.baseConf.learners.length f, .slice a R.snap.length d, .slice K R.log.length L, .int .u64 R.commit, .I R.role, .I R.lead, .I R.elapsed, .I R.timeout, .slice G R.votes.length J, .slice r R.peers.length s, .int .u64 R.ctx, .slice m R.readings.length n, .I R.target] H 1 rfl ?_
 intro _ H
 refine uF 0 ?_
 refine qR 1 [.c [3, 0], .c [4]] [(1, .P N 0), (2, .P O 0)] ?_
 have H := H.pick [0, 1, 3, 4, 5, 6] rfl
 refine qG (sq 0 5) ?_
 refine uP 1 ?_
 refine uV 30 10 (H.cells 1 rfl) ?_
 refine uK (eclone_spec (H.rp 2 rfl) (by omega)) ?_
 rintro _ _ - H'
 have H := H.back (M1 := []) (W1 := []) H'
 obtain ⟨h, i, rfl, _, _⟩ := H.ownForm 0 rfl
 have H : Hp w S [] [_, _] [⟨entS, 71, .slice h R.log.length i, R.log⟩, _] [_, _, _, _, _, _] _ := H
 refine uP 1 ?_
 refine uW 30 10 #[.I R.id, .I R.election, .I R.beat, .int .u64 R.term, .I R.vote, .int .u64 R.base, .int .u64 R.baseTerm, .slice E R.baseConf.voters.length F, .slice e R.baseConf.learners.length f, .slice a R.snap.length d, .slice h R.log.length i, .int .u64 R.commit, .I R.role, .I R.lead, .I R.elapsed, .I R.timeout, .slice G R.votes.length J, .slice r R.peers.length s, .int .u64 R.ctx, .slice m R.readings.length n, .I R.target] H 1 rfl ?_
 intro _ H
 refine uF 0 ?_
 refine uR 1 [.c [4, 0], .c [5]] ?_
 have H := H.pick [0, 1, 3, 4, 5] rfl
 refine qG (sq 0 5) ?_
 refine uP 1 ?_
 refine uV 26 16 (H.cells 1 rfl) ?_
 refine uK (clone_spec (H.rp 2 rfl) (by omega)) ?_
 rintro _ _ - H'
 have H := H.back (M1 := []) (W1 := []) H'
 obtain ⟨j, k, rfl, _, _⟩ := H.ownForm 0 rfl
 have H : Hp w S [] [_, _] [⟨Shape.int .i64, 3, .slice j R.votes.length k, R.votes⟩, _, _] [_, _, _, _, _] _ := H
 refine uP 1 ?_
 refine uW 26 16 #[.I R.id, .I R.election, .I R.beat, .int .u64 R.term, .I R.vote, .int .u64 R.base, .int .u64 R.baseTerm, .slice E R.baseConf.voters.length F, .slice e R.baseConf.learners.length f, .slice a R.snap.length d, .slice h R.log.length i, .int .u64 R.commit, .I R.role, .I R.lead, .I R.elapsed, .I R.timeout, .slice j R.votes.length k, .slice r R.peers.length s, .int .u64 R.ctx, .slice m R.readings.length n, .I R.target] H 1 rfl ?_
 intro _ H
 refine uF 0 ?_
 refine uR 1 [.c [5, 0], .c [6]] ?_
 have H := H.pick [0, 1, 3, 4] rfl
 refine qG (sq 0 5) ?_
 refine uP 1 ?_
 refine uV 32 17 (H.cells 1 rfl) ?_
 refine uK (pclone_spec (H.rp 2 rfl) (by omega)) ?_
 rintro _ _ - H'
 have H := H.back (M1 := []) (W1 := []) H'
 obtain ⟨o, q, rfl, _, _⟩ := H.ownForm 0 rfl
 have H : Hp w S [] [_, _] [⟨peerS, 123, .slice o R.peers.length q, R.peers⟩, _, _, _] [_, _, _, _] _ := H
 refine uP 1 ?_
 refine uW 32 17 #[.I R.id, .I R.election, .I R.beat, .int .u64 R.term, .I R.vote, .int .u64 R.base, .int .u64 R.baseTerm, .slice E R.baseConf.voters.length F, .slice e R.baseConf.learners.length f, .slice a R.snap.length d, .slice h R.log.length i, .int .u64 R.commit, .I R.role, .I R.lead, .I R.elapsed, .I R.timeout, .slice j R.votes.length k, .slice o R.peers.length q, .int .u64 R.ctx, .slice m R.readings.length n, .I R.target] H 1 rfl ?_
 intro _ H
 refine qF 0 [(1, .P N 0), (2, .P O 0)] ?_
 refine uR 1 [.c [6, 0], .c [7]] ?_
 have H := H.pick [0, 1, 3] rfl
 refine qG (sq 0 5) ?_
 refine uP 1 ?_
 refine uV 33 19 (H.cells 1 rfl) ?_
 refine uK (rclone_spec (H.rp 2 rfl) (by omega)) ?_
 rintro _ _ - H'
 have H := H.back (M1 := []) (W1 := []) H'
 obtain ⟨t, u, rfl, _, _⟩ := H.ownForm 0 rfl
 have H : Hp w S [] [_, _] [⟨rdgS, 73, .slice t R.readings.length u, R.readings⟩, _, _, _, _] [_, _, _] _ := H
 refine uP 1 ?_
 refine uW 33 19 #[.I R.id, .I R.election, .I R.beat, .int .u64 R.term, .I R.vote, .int .u64 R.base, .int .u64 R.baseTerm, .slice E R.baseConf.voters.length F, .slice e R.baseConf.learners.length f, .slice a R.snap.length d, .slice h R.log.length i, .int .u64 R.commit, .I R.role, .I R.lead, .I R.elapsed, .I R.timeout, .slice j R.votes.length k, .slice o R.peers.length q, .int .u64 R.ctx, .slice t R.readings.length u, .I R.target] H 1 rfl ?_
 intro _ H
 refine uF 0 ?_
 refine uR 2 [.c [7, 0, 0], .c [7, 0, 1], .c [8]] ?_
 have H := H.pick [0, 1] rfl
 refine qG (sq 0 4) ?_
 refine uP 1 ?_
 refine uV 33 19 (H.cells 1 rfl) ?_
 refine uF 2 ?_
 refine uR 1 [.c [7, 0, 1, 0], .b 0, .c [8]] ?_
 refine uL (α := Unit) (g := 27) (p := [7, 0, 1, 0, 0]) (fun _ => [(1, .P N 0), (2, .P O 0), (30, .I ((R.readings.length : Nat) : Int)), (31, .I 0)]) (fun _ w' => Hp w S [] [(O, .cells #[.I 0, .I 0, .I 0, .int .u64 0, .I 0, .int .u64 0, .int .u64 0, .slice none 0 0, .slice none 0 0, .slice none 0 0, .slice none 0 0, .int .u64 0, .I 0, .I 0, .I 0, .I 0, .slice none 0 0, .slice none 0 0, .int .u64 0, .slice none 0 0, .I 0] 35 (0, 0)), (N, .cells #[.I R.id, .I R.election, .I R.beat, .int .u64 R.term, .I R.vote, .int .u64 R.base, .int .u64 R.baseTerm, .slice E R.baseConf.voters.length F, .slice e R.baseConf.learners.length f, .slice a R.snap.length d, .slice h R.log.length i, .int .u64 R.commit, .I R.role, .I R.lead, .I R.elapsed, .I R.timeout, .slice j R.votes.length k, .slice o R.peers.length q, .int .u64 R.ctx, .slice t R.readings.length u, .I R.target] 35 (0, 0))] [⟨rdgS, 73, .slice t R.readings.length u, R.readings⟩, ⟨peerS, 123, .slice o R.peers.length q, R.peers⟩, ⟨Shape.int .i64, 3, .slice j R.votes.length k, R.votes⟩, ⟨entS, 71, .slice h R.log.length i, R.log⟩, ⟨Sb, 5, .slice a R.snap.length d, R.snap⟩] [Rp (Shape.slice (Shape.int .i64)) [.slice e R.baseConf.learners.length f] R.baseConf.learners, Rp (Shape.slice (Shape.int .i64)) [.slice E R.baseConf.voters.length F] R.baseConf.voters] w' ∧ True) (fun _ => 0) (()) ⟨H, trivial⟩ ?_
 rintro _ _ ⟨H, _⟩ _
 refine uR 3 [.c [7, 0, 1, 0, 0, 1, 0], .c [7, 0, 1, 0, 0, 2], .l [7, 0, 1, 0, 0], .b 0, .c [8]] ?_
 refine qD ((0 : Int) < ((R.readings.length : Nat) : Int)) (fun d0 => ?_) (fun d0 => ?_)
 ·
  omega
 ·
  refine uR 2 [.c [8, 0], .c [9]] ?_
  refine qG (sq 0 2) ?_
  refine uV 35 0 (H.cells 1 rfl) ?_
  refine uW 35 0 #[.I R.id, .I R.election, .I R.beat, .int .u64 R.term, .I R.vote, .int .u64 R.base, .int .u64 R.baseTerm, .slice E R.baseConf.voters.length F, .slice e R.baseConf.learners.length f, .slice a R.snap.length d, .slice h R.log.length i, .int .u64 R.commit, .I R.role, .I R.lead, .I R.elapsed, .I R.timeout, .slice j R.votes.length k, .slice o R.peers.length q, .int .u64 R.ctx, .slice t R.readings.length u, .I R.target] H 0 rfl ?_
  intro _ H
  refine uF 0 ?_
  refine qRB (.agg #[.I R.id, .I R.election, .I R.beat, .int .u64 R.term, .I R.vote, .int .u64 R.base, .int .u64 R.baseTerm, .slice E R.baseConf.voters.length F, .slice e R.baseConf.learners.length f, .slice a R.snap.length d, .slice h R.log.length i, .int .u64 R.commit, .I R.role, .I R.lead, .I R.elapsed, .I R.timeout, .slice j R.votes.length k, .slice o R.peers.length q, .int .u64 R.ctx, .slice t R.readings.length u, .I R.target]) Tryz.func27 (v1 (.cell 2 35) (vC (H.cells 0 rfl))) ?_
  have H : Hp w S [] [_, _] [_, _, _, _] [Rp SB [.slice a R.snap.length d] R.snap, _, _] _ := H.freezeW 4 rfl
  have H : Hp w S [] [_, _] [_, _, _] [Rp (Shape.slice (Shape.int .i64)) [.slice j R.votes.length k] R.votes, _, _, _] _ := H.freezeW 2 rfl
  have H : Hp w S [] [_, _] [_, _] [Rp (Shape.slice peerS) [.slice o R.peers.length q] R.peers, _, _, _, _] _ := H.freezeW 1 rfl
  have H : Hp w S [] [_, _] [_] [Rp (Shape.slice rdgS) [.slice t R.readings.length u] R.readings, _, _, _, _, _] _ := H.freezeW 0 rfl
  have H := H.drop (M' := []) (W' := [_]) (List.nil_sublist _) (by repeat (first | exact List.Sublist.refl _ | exact List.nil_sublist _ | apply List.Sublist.cons_cons | apply List.Sublist.cons))
  exact ⟨_, rfl, H.done, _, _, _, _, _, _, _, _, _, _, _, _, _, _, rfl, H.pick [5, 4, 3, 2, 1, 0] rfl⟩
end Go.Proofs.YtkjkmogipidkiaaGreat
