import Derived.Test.YtkjkmogipidkiaaGreatSBxA
import Derived.Test.YtkjkmogipidkiaaGreatSA4
namespace Go.Proofs.YtkjkmogipidkiaaGreat
open Go.BX
theorem term_spec {S : Nat → Prop} {w : World} {sb : Nat} {R : Raft} {cs : List Value} (hR : raftS.rep S w cs R) (hF : (Fc sb 0 cs).p S w) (ix : Int) (hix : 0 ≤ ix ∧ ix ≤ 18446744073709551615) (hok : okR R) :
 Calls Tryz.prog 44 #[.P sb 0, .int .u64 ix] w (Ret fun v w' => Ext w w' ∧ v = .tuple #[.int .u64 (termOf R ix).1, .bool (termOf R ix).2]) := by
 obtain ⟨_, K, L, M, N, n, o, q, s, t, u, rfl, _, _, _, _, _, _, _, O, l, m, _, _, _, _, _, y, k, _, z, _⟩ := raft_open hR
 obtain ⟨a, f, g, h, rfl, i, j⟩ := conf_open O
 have hlLR := Shape.slice_len m
 have hlPR := Shape.slice_len k
 have hlBR := Shape.slice_len l
 have W := hok.2.1.1
 have hli := lastOf_idx hok.2.1.2.2.2.2
 have X := hok.2.2.1.1
 refine uS1 Tryz.func44 ?_
 have H := Hp.startF (.rp i (.rp j (.rp l (.rp m (.rp y (.rp k (.rp z (.cons hF .nil))))))))
 refine uR 3 [.c [1, 0], .c [2]] ?_
 refine qG (sq 0 7) ?_
 refine uP 1 ?_
 refine uK (last_spec (R := R) (raft_mk (l0 := [.I R.id]) (y0 := R.id) (l1 := [.I R.election]) (y1 := R.election) (l2 := [.I R.beat]) (y2 := R.beat) (l3 := [.int .u64 R.term]) (y3 := R.term) (l4 := [.I R.vote]) (y4 := R.vote) (l5 := [.int .u64 R.base]) (y5 := R.base) (l6 := [.int .u64 R.baseTerm]) (y6 := R.baseTerm) (l7 := [.slice a R.baseConf.voters.length f, .slice g R.baseConf.learners.length h]) (y7 := R.baseConf) (l8 := [.slice K R.snap.length L]) (y8 := R.snap) (l9 := [.slice M R.log.length N]) (y9 := R.log) (l10 := [.int .u64 R.commit]) (y10 := R.commit) (l11 := [.I R.role]) (y11 := R.role) (l12 := [.I R.lead]) (y12 := R.lead) (l13 := [.I R.elapsed]) (y13 := R.elapsed) (l14 := [.I R.timeout]) (y14 := R.timeout) (l15 := [.slice n R.votes.length o]) (y15 := R.votes) (l16 := [.slice q R.peers.length s]) (y16 := R.peers) (l17 := [.int .u64 R.ctx]) (y17 := R.ctx) (l18 := [.slice t R.readings.length u]) (y18 := R.readings) (l19 := [.I R.target]) (y19 := R.target) i64a i64a i64a u64a i64a u64a u64a (conf_mk (H.rp 0 rfl) (H.rp 1 rfl)) (H.rp 2 rfl) (H.rp 3 rfl) u64a i64a i64a i64a i64a (H.rp 4 rfl) (H.rp 5 rfl) u64a (H.rp 6 rfl) i64a) (H.fact 7 rfl)) ?_
 rintro _ Q U rfl
 have H := H.ext U
 refine uF 5 ?_
 refine uR 3 [.c [2, 0, 0, 0], .c [2, 0, 0, 1], .b 0, .c [3]] ?_
 refine qG (sq 0 13) ?_
 refine uP 5 ?_
 refine uV 25 5 (H.fc 7 rfl) ?_
 refine uP 2 ?_
 refine uD 21 ((ix : Int) < R.base) (fun Y => ?_) (fun Y => ?_)
 ·
  refine uF 5 ?_
  refine uR 3 [.c [2, 0, 0, 1, 0, 1], .b 0, .c [3]] ?_
  refine qT (.tuple #[.int .u64 0, .bool false]) Tryz.func44 ?_
  refine ⟨_, rfl, H.done, ?_⟩
  rw [termOf_out (by omega)]
 ·
  refine uF 5 ?_
  refine qD ((ix : Int) > (lastOf R).1) (fun Z => ?_) (fun Z => ?_)
  ·
   refine uR 2 [.c [2, 0, 0, 1, 0, 1], .b 0, .c [3]] ?_
   refine qT (.tuple #[.int .u64 0, .bool false]) Tryz.func44 ?_
   refine ⟨_, rfl, H.done, ?_⟩
   rw [termOf_out (by omega)]
  ·
   refine qR 1 [.c [2, 0, 0, 1, 1, 0], .c [2, 0, 0, 1, 1, 1], .b 0, .c [3]] [(0, .P sb 0), (1, .int .u64 ix)] ?_
   refine qG (sq 0 8) ?_
   refine uP 5 ?_
   refine uV 25 5 (H.fc 7 rfl) ?_
   refine uF 2 ?_
   refine qE ix R.base (fun h5 => ?_) (fun h5 => ?_)
   ·
    refine uR 1 [.c [2, 0, 0, 1, 1, 1, 0, 0], .c [2, 0, 0, 1, 1, 1, 0, 1], .b 0, .c [3]] ?_
    refine qG (sq 0 7) ?_
    refine uP 4 ?_
    refine uV 25 6 (H.fc 7 rfl) ?_
    refine uF 2 ?_
    refine qT (.tuple #[.int .u64 R.baseTerm, .bool true]) Tryz.func44 ?_
    refine ⟨_, rfl, H.done, ?_⟩
    rw [termOf_base (by omega) (by omega)]
   ·
    refine uR 3 [.c [3, 0], .c [4]] ?_
    refine WK.draw1 18 (qs [0, 1, 2, 3, 4, 5, 6, 7, 8, 9, 10, 11, 12, 13, 14, 15, 16, 17]) (qs [0, 1, 2, 3, 4, 5, 6, 7, 8, 9, 10, 11, 12, 13, 14, 15, 16, 17]) Tryz_mixed (by as_aux_lemma => kernel_rfl) (by as_aux_lemma => kernel_rfl) (by as_aux_lemma => kernel_rfl) ?_
    have H := H.draw
    generalize ({ Q with drawn := Q.drawn + 1 } : World) = w6 at H ⊢
    refine uP 4 ?_
    refine uV 30 10 (H.fc 7 rfl) ?_
    refine uP 5 ?_
    refine uV 25 5 (H.fc 7 rfl) ?_
    refine RW.pv (κ := .qui) (d := some 50) (r := (qs [12, 13, 14, 15, 16, 17])) (v := .int .u64 (IntKind.u64.wrap (ix - R.base))) (v' := .int .u64 (ix - R.base)) (by as_aux_lemma => kernel_rfl) (wr_u64 (by omega)) ?_
    refine RW.pv (κ := .qui) (d := some 51) (r := (qs [13, 14, 15, 16, 17])) (v := .int .u64 (IntKind.u64.wrap ((ix - R.base) - 1))) (v' := .int .u64 ((ix - R.base) - 1)) (by as_aux_lemma => kernel_rfl) (wr_u64 (by omega)) ?_
    have V : (ix - R.base - 1).toNat < R.log.length := by omega
    refine RW.index (κ := .qui) (d := some 52) (r := (qs [14, 15, 16, 17])) (T := 30) (e := 71) (ik := .u64) (ix := (ix - R.base) - 1) (sh := entS) (x := R.log[(ix - R.base - 1).toNat]) (by as_aux_lemma => kernel_rfl) (by as_aux_lemma => kernel_rfl) H 3 rfl ((ix - R.base - 1).toNat) (by omega) (List.getElem?_eq_getElem V) ?_
    intro _ _ _ A H
    obtain ⟨_, _, rfl, _, _, _, B, C⟩ := ent_open A
    obtain ⟨_, _, rfl, _, _, _, _, _, _, _, _, _, D, E⟩ := cmd_open B
    obtain ⟨rfl, _, _, _⟩ := cid_open D
    obtain ⟨_, _, rfl, _, F⟩ := amap_open E
    obtain ⟨_, _, _, _, rfl, G, J⟩ := conf_open C
    have H := H.addR F
    have H := H.addR G
    have H := H.addR J
    refine uP 1 ?_
    refine uV 25 1 (H.fc 3 rfl) ?_
    refine uF 2 ?_
    refine qT (.tuple #[.int .u64 ((R.log[(ix - R.base - 1).toNat]).term), .bool true]) Tryz.func44 ?_
    refine ⟨_, rfl, H.done, ?_⟩
    rw [termOf_in (by omega) (by omega) (by omega)]
theorem refterm_spec {S : Nat → Prop} {w : World} {R : Raft} {cs : List Value} (hR : raftS.rep S w cs R) (ix : Int) (hix : 0 ≤ ix ∧ ix ≤ 18446744073709551615) (hok : okR R) :
 Calls Tryz.prog 45 #[.agg cs.toArray, .int .u64 ix] w (Ret fun v w' => Ext w w' ∧ v = .tuple #[.int .u64 (termOf R ix).1, .bool (termOf R ix).2]) := by
 obtain ⟨_, q, s, t, u, j, k, l, m, n, o, rfl, _, _, _, _, _, _, _, M, y, z, _, _, _, _, _, A, p, _, B, _⟩ := raft_open hR
 obtain ⟨a, b, f, g, rfl, h, i⟩ := conf_open M
 have hlLR := Shape.slice_len z
 have hlPR := Shape.slice_len p
 have hlBR := Shape.slice_len y
 have P := hok.2.1.1
 have hli := lastOf_idx hok.2.1.2.2.2.2
 have Q := hok.2.2.1.1
 refine uS1 Tryz.func45 ?_
 have H := Hp.startF (.rp h (.rp i (.rp y (.rp z (.rp A (.rp p (.rp B .nil)))))))
 refine uR 1 [.c [0], .c [1]] ?_
 refine qG (sq 0 3) ?_
 refine uC #[.I R.id, .I R.election, .I R.beat, .int .u64 R.term, .I R.vote, .int .u64 R.base, .int .u64 R.baseTerm, .slice a R.baseConf.voters.length b, .slice f R.baseConf.learners.length g, .slice q R.snap.length s, .slice t R.log.length u, .int .u64 R.commit, .I R.role, .I R.lead, .I R.elapsed, .I R.timeout, .slice j R.votes.length k, .slice l R.peers.length m, .int .u64 R.ctx, .slice n R.readings.length o, .I R.target] 35 H ?_
 intro _ _ H
 refine uF 2 ?_
 refine uR 1 [.c [1, 0], .c [2]] ?_
 refine qG (sq 0 7) ?_
 refine uV 35 0 (H.cells 0 rfl) ?_
 refine uK (reflast_spec (R := R) (raft_mk (l0 := [.I R.id]) (y0 := R.id) (l1 := [.I R.election]) (y1 := R.election) (l2 := [.I R.beat]) (y2 := R.beat) (l3 := [.int .u64 R.term]) (y3 := R.term) (l4 := [.I R.vote]) (y4 := R.vote) (l5 := [.int .u64 R.base]) (y5 := R.base) (l6 := [.int .u64 R.baseTerm]) (y6 := R.baseTerm) (l7 := [.slice a R.baseConf.voters.length b, .slice f R.baseConf.learners.length g]) (y7 := R.baseConf) (l8 := [.slice q R.snap.length s]) (y8 := R.snap) (l9 := [.slice t R.log.length u]) (y9 := R.log) (l10 := [.int .u64 R.commit]) (y10 := R.commit) (l11 := [.I R.role]) (y11 := R.role) (l12 := [.I R.lead]) (y12 := R.lead) (l13 := [.I R.elapsed]) (y13 := R.elapsed) (l14 := [.I R.timeout]) (y14 := R.timeout) (l15 := [.slice j R.votes.length k]) (y15 := R.votes) (l16 := [.slice l R.peers.length m]) (y16 := R.peers) (l17 := [.int .u64 R.ctx]) (y17 := R.ctx) (l18 := [.slice n R.readings.length o]) (y18 := R.readings) (l19 := [.I R.target]) (y19 := R.target) i64a i64a i64a u64a i64a u64a u64a (conf_mk (H.rp 0 rfl) (H.rp 1 rfl)) (H.rp 2 rfl) (H.rp 3 rfl) u64a i64a i64a i64a i64a (H.rp 4 rfl) (H.rp 5 rfl) u64a (H.rp 6 rfl) i64a)) ?_
 rintro _ _ N rfl
 have H := H.ext N
 refine uF 5 ?_
 refine uR 2 [.c [2, 0, 0], .c [2, 0, 1], .c [3]] ?_
 refine qG (sq 0 9) ?_
 refine uP 2 ?_
 refine uV 25 5 (H.cells 0 rfl) ?_
 refine uP 2 ?_
 refine uD 17 ((ix : Int) < R.base) (fun U => ?_) (fun U => ?_)
 ·
  refine uF 4 ?_
  refine uR 3 [.c [2, 0, 1, 0, 1], .c [3]] ?_
  refine qT (.tuple #[.int .u64 0, .bool false]) Tryz.func45 ?_
  refine ⟨_, rfl, H.done, ?_⟩
  rw [termOf_out (by omega)]
 ·
  refine uF 4 ?_
  refine qD ((ix : Int) > (lastOf R).1) (fun V => ?_) (fun V => ?_)
  ·
   refine qR 2 [.c [2, 0, 1, 0, 1], .c [3]] [(4, .int .u64 0), (5, .bool false)] ?_
   refine qT (.tuple #[.int .u64 0, .bool false]) Tryz.func45 ?_
   refine ⟨_, rfl, H.done, ?_⟩
   rw [termOf_out (by omega)]
  ·
   refine uR 3 [.c [3, 0, 0], .c [3, 0, 1], .c [4]] ?_
   refine qG (sq 0 4) ?_
   refine uP 2 ?_
   refine uV 25 5 (H.cells 0 rfl) ?_
   refine uF 1 ?_
   refine qE ix R.base (fun W => ?_) (fun W => ?_)
   ·
    refine uR 1 [.c [3, 0, 1, 0, 0], .c [3, 0, 1, 0, 1], .c [4]] ?_
    refine qG (sq 0 4) ?_
    refine uP 1 ?_
    refine uV 25 6 (H.cells 0 rfl) ?_
    refine uF 2 ?_
    refine qT (.tuple #[.int .u64 R.baseTerm, .bool true]) Tryz.func45 ?_
    refine ⟨_, rfl, H.done, ?_⟩
    rw [termOf_base (by omega) (by omega)]
   ·
    refine uR 2 [.c [4, 0], .c [5]] ?_
    refine qG (sq 0 12) ?_
    refine uP 1 ?_
    refine uV 30 10 (H.cells 0 rfl) ?_
    refine uP 2 ?_
    refine uV 25 5 (H.cells 0 rfl) ?_
    refine RW.pv (κ := .seq) (d := some 33) (r := (sq 6 12)) (v := .int .u64 (IntKind.u64.wrap (ix - R.base))) (v' := .int .u64 (ix - R.base)) (by as_aux_lemma => kernel_rfl) (wr_u64 (by omega)) ?_
    refine RW.pv (κ := .seq) (d := some 34) (r := (sq 7 12)) (v := .int .u64 (IntKind.u64.wrap ((ix - R.base) - 1))) (v' := .int .u64 ((ix - R.base) - 1)) (by as_aux_lemma => kernel_rfl) (wr_u64 (by omega)) ?_
    have O : (ix - R.base - 1).toNat < R.log.length := by omega
    refine RW.index (κ := .seq) (d := some 35) (r := (sq 8 12)) (T := 30) (e := 71) (ik := .u64) (ix := (ix - R.base) - 1) (sh := entS) (x := R.log[(ix - R.base - 1).toNat]) (by as_aux_lemma => kernel_rfl) (by as_aux_lemma => kernel_rfl) H 3 rfl ((ix - R.base - 1).toNat) (by omega) (List.getElem?_eq_getElem O) ?_
    intro _ _ _ C H
    obtain ⟨_, _, rfl, _, _, _, D, E⟩ := ent_open C
    obtain ⟨_, _, rfl, _, _, _, _, _, _, _, _, _, F, G⟩ := cmd_open D
    obtain ⟨rfl, _, _, _⟩ := cid_open F
    obtain ⟨_, _, rfl, _, J⟩ := amap_open G
    obtain ⟨_, _, _, _, rfl, K, L⟩ := conf_open E
    have H := H.addR J
    have H := H.addR K
    have H := H.addR L
    refine uP 1 ?_
    refine uV 25 1 (H.fc 3 rfl) ?_
    refine qF 2 [(4, .int .u64 ((R.log[(ix - R.base - 1).toNat]).term)), (5, .bool true)] ?_
    refine qT (.tuple #[.int .u64 ((R.log[(ix - R.base - 1).toNat]).term), .bool true]) Tryz.func45 ?_
    refine ⟨_, rfl, H.done, ?_⟩
    rw [termOf_in (by omega) (by omega) (by omega)]
theorem refconf_spec {S : Nat → Prop} {w : World} {R : Raft} {cs : List Value} (hR : raftS.rep S w cs R) :
 Calls Tryz.prog 48 #[.agg cs.toArray] w (Ret fun v w' => Ext w w' ∧ ∃ (ds : List Value), v = .agg ds.toArray ∧ confS.rep (Nw S w) w' ds (confOf R.log R.baseConf)) := by
 obtain ⟨_, A, B, C, D, s, t, u, x, y, z, rfl, _, _, _, _, _, _, _, h0, G, J, _, _, _, _, _, K, E, _, L, _⟩ := raft_open hR
 obtain ⟨a, d, f, h, rfl, i, j⟩ := conf_open h0
 have hlLR := Shape.slice_len J
 have hlPR := Shape.slice_len E
 have hlBR := Shape.slice_len G
 refine uS1 Tryz.func48 ?_
 have H := Hp.startF (.rp i (.rp j (.rp G (.rp J (.rp K (.rp E (.rp L .nil)))))))
 refine uR 1 [.c [0], .c [1]] ?_
 refine qG (sq 0 2) ?_
 refine uC #[.I R.id, .I R.election, .I R.beat, .int .u64 R.term, .I R.vote, .int .u64 R.base, .int .u64 R.baseTerm, .slice a R.baseConf.voters.length d, .slice f R.baseConf.learners.length h, .slice A R.snap.length B, .slice C R.log.length D, .int .u64 R.commit, .I R.role, .I R.lead, .I R.elapsed, .I R.timeout, .slice s R.votes.length t, .slice u R.peers.length x, .int .u64 R.ctx, .slice y R.readings.length z, .I R.target] 35 H ?_
 intro b1 _ H
 refine uC #[.slice none 0 0, .slice none 0 0] 28 H ?_
 intro M _ H
 refine uF 0 ?_
 refine uR 2 [.c [1, 0, 0], .c [1, 0, 1], .c [2]] ?_
 refine qG (sq 0 5) ?_
 refine uP 1 ?_
 refine uV 30 10 (H.cells 1 rfl) ?_
 refine uP 1 ?_
 refine uI (((R.log.length : Nat) : Int) - 1) ?_
 refine uF 1 ?_
 refine uR 1 [.c [1, 0, 1, 0], .b 0, .c [2]] ?_
 refine uL (α := Nat) (g := 48) (p := [1, 0, 1, 0, 0]) (fun k => [(1, .P b1 0), (2, .P M 0), (3, .I ((k : Int) - 1))]) (fun k w' => Hp w S [] [(M, .cells #[.slice none 0 0, .slice none 0 0] 28 (0, 0)), (b1, .cells #[.I R.id, .I R.election, .I R.beat, .int .u64 R.term, .I R.vote, .int .u64 R.base, .int .u64 R.baseTerm, .slice a R.baseConf.voters.length d, .slice f R.baseConf.learners.length h, .slice A R.snap.length B, .slice C R.log.length D, .int .u64 R.commit, .I R.role, .I R.lead, .I R.elapsed, .I R.timeout, .slice s R.votes.length t, .slice u R.peers.length x, .int .u64 R.ctx, .slice y R.readings.length z, .I R.target] 35 (0, 0))] [] [Rp (Shape.slice (Shape.int .i64)) [.slice a R.baseConf.voters.length d] R.baseConf.voters, Rp (Shape.slice (Shape.int .i64)) [.slice f R.baseConf.learners.length h] R.baseConf.learners, Rp SB [.slice A R.snap.length B] R.snap, Rp (Shape.slice entS) [.slice C R.log.length D] R.log, Rp (Shape.slice (Shape.int .i64)) [.slice s R.votes.length t] R.votes, Rp (Shape.slice peerS) [.slice u R.peers.length x] R.peers, Rp (Shape.slice rdgS) [.slice y R.readings.length z] R.readings] w' ∧ k ≤ R.log.length ∧ ∀ e ∈ R.log.drop k, e.kind ≠ 2) (fun k => k) R.log.length ⟨H, Nat.le_refl _, by simp⟩ ?_
 rintro k _ ⟨H, m⟩ F
 refine uR 3 [.c [1, 0, 1, 0, 0, 0, 1], .c [1, 0, 1, 0, 0, 1], .l [1, 0, 1, 0, 0], .b 0, .c [2]] ?_
 refine qD ((((k : Int) - 1) : Int) ≥ 0) (fun h7 => ?_) (fun h7 => ?_)
 ·
  refine uR 4 [.c [1, 0, 1, 0, 0, 1, 0, 0, 0], .c [1, 0, 1, 0, 0, 1, 0, 0, 1], .b 1, .c [1, 0, 1, 0, 0, 2], .l [1, 0, 1, 0, 0], .b 0, .c [2]] ?_
  refine qG (sq 0 7) ?_
  refine uP 1 ?_
  refine uV 30 10 (H.cells 1 rfl) ?_
  refine uP 1 ?_
  have i0 : (k - 1) < R.log.length := by omega
  refine uX 30 ((k : Int) - 1) H 3 rfl (k - 1) (by omega) (List.getElem?_eq_getElem i0) ?_
  intro _ _ _ N H
  obtain ⟨_, _, rfl, _, _, _, O, Q⟩ := ent_open N
  obtain ⟨_, _, rfl, _, _, _, _, _, _, _, _, _, T, U⟩ := cmd_open O
  obtain ⟨rfl, _, _, _⟩ := cid_open T
  obtain ⟨_, _, rfl, _, V⟩ := amap_open U
  obtain ⟨_, _, _, _, rfl, W, X⟩ := conf_open Q
  have H := H.addR V
  have H := H.addR W
  have H := H.addR X
  refine uP 1 ?_
  refine uV 69 2 (H.fc 3 rfl) ?_
  refine uF 1 ?_
  refine qE ((R.log[(k - 1)]).kind) 2 (fun j0 => ?_) (fun j0 => ?_)
  ·
   refine uR 1 [.c [1, 0, 1, 0, 0, 1, 0, 0, 1, 0, 0], .c [1, 0, 1, 0, 0, 1, 0, 0, 1, 0, 1], .b 1, .c [1, 0, 1, 0, 0, 2], .l [1, 0, 1, 0, 0], .b 0, .c [2]] ?_
   refine qG (sq 0 7) ?_
   refine uP 1 ?_
   refine uV 30 10 (H.cells 1 rfl) ?_
   refine uP 1 ?_
   have Y : (k - 1) < R.log.length := by omega
   refine uX 30 ((k : Int) - 1) H 7 rfl (k - 1) (by omega) (List.getElem?_eq_getElem Y) ?_
   intro _ _ _ Z H
   obtain ⟨_, _, rfl, _, _, _, a0, b0⟩ := ent_open Z
   obtain ⟨_, _, rfl, _, _, _, _, _, _, _, _, _, c0, d0⟩ := cmd_open a0
   obtain ⟨rfl, _, _, _⟩ := cid_open c0
   obtain ⟨_, _, rfl, _, e0⟩ := amap_open d0
   obtain ⟨n, o, q, r, rfl, f0, g0⟩ := conf_open b0
   have H := H.addR e0
   have H := H.addR f0
   have H := H.addR g0
   refine uP 1 ?_
   refine uV 28 19 (H.fc 3 rfl) ?_
   refine uW 28 0 #[.slice n (((R.log[(k - 1)]).conf).voters.length) o, .slice q (((R.log[(k - 1)]).conf).learners.length) r] H 0 rfl ?_
   intro _ H
   refine qF 0 [(2, .P M 0)] ?_
   refine qRB (.agg #[.slice n (((R.log[(k - 1)]).conf).voters.length) o, .slice q (((R.log[(k - 1)]).conf).learners.length) r]) Tryz.func48 (v1 (.cell 2 28) (vC (H.cells 0 rfl))) ?_
   rw [confOf_at (k := k - 1) (by omega) (by assumption) (by rw [show k - 1 + 1 = k by omega]; exact m.2)]
   exact ⟨_, rfl, H.done, [.slice n (((R.log[(k - 1)]).conf).voters.length) o, .slice q (((R.log[(k - 1)]).conf).learners.length) r], rfl, H.out (conf_mk (H.rp 1 rfl) (H.rp 0 rfl))⟩
  ·
   refine uR 2 [.c [1, 0, 1, 0, 0, 2], .l [1, 0, 1, 0, 0], .b 0, .c [2]] ?_
   refine qG (sq 0 3) ?_
   refine uP 1 ?_
   refine uI (((k : Int) - 1) - 1) ?_
   refine uF 1 ?_
   rw [show (k : Int) - 1 - 1 = ((k - 1 : Nat) : Int) - 1 by omega]
   have H := H.pick [4, 5, 6, 7, 8, 9, 10] rfl
   exact uB (F (k - 1) _ ⟨H, by omega, drop_back (k := k - 1) (by omega) (by rw [show k - 1 + 1 = k by omega]; exact m.2) (by assumption)⟩ (by first | omega | (simp only []; omega)))
 ·
  refine uR 2 [.c [2, 0], .c [3]] ?_
  refine qG (sq 0 3) ?_
  refine uP 1 ?_
  refine uV 28 7 (H.cells 1 rfl) ?_
  refine uW 28 0 #[.slice a R.baseConf.voters.length d, .slice f R.baseConf.learners.length h] H 0 rfl ?_
  intro _ H
  refine uF 0 ?_
  refine qRB (.agg #[.slice a R.baseConf.voters.length d, .slice f R.baseConf.learners.length h]) Tryz.func48 (v1 (.cell 2 28) (vC (H.cells 0 rfl))) ?_
  rw [confOf_none (fun e he => m.2 e (by rw [show k = 0 by omega]; exact he))]
  exact ⟨_, rfl, H.done, [.slice a R.baseConf.voters.length d, .slice f R.baseConf.learners.length h], rfl, H.out (conf_mk (H.rp 0 rfl) (H.rp 1 rfl))⟩
theorem mconfR_spec {S : Nat → Prop} {w : World} {R : Raft} {cs : List Value} (hR : raftS.rep S w cs R) :
 Calls Tryz.prog 11 #[.agg cs.toArray] w (Ret fun v w' => Ext w w' ∧ ∃ (ds : List Value), v = .agg ds.toArray ∧ confS.rep (Nw S w) w' ds (confR R)) := by
 obtain ⟨_, n, o, p, r, f, g, h, i, j, k, rfl, _, _, _, _, _, _, _, T, D, E, _, _, _, _, _, F, t, _, G, _⟩ := raft_open hR
 obtain ⟨a, b, d, e, rfl, l, m⟩ := conf_open T
 have hlLR := Shape.slice_len E
 have hlPR := Shape.slice_len t
 have hlBR := Shape.slice_len D
 refine uS1 Tryz.func11 ?_
 have H := Hp.startF (.rp l (.rp m (.rp D (.rp E (.rp F (.rp t (.rp G .nil)))))))
 refine uR 1 [.c [0], .c [1]] ?_
 refine qG (sq 0 2) ?_
 refine uC #[.I R.id, .I R.election, .I R.beat, .int .u64 R.term, .I R.vote, .int .u64 R.base, .int .u64 R.baseTerm, .slice a R.baseConf.voters.length b, .slice d R.baseConf.learners.length e, .slice n R.snap.length o, .slice p R.log.length r, .int .u64 R.commit, .I R.role, .I R.lead, .I R.elapsed, .I R.timeout, .slice f R.votes.length g, .slice h R.peers.length i, .int .u64 R.ctx, .slice j R.readings.length k, .I R.target] 35 H ?_
 intro _ _ H
 refine uC #[.slice none 0 0, .slice none 0 0] 28 H ?_
 intro W _ H
 refine uF 0 ?_
 refine uR 1 [.c [1, 0], .c [2]] ?_
 refine qG (sq 0 4) ?_
 refine uV 35 0 (H.cells 1 rfl) ?_
 refine uP 1 ?_
 refine uC #[.I 0, .I 0, .I 0, .int .u64 0, .I 0, .int .u64 0, .int .u64 0, .slice none 0 0, .slice none 0 0, .slice none 0 0, .slice none 0 0, .int .u64 0, .I 0, .I 0, .I 0, .I 0, .slice none 0 0, .slice none 0 0, .int .u64 0, .slice none 0 0, .I 0] 97 H ?_
 intro U _ H
 refine uW 97 0 #[.I R.id, .I R.election, .I R.beat, .int .u64 R.term, .I R.vote, .int .u64 R.base, .int .u64 R.baseTerm, .slice a R.baseConf.voters.length b, .slice d R.baseConf.learners.length e, .slice n R.snap.length o, .slice p R.log.length r, .int .u64 R.commit, .I R.role, .I R.lead, .I R.elapsed, .I R.timeout, .slice f R.votes.length g, .slice h R.peers.length i, .int .u64 R.ctx, .slice j R.readings.length k, .I R.target] H 0 rfl ?_
 intro _ H
 refine uF 0 ?_
 refine uR 2 [.c [2, 0, 0], .c [2, 0, 1], .c [3]] ?_
 refine qG (sq 0 2) ?_
 refine uK (may_spec (R := R) (raftS.step (raft_mk (l0 := [.I R.id]) (y0 := R.id) (l1 := [.I R.election]) (y1 := R.election) (l2 := [.I R.beat]) (y2 := R.beat) (l3 := [.int .u64 R.term]) (y3 := R.term) (l4 := [.I R.vote]) (y4 := R.vote) (l5 := [.int .u64 R.base]) (y5 := R.base) (l6 := [.int .u64 R.baseTerm]) (y6 := R.baseTerm) (l7 := [.slice a R.baseConf.voters.length b, .slice d R.baseConf.learners.length e]) (y7 := R.baseConf) (l8 := [.slice n R.snap.length o]) (y8 := R.snap) (l9 := [.slice p R.log.length r]) (y9 := R.log) (l10 := [.int .u64 R.commit]) (y10 := R.commit) (l11 := [.I R.role]) (y11 := R.role) (l12 := [.I R.lead]) (y12 := R.lead) (l13 := [.I R.elapsed]) (y13 := R.elapsed) (l14 := [.I R.timeout]) (y14 := R.timeout) (l15 := [.slice f R.votes.length g]) (y15 := R.votes) (l16 := [.slice h R.peers.length i]) (y16 := R.peers) (l17 := [.int .u64 R.ctx]) (y17 := R.ctx) (l18 := [.slice j R.readings.length k]) (y18 := R.readings) (l19 := [.I R.target]) (y19 := R.target) i64a i64a i64a u64a i64a u64a u64a (conf_mk (H.rp 0 rfl) (H.rp 1 rfl)) (H.rp 2 rfl) (H.rp 3 rfl) u64a i64a i64a i64a i64a (H.rp 4 rfl) (H.rp 5 rfl) u64a (H.rp 6 rfl) i64a) fun _ _ _ => ⟨trivial, rfl⟩) (H.viewM 0 rfl (by simp))) ?_
 rintro _ _ V ⟨bm, rfl, hbm⟩
 have H := H.ext V
 refine uF 1 ?_
 refine qC (!bm) (fun s => ?_) (fun s => ?_)
 ·
  replace s : (bm) = false := by revert s; cases (bm) <;> simp
  refine uR 1 [.c [2, 0, 1, 0, 0], .c [2, 0, 1, 0, 1], .c [3]] ?_
  refine qG (sq 0 2) ?_
  refine uP 1 ?_
  refine uW 28 0 #[.slice none 0 0, .slice none 0 0] H 1 rfl ?_
  intro _ H
  refine uF 0 ?_
  refine qRB (.agg #[.slice none 0 0, .slice none 0 0]) Tryz.func11 (v1 (.cell 2 28) (vC (H.cells 1 rfl))) ?_
  rw [confR_no (fun q => absurd (hbm.2 q) (by simp [*]))]
  exact ⟨_, rfl, H.done, [.slice none 0 0, .slice none 0 0], rfl, H.out (conf_mk Shape.slice_nil Shape.slice_nil)⟩
 ·
  replace s : (bm) = true := by revert s; cases (bm) <;> simp
  have X := ok_len (okR_conf (hbm.1 (by assumption)))
  refine qR 2 [.c [3, 0], .c [4]] [(2, .P W 0), (3, .P U 0)] ?_
  refine qG (sq 0 3) ?_
  have H := H.freezeM
  have H : Hp w S [] [_, _] [] [Fc U 0 [.I R.id, .I R.election, .I R.beat, .int .u64 R.term, .I R.vote, .int .u64 R.base, .int .u64 R.baseTerm, .slice a R.baseConf.voters.length b, .slice d R.baseConf.learners.length e, .slice n R.snap.length o, .slice p R.log.length r, .int .u64 R.commit, .I R.role, .I R.lead, .I R.elapsed, .I R.timeout, .slice f R.votes.length g, .slice h R.peers.length i, .int .u64 R.ctx, .slice j R.readings.length k, .I R.target], _, _, _, _, _, _, _] _ := H
  refine uK (conf_spec (R := R) (raft_mk (l0 := [.I R.id]) (y0 := R.id) (l1 := [.I R.election]) (y1 := R.election) (l2 := [.I R.beat]) (y2 := R.beat) (l3 := [.int .u64 R.term]) (y3 := R.term) (l4 := [.I R.vote]) (y4 := R.vote) (l5 := [.int .u64 R.base]) (y5 := R.base) (l6 := [.int .u64 R.baseTerm]) (y6 := R.baseTerm) (l7 := [.slice a R.baseConf.voters.length b, .slice d R.baseConf.learners.length e]) (y7 := R.baseConf) (l8 := [.slice n R.snap.length o]) (y8 := R.snap) (l9 := [.slice p R.log.length r]) (y9 := R.log) (l10 := [.int .u64 R.commit]) (y10 := R.commit) (l11 := [.I R.role]) (y11 := R.role) (l12 := [.I R.lead]) (y12 := R.lead) (l13 := [.I R.elapsed]) (y13 := R.elapsed) (l14 := [.I R.timeout]) (y14 := R.timeout) (l15 := [.slice f R.votes.length g]) (y15 := R.votes) (l16 := [.slice h R.peers.length i]) (y16 := R.peers) (l17 := [.int .u64 R.ctx]) (y17 := R.ctx) (l18 := [.slice j R.readings.length k]) (y18 := R.readings) (l19 := [.I R.target]) (y19 := R.target) i64a i64a i64a u64a i64a u64a u64a (conf_mk (H.rp 1 rfl) (H.rp 2 rfl)) (H.rp 3 rfl) (H.rp 4 rfl) u64a i64a i64a i64a i64a (H.rp 5 rfl) (H.rp 6 rfl) u64a (H.rp 7 rfl) i64a) (H.fact 0 rfl)) ?_
  rintro _ _ u ⟨_, rfl, J⟩
  obtain ⟨_, _, _, _, rfl, K, L⟩ := conf_open J
  have M := H.addM u K
  have H := M.addO H u L
  refine uK (ccopied_spec (C := (confOf R.log R.baseConf)) (conf_mk (H.rp 1 rfl) (H.rp 0 rfl)) (by omega) (by omega)) ?_
  rintro _ _ x ⟨_, rfl, N⟩
  obtain ⟨y, z, A, B, rfl, O, Q⟩ := conf_open N
  have M := H.addM x O
  have H := M.addO H x Q
  refine uW 28 0 #[.slice y ((confOf R.log R.baseConf).voters.length) z, .slice A ((confOf R.log R.baseConf).learners.length) B] H 0 rfl ?_
  intro _ H
  refine uF 0 ?_
  refine qRB (.agg #[.slice y ((confOf R.log R.baseConf).voters.length) z, .slice A ((confOf R.log R.baseConf).learners.length) B]) Tryz.func11 (v1 (.cell 2 28) (vC (H.cells 0 rfl))) ?_
  rw [confR_ok (hbm.1 (by assumption))]
  exact ⟨_, rfl, H.done, [.slice y ((confOf R.log R.baseConf).voters.length) z, .slice A ((confOf R.log R.baseConf).learners.length) B], rfl, H.out (conf_mk (H.rp 1 rfl) (H.rp 0 rfl))⟩
theorem refconfR_spec {S : Nat → Prop} {w : World} {R : Raft} {cs : List Value} (hR : raftS.rep S w cs R) :
 Calls Tryz.prog 26 #[.agg cs.toArray] w (Ret fun v w' => Ext w w' ∧ ∃ (ds : List Value), v = .agg ds.toArray ∧ confS.rep (Nw S w) w' ds (confR R)) := by
 obtain ⟨_, o, p, r, s, h, i, j, k, l, m, rfl, _, _, _, _, _, _, _, T, D, E, _, _, _, _, _, G, t, _, J, _⟩ := raft_open hR
 obtain ⟨a, b, d, e, rfl, f, g⟩ := conf_open T
 have hlLR := Shape.slice_len E
 have hlPR := Shape.slice_len t
 have hlBR := Shape.slice_len D
 refine uS1 Tryz.func26 ?_
 have H := Hp.startF (.rp f (.rp g (.rp D (.rp E (.rp G (.rp t (.rp J .nil)))))))
 refine uR 1 [.c [0], .c [1]] ?_
 refine qG (sq 0 2) ?_
 refine uC #[.I R.id, .I R.election, .I R.beat, .int .u64 R.term, .I R.vote, .int .u64 R.base, .int .u64 R.baseTerm, .slice a R.baseConf.voters.length b, .slice d R.baseConf.learners.length e, .slice o R.snap.length p, .slice r R.log.length s, .int .u64 R.commit, .I R.role, .I R.lead, .I R.elapsed, .I R.timeout, .slice h R.votes.length i, .slice j R.peers.length k, .int .u64 R.ctx, .slice l R.readings.length m, .I R.target] 35 H ?_
 intro _ _ H
 refine uC #[.slice none 0 0, .slice none 0 0] 28 H ?_
 intro _ _ H
 refine uF 0 ?_
 refine uR 2 [.c [1, 0, 0], .c [1, 0, 1], .c [2]] ?_
 refine qG (sq 0 3) ?_
 refine uV 35 0 (H.cells 1 rfl) ?_
 refine uK (refrcheck_spec (R := R) (raft_mk (l0 := [.I R.id]) (y0 := R.id) (l1 := [.I R.election]) (y1 := R.election) (l2 := [.I R.beat]) (y2 := R.beat) (l3 := [.int .u64 R.term]) (y3 := R.term) (l4 := [.I R.vote]) (y4 := R.vote) (l5 := [.int .u64 R.base]) (y5 := R.base) (l6 := [.int .u64 R.baseTerm]) (y6 := R.baseTerm) (l7 := [.slice a R.baseConf.voters.length b, .slice d R.baseConf.learners.length e]) (y7 := R.baseConf) (l8 := [.slice o R.snap.length p]) (y8 := R.snap) (l9 := [.slice r R.log.length s]) (y9 := R.log) (l10 := [.int .u64 R.commit]) (y10 := R.commit) (l11 := [.I R.role]) (y11 := R.role) (l12 := [.I R.lead]) (y12 := R.lead) (l13 := [.I R.elapsed]) (y13 := R.elapsed) (l14 := [.I R.timeout]) (y14 := R.timeout) (l15 := [.slice h R.votes.length i]) (y15 := R.votes) (l16 := [.slice j R.peers.length k]) (y16 := R.peers) (l17 := [.int .u64 R.ctx]) (y17 := R.ctx) (l18 := [.slice l R.readings.length m]) (y18 := R.readings) (l19 := [.I R.target]) (y19 := R.target) i64a i64a i64a u64a i64a u64a u64a (conf_mk (H.rp 0 rfl) (H.rp 1 rfl)) (H.rp 2 rfl) (H.rp 3 rfl) u64a i64a i64a i64a i64a (H.rp 4 rfl) (H.rp 5 rfl) u64a (H.rp 6 rfl) i64a)) ?_
 rintro _ _ U ⟨V, rfl, _, n⟩
 have H := H.ext U
 refine uF 1 ?_
 refine qN V 0 (fun F => ?_) (fun F => ?_)
 ·
  refine uR 1 [.c [1, 0, 1, 0, 0], .c [1, 0, 1, 0, 1], .c [2]] ?_
  refine qG (sq 0 2) ?_
  refine uP 1 ?_
  refine uW 28 0 #[.slice none 0 0, .slice none 0 0] H 0 rfl ?_
  intro _ H
  refine uF 0 ?_
  refine qRB (.agg #[.slice none 0 0, .slice none 0 0]) Tryz.func26 (v1 (.cell 2 28) (vC (H.cells 0 rfl))) ?_
  rw [confR_no (fun q => absurd (n.2 q) (by assumption))]
  exact ⟨_, rfl, H.done, [.slice none 0 0, .slice none 0 0], rfl, H.out (conf_mk Shape.slice_nil Shape.slice_nil)⟩
 ·
  have W := ok_len (okR_conf (n.1 F))
  refine uR 2 [.c [2, 0], .c [3]] ?_
  refine qG (sq 0 4) ?_
  refine uV 35 0 (H.cells 1 rfl) ?_
  refine uK (refconf_spec (R := R) (raft_mk (l0 := [.I R.id]) (y0 := R.id) (l1 := [.I R.election]) (y1 := R.election) (l2 := [.I R.beat]) (y2 := R.beat) (l3 := [.int .u64 R.term]) (y3 := R.term) (l4 := [.I R.vote]) (y4 := R.vote) (l5 := [.int .u64 R.base]) (y5 := R.base) (l6 := [.int .u64 R.baseTerm]) (y6 := R.baseTerm) (l7 := [.slice a R.baseConf.voters.length b, .slice d R.baseConf.learners.length e]) (y7 := R.baseConf) (l8 := [.slice o R.snap.length p]) (y8 := R.snap) (l9 := [.slice r R.log.length s]) (y9 := R.log) (l10 := [.int .u64 R.commit]) (y10 := R.commit) (l11 := [.I R.role]) (y11 := R.role) (l12 := [.I R.lead]) (y12 := R.lead) (l13 := [.I R.elapsed]) (y13 := R.elapsed) (l14 := [.I R.timeout]) (y14 := R.timeout) (l15 := [.slice h R.votes.length i]) (y15 := R.votes) (l16 := [.slice j R.peers.length k]) (y16 := R.peers) (l17 := [.int .u64 R.ctx]) (y17 := R.ctx) (l18 := [.slice l R.readings.length m]) (y18 := R.readings) (l19 := [.I R.target]) (y19 := R.target) i64a i64a i64a u64a i64a u64a u64a (conf_mk (H.rp 0 rfl) (H.rp 1 rfl)) (H.rp 2 rfl) (H.rp 3 rfl) u64a i64a i64a i64a i64a (H.rp 4 rfl) (H.rp 5 rfl) u64a (H.rp 6 rfl) i64a)) ?_
  rintro _ _ u ⟨_, rfl, K⟩
  obtain ⟨_, _, _, _, rfl, L, M⟩ := conf_open K
  have N := H.addM u L
  have H := N.addO H u M
  refine uK (refcopy_spec (C := (confOf R.log R.baseConf)) (conf_mk (H.rp 1 rfl) (H.rp 0 rfl)) (by omega) (by omega)) ?_
  rintro _ _ x ⟨_, rfl, O⟩
  obtain ⟨y, z, A, B, rfl, P, Q⟩ := conf_open O
  have N := H.addM x P
  have H := N.addO H x Q
  refine uW 28 0 #[.slice y ((confOf R.log R.baseConf).voters.length) z, .slice A ((confOf R.log R.baseConf).learners.length) B] H 0 rfl ?_
  intro _ H
  refine uF 0 ?_
  refine qRB (.agg #[.slice y ((confOf R.log R.baseConf).voters.length) z, .slice A ((confOf R.log R.baseConf).learners.length) B]) Tryz.func26 (v1 (.cell 2 28) (vC (H.cells 0 rfl))) ?_
  rw [confR_ok (n.1 (by first | assumption | omega))]
  exact ⟨_, rfl, H.done, [.slice y ((confOf R.log R.baseConf).voters.length) z, .slice A ((confOf R.log R.baseConf).learners.length) B], rfl, H.out (conf_mk (H.rp 1 rfl) (H.rp 0 rfl))⟩
theorem mlastR_spec {S : Nat → Prop} {w : World} {R : Raft} {cs : List Value} (hR : raftS.rep S w cs R) :
 Calls Tryz.prog 20 #[.agg cs.toArray] w (Ret fun v w' => Ext w w' ∧ v = .tuple #[.int .u64 (lastR R).1, .int .u64 (lastR R).2]) := by
 obtain ⟨_, n, o, p, r, h, i, j, k, l, m, rfl, _, _, _, _, _, _, _, B, u, x, _, _, _, _, _, y, s, _, z, _⟩ := raft_open hR
 obtain ⟨a, b, d, e, rfl, f, g⟩ := conf_open B
 have hlLR := Shape.slice_len x
 have hlPR := Shape.slice_len s
 have hlBR := Shape.slice_len u
 refine uS1 Tryz.func20 ?_
 have H := Hp.startF (.rp f (.rp g (.rp u (.rp x (.rp y (.rp s (.rp z .nil)))))))
 refine uR 1 [.c [0], .c [1]] ?_
 refine qG (sq 0 3) ?_
 refine uC #[.I R.id, .I R.election, .I R.beat, .int .u64 R.term, .I R.vote, .int .u64 R.base, .int .u64 R.baseTerm, .slice a R.baseConf.voters.length b, .slice d R.baseConf.learners.length e, .slice n R.snap.length o, .slice p R.log.length r, .int .u64 R.commit, .I R.role, .I R.lead, .I R.elapsed, .I R.timeout, .slice h R.votes.length i, .slice j R.peers.length k, .int .u64 R.ctx, .slice l R.readings.length m, .I R.target] 35 H ?_
 intro _ _ H
 refine uF 2 ?_
 refine uR 1 [.c [1, 0], .c [2]] ?_
 refine qG (sq 0 4) ?_
 refine uV 35 0 (H.cells 0 rfl) ?_
 refine uP 1 ?_
 refine uC #[.I 0, .I 0, .I 0, .int .u64 0, .I 0, .int .u64 0, .int .u64 0, .slice none 0 0, .slice none 0 0, .slice none 0 0, .slice none 0 0, .int .u64 0, .I 0, .I 0, .I 0, .I 0, .slice none 0 0, .slice none 0 0, .int .u64 0, .slice none 0 0, .I 0] 97 H ?_
 intro _ _ H
 refine uW 97 0 #[.I R.id, .I R.election, .I R.beat, .int .u64 R.term, .I R.vote, .int .u64 R.base, .int .u64 R.baseTerm, .slice a R.baseConf.voters.length b, .slice d R.baseConf.learners.length e, .slice n R.snap.length o, .slice p R.log.length r, .int .u64 R.commit, .I R.role, .I R.lead, .I R.elapsed, .I R.timeout, .slice h R.votes.length i, .slice j R.peers.length k, .int .u64 R.ctx, .slice l R.readings.length m, .I R.target] H 0 rfl ?_
 intro _ H
 refine uF 0 ?_
 refine uR 2 [.c [2, 0, 0], .c [2, 0, 1], .c [3]] ?_
 refine qG (sq 0 2) ?_
 refine uK (may_spec (R := R) (raftS.step (raft_mk (l0 := [.I R.id]) (y0 := R.id) (l1 := [.I R.election]) (y1 := R.election) (l2 := [.I R.beat]) (y2 := R.beat) (l3 := [.int .u64 R.term]) (y3 := R.term) (l4 := [.I R.vote]) (y4 := R.vote) (l5 := [.int .u64 R.base]) (y5 := R.base) (l6 := [.int .u64 R.baseTerm]) (y6 := R.baseTerm) (l7 := [.slice a R.baseConf.voters.length b, .slice d R.baseConf.learners.length e]) (y7 := R.baseConf) (l8 := [.slice n R.snap.length o]) (y8 := R.snap) (l9 := [.slice p R.log.length r]) (y9 := R.log) (l10 := [.int .u64 R.commit]) (y10 := R.commit) (l11 := [.I R.role]) (y11 := R.role) (l12 := [.I R.lead]) (y12 := R.lead) (l13 := [.I R.elapsed]) (y13 := R.elapsed) (l14 := [.I R.timeout]) (y14 := R.timeout) (l15 := [.slice h R.votes.length i]) (y15 := R.votes) (l16 := [.slice j R.peers.length k]) (y16 := R.peers) (l17 := [.int .u64 R.ctx]) (y17 := R.ctx) (l18 := [.slice l R.readings.length m]) (y18 := R.readings) (l19 := [.I R.target]) (y19 := R.target) i64a i64a i64a u64a i64a u64a u64a (conf_mk (H.rp 0 rfl) (H.rp 1 rfl)) (H.rp 2 rfl) (H.rp 3 rfl) u64a i64a i64a i64a i64a (H.rp 4 rfl) (H.rp 5 rfl) u64a (H.rp 6 rfl) i64a) fun _ _ _ => ⟨trivial, rfl⟩) (H.viewM 0 rfl (by simp))) ?_
 rintro _ _ C ⟨bm, rfl, hbm⟩
 have H := H.ext C
 refine uF 1 ?_
 refine qC (!bm) (fun t => ?_) (fun t => ?_)
 ·
  replace t : (bm) = false := by revert t; cases (bm) <;> simp
  refine uR 2 [.c [2, 0, 1, 0, 1], .c [3]] ?_
  refine qT (.tuple #[.int .u64 0, .int .u64 0]) Tryz.func20 ?_
  refine ⟨_, rfl, H.done, ?_⟩
  rw [lastR_no (fun q => absurd (hbm.2 q) (by simp [*]))]
 ·
  replace t : (bm) = true := by revert t; cases (bm) <;> simp
  refine uR 2 [.c [3, 0], .c [4]] ?_
  refine qG (sq 0 5) ?_
  refine uK (last_spec (R := R) (raftS.step (raft_mk (l0 := [.I R.id]) (y0 := R.id) (l1 := [.I R.election]) (y1 := R.election) (l2 := [.I R.beat]) (y2 := R.beat) (l3 := [.int .u64 R.term]) (y3 := R.term) (l4 := [.I R.vote]) (y4 := R.vote) (l5 := [.int .u64 R.base]) (y5 := R.base) (l6 := [.int .u64 R.baseTerm]) (y6 := R.baseTerm) (l7 := [.slice a R.baseConf.voters.length b, .slice d R.baseConf.learners.length e]) (y7 := R.baseConf) (l8 := [.slice n R.snap.length o]) (y8 := R.snap) (l9 := [.slice p R.log.length r]) (y9 := R.log) (l10 := [.int .u64 R.commit]) (y10 := R.commit) (l11 := [.I R.role]) (y11 := R.role) (l12 := [.I R.lead]) (y12 := R.lead) (l13 := [.I R.elapsed]) (y13 := R.elapsed) (l14 := [.I R.timeout]) (y14 := R.timeout) (l15 := [.slice h R.votes.length i]) (y15 := R.votes) (l16 := [.slice j R.peers.length k]) (y16 := R.peers) (l17 := [.int .u64 R.ctx]) (y17 := R.ctx) (l18 := [.slice l R.readings.length m]) (y18 := R.readings) (l19 := [.I R.target]) (y19 := R.target) i64a i64a i64a u64a i64a u64a u64a (conf_mk (H.rp 0 rfl) (H.rp 1 rfl)) (H.rp 2 rfl) (H.rp 3 rfl) u64a i64a i64a i64a i64a (H.rp 4 rfl) (H.rp 5 rfl) u64a (H.rp 6 rfl) i64a) fun _ _ _ => ⟨trivial, rfl⟩) (H.viewM 0 rfl (by simp))) ?_
  rintro _ _ A rfl
  have H := H.ext A
  refine uF 4 ?_
  refine qT (.tuple #[.int .u64 ((lastOf R).1), .int .u64 ((lastOf R).2)]) Tryz.func20 ?_
  refine ⟨_, rfl, H.done, ?_⟩
  rw [lastR_ok (hbm.1 (by assumption))]
theorem reflastR_spec {S : Nat → Prop} {w : World} {R : Raft} {cs : List Value} (hR : raftS.rep S w cs R) :
 Calls Tryz.prog 21 #[.agg cs.toArray] w (Ret fun v w' => Ext w w' ∧ v = .tuple #[.int .u64 (lastR R).1, .int .u64 (lastR R).2]) := by
 obtain ⟨_, n, o, p, r, h, i, j, k, l, m, rfl, _, _, _, _, _, _, _, B, u, x, _, _, _, _, _, y, s, _, z, _⟩ := raft_open hR
 obtain ⟨a, b, d, e, rfl, f, g⟩ := conf_open B
 have hlLR := Shape.slice_len x
 have hlPR := Shape.slice_len s
 have hlBR := Shape.slice_len u
 refine uS1 Tryz.func21 ?_
 have H := Hp.startF (.rp f (.rp g (.rp u (.rp x (.rp y (.rp s (.rp z .nil)))))))
 refine uR 1 [.c [0], .c [1]] ?_
 refine qG (sq 0 3) ?_
 refine uC #[.I R.id, .I R.election, .I R.beat, .int .u64 R.term, .I R.vote, .int .u64 R.base, .int .u64 R.baseTerm, .slice a R.baseConf.voters.length b, .slice d R.baseConf.learners.length e, .slice n R.snap.length o, .slice p R.log.length r, .int .u64 R.commit, .I R.role, .I R.lead, .I R.elapsed, .I R.timeout, .slice h R.votes.length i, .slice j R.peers.length k, .int .u64 R.ctx, .slice l R.readings.length m, .I R.target] 35 H ?_
 intro _ _ H
 refine uF 2 ?_
 refine uR 2 [.c [1, 0, 0], .c [1, 0, 1], .c [2]] ?_
 refine qG (sq 0 3) ?_
 refine uV 35 0 (H.cells 0 rfl) ?_
 refine uK (refrcheck_spec (R := R) (raft_mk (l0 := [.I R.id]) (y0 := R.id) (l1 := [.I R.election]) (y1 := R.election) (l2 := [.I R.beat]) (y2 := R.beat) (l3 := [.int .u64 R.term]) (y3 := R.term) (l4 := [.I R.vote]) (y4 := R.vote) (l5 := [.int .u64 R.base]) (y5 := R.base) (l6 := [.int .u64 R.baseTerm]) (y6 := R.baseTerm) (l7 := [.slice a R.baseConf.voters.length b, .slice d R.baseConf.learners.length e]) (y7 := R.baseConf) (l8 := [.slice n R.snap.length o]) (y8 := R.snap) (l9 := [.slice p R.log.length r]) (y9 := R.log) (l10 := [.int .u64 R.commit]) (y10 := R.commit) (l11 := [.I R.role]) (y11 := R.role) (l12 := [.I R.lead]) (y12 := R.lead) (l13 := [.I R.elapsed]) (y13 := R.elapsed) (l14 := [.I R.timeout]) (y14 := R.timeout) (l15 := [.slice h R.votes.length i]) (y15 := R.votes) (l16 := [.slice j R.peers.length k]) (y16 := R.peers) (l17 := [.int .u64 R.ctx]) (y17 := R.ctx) (l18 := [.slice l R.readings.length m]) (y18 := R.readings) (l19 := [.I R.target]) (y19 := R.target) i64a i64a i64a u64a i64a u64a u64a (conf_mk (H.rp 0 rfl) (H.rp 1 rfl)) (H.rp 2 rfl) (H.rp 3 rfl) u64a i64a i64a i64a i64a (H.rp 4 rfl) (H.rp 5 rfl) u64a (H.rp 6 rfl) i64a)) ?_
 rintro _ _ C ⟨D, rfl, _, t⟩
 have H := H.ext C
 refine uF 1 ?_
 refine qN D 0 (fun E => ?_) (fun E => ?_)
 ·
  refine uR 2 [.c [1, 0, 1, 0, 1], .c [2]] ?_
  refine qT (.tuple #[.int .u64 0, .int .u64 0]) Tryz.func21 ?_
  refine ⟨_, rfl, H.done, ?_⟩
  rw [lastR_no (fun q => absurd (t.2 q) (by assumption))]
 ·
  refine uR 2 [.c [2, 0], .c [3]] ?_
  refine qG (sq 0 6) ?_
  refine uV 35 0 (H.cells 0 rfl) ?_
  refine uK (reflast_spec (R := R) (raft_mk (l0 := [.I R.id]) (y0 := R.id) (l1 := [.I R.election]) (y1 := R.election) (l2 := [.I R.beat]) (y2 := R.beat) (l3 := [.int .u64 R.term]) (y3 := R.term) (l4 := [.I R.vote]) (y4 := R.vote) (l5 := [.int .u64 R.base]) (y5 := R.base) (l6 := [.int .u64 R.baseTerm]) (y6 := R.baseTerm) (l7 := [.slice a R.baseConf.voters.length b, .slice d R.baseConf.learners.length e]) (y7 := R.baseConf) (l8 := [.slice n R.snap.length o]) (y8 := R.snap) (l9 := [.slice p R.log.length r]) (y9 := R.log) (l10 := [.int .u64 R.commit]) (y10 := R.commit) (l11 := [.I R.role]) (y11 := R.role) (l12 := [.I R.lead]) (y12 := R.lead) (l13 := [.I R.elapsed]) (y13 := R.elapsed) (l14 := [.I R.timeout]) (y14 := R.timeout) (l15 := [.slice h R.votes.length i]) (y15 := R.votes) (l16 := [.slice j R.peers.length k]) (y16 := R.peers) (l17 := [.int .u64 R.ctx]) (y17 := R.ctx) (l18 := [.slice l R.readings.length m]) (y18 := R.readings) (l19 := [.I R.target]) (y19 := R.target) i64a i64a i64a u64a i64a u64a u64a (conf_mk (H.rp 0 rfl) (H.rp 1 rfl)) (H.rp 2 rfl) (H.rp 3 rfl) u64a i64a i64a i64a i64a (H.rp 4 rfl) (H.rp 5 rfl) u64a (H.rp 6 rfl) i64a)) ?_
  rintro _ _ A rfl
  have H := H.ext A
  refine uF 4 ?_
  refine qT (.tuple #[.int .u64 ((lastOf R).1), .int .u64 ((lastOf R).2)]) Tryz.func21 ?_
  refine ⟨_, rfl, H.done, ?_⟩
  rw [lastR_ok (t.1 (by first | assumption | omega))]
theorem mtermR_spec {S : Nat → Prop} {w : World} {R : Raft} {cs : List Value} (hR : raftS.rep S w cs R) (ix : Int) (hix : 0 ≤ ix ∧ ix ≤ 18446744073709551615) :
 Calls Tryz.prog 22 #[.agg cs.toArray, .int .u64 ix] w (Ret fun v w' => Ext w w' ∧ v = .tuple #[.int .u64 (termR R ix).1, .bool (termR R ix).2]) := by
 obtain ⟨_, n, o, p, r, f, g, h, i, j, k, rfl, _, _, _, _, _, _, _, B, u, x, _, _, _, _, _, y, s, _, z, _⟩ := raft_open hR
 obtain ⟨a, b, d, e, rfl, l, m⟩ := conf_open B
 have hlLR := Shape.slice_len x
 have hlPR := Shape.slice_len s
 have hlBR := Shape.slice_len u
 refine uS1 Tryz.func22 ?_
 have H := Hp.startF (.rp l (.rp m (.rp u (.rp x (.rp y (.rp s (.rp z .nil)))))))
 refine uR 1 [.c [0], .c [1]] ?_
 refine qG (sq 0 3) ?_
 refine uC #[.I R.id, .I R.election, .I R.beat, .int .u64 R.term, .I R.vote, .int .u64 R.base, .int .u64 R.baseTerm, .slice a R.baseConf.voters.length b, .slice d R.baseConf.learners.length e, .slice n R.snap.length o, .slice p R.log.length r, .int .u64 R.commit, .I R.role, .I R.lead, .I R.elapsed, .I R.timeout, .slice f R.votes.length g, .slice h R.peers.length i, .int .u64 R.ctx, .slice j R.readings.length k, .I R.target] 35 H ?_
 intro _ _ H
 refine uF 2 ?_
 refine uR 1 [.c [1, 0], .c [2]] ?_
 refine qG (sq 0 4) ?_
 refine uV 35 0 (H.cells 0 rfl) ?_
 refine uP 1 ?_
 refine uC #[.I 0, .I 0, .I 0, .int .u64 0, .I 0, .int .u64 0, .int .u64 0, .slice none 0 0, .slice none 0 0, .slice none 0 0, .slice none 0 0, .int .u64 0, .I 0, .I 0, .I 0, .I 0, .slice none 0 0, .slice none 0 0, .int .u64 0, .slice none 0 0, .I 0] 97 H ?_
 intro D _ H
 refine uW 97 0 #[.I R.id, .I R.election, .I R.beat, .int .u64 R.term, .I R.vote, .int .u64 R.base, .int .u64 R.baseTerm, .slice a R.baseConf.voters.length b, .slice d R.baseConf.learners.length e, .slice n R.snap.length o, .slice p R.log.length r, .int .u64 R.commit, .I R.role, .I R.lead, .I R.elapsed, .I R.timeout, .slice f R.votes.length g, .slice h R.peers.length i, .int .u64 R.ctx, .slice j R.readings.length k, .I R.target] H 0 rfl ?_
 intro _ H
 refine uF 0 ?_
 refine uR 2 [.c [2, 0, 0], .c [2, 0, 1], .c [3]] ?_
 refine qG (sq 0 2) ?_
 refine uK (may_spec (R := R) (raftS.step (raft_mk (l0 := [.I R.id]) (y0 := R.id) (l1 := [.I R.election]) (y1 := R.election) (l2 := [.I R.beat]) (y2 := R.beat) (l3 := [.int .u64 R.term]) (y3 := R.term) (l4 := [.I R.vote]) (y4 := R.vote) (l5 := [.int .u64 R.base]) (y5 := R.base) (l6 := [.int .u64 R.baseTerm]) (y6 := R.baseTerm) (l7 := [.slice a R.baseConf.voters.length b, .slice d R.baseConf.learners.length e]) (y7 := R.baseConf) (l8 := [.slice n R.snap.length o]) (y8 := R.snap) (l9 := [.slice p R.log.length r]) (y9 := R.log) (l10 := [.int .u64 R.commit]) (y10 := R.commit) (l11 := [.I R.role]) (y11 := R.role) (l12 := [.I R.lead]) (y12 := R.lead) (l13 := [.I R.elapsed]) (y13 := R.elapsed) (l14 := [.I R.timeout]) (y14 := R.timeout) (l15 := [.slice f R.votes.length g]) (y15 := R.votes) (l16 := [.slice h R.peers.length i]) (y16 := R.peers) (l17 := [.int .u64 R.ctx]) (y17 := R.ctx) (l18 := [.slice j R.readings.length k]) (y18 := R.readings) (l19 := [.I R.target]) (y19 := R.target) i64a i64a i64a u64a i64a u64a u64a (conf_mk (H.rp 0 rfl) (H.rp 1 rfl)) (H.rp 2 rfl) (H.rp 3 rfl) u64a i64a i64a i64a i64a (H.rp 4 rfl) (H.rp 5 rfl) u64a (H.rp 6 rfl) i64a) fun _ _ _ => ⟨trivial, rfl⟩) (H.viewM 0 rfl (by simp))) ?_
 rintro _ _ C ⟨bm, rfl, hbm⟩
 have H := H.ext C
 refine uF 1 ?_
 refine qC (!bm) (fun t => ?_) (fun t => ?_)
 ·
  replace t : (bm) = false := by revert t; cases (bm) <;> simp
  refine uR 2 [.c [2, 0, 1, 0, 1], .c [3]] ?_
  refine qT (.tuple #[.int .u64 0, .bool false]) Tryz.func22 ?_
  refine ⟨_, rfl, H.done, ?_⟩
  rw [termR_no (fun q => absurd (hbm.2 q) (by simp [*]))]
 ·
  replace t : (bm) = true := by revert t; cases (bm) <;> simp
  refine uR 2 [.c [3, 0], .c [4]] ?_
  refine qG (sq 0 6) ?_
  refine uP 1 ?_
  have H := H.freezeM
  have H : Hp w S [] [_] [] [Fc D 0 [.I R.id, .I R.election, .I R.beat, .int .u64 R.term, .I R.vote, .int .u64 R.base, .int .u64 R.baseTerm, .slice a R.baseConf.voters.length b, .slice d R.baseConf.learners.length e, .slice n R.snap.length o, .slice p R.log.length r, .int .u64 R.commit, .I R.role, .I R.lead, .I R.elapsed, .I R.timeout, .slice f R.votes.length g, .slice h R.peers.length i, .int .u64 R.ctx, .slice j R.readings.length k, .I R.target], _, _, _, _, _, _, _] _ := H
  refine uK (term_spec (R := R) (raft_mk (l0 := [.I R.id]) (y0 := R.id) (l1 := [.I R.election]) (y1 := R.election) (l2 := [.I R.beat]) (y2 := R.beat) (l3 := [.int .u64 R.term]) (y3 := R.term) (l4 := [.I R.vote]) (y4 := R.vote) (l5 := [.int .u64 R.base]) (y5 := R.base) (l6 := [.int .u64 R.baseTerm]) (y6 := R.baseTerm) (l7 := [.slice a R.baseConf.voters.length b, .slice d R.baseConf.learners.length e]) (y7 := R.baseConf) (l8 := [.slice n R.snap.length o]) (y8 := R.snap) (l9 := [.slice p R.log.length r]) (y9 := R.log) (l10 := [.int .u64 R.commit]) (y10 := R.commit) (l11 := [.I R.role]) (y11 := R.role) (l12 := [.I R.lead]) (y12 := R.lead) (l13 := [.I R.elapsed]) (y13 := R.elapsed) (l14 := [.I R.timeout]) (y14 := R.timeout) (l15 := [.slice f R.votes.length g]) (y15 := R.votes) (l16 := [.slice h R.peers.length i]) (y16 := R.peers) (l17 := [.int .u64 R.ctx]) (y17 := R.ctx) (l18 := [.slice j R.readings.length k]) (y18 := R.readings) (l19 := [.I R.target]) (y19 := R.target) i64a i64a i64a u64a i64a u64a u64a (conf_mk (H.rp 1 rfl) (H.rp 2 rfl)) (H.rp 3 rfl) (H.rp 4 rfl) u64a i64a i64a i64a i64a (H.rp 5 rfl) (H.rp 6 rfl) u64a (H.rp 7 rfl) i64a) (H.fact 0 rfl) ix (by omega) (by first | assumption | exact hbm.1 (by assumption) | exact hok9)) ?_
  rintro _ _ A rfl
  have H := H.ext A
  refine qF 4 [(4, .int .u64 ((termOf R ix).1)), (5, .bool ((termOf R ix).2))] ?_
  refine qT (.tuple #[.int .u64 ((termOf R ix).1), .bool ((termOf R ix).2)]) Tryz.func22 ?_
  refine ⟨_, rfl, H.done, ?_⟩
  rw [termR_ok (hbm.1 (by assumption))]
theorem reftermR_spec {S : Nat → Prop} {w : World} {R : Raft} {cs : List Value} (hR : raftS.rep S w cs R) (ix : Int) (hix : 0 ≤ ix ∧ ix ≤ 18446744073709551615) :
 Calls Tryz.prog 23 #[.agg cs.toArray, .int .u64 ix] w (Ret fun v w' => Ext w w' ∧ v = .tuple #[.int .u64 (termR R ix).1, .bool (termR R ix).2]) := by
 obtain ⟨_, o, p, r, s, h, i, j, k, l, m, rfl, _, _, _, _, _, _, _, B, u, x, _, _, _, _, _, y, t, _, z, _⟩ := raft_open hR
 obtain ⟨a, b, d, e, rfl, f, g⟩ := conf_open B
 have hlLR := Shape.slice_len x
 have hlPR := Shape.slice_len t
 have hlBR := Shape.slice_len u
 refine uS1 Tryz.func23 ?_
 have H := Hp.startF (.rp f (.rp g (.rp u (.rp x (.rp y (.rp t (.rp z .nil)))))))
 refine uR 1 [.c [0], .c [1]] ?_
 refine qG (sq 0 3) ?_
 refine uC #[.I R.id, .I R.election, .I R.beat, .int .u64 R.term, .I R.vote, .int .u64 R.base, .int .u64 R.baseTerm, .slice a R.baseConf.voters.length b, .slice d R.baseConf.learners.length e, .slice o R.snap.length p, .slice r R.log.length s, .int .u64 R.commit, .I R.role, .I R.lead, .I R.elapsed, .I R.timeout, .slice h R.votes.length i, .slice j R.peers.length k, .int .u64 R.ctx, .slice l R.readings.length m, .I R.target] 35 H ?_
 intro _ _ H
 refine uF 2 ?_
 refine uR 2 [.c [1, 0, 0], .c [1, 0, 1], .c [2]] ?_
 refine qG (sq 0 3) ?_
 refine uV 35 0 (H.cells 0 rfl) ?_
 refine uK (refrcheck_spec (R := R) (raft_mk (l0 := [.I R.id]) (y0 := R.id) (l1 := [.I R.election]) (y1 := R.election) (l2 := [.I R.beat]) (y2 := R.beat) (l3 := [.int .u64 R.term]) (y3 := R.term) (l4 := [.I R.vote]) (y4 := R.vote) (l5 := [.int .u64 R.base]) (y5 := R.base) (l6 := [.int .u64 R.baseTerm]) (y6 := R.baseTerm) (l7 := [.slice a R.baseConf.voters.length b, .slice d R.baseConf.learners.length e]) (y7 := R.baseConf) (l8 := [.slice o R.snap.length p]) (y8 := R.snap) (l9 := [.slice r R.log.length s]) (y9 := R.log) (l10 := [.int .u64 R.commit]) (y10 := R.commit) (l11 := [.I R.role]) (y11 := R.role) (l12 := [.I R.lead]) (y12 := R.lead) (l13 := [.I R.elapsed]) (y13 := R.elapsed) (l14 := [.I R.timeout]) (y14 := R.timeout) (l15 := [.slice h R.votes.length i]) (y15 := R.votes) (l16 := [.slice j R.peers.length k]) (y16 := R.peers) (l17 := [.int .u64 R.ctx]) (y17 := R.ctx) (l18 := [.slice l R.readings.length m]) (y18 := R.readings) (l19 := [.I R.target]) (y19 := R.target) i64a i64a i64a u64a i64a u64a u64a (conf_mk (H.rp 0 rfl) (H.rp 1 rfl)) (H.rp 2 rfl) (H.rp 3 rfl) u64a i64a i64a i64a i64a (H.rp 4 rfl) (H.rp 5 rfl) u64a (H.rp 6 rfl) i64a)) ?_
 rintro _ _ C ⟨D, rfl, _, n⟩
 have H := H.ext C
 refine uF 1 ?_
 refine qN D 0 (fun E => ?_) (fun E => ?_)
 ·
  refine uR 2 [.c [1, 0, 1, 0, 1], .c [2]] ?_
  refine qT (.tuple #[.int .u64 0, .bool false]) Tryz.func23 ?_
  refine ⟨_, rfl, H.done, ?_⟩
  rw [termR_no (fun q => absurd (n.2 q) (by assumption))]
 ·
  refine uR 2 [.c [2, 0], .c [3]] ?_
  refine qG (sq 0 7) ?_
  refine uV 35 0 (H.cells 0 rfl) ?_
  refine uP 1 ?_
  refine uK (refterm_spec (R := R) (raft_mk (l0 := [.I R.id]) (y0 := R.id) (l1 := [.I R.election]) (y1 := R.election) (l2 := [.I R.beat]) (y2 := R.beat) (l3 := [.int .u64 R.term]) (y3 := R.term) (l4 := [.I R.vote]) (y4 := R.vote) (l5 := [.int .u64 R.base]) (y5 := R.base) (l6 := [.int .u64 R.baseTerm]) (y6 := R.baseTerm) (l7 := [.slice a R.baseConf.voters.length b, .slice d R.baseConf.learners.length e]) (y7 := R.baseConf) (l8 := [.slice o R.snap.length p]) (y8 := R.snap) (l9 := [.slice r R.log.length s]) (y9 := R.log) (l10 := [.int .u64 R.commit]) (y10 := R.commit) (l11 := [.I R.role]) (y11 := R.role) (l12 := [.I R.lead]) (y12 := R.lead) (l13 := [.I R.elapsed]) (y13 := R.elapsed) (l14 := [.I R.timeout]) (y14 := R.timeout) (l15 := [.slice h R.votes.length i]) (y15 := R.votes) (l16 := [.slice j R.peers.length k]) (y16 := R.peers) (l17 := [.int .u64 R.ctx]) (y17 := R.ctx) (l18 := [.slice l R.readings.length m]) (y18 := R.readings) (l19 := [.I R.target]) (y19 := R.target) i64a i64a i64a u64a i64a u64a u64a (conf_mk (H.rp 0 rfl) (H.rp 1 rfl)) (H.rp 2 rfl) (H.rp 3 rfl) u64a i64a i64a i64a i64a (H.rp 4 rfl) (H.rp 5 rfl) u64a (H.rp 6 rfl) i64a) ix (by omega) (by first | assumption | exact n.1 (by first | assumption | omega))) ?_
  rintro _ _ A rfl
  have H := H.ext A
  refine uF 4 ?_
  refine qT (.tuple #[.int .u64 ((termOf R ix).1), .bool ((termOf R ix).2)]) Tryz.func23 ?_
  refine ⟨_, rfl, H.done, ?_⟩
  rw [termR_ok (n.1 (by first | assumption | omega))]
end Go.Proofs.YtkjkmogipidkiaaGreat
