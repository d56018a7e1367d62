import Derived.Test.YtkjkmogipidkiaaGreatSBxA
import Derived.Test.YtkjkmogipidkiaaGreatSA2
namespace Go.Proofs.YtkjkmogipidkiaaGreat
open Go.BX
theorem confOf_none : ∀ {l : List Ent} {c : Conf}, (∀ e ∈ l, e.kind ≠ 2) → confOf l c = c
 | [], _, _ => rfl
 | e :: r, c, h => by
  unfold confOf
  rw [if_neg (h e (List.mem_cons_self ..))]
  exact confOf_none fun x hx => h x (List.mem_cons_of_mem _ hx)
theorem confOf_at : ∀ {l : List Ent} {c : Conf} {k : Nat} (hk : k < l.length), l[k].kind = 2 → (∀ e ∈ l.drop (k + 1), e.kind ≠ 2) → confOf l c = l[k].conf
 | e :: r, c, 0, _, h1, h2 => by
  have h1 : e.kind = 2 := h1
  unfold confOf
  rw [if_pos h1]
  exact confOf_none (by simpa using h2)
 | e :: r, c, k + 1, hk, h1, h2 => by
  unfold confOf
  exact confOf_at (k := k) (by simpa using hk) h1 (by simpa using h2)
theorem drop_back {xs : List Ent} {k : Nat} (hk : k < xs.length) {p : Ent → Prop} (h1 : ∀ e ∈ xs.drop (k + 1), p e) (h2 : p xs[k]) : ∀ e ∈ xs.drop k, p e := fun e he => by
 rw [List.drop_eq_getElem_cons hk] at he
 rcases List.mem_cons.1 he with rfl | he
 · exact h2
 · exact h1 e he
def termOf (R : Raft) (ix : Int) : Int × Bool := if ix < R.base ∨ (lastOf R).1 < ix then (0, false) else if ix = R.base then (R.baseTerm, true) else match R.log[(ix - R.base - 1).toNat]? with
 | some e => (e.term, true)
 | none => (0, true)
theorem okRow_at : ∀ {l : List Ent} {ix t m : Int}, okRow l ix t m = true → ∀ k (hk : k < l.length), l[k].index = ix + (k : Int)
 | e :: r, ix, t, m, h, k, hk => by
  unfold okRow at h
  split at h
  · cases h
  · rename_i hn
    cases k with
    | zero => show e.index = _; omega
    | succ k =>
     have hk2 : k < r.length := by simpa using hk
     have := okRow_at h k hk2
     show (r[k]'hk2).index = _
     rw [this]; omega
theorem lastOf_idx {R : Raft} (h : okRow R.log (R.base + 1) R.baseTerm R.term = true) : (lastOf R).1 = R.base + (R.log.length : Int) := by
 rcases Nat.eq_zero_or_pos R.log.length with a | a
 · rw [lastOf_none a, a]; simp
 · rw [lastOf_some a]
   have := okRow_at h (R.log.length - 1) (by omega)
   show R.log[R.log.length - 1].index = _
   omega
def okB (R : Raft) : Bool := decide ((1 ≤ R.id ∧ R.id ≤ 32 ∧ 1 ≤ R.beat ∧ R.election ≤ 1000 ∧ 2 * R.beat ≤ R.election) ∧ (R.base < 4611686018427387904 ∧ R.term < 4611686018427387904 ∧ R.baseTerm ≤ R.term ∧ okConf R.baseConf = true ∧ okRow R.log (R.base + 1) R.baseTerm R.term = true) ∧ ((lastOf R).1 < 4611686018427387904 ∧ (R.term = 0 → R.log.length = 0) ∧ R.base ≤ R.commit ∧ R.commit ≤ (lastOf R).1) ∧ (okPeers (lastOf R).1 R.peers 0 = true) ∧ ((0 ≤ R.role ∧ R.role ≤ 3) ∧ (0 ≤ R.elapsed ∧ R.elapsed ≤ 2000) ∧ (0 ≤ R.timeout ∧ R.timeout ≤ 2000)) ∧ ((0 ≤ R.vote ∧ R.vote ≤ 32) ∧ (0 ≤ R.lead ∧ R.lead ≤ 32) ∧ (0 ≤ R.target ∧ R.target ≤ 32)))
theorem okB_iff {R : Raft} : okB R = true ↔ okR R := decide_eq_true_iff
theorem okB_of {R : Raft} (h : okR R) : okB R = true := okB_iff.2 h
def R0 : Raft := ⟨0, 0, 0, 0, 0, 0, 0, ⟨[], []⟩, [], [], 0, 0, 0, 0, 0, [], [], 0, [], 0⟩
def K0 : Kept := ⟨0, 0, 0, 0, ⟨[], []⟩, [], []⟩
def mkR (id el bt : Int) (K : Kept) : Raft := ⟨id, el, bt, K.term, K.vote, K.base, K.baseTerm, K.baseConf, K.snap, K.log, K.base, 0, 0, 0, el, [], [], 0, [], 0⟩
def againOf (id el bt : Int) (K : Kept) : Raft × Int := if okB (mkR id el bt K) = true then (mkR id el bt K, 0) else (R0, 2)
def keptOf (R : Raft) : Kept := if okB R = true then ⟨R.term, R.vote, R.base, R.baseTerm, R.baseConf, R.snap, R.log⟩ else K0
def confR (R : Raft) : Conf := if okB R = true then confOf R.log R.baseConf else ⟨[], []⟩
def lastR (R : Raft) : Int × Int := if okB R = true then lastOf R else (0, 0)
def termR (R : Raft) (ix : Int) : Int × Bool := if okB R = true then termOf R ix else (0, false)
theorem change_spec {S : Nat → Prop} {w : World} {sb : Nat} {R : Raft} {cs : List Value} (hR : raftS.rep S w cs R) (hF : (Fc sb 0 cs).p S w) :
 Calls Tryz.prog 65 #[.P sb 0] w (Ret fun v w' => Ext w w' ∧ ((v = .pointer none ∧ ∀ e ∈ R.log, e.kind ≠ 2) ∨ ∃ (k : Nat) (hk : k < R.log.length) (eb eo : Nat) (es : List Value), v = .P eb eo ∧ R.log[k].kind = 2 ∧ (∀ e ∈ R.log.drop (k + 1), e.kind ≠ 2) ∧ entS.rep (Nw S w) w' es R.log[k] ∧ (Fc eb eo es).p (Nw S w) w')) := by
 obtain ⟨_, z, A, B, C, o, q, r, s, t, u, rfl, _, _, _, _, _, _, _, c0, D, E, _, _, _, _, _, F, x, _, G, _⟩ := raft_open hR
 obtain ⟨a, d, f, i, rfl, j, m⟩ := conf_open c0
 have hlLR := Shape.slice_len E
 have hlPR := Shape.slice_len x
 have hlBR := Shape.slice_len D
 refine uS1 Tryz.func65 ?_
 have H := Hp.startF (.rp j (.rp m (.rp D (.rp E (.rp F (.rp x (.rp G (.cons hF .nil))))))))
 refine uR 4 [.c [1, 0, 0], .c [1, 0, 1], .c [2]] ?_
 refine qG (sq 0 8) ?_
 refine uP 4 ?_
 refine uV 30 10 (H.fc 7 rfl) ?_
 refine uP 1 ?_
 refine uI (((R.log.length : Nat) : Int) - 1) ?_
 refine uF 1 ?_
 refine uR 1 [.c [1, 0, 1, 0], .b 0, .c [2]] ?_
 refine uL (α := Nat) (g := 65) (p := [1, 0, 1, 0, 0]) (fun k => [(0, .P sb 0), (3, .I ((k : Int) - 1))]) (fun k w' => Hp w S [] [] [] [Rp (Shape.slice (Shape.int .i64)) [.slice a R.baseConf.voters.length d] R.baseConf.voters, Rp (Shape.slice (Shape.int .i64)) [.slice f R.baseConf.learners.length i] R.baseConf.learners, Rp SB [.slice z R.snap.length A] R.snap, Rp (Shape.slice entS) [.slice B R.log.length C] R.log, Rp (Shape.slice (Shape.int .i64)) [.slice o R.votes.length q] R.votes, Rp (Shape.slice peerS) [.slice r R.peers.length s] R.peers, Rp (Shape.slice rdgS) [.slice t R.readings.length u] R.readings, Fc sb 0 [.I R.id, .I R.election, .I R.beat, .int .u64 R.term, .I R.vote, .int .u64 R.base, .int .u64 R.baseTerm, .slice a R.baseConf.voters.length d, .slice f R.baseConf.learners.length i, .slice z R.snap.length A, .slice B R.log.length C, .int .u64 R.commit, .I R.role, .I R.lead, .I R.elapsed, .I R.timeout, .slice o R.votes.length q, .slice r R.peers.length s, .int .u64 R.ctx, .slice t R.readings.length u, .I R.target]] w' ∧ k ≤ R.log.length ∧ ∀ e ∈ R.log.drop k, e.kind ≠ 2) (fun k => k) R.log.length ⟨H, Nat.le_refl _, by simp⟩ ?_
 rintro k _ ⟨H, n⟩ y
 refine uR 3 [.c [1, 0, 1, 0, 0, 0, 1], .c [1, 0, 1, 0, 0, 1], .l [1, 0, 1, 0, 0], .b 0, .c [2]] ?_
 refine qD ((((k : Int) - 1) : Int) ≥ 0) (fun h3 => ?_) (fun h3 => ?_)
 ·
  refine uR 4 [.c [1, 0, 1, 0, 0, 1, 0, 0, 0], .c [1, 0, 1, 0, 0, 1, 0, 0, 1], .b 1, .c [1, 0, 1, 0, 0, 2], .l [1, 0, 1, 0, 0], .b 0, .c [2]] ?_
  refine qG (sq 0 10) ?_
  refine uP 4 ?_
  refine uV 30 10 (H.fc 7 rfl) ?_
  refine uP 1 ?_
  have d0 : (k - 1) < R.log.length := by omega
  refine uX 30 ((k : Int) - 1) H 3 rfl (k - 1) (by omega) (List.getElem?_eq_getElem d0) ?_
  intro _ _ _ e0 H
  obtain ⟨_, _, rfl, _, _, _, J, K⟩ := ent_open e0
  obtain ⟨_, _, rfl, _, _, _, _, _, _, _, _, _, L, M⟩ := cmd_open J
  obtain ⟨rfl, _, _, _⟩ := cid_open L
  obtain ⟨_, _, rfl, _, N⟩ := amap_open M
  obtain ⟨_, _, _, _, rfl, O, Q⟩ := conf_open K
  have H := H.addR N
  have H := H.addR O
  have H := H.addR Q
  refine uP 1 ?_
  refine uV 69 2 (H.fc 3 rfl) ?_
  refine uF 1 ?_
  refine qE ((R.log[(k - 1)]).kind) 2 (fun f0 => ?_) (fun f0 => ?_)
  ·
   refine uR 1 [.c [1, 0, 1, 0, 0, 1, 0, 0, 1, 0, 0], .c [1, 0, 1, 0, 0, 1, 0, 0, 1, 0, 1], .b 1, .c [1, 0, 1, 0, 0, 2], .l [1, 0, 1, 0, 0], .b 0, .c [2]] ?_
   refine qG (sq 0 8) ?_
   refine uP 4 ?_
   refine uV 30 10 (H.fc 11 rfl) ?_
   refine uP 1 ?_
   have T : (k - 1) < R.log.length := by omega
   refine uX 30 ((k : Int) - 1) H 7 rfl (k - 1) (by omega) (List.getElem?_eq_getElem T) ?_
   intro g0 h0 _ U H
   obtain ⟨_, _, rfl, _, _, _, V, W⟩ := ent_open U
   obtain ⟨_, _, rfl, _, _, _, _, _, _, _, _, _, X, Y⟩ := cmd_open V
   obtain ⟨rfl, _, _, _⟩ := cid_open X
   obtain ⟨_, _, rfl, _, Z⟩ := amap_open Y
   obtain ⟨_, _, _, _, rfl, a0, b0⟩ := conf_open W
   have H := H.addR Z
   have H := H.addR a0
   have H := H.addR b0
   refine uF 1 ?_
   refine qT (.P g0 h0) Tryz.func65 ?_
   exact ⟨_, rfl, H.done, .inr ⟨k - 1, by omega, _, _, _, rfl, by assumption, by rw [show k - 1 + 1 = k by omega]; exact n.2, H.out (by assumption), Fact.step _ (H.fact 3 rfl) fun _ hb _ => ⟨hb.1.imp id (fun h => h.elim id (fun h => by cases h)), rfl⟩⟩⟩
  ·
   refine qR 2 [.c [1, 0, 1, 0, 0, 2], .l [1, 0, 1, 0, 0], .b 0, .c [2]] [(0, .P sb 0), (3, .I ((k : Int) - 1))] ?_
   refine qG (sq 0 3) ?_
   refine uP 1 ?_
   refine uI (((k : Int) - 1) - 1) ?_
   refine uF 1 ?_
   rw [show (k : Int) - 1 - 1 = ((k - 1 : Nat) : Int) - 1 by omega]
   have H := H.pick [4, 5, 6, 7, 8, 9, 10, 11] rfl
   exact uB (y (k - 1) _ ⟨H, by omega, drop_back (k := k - 1) (by omega) (by rw [show k - 1 + 1 = k by omega]; exact n.2) (by assumption)⟩ (by first | omega | (simp only []; omega)))
 ·
  refine uR 3 [.c [3]] ?_
  refine qT (.pointer none) Tryz.func65 ?_
  exact ⟨_, rfl, H.done, .inl ⟨rfl, fun e he => n.2 e (by rw [show k = 0 by omega]; exact he)⟩⟩
theorem conf_spec {S : Nat → Prop} {w : World} {sb : Nat} {R : Raft} {cs : List Value} (hR : raftS.rep S w cs R) (hF : (Fc sb 0 cs).p S w) :
 Calls Tryz.prog 32 #[.P sb 0] w (Ret fun v w' => Ext w w' ∧ ∃ (ds : List Value), v = .agg ds.toArray ∧ confS.rep (Nw S w) w' ds (confOf R.log R.baseConf)) := by
 obtain ⟨_, M, N, O, Q, B, C, D, E, G, J, rfl, _, _, _, _, _, _, _, T, z, A, _, _, _, _, _, K, y, _, L, _⟩ := raft_open hR
 obtain ⟨f, g, h, i, rfl, r, s⟩ := conf_open T
 have hlLR := Shape.slice_len A
 have hlPR := Shape.slice_len y
 have hlBR := Shape.slice_len z
 refine uS1 Tryz.func32 ?_
 have H := Hp.startF (.rp r (.rp s (.rp z (.rp A (.rp K (.rp y (.rp L (.cons hF .nil))))))))
 refine uR 1 [.c [0], .c [1]] ?_
 refine qG (sq 0 1) ?_
 refine uC #[.slice none 0 0, .slice none 0 0] 28 H ?_
 intro U _ H
 refine uF 0 ?_
 refine uR 2 [.c [1, 0, 0], .c [1, 0, 1], .c [2]] ?_
 refine qG (sq 0 3) ?_
 refine uP 1 ?_
 refine uK (change_spec (R := R) (raft_mk (l0 := [.I R.id]) (y0 := R.id) (l1 := [.I R.election]) (y1 := R.election) (l2 := [.I R.beat]) (y2 := R.beat) (l3 := [.int .u64 R.term]) (y3 := R.term) (l4 := [.I R.vote]) (y4 := R.vote) (l5 := [.int .u64 R.base]) (y5 := R.base) (l6 := [.int .u64 R.baseTerm]) (y6 := R.baseTerm) (l7 := [.slice f R.baseConf.voters.length g, .slice h R.baseConf.learners.length i]) (y7 := R.baseConf) (l8 := [.slice M R.snap.length N]) (y8 := R.snap) (l9 := [.slice O R.log.length Q]) (y9 := R.log) (l10 := [.int .u64 R.commit]) (y10 := R.commit) (l11 := [.I R.role]) (y11 := R.role) (l12 := [.I R.lead]) (y12 := R.lead) (l13 := [.I R.elapsed]) (y13 := R.elapsed) (l14 := [.I R.timeout]) (y14 := R.timeout) (l15 := [.slice B R.votes.length C]) (y15 := R.votes) (l16 := [.slice D R.peers.length E]) (y16 := R.peers) (l17 := [.int .u64 R.ctx]) (y17 := R.ctx) (l18 := [.slice G R.readings.length J]) (y18 := R.readings) (l19 := [.I R.target]) (y19 := R.target) i64a i64a i64a u64a i64a u64a u64a (conf_mk (H.rp 0 rfl) (H.rp 1 rfl)) (H.rp 2 rfl) (H.rp 3 rfl) u64a i64a i64a i64a i64a (H.rp 4 rfl) (H.rp 5 rfl) u64a (H.rp 6 rfl) i64a) (H.fact 7 rfl)) ?_
 rintro vq _ x (⟨rfl, hno⟩ | ⟨k, hk, eb, eo, es, rfl, V, W, hes, hfc⟩)
 ·
  have H := H.ext x
  refine uF 1 ?_
  refine uR 5 [.c [2, 0], .c [3]] ?_
  refine qG (sq 0 6) ?_
  refine uP 4 ?_
  refine uV 28 7 (H.fc 7 rfl) ?_
  refine uW 28 0 #[.slice f R.baseConf.voters.length g, .slice h R.baseConf.learners.length i] H 0 rfl ?_
  intro _ H
  refine uF 0 ?_
  refine qRB (.agg #[.slice f R.baseConf.voters.length g, .slice h R.baseConf.learners.length i]) Tryz.func32 (v1 (.cell 2 28) (vC (H.cells 0 rfl))) ?_
  rw [confOf_none hno]
  exact ⟨_, rfl, H.done, [.slice f R.baseConf.voters.length g, .slice h R.baseConf.learners.length i], rfl, H.out (conf_mk (H.rp 0 rfl) (H.rp 1 rfl))⟩
 ·
  have Hq := H
  have H := H.addN x (F := Fc eb eo es) hfc
  obtain ⟨_, _, rfl, _, _, _, t, u⟩ := ent_open hes
  obtain ⟨_, _, rfl, _, _, _, _, _, _, _, _, _, m, n⟩ := cmd_open t
  obtain ⟨rfl, _, _, _⟩ := cid_open m
  obtain ⟨j, l, rfl, _, _⟩ := amap_open n
  obtain ⟨a, b, d, e, rfl, o, q⟩ := conf_open u
  have H : Hp w S [] [(U, .cells #[.slice none 0 0, .slice none 0 0] 28 (0, 0))] [] [Fc eb eo [.int .u64 (R.log[k].index), .int .u64 (R.log[k].term), .I (R.log[k].kind), .I (R.log[k].cmd.kind), .int .u64 (R.log[k].cmd.client), .int .u64 (R.log[k].cmd.seq), .string (R.log[k].cmd.key), .I (R.log[k].cmd.size), .int .u32 (((R.log[k].cmd.sum).toNat : Nat) : Int), .int .u64 (R.log[k].cmd.version), .int .u64 (R.log[k].cmd.epoch), .I (R.log[k].cmd.group), .I (R.log[k].cmd.node), .bool (R.log[k].cmd.up), .int .u64 (R.log[k].cmd.id.version), .I (R.log[k].cmd.id.index), .int .u64 (R.log[k].cmd.id.epoch), .int .u64 (R.log[k].cmd.amap.epoch), .slice j (R.log[k].cmd.amap.members.length) l, .slice a (R.log[k].conf.voters.length) b, .slice d (R.log[k].conf.learners.length) e], _, _, _, _, _, _, _, _] _ := H
  have H := H.add (F := Rp (Shape.slice (Shape.int .i64)) [.slice a (R.log[k].conf.voters.length) b] (R.log[k].conf.voters)) ((Hq.addN x (F := Rp (Shape.slice (Shape.int .i64)) [.slice a (R.log[k].conf.voters.length) b] (R.log[k].conf.voters)) o).fact 0 rfl)
  have H : Hp w S [] [_] [] [_, _, _, _, _, _, _, _, _, _] _ := H
  have H := H.add (F := Rp (Shape.slice (Shape.int .i64)) [.slice d (R.log[k].conf.learners.length) e] (R.log[k].conf.learners)) ((Hq.addN x (F := Rp (Shape.slice (Shape.int .i64)) [.slice d (R.log[k].conf.learners.length) e] (R.log[k].conf.learners)) q).fact 0 rfl)
  have H : Hp w S [] [_] [] [_, _, _, _, _, _, _, _, _, _, _] _ := H
  refine uF 1 ?_
  refine uR 4 [.c [1, 0, 2, 0, 0], .c [1, 0, 2, 0, 1], .c [2]] ?_
  refine qG (sq 0 5) ?_
  refine qP 3 (sq 3 5) [(2, .P U 0), (10, .pointer (some ⟨eb, eo + 19, none⟩))] ?_
  refine uV 28 19 (H.fc 2 rfl) ?_
  refine uW 28 0 #[.slice a (R.log[k].conf.voters.length) b, .slice d (R.log[k].conf.learners.length) e] H 0 rfl ?_
  intro _ H
  refine uF 0 ?_
  refine qRB (.agg #[.slice a (R.log[k].conf.voters.length) b, .slice d (R.log[k].conf.learners.length) e]) Tryz.func32 (v1 (.cell 2 28) (vC (H.cells 0 rfl))) ?_
  rw [confOf_at hk V W]
  exact ⟨_, rfl, H.done, [.slice a (R.log[k].conf.voters.length) b, .slice d (R.log[k].conf.learners.length) e], rfl, H.out (conf_mk (H.rp 1 rfl) (H.rp 0 rfl))⟩
theorem ccopied_spec {S : Nat → Prop} {w : World} {cs : List Value} {C : Conf} (h : confS.rep S w cs C) (hb1 : C.voters.length * 8 ≤ 140737488355328) (hb2 : C.learners.length * 8 ≤ 140737488355328) :
 Calls Tryz.prog 31 #[.agg cs.toArray] w (Ret fun v w' => Ext w w' ∧ ∃ (ds : List Value), v = .agg ds.toArray ∧ confS.rep (Nw S w) w' ds C) := by
 obtain ⟨f, g, i, j, rfl, hvC, hlC⟩ := conf_open h
 refine uS1 Tryz.func31 ?_
 have H := Hp.startF (.rp hvC (.rp hlC .nil))
 refine uR 1 [.c [0], .c [1]] ?_
 refine qG (sq 0 2) ?_
 refine uC #[.slice f C.voters.length g, .slice i C.learners.length j] 28 H ?_
 intro l _ H
 refine uC #[.slice none 0 0, .slice none 0 0] 28 H ?_
 intro m k H
 refine uF 0 ?_
 refine uR 1 [.c [1, 0], .c [2]] ?_
 refine WK.draw1 7 [(0, .qui), (1, .qui), (3, .qui), (4, .qui), (2, .chn), (5, .chn), (6, .qui)] [(0, .qui), (1, .qui), (3, .qui), (4, .qui), (2, .chn), (5, .chn), (6, .qui), (7, .seq)] Tryz_mixed (by as_aux_lemma => kernel_rfl) (by as_aux_lemma => kernel_rfl) (by as_aux_lemma => kernel_rfl) ?_
 have H := H.draw
 generalize ({ k with drawn := k.drawn + 1 } : World) = n at H ⊢
 refine uP 1 ?_
 refine uV 26 0 (H.cells 1 rfl) ?_
 refine uP 1 ?_
 refine uV 26 1 (H.cells 1 rfl) ?_
 refine uK (clone_spec (H.rp 0 rfl) (by omega)) ?_
 rintro _ _ - H'
 have H := H.back (M1 := []) (W1 := []) H'
 obtain ⟨d, e, rfl, _, _⟩ := H.ownForm 0 rfl
 have H : Hp w S [] [(m, .cells #[.slice none 0 0, .slice none 0 0] 28 (0, 0)), (l, .cells #[.slice f C.voters.length g, .slice i C.learners.length j] 28 (0, 0))] [⟨Shape.int .i64, 3, .slice d C.voters.length e, C.voters⟩] [_, _] _ := H
 refine uK (clone_spec (H.rp 1 rfl) (by omega)) ?_
 rintro _ _ - H'
 have H := H.back (M1 := []) (W1 := []) H'
 obtain ⟨a, b, rfl, _, _⟩ := H.ownForm 0 rfl
 have H : Hp w S [] [_, _] [⟨Shape.int .i64, 3, .slice a C.learners.length b, C.learners⟩, _] [_, _] _ := H
 refine uP 1 ?_
 refine uW 28 0 #[.slice d C.voters.length e, .slice a C.learners.length b] H 0 rfl ?_
 intro _ H
 refine uF 0 ?_
 refine qRB (.agg #[.slice d C.voters.length e, .slice a C.learners.length b]) Tryz.func31 (v1 (.cell 2 28) (vC (H.cells 0 rfl))) ?_
 have H : Hp w S [] [_, _] [_] [Rp (Shape.slice (Shape.int .i64)) [.slice d C.voters.length e] C.voters, _, _] _ := H.freezeW 1 rfl
 have H : Hp w S [] [_, _] [] [Rp (Shape.slice (Shape.int .i64)) [.slice a C.learners.length b] C.learners, _, _, _] _ := H.freezeW 0 rfl
 exact ⟨_, rfl, H.done, [.slice d C.voters.length e, .slice a C.learners.length b], rfl, H.out (conf_mk (H.rp 1 rfl) (H.rp 0 rfl))⟩
end Go.Proofs.YtkjkmogipidkiaaGreat
