import Derived.Test.YtkjkmogipidkiaaGreatSBxA
import Derived.Test.YtkjkmogipidkiaaGreatSA0
namespace Go.Proofs.YtkjkmogipidkiaaGreat
open Go.BX
def okRow : List Ent → Int → Int → Int → Bool
 | [], _, _, _ => true
 | e :: r, ix, t, m => if e.index ≠ ix ∨ e.term < t ∨ m < e.term ∨ (e.kind = 2 ∧ okConf e.conf = false) then false else okRow r (ix + 1) e.term m
def okPeers (last : Int) : List Peer → Int → Bool
 | [], _ => true
 | p :: r, id => if p.id ≤ id ∨ 32 < p.id ∨ p.next = 0 ∨ last + 1 < p.next ∨ last < p.mat then false else okPeers last r p.id
def lastOf (R : Raft) : Int × Int := match R.log[R.log.length - 1]? with
 | some e => (e.index, e.term)
 | none => (R.base, R.baseTerm)
theorem lastOf_some {R : Raft} (h : 0 < R.log.length) : lastOf R = (R.log[R.log.length - 1].index, R.log[R.log.length - 1].term) := by
 unfold lastOf
 rw [List.getElem?_eq_getElem (by omega)]
theorem lastOf_none {R : Raft} (h : R.log.length = 0) : lastOf R = (R.base, R.baseTerm) := by
 unfold lastOf
 rw [List.getElem?_eq_none (by omega)]
theorem okRow_step {xs : List Ent} {k : Nat} {ix t m : Int} (hk : k < xs.length) : okRow (xs.drop k) ix t m = if xs[k].index ≠ ix ∨ xs[k].term < t ∨ m < xs[k].term ∨ (xs[k].kind = 2 ∧ okConf xs[k].conf = false) then false else okRow (xs.drop (k + 1)) (ix + 1) xs[k].term m := by
 rw [List.drop_eq_getElem_cons hk]; rfl
theorem okPeers_step {xs : List Peer} {k : Nat} {id last : Int} (hk : k < xs.length) : okPeers last (xs.drop k) id = if xs[k].id ≤ id ∨ 32 < xs[k].id ∨ xs[k].next = 0 ∨ last + 1 < xs[k].next ∨ last < xs[k].mat then false else okPeers last (xs.drop (k + 1)) xs[k].id := by
 rw [List.drop_eq_getElem_cons hk]; rfl
theorem half {x : Int} (h : -9223372036854775808 ≤ x ∧ x ≤ 9223372036854775807) : ∃ q : Int, Value.int .i64 (IntKind.i64.wrap (x.tdiv 2)) = .I q ∧ ∀ b : Int, 1 ≤ b → (q < b ↔ x < 2 * b) := by
 rcases Int.lt_or_le x 0 with c | c
 · refine ⟨x.tdiv 2, wr_i64 ?_, fun b hb => ?_⟩
   · have e : x.tdiv 2 = -((-x) / 2) := by
      have := Int.neg_tdiv (a := -x) (b := 2)
      rw [Int.neg_neg] at this
      rw [this, Int.tdiv_eq_ediv_of_nonneg (by omega)]
     omega
   · have e : x.tdiv 2 = -((-x) / 2) := by
      have := Int.neg_tdiv (a := -x) (b := 2)
      rw [Int.neg_neg] at this
      rw [this, Int.tdiv_eq_ediv_of_nonneg (by omega)]
     omega
 · refine ⟨x / 2, ?_, fun b hb => by omega⟩
   rw [Int.tdiv_eq_ediv_of_nonneg c]
   exact wr_i64 (by omega)
def ok1 (R : Raft) : Prop := 1 ≤ R.id ∧ R.id ≤ 32 ∧ 1 ≤ R.beat ∧ R.election ≤ 1000 ∧ 2 * R.beat ≤ R.election
def ok2 (R : Raft) : Prop := R.base < 4611686018427387904 ∧ R.term < 4611686018427387904 ∧ R.baseTerm ≤ R.term ∧ okConf R.baseConf = true ∧ okRow R.log (R.base + 1) R.baseTerm R.term = true
def ok3 (R : Raft) : Prop := (lastOf R).1 < 4611686018427387904 ∧ (R.term = 0 → R.log.length = 0) ∧ R.base ≤ R.commit ∧ R.commit ≤ (lastOf R).1
def ok4 (R : Raft) : Prop := okPeers (lastOf R).1 R.peers 0 = true
def ok5 (R : Raft) : Prop := (0 ≤ R.role ∧ R.role ≤ 3) ∧ (0 ≤ R.elapsed ∧ R.elapsed ≤ 2000) ∧ (0 ≤ R.timeout ∧ R.timeout ≤ 2000)
def ok6 (R : Raft) : Prop := (0 ≤ R.vote ∧ R.vote ≤ 32) ∧ (0 ≤ R.lead ∧ R.lead ≤ 32) ∧ (0 ≤ R.target ∧ R.target ≤ 32)
def okR (R : Raft) : Prop := ok1 R ∧ ok2 R ∧ ok3 R ∧ ok4 R ∧ ok5 R ∧ ok6 R
def confOf : List Ent → Conf → Conf
 | [], c => c
 | e :: r, c => confOf r (if e.kind = 2 then e.conf else c)
theorem within_spec {S : Nat → Prop} {w : World} (x m : Int) :
 Calls Tryz.prog 61 #[.I x, .I m] w (Ret fun v w' => Ext w w' ∧ v = .bool (decide (0 ≤ x ∧ x ≤ m))) := by
 refine uS1 Tryz.func61 ?_
 have H := Hp.startF (w := w) (S := S) (G := []) .nil
 refine uR 3 [.c [1, 0], .c [2]] ?_
 refine qG (sq 0 8) ?_
 refine uP 3 ?_
 refine uD 7 ((x : Int) ≥ 0) (fun a => ?_) (fun a => ?_)
 ·
  refine uF 5 ?_
  refine qT (.bool (decide ((x : Int) ≤ m))) Tryz.func61 ?_
  refine ⟨_, rfl, H.done, ?_⟩
  congr 1
  exact decide_eq_decide.2 (by omega)
 ·
  refine uF 5 ?_
  refine qT (.bool false) Tryz.func61 ?_
  refine ⟨_, rfl, H.done, ?_⟩
  congr 1
  exact (decide_eq_false (by omega)).symm
theorem chained_spec {S : Nat → Prop} {w : World} {xs : List Ent} {a : Option Addr} {c : Nat} (h : (Shape.slice entS).rep S w [.slice a xs.length c] xs) (ix t m : Int) (hix : 0 ≤ ix ∧ ix + xs.length ≤ 18446744073709551615) :
 Calls Tryz.prog 63 #[.slice a xs.length c, .int .u64 ix, .int .u64 t, .int .u64 m] w (Ret fun v w' => Ext w w' ∧ v = .bool (okRow xs ix t m)) := by
 have hlen := Shape.slice_len h
 refine uS1 Tryz.func63 ?_
 have H := Hp.startF (.rp h .nil)
 refine uR 6 [.c [1, 0, 1, 0], .b 0, .c [2]] ?_
 refine uL (α := Nat × Int × Int) (g := 63) (p := [1, 0, 1, 0, 0]) (fun (k, jx, i) => [(1, .int .u64 jx), (2, .int .u64 i), (3, .int .u64 m), (11, .slice a xs.length c), (12, .I ((xs.length : Nat) : Int)), (13, .I k)]) (fun (k, jx, i) w' => Hp w S [] [] [] [Rp (Shape.slice entS) [.slice a xs.length c] xs] w' ∧ k ≤ xs.length ∧ jx = ix + (k : Int) ∧ okRow xs ix t m = okRow (xs.drop k) jx i m) (fun (k, jx, i) => xs.length - k) (0, ix, t) ⟨H, Nat.zero_le _, by omega, rfl⟩ ?_
 rintro ⟨k, jx, i⟩ _ ⟨H, e⟩ f
 refine uR 3 [.c [1, 0, 1, 0, 0, 1, 0], .c [1, 0, 1, 0, 0, 2], .l [1, 0, 1, 0, 0], .b 0, .c [2]] ?_
 refine qD (((k : Int) : Int) < ((xs.length : Nat) : Int)) (fun T => ?_) (fun T => ?_)
 ·
  refine uR 4 [.c [1, 0, 1, 0, 0, 2, 0, 0, 0], .c [1, 0, 1, 0, 0, 2, 0, 0, 1], .b 1, .c [1, 0, 1, 0, 0, 3], .l [1, 0, 1, 0, 0], .b 0, .c [2]] ?_
  refine qG (sq 0 4) ?_
  have L : k < xs.length := by omega
  refine uX 30 (k : Int) H 0 rfl k (by omega) (List.getElem?_eq_getElem L) ?_
  intro _ _ _ M H
  obtain ⟨_, _, rfl, _, _, _, A, B⟩ := ent_open M
  obtain ⟨_, _, rfl, _, _, _, _, _, _, _, _, _, D, E⟩ := cmd_open A
  obtain ⟨rfl, _, _, _⟩ := cid_open D
  obtain ⟨o, s, rfl, _, F⟩ := amap_open E
  obtain ⟨u, x, y, z, rfl, G, J⟩ := conf_open B
  have H := H.addR F
  have H := H.addR G
  have H := H.addR J
  refine uV 71 0 (H.fc 3 rfl) ?_
  refine uC #[.int .u64 0, .int .u64 0, .I 0, .I 0, .int .u64 0, .int .u64 0, .string (⟨#[]⟩ : ByteArray), .I 0, .int .u32 0, .int .u64 0, .int .u64 0, .I 0, .I 0, .bool false, .int .u64 0, .I 0, .int .u64 0, .int .u64 0, .slice none 0 0, .slice none 0 0, .slice none 0 0] 71 H ?_
  intro j _ H
  refine uW 71 0 #[.int .u64 ((xs[k]).index), .int .u64 ((xs[k]).term), .I ((xs[k]).kind), .I (((xs[k]).cmd).kind), .int .u64 (((xs[k]).cmd).client), .int .u64 (((xs[k]).cmd).seq), .string (((xs[k]).cmd).key), .I (((xs[k]).cmd).size), .int .u32 (((((xs[k]).cmd).sum).toNat : Nat) : Int), .int .u64 (((xs[k]).cmd).version), .int .u64 (((xs[k]).cmd).epoch), .I (((xs[k]).cmd).group), .I (((xs[k]).cmd).node), .bool (((xs[k]).cmd).up), .int .u64 ((((xs[k]).cmd).id).version), .I ((((xs[k]).cmd).id).index), .int .u64 ((((xs[k]).cmd).id).epoch), .int .u64 ((((xs[k]).cmd).amap).epoch), .slice o ((((xs[k]).cmd).amap).members.length) s, .slice u (((xs[k]).conf).voters.length) x, .slice y (((xs[k]).conf).learners.length) z] H 0 rfl ?_
  intro _ H
  refine uF 0 ?_
  refine uR 2 [.c [1, 0, 1, 0, 0, 2, 0, 0, 1, 0, 0], .c [1, 0, 1, 0, 0, 2, 0, 0, 1, 0, 1], .c [1, 0, 1, 0, 0, 2, 0, 0, 2], .b 1, .c [1, 0, 1, 0, 0, 3], .l [1, 0, 1, 0, 0], .b 0, .c [2]] ?_
  refine qG (sq 0 27) ?_
  refine uP 1 ?_
  refine uV 25 0 (H.cells 0 rfl) ?_
  refine uP 3 ?_
  refine uN 21 ((xs[k]).index) jx (fun N => ?_) (fun N => ?_)
  ·
   refine uF 22 ?_
   refine uR 3 [.c [1, 0, 1, 0, 0, 2, 0, 0, 1, 0, 1, 0, 1], .c [1, 0, 1, 0, 0, 2, 0, 0, 2], .b 1, .c [1, 0, 1, 0, 0, 3], .l [1, 0, 1, 0, 0], .b 0, .c [2]] ?_
   refine qT (.bool false) Tryz.func63 ?_
   refine ⟨_, rfl, H.done, ?_⟩
   congr 1
   rw [e.2.2]
   rw [okRow_step (by omega), if_pos (by first | omega | exact .inr (.inr (.inr ⟨by omega, hoc⟩)))]
  ·
   refine uP 1 ?_
   refine uV 25 1 (H.cells 0 rfl) ?_
   refine uP 4 ?_
   refine uD 27 (((xs[k]).term : Int) < i) (fun O => ?_) (fun O => ?_)
   ·
    refine qF 16 [(1, .int .u64 jx), (3, .int .u64 m), (10, .P j 0), (11, .slice a xs.length c), (12, .I ((xs.length : Nat) : Int)), (13, .I k), (43, .bool true)] ?_
    refine uR 3 [.c [1, 0, 1, 0, 0, 2, 0, 0, 1, 0, 1, 0, 1], .c [1, 0, 1, 0, 0, 2, 0, 0, 2], .b 1, .c [1, 0, 1, 0, 0, 3], .l [1, 0, 1, 0, 0], .b 0, .c [2]] ?_
    refine qT (.bool false) Tryz.func63 ?_
    refine ⟨_, rfl, H.done, ?_⟩
    congr 1
    rw [e.2.2]
    rw [okRow_step (by omega), if_pos (by first | omega | exact .inr (.inr (.inr ⟨by omega, hoc⟩)))]
   ·
    refine uP 1 ?_
    refine uV 25 1 (H.cells 0 rfl) ?_
    refine uP 4 ?_
    refine uD 33 (((xs[k]).term : Int) > m) (fun Q => ?_) (fun Q => ?_)
    ·
     refine uF 10 ?_
     refine uR 3 [.c [1, 0, 1, 0, 0, 2, 0, 0, 1, 0, 1, 0, 1], .c [1, 0, 1, 0, 0, 2, 0, 0, 2], .b 1, .c [1, 0, 1, 0, 0, 3], .l [1, 0, 1, 0, 0], .b 0, .c [2]] ?_
     refine qT (.bool false) Tryz.func63 ?_
     refine ⟨_, rfl, H.done, ?_⟩
     congr 1
     rw [e.2.2]
     rw [okRow_step (by omega), if_pos (by first | omega | exact .inr (.inr (.inr ⟨by omega, hoc⟩)))]
    ·
     refine uP 1 ?_
     refine uV 69 2 (H.cells 0 rfl) ?_
     refine uP 2 ?_
     refine uE 37 ((xs[k]).kind) 2 (fun R => ?_) (fun R => ?_)
     ·
      refine uP 1 ?_
      refine uV 28 19 (H.cells 0 rfl) ?_
      refine uK (check_spec (C := ((xs[k]).conf)) (conf_mk (H.rp 1 rfl) (H.rp 0 rfl))) ?_
      rintro _ _ K rfl
      have H := H.ext K
      refine uF 3 ?_
      refine qN (errOf (okConf ((xs[k]).conf))) 0 (fun n => ?_) (fun n => ?_)
      ·
       have hoc := errOf_ne n
       refine uR 2 [.c [1, 0, 1, 0, 0, 2, 0, 0, 1, 0, 1, 0, 1], .c [1, 0, 1, 0, 0, 2, 0, 0, 2], .b 1, .c [1, 0, 1, 0, 0, 3], .l [1, 0, 1, 0, 0], .b 0, .c [2]] ?_
       refine qT (.bool false) Tryz.func63 ?_
       refine ⟨_, rfl, H.done, ?_⟩
       congr 1
       rw [e.2.2]
       rw [okRow_step (by omega), if_pos (by first | omega | exact .inr (.inr (.inr ⟨by omega, hoc⟩)))]
      ·
       have hoc := errOf_eq n
       refine qR 2 [.c [1, 0, 1, 0, 0, 2, 0, 0, 2, 0], .c [1, 0, 1, 0, 0, 2, 0, 0, 3], .b 1, .c [1, 0, 1, 0, 0, 3], .l [1, 0, 1, 0, 0], .b 0, .c [2]] [(1, .int .u64 jx), (3, .int .u64 m), (10, .P j 0), (11, .slice a xs.length c), (12, .I ((xs.length : Nat) : Int)), (13, .I k)] ?_
       refine qG (sq 0 3) ?_
       refine uP 1 ?_
       refine RW.pv (κ := .seq) (d := some 45) (r := (sq 2 3)) (v := .int .u64 (IntKind.u64.wrap (jx + 1))) (v' := .int .u64 (jx + 1)) (by as_aux_lemma => kernel_rfl) (wr_u64 (by omega)) ?_
       refine uF 1 ?_
       refine qG (sq 0 3) ?_
       refine uP 1 ?_
       refine uV 25 1 (H.cells 0 rfl) ?_
       refine uF 1 ?_
       refine uR 1 [.c [1, 0, 1, 0, 0, 3], .l [1, 0, 1, 0, 0], .b 0, .c [2]] ?_
       refine qG (sq 0 2) ?_
       refine uI ((k : Int) + 1) ?_
       refine uF 1 ?_
       have H := H.pick [4] rfl
       have H := H.take 0 0
       exact uB (f (k + 1, jx + 1, (xs[k]).term) _ ⟨H, by omega, by omega, by rw [e.2.2, okRow_step (by omega), if_neg (by rintro (q | q | q | q) <;> first | omega | (rw [hoc] at q; exact absurd q.2 (by decide)))]⟩ (by first | omega | (simp only []; omega)))
     ·
      refine uF 6 ?_
      refine qR 3 [.c [1, 0, 1, 0, 0, 2, 0, 0, 2, 0], .c [1, 0, 1, 0, 0, 2, 0, 0, 3], .b 1, .c [1, 0, 1, 0, 0, 3], .l [1, 0, 1, 0, 0], .b 0, .c [2]] [(1, .int .u64 jx), (3, .int .u64 m), (10, .P j 0), (11, .slice a xs.length c), (12, .I ((xs.length : Nat) : Int)), (13, .I k)] ?_
      refine qG (sq 0 3) ?_
      refine uP 1 ?_
      refine RW.pv (κ := .seq) (d := some 45) (r := (sq 2 3)) (v := .int .u64 (IntKind.u64.wrap (jx + 1))) (v' := .int .u64 (jx + 1)) (by as_aux_lemma => kernel_rfl) (wr_u64 (by omega)) ?_
      refine uF 1 ?_
      refine qG (sq 0 3) ?_
      refine uP 1 ?_
      refine uV 25 1 (H.cells 0 rfl) ?_
      refine uF 1 ?_
      refine uR 1 [.c [1, 0, 1, 0, 0, 3], .l [1, 0, 1, 0, 0], .b 0, .c [2]] ?_
      refine qG (sq 0 2) ?_
      refine uI ((k : Int) + 1) ?_
      refine uF 1 ?_
      have H := H.pick [4] rfl
      have H := H.take 0 0
      exact uB (f (k + 1, jx + 1, (xs[k]).term) _ ⟨H, by omega, by omega, by rw [e.2.2, okRow_step (by omega), if_neg (by rintro (q | q | q | q) <;> first | omega | (rw [hoc] at q; exact absurd q.2 (by decide)))]⟩ (by first | omega | (simp only []; omega)))
 ·
  refine uR 3 [.c [3]] ?_
  refine qT (.bool true) Tryz.func63 ?_
  refine ⟨_, rfl, H.done, ?_⟩
  congr 1
  rw [e.2.2]
  rw [List.drop_of_length_le (by omega)]; rfl
theorem peers_spec {S : Nat → Prop} {w : World} {sb : Nat} {R : Raft} {cs : List Value} (hR : raftS.rep S w cs R) (hF : (Fc sb 0 cs).p S w) (last : Int) (hla : 0 ≤ last ∧ last < 4611686018427387904) :
 Calls Tryz.prog 64 #[.P sb 0, .int .u64 last] w (Ret fun v w' => Ext w w' ∧ v = .bool (okPeers last R.peers 0)) := by
 obtain ⟨_, A, B, C, D, q, s, j, m, t, u, rfl, _, _, _, _, _, _, _, K, E, F, _, _, _, _, _, G, x, _, J, _⟩ := raft_open hR
 obtain ⟨e, f, h, i, rfl, n, o⟩ := conf_open K
 have hlLR := Shape.slice_len F
 have hlPR := Shape.slice_len x
 have hlBR := Shape.slice_len E
 refine uS1 Tryz.func64 ?_
 have H := Hp.startF (.rp n (.rp o (.rp E (.rp F (.rp G (.rp x (.rp J (.cons hF .nil))))))))
 refine uR 6 [.c [2, 0, 0], .c [2, 0, 1], .c [3]] ?_
 refine qG (sq 0 7) ?_
 refine uP 4 ?_
 refine uV 32 17 (H.fc 7 rfl) ?_
 refine uF 2 ?_
 refine uR 1 [.c [2, 0, 1, 0], .b 0, .c [3]] ?_
 refine uL (α := Nat × Int) (g := 64) (p := [2, 0, 1, 0, 0]) (fun (k, id) => [(1, .int .u64 last), (5, .I id), (12, .slice j R.peers.length m), (13, .I ((R.peers.length : Nat) : Int)), (14, .I k)]) (fun (k, id) w' => Hp w S [] [] [] [Rp (Shape.slice (Shape.int .i64)) [.slice e R.baseConf.voters.length f] R.baseConf.voters, Rp (Shape.slice (Shape.int .i64)) [.slice h R.baseConf.learners.length i] R.baseConf.learners, Rp SB [.slice A R.snap.length B] R.snap, Rp (Shape.slice entS) [.slice C R.log.length D] R.log, Rp (Shape.slice (Shape.int .i64)) [.slice q R.votes.length s] R.votes, Rp (Shape.slice peerS) [.slice j R.peers.length m] R.peers, Rp (Shape.slice rdgS) [.slice t R.readings.length u] R.readings, Fc sb 0 [.I R.id, .I R.election, .I R.beat, .int .u64 R.term, .I R.vote, .int .u64 R.base, .int .u64 R.baseTerm, .slice e R.baseConf.voters.length f, .slice h R.baseConf.learners.length i, .slice A R.snap.length B, .slice C R.log.length D, .int .u64 R.commit, .I R.role, .I R.lead, .I R.elapsed, .I R.timeout, .slice q R.votes.length s, .slice j R.peers.length m, .int .u64 R.ctx, .slice t R.readings.length u, .I R.target]] w' ∧ k ≤ R.peers.length ∧ okPeers last R.peers 0 = okPeers last (R.peers.drop k) id) (fun (k, id) => R.peers.length - k) (0, 0) ⟨H, Nat.zero_le _, rfl⟩ ?_
 rintro ⟨k, id⟩ _ ⟨H, a⟩ y
 refine uR 3 [.c [2, 0, 1, 0, 0, 1, 0], .c [2, 0, 1, 0, 0, 2], .l [2, 0, 1, 0, 0], .b 0, .c [3]] ?_
 refine qD (((k : Int) : Int) < ((R.peers.length : Nat) : Int)) (fun V => ?_) (fun V => ?_)
 ·
  refine uR 4 [.c [2, 0, 1, 0, 0, 2, 0, 0, 0], .c [2, 0, 1, 0, 0, 2, 0, 0, 1], .b 1, .c [2, 0, 1, 0, 0, 3], .l [2, 0, 1, 0, 0], .b 0, .c [3]] ?_
  refine qG (sq 0 4) ?_
  have L : k < R.peers.length := by omega
  refine uX 32 (k : Int) H 5 rfl k (by omega) (List.getElem?_eq_getElem L) ?_
  intro _ _ _ M H
  obtain ⟨rfl, _, _, _⟩ := peer_open M
  refine uV 123 0 (H.fc 0 rfl) ?_
  refine uC #[.I 0, .int .u64 0, .int .u64 0, .bool false] 123 H ?_
  intro z _ H
  refine uW 123 0 #[.I ((R.peers[k]).id), .int .u64 ((R.peers[k]).next), .int .u64 ((R.peers[k]).mat), .bool ((R.peers[k]).heard)] H 0 rfl ?_
  intro _ H
  refine uF 0 ?_
  refine uR 2 [.c [2, 0, 1, 0, 0, 2, 0, 0, 1, 0, 0], .c [2, 0, 1, 0, 0, 2, 0, 0, 1, 0, 1], .c [2, 0, 1, 0, 0, 2, 0, 0, 2], .b 1, .c [2, 0, 1, 0, 0, 3], .l [2, 0, 1, 0, 0], .b 0, .c [3]] ?_
  refine qG (sq 0 27) ?_
  refine uP 1 ?_
  refine uV 3 0 (H.cells 0 rfl) ?_
  refine uP 3 ?_
  refine uD 22 (((R.peers[k]).id : Int) ≤ id) (fun N => ?_) (fun N => ?_)
  ·
   refine uF 22 ?_
   refine uR 3 [.c [2, 0, 1, 0, 0, 2, 0, 0, 1, 0, 1, 0, 1], .c [2, 0, 1, 0, 0, 2, 0, 0, 2], .b 1, .c [2, 0, 1, 0, 0, 3], .l [2, 0, 1, 0, 0], .b 0, .c [3]] ?_
   refine qT (.bool false) Tryz.func64 ?_
   refine ⟨_, rfl, H.done, ?_⟩
   congr 1
   rw [a.2]
   rw [okPeers_step (by omega), if_pos (by omega)]
  ·
   refine uP 1 ?_
   refine uV 3 0 (H.cells 0 rfl) ?_
   refine uP 3 ?_
   refine uD 27 (((R.peers[k]).id : Int) > 32) (fun O => ?_) (fun O => ?_)
   ·
    refine qF 17 [(1, .int .u64 last), (7, .P z 0), (12, .slice j R.peers.length m), (13, .I ((R.peers.length : Nat) : Int)), (14, .I k), (44, .bool true)] ?_
    refine uR 3 [.c [2, 0, 1, 0, 0, 2, 0, 0, 1, 0, 1, 0, 1], .c [2, 0, 1, 0, 0, 2, 0, 0, 2], .b 1, .c [2, 0, 1, 0, 0, 3], .l [2, 0, 1, 0, 0], .b 0, .c [3]] ?_
    refine qT (.bool false) Tryz.func64 ?_
    refine ⟨_, rfl, H.done, ?_⟩
    congr 1
    rw [a.2]
    rw [okPeers_step (by omega), if_pos (by omega)]
   ·
    refine uP 1 ?_
    refine uV 25 1 (H.cells 0 rfl) ?_
    refine uP 3 ?_
    refine uE 32 ((R.peers[k]).next) 0 (fun Q => ?_) (fun Q => ?_)
    ·
     refine uF 12 ?_
     refine uR 3 [.c [2, 0, 1, 0, 0, 2, 0, 0, 1, 0, 1, 0, 1], .c [2, 0, 1, 0, 0, 2, 0, 0, 2], .b 1, .c [2, 0, 1, 0, 0, 3], .l [2, 0, 1, 0, 0], .b 0, .c [3]] ?_
     refine qT (.bool false) Tryz.func64 ?_
     refine ⟨_, rfl, H.done, ?_⟩
     congr 1
     rw [a.2]
     rw [okPeers_step (by omega), if_pos (by omega)]
    ·
     refine uP 1 ?_
     refine uV 25 1 (H.cells 0 rfl) ?_
     refine uP 1 ?_
     refine RW.pv (κ := .seq) (d := some 36) (r := (sq 19 27)) (v := .int .u64 (IntKind.u64.wrap (last + 1))) (v' := .int .u64 (last + 1)) (by as_aux_lemma => kernel_rfl) (wr_u64 (by omega)) ?_
     refine uP 3 ?_
     refine uD 39 (((R.peers[k]).next : Int) > last + 1) (fun T => ?_) (fun T => ?_)
     ·
      refine uF 5 ?_
      refine uR 3 [.c [2, 0, 1, 0, 0, 2, 0, 0, 1, 0, 1, 0, 1], .c [2, 0, 1, 0, 0, 2, 0, 0, 2], .b 1, .c [2, 0, 1, 0, 0, 3], .l [2, 0, 1, 0, 0], .b 0, .c [3]] ?_
      refine qT (.bool false) Tryz.func64 ?_
      refine ⟨_, rfl, H.done, ?_⟩
      congr 1
      rw [a.2]
      rw [okPeers_step (by omega), if_pos (by omega)]
     ·
      refine qP 1 (sq 23 27) [(1, .int .u64 last), (7, .P z 0), (12, .slice j R.peers.length m), (13, .I ((R.peers.length : Nat) : Int)), (14, .I k), (39, .bool false), (40, .P z 2)] ?_
      refine uV 25 2 (H.cells 0 rfl) ?_
      refine uF 3 ?_
      refine qD (((R.peers[k]).mat : Int) > last) (fun U => ?_) (fun U => ?_)
      ·
       refine uR 2 [.c [2, 0, 1, 0, 0, 2, 0, 0, 1, 0, 1, 0, 1], .c [2, 0, 1, 0, 0, 2, 0, 0, 2], .b 1, .c [2, 0, 1, 0, 0, 3], .l [2, 0, 1, 0, 0], .b 0, .c [3]] ?_
       refine qT (.bool false) Tryz.func64 ?_
       refine ⟨_, rfl, H.done, ?_⟩
       congr 1
       rw [a.2]
       rw [okPeers_step (by omega), if_pos (by omega)]
      ·
       refine uR 1 [.c [2, 0, 1, 0, 0, 2, 0, 0, 2], .b 1, .c [2, 0, 1, 0, 0, 3], .l [2, 0, 1, 0, 0], .b 0, .c [3]] ?_
       refine qG (sq 0 3) ?_
       refine uP 1 ?_
       refine uV 3 0 (H.cells 0 rfl) ?_
       refine uF 1 ?_
       refine uR 1 [.c [2, 0, 1, 0, 0, 3], .l [2, 0, 1, 0, 0], .b 0, .c [3]] ?_
       refine qG (sq 0 2) ?_
       refine uI ((k : Int) + 1) ?_
       refine uF 1 ?_
       have H := H.pick [1, 2, 3, 4, 5, 6, 7, 8] rfl
       have H := H.take 0 0
       exact uB (y (k + 1, (R.peers[k]).id) _ ⟨H, by omega, by rw [a.2, okPeers_step (by omega), if_neg (by omega)]⟩ (by first | omega | (simp only []; omega)))
 ·
  refine uR 3 [.c [4]] ?_
  refine qT (.bool true) Tryz.func64 ?_
  refine ⟨_, rfl, H.done, ?_⟩
  congr 1
  rw [a.2]
  rw [List.drop_of_length_le (by omega)]; rfl
theorem last_spec {S : Nat → Prop} {w : World} {sb : Nat} {R : Raft} {cs : List Value} (hR : raftS.rep S w cs R) (hF : (Fc sb 0 cs).p S w) :
 Calls Tryz.prog 42 #[.P sb 0] w (Ret fun v w' => Ext w w' ∧ v = .tuple #[.int .u64 (lastOf R).1, .int .u64 (lastOf R).2]) := by
 obtain ⟨_, _, _, _, _, _, _, _, _, _, _, rfl, _, _, _, _, _, _, _, B, e, f, _, _, _, _, _, g, d, _, h, _⟩ := raft_open hR
 obtain ⟨_, _, _, _, rfl, a, b⟩ := conf_open B
 have hlLR := Shape.slice_len f
 have hlPR := Shape.slice_len d
 have hlBR := Shape.slice_len e
 refine uS1 Tryz.func42 ?_
 have H := Hp.startF (.rp a (.rp b (.rp e (.rp f (.rp g (.rp d (.rp h (.cons hF .nil))))))))
 refine uR 4 [.c [1, 0, 0], .c [1, 0, 1], .c [2]] ?_
 refine qG (sq 0 7) ?_
 refine uP 4 ?_
 refine uV 30 10 (H.fc 7 rfl) ?_
 refine uF 2 ?_
 refine uR 2 [.c [1, 0, 2], .c [2]] ?_
 refine qD ((((R.log.length : Nat) : Int) : Int) > 0) (fun G => ?_) (fun G => ?_)
 ·
  refine uR 1 [.c [1, 0, 2, 0, 0], .c [1, 0, 2, 0, 1], .c [2]] ?_
  refine WK.draw1 22 (qs [0, 1, 2, 3, 4, 5, 6, 7, 8, 9, 10, 11, 12, 13, 14, 15, 16, 17, 18, 19, 20, 21]) (qs [0, 1, 2, 3, 4, 5, 6, 7, 8, 9, 10, 11, 12, 13, 14, 15, 16, 17, 18, 19, 20, 21]) Tryz_mixed (by as_aux_lemma => kernel_rfl) (by as_aux_lemma => kernel_rfl) (by as_aux_lemma => kernel_rfl) ?_
  have H := H.draw
  generalize ({ w with drawn := w.drawn + 1 } : World) = J at H ⊢
  refine uP 4 ?_
  refine uV 30 10 (H.fc 7 rfl) ?_
  refine uP 1 ?_
  refine uI (((R.log.length : Nat) : Int) - 1) ?_
  have C : (R.log.length - 1) < R.log.length := by omega
  refine uX 30 (((R.log.length : Nat) : Int) - 1) H 3 rfl (R.log.length - 1) (by omega) (List.getElem?_eq_getElem C) ?_
  intro _ _ _ D H
  obtain ⟨_, _, rfl, _, _, _, i, j⟩ := ent_open D
  obtain ⟨_, _, rfl, _, _, _, _, _, _, _, _, _, k, l⟩ := cmd_open i
  obtain ⟨rfl, _, _, _⟩ := cid_open k
  obtain ⟨_, _, rfl, _, m⟩ := amap_open l
  obtain ⟨_, _, _, _, rfl, n, o⟩ := conf_open j
  have H := H.addR m
  have H := H.addR n
  have H := H.addR o
  refine uP 1 ?_
  refine uV 25 0 (H.fc 3 rfl) ?_
  refine uP 4 ?_
  refine uV 30 10 (H.fc 11 rfl) ?_
  refine uP 1 ?_
  refine uI (((R.log.length : Nat) : Int) - 1) ?_
  have q : (R.log.length - 1) < R.log.length := by omega
  refine uX 30 (((R.log.length : Nat) : Int) - 1) H 7 rfl (R.log.length - 1) (by omega) (List.getElem?_eq_getElem q) ?_
  intro E F _ r H
  obtain ⟨_, _, rfl, _, _, _, s, t⟩ := ent_open r
  obtain ⟨_, _, rfl, _, _, _, _, _, _, _, _, _, u, x⟩ := cmd_open s
  obtain ⟨rfl, _, _, _⟩ := cid_open u
  obtain ⟨_, _, rfl, _, y⟩ := amap_open x
  obtain ⟨_, _, _, _, rfl, z, A⟩ := conf_open t
  have H := H.addR y
  have H := H.addR z
  have H := H.addR A
  refine qP 1 (qs [19, 20, 21]) [(22, .int .u64 ((R.log[(R.log.length - 1)]).index)), (31, .pointer (some ⟨E, F + 1, none⟩))] ?_
  refine uV 25 1 (H.fc 3 rfl) ?_
  refine uF 2 ?_
  refine qT (.tuple #[.int .u64 ((R.log[(R.log.length - 1)]).index), .int .u64 ((R.log[(R.log.length - 1)]).term)]) Tryz.func42 ?_
  refine ⟨_, rfl, H.done, ?_⟩
  rw [lastOf_some (by omega)]
 ·
  refine uR 2 [.c [2, 0], .c [3]] ?_
  refine WK.draw1 12 (qs [0, 1, 2, 3, 4, 5, 6, 7, 8, 9, 10, 11]) (qs [0, 1, 2, 3, 4, 5, 6, 7, 8, 9, 10, 11]) Tryz_mixed (by as_aux_lemma => kernel_rfl) (by as_aux_lemma => kernel_rfl) (by as_aux_lemma => kernel_rfl) ?_
  have H := H.draw
  generalize ({ w with drawn := w.drawn + 1 } : World) = I at H ⊢
  refine uP 4 ?_
  refine uV 25 5 (H.fc 7 rfl) ?_
  refine uP 4 ?_
  refine uV 25 6 (H.fc 7 rfl) ?_
  refine uF 2 ?_
  refine qT (.tuple #[.int .u64 R.base, .int .u64 R.baseTerm]) Tryz.func42 ?_
  refine ⟨_, rfl, H.done, ?_⟩
  rw [lastOf_none (by omega)]
theorem okR_bad1 {R : Raft} (h : R.id < 1 ∨ R.id > 32 ∨ R.beat < 1 ∨ R.election > 1000 ∨ R.election < 2 * R.beat) : ¬ okR R := fun q => by have := q.1; unfold ok1 at this; omega
theorem okR_bad2 {R : Raft} (h : R.base ≥ 4611686018427387904 ∨ R.term ≥ 4611686018427387904 ∨ R.baseTerm > R.term ∨ okConf R.baseConf = false ∨ okRow R.log (R.base + 1) R.baseTerm R.term = false) : ¬ okR R := fun q => by
 obtain ⟨a1, a2, a3, a4, a5⟩ := q.2.1
 rcases h with h | h | h | h | h
 · omega
 · omega
 · omega
 · rw [h] at a4; cases a4
 · rw [h] at a5; cases a5
theorem okR_bad3 {R : Raft} (h : (lastOf R).1 ≥ 4611686018427387904 ∨ (R.term = 0 ∧ R.log.length > 0) ∨ R.commit < R.base ∨ R.commit > (lastOf R).1 ∨ okPeers (lastOf R).1 R.peers 0 = false) : ¬ okR R := fun q => by
 obtain ⟨a1, a2, a3, a4⟩ := q.2.2.1
 have a5 := q.2.2.2.1
 unfold ok4 at a5
 rcases h with h | h | h | h | h
 · omega
 · have := a2 h.1; omega
 · omega
 · omega
 · rw [h] at a5; cases a5
theorem okR_iff5 {R : Raft} (h1 : ¬ (R.id < 1 ∨ R.id > 32 ∨ R.beat < 1 ∨ R.election > 1000 ∨ R.election < 2 * R.beat)) (h2 : ¬ (R.base ≥ 4611686018427387904 ∨ R.term ≥ 4611686018427387904 ∨ R.baseTerm > R.term ∨ okConf R.baseConf = false ∨ okRow R.log (R.base + 1) R.baseTerm R.term = false)) (h3 : ¬ ((lastOf R).1 ≥ 4611686018427387904 ∨ (R.term = 0 ∧ R.log.length > 0) ∨ R.commit < R.base ∨ R.commit > (lastOf R).1 ∨ okPeers (lastOf R).1 R.peers 0 = false)) : ((0 ≤ R.role ∧ R.role ≤ 3) ∧ (0 ≤ R.elapsed ∧ R.elapsed ≤ 2000) ∧ (0 ≤ R.timeout ∧ R.timeout ≤ 2000) ∧ (0 ≤ R.vote ∧ R.vote ≤ 32) ∧ (0 ≤ R.lead ∧ R.lead ≤ 32) ∧ (0 ≤ R.target ∧ R.target ≤ 32)) ↔ okR R := by
 simp only [not_or] at h1 h2 h3
 constructor
 · intro h
   exact ⟨by unfold ok1; omega, ⟨by omega, by omega, by omega, Bool.of_not_eq_false h2.2.2.2.1, Bool.of_not_eq_false h2.2.2.2.2⟩, ⟨by omega, fun q => by omega, by omega, by omega⟩, Bool.of_not_eq_false h3.2.2.2.2, ⟨h.1, h.2.1, h.2.2.1⟩, h.2.2.2⟩
 · rintro ⟨-, -, -, -, a, b⟩
   exact ⟨a.1, a.2.1, a.2.2, b⟩
set_option maxHeartbeats 8000000 in
theorem may_spec {S : Nat → Prop} {w : World} {sb : Nat} {R : Raft} {cs : List Value} (hR : raftS.rep S w cs R) (hF : (Fc sb 0 cs).p S w) :
 Calls Tryz.prog 30 #[.P sb 0] w (Ret fun v w' => Ext w w' ∧ ∃ b : Bool, v = .bool b ∧ (b = true ↔ okR R)) := by
 obtain ⟨_, o, s, t, u, i, j, k, l, m, n, rfl, _, _, _, _, _, _, _, q0, W, X, _, _, _, _, _, c0, L, _, d0, _⟩ := raft_open hR
 obtain ⟨a, e, f, g, rfl, B, D⟩ := conf_open q0
 have hlLR := Shape.slice_len X
 have hlPR := Shape.slice_len L
 have hlBR := Shape.slice_len W
 obtain ⟨q9, r0, s0⟩ := half (x := R.election) (by omega)
 have M0 := s0 R.beat
 refine uS1 Tryz.func30 ?_
 have H := Hp.startF (.rp B (.rp D (.rp W (.rp X (.rp c0 (.rp L (.rp d0 (.cons hF .nil))))))))
 refine uR 4 [.c [1, 0, 0], .c [1, 0, 1], .c [2]] ?_
 refine WK.joinV (α := Bool) (fun x_ w_ => match x_ with | M => Hp w S [] [] [] [Rp (Shape.slice (Shape.int .i64)) [.slice a R.baseConf.voters.length e] R.baseConf.voters, Rp (Shape.slice (Shape.int .i64)) [.slice f R.baseConf.learners.length g] R.baseConf.learners, Rp SB [.slice o R.snap.length s] R.snap, Rp (Shape.slice entS) [.slice t R.log.length u] R.log, Rp (Shape.slice (Shape.int .i64)) [.slice i R.votes.length j] R.votes, Rp (Shape.slice peerS) [.slice k R.peers.length l] R.peers, Rp (Shape.slice rdgS) [.slice m R.readings.length n] R.readings, Fc sb 0 [.I R.id, .I R.election, .I R.beat, .int .u64 R.term, .I R.vote, .int .u64 R.base, .int .u64 R.baseTerm, .slice a R.baseConf.voters.length e, .slice f R.baseConf.learners.length g, .slice o R.snap.length s, .slice t R.log.length u, .int .u64 R.commit, .I R.role, .I R.lead, .I R.elapsed, .I R.timeout, .slice i R.votes.length j, .slice k R.peers.length l, .int .u64 R.ctx, .slice m R.readings.length n, .I R.target]] w_ ∧ (M = true ↔ R.id < 1 ∨ R.id > 32 ∨ R.beat < 1 ∨ R.election > 1000 ∨ R.election < 2 * R.beat)) (fun x_ => match x_ with | M => [(0, .P sb 0), (49, .bool M)]) [Cq Tryz.prog 30 [1, 0, 1], Cq Tryz.prog 30 [2]] (fun K => ?_) ?_
 ·
  refine WK.draw1 45 [(0, .qui), (1, .qui), (2, .qui), (3, .qui), (4, .qui), (5, .qui), (6, .qui), (7, .qui), (8, .qui), (9, .qui), (10, .qui), (11, .qui), (12, .chn), (13, .qui), (14, .qui), (15, .qui), (16, .qui), (17, .qui), (18, .qui), (19, .qui), (20, .qui), (21, .qui), (22, .qui), (23, .qui), (24, .qui), (25, .qui), (26, .qui), (27, .qui), (28, .qui), (29, .qui), (30, .qui), (31, .qui), (32, .qui), (33, .qui), (34, .qui), (35, .qui), (36, .qui), (37, .qui), (38, .qui), (39, .qui), (40, .qui), (41, .qui), (42, .qui), (43, .qui), (44, .qui)] [(0, .qui), (1, .qui), (2, .qui), (3, .qui), (4, .qui), (5, .qui), (6, .qui), (7, .qui), (8, .qui), (9, .qui), (10, .qui), (11, .qui), (12, .chn), (13, .qui), (14, .qui), (15, .qui), (16, .qui), (17, .qui), (18, .qui), (19, .qui), (20, .qui), (21, .qui), (22, .qui), (23, .qui), (24, .qui), (25, .qui), (26, .qui), (27, .qui), (28, .qui), (29, .qui), (30, .qui), (31, .qui), (32, .qui), (33, .qui), (34, .qui), (35, .qui), (36, .qui), (37, .qui), (38, .qui), (39, .qui), (40, .qui), (41, .qui), (42, .qui), (43, .qui), (44, .qui)] Tryz_mixed (by as_aux_lemma => kernel_rfl) (by as_aux_lemma => kernel_rfl) (by as_aux_lemma => kernel_rfl) ?_
  have H := H.draw
  generalize ({ w with drawn := w.drawn + 1 } : World) = w3 at H ⊢
  refine uP 4 ?_
  refine uV 3 0 (H.fc 7 rfl) ?_
  refine uP 2 ?_
  refine uE 11 R.id 0 (fun h4 => ?_) (fun h4 => ?_)
  ·
   refine uF 38 ?_
   exact uB (K (true) _ ⟨H, ⟨fun _ => by first | omega | (simp_all; done), fun _ => rfl⟩⟩)
  ·
   refine uP 4 ?_
   refine uV 3 0 (H.fc 7 rfl) ?_
   refine uK (within_spec (S := fun _ => True) R.id 32) ?_
   rintro _ _ t0 rfl
   have H := H.ext t0
   refine uP 3 ?_
   refine uT 20 (!(decide (0 ≤ R.id ∧ R.id ≤ 32))) (fun E => ?_) (fun E => ?_)
   ·
    replace E : (decide (0 ≤ R.id ∧ R.id ≤ 32)) = false := by revert E; cases (decide (0 ≤ R.id ∧ R.id ≤ 32)) <;> simp
    replace E := of_decide_eq_false E
    refine uF 29 ?_
    exact uB (K (true) _ ⟨H, ⟨fun _ => by first | omega | (simp_all; done), fun _ => rfl⟩⟩)
   ·
    replace E : (decide (0 ≤ R.id ∧ R.id ≤ 32)) = true := by revert E; cases (decide (0 ≤ R.id ∧ R.id ≤ 32)) <;> simp
    replace E := of_decide_eq_true E
    refine uP 4 ?_
    refine uV 3 2 (H.fc 7 rfl) ?_
    refine uP 3 ?_
    refine uD 28 ((R.beat : Int) < 1) (fun h8 => ?_) (fun h8 => ?_)
    ·
     refine uF 21 ?_
     exact uB (K (true) _ ⟨H, ⟨fun _ => by first | omega | (simp_all; done), fun _ => rfl⟩⟩)
    ·
     refine qP 4 (qs [28, 29, 30, 31, 32, 33, 34, 35, 36, 37, 38, 39, 40, 41, 42, 43, 44]) [(0, .P sb 0), (28, .bool false), (32, .P sb 1)] ?_
     refine uV 3 1 (H.fc 7 rfl) ?_
     refine uP 3 ?_
     refine uD 36 ((R.election : Int) > 1000) (fun h9 => ?_) (fun h9 => ?_)
     ·
      refine uF 13 ?_
      exact uB (K (true) _ ⟨H, ⟨fun _ => by first | omega | (simp_all; done), fun _ => rfl⟩⟩)
     ·
      refine uP 4 ?_
      refine uV 3 1 (H.fc 7 rfl) ?_
      refine RW.pv (κ := .qui) (d := some 42) (r := (qs [38, 39, 40, 41, 42, 43, 44])) (v' := .I q9) (v := .I (IntKind.i64.wrap (R.election.tdiv 2))) (by as_aux_lemma => kernel_rfl) (r0) ?_
      refine uP 4 ?_
      refine uV 3 2 (H.fc 7 rfl) ?_
      refine uF 2 ?_
      exact uB (K (decide ((q9 : Int) < R.beat)) _ ⟨H, by first | (simp only [decide_eq_true_iff, Bool.not_eq_true', decide_eq_false_iff_not, Bool.not_eq_true, bne_iff_ne, beq_iff_eq, ne_eq]; omega) | (simp only [Bool.not_eq_true']; exact ⟨fun h => .inr (.inr (.inr (.inr (h)))), fun q => by rcases q with q | q | q | q | q <;> first | omega | exact q | (rw [heq9] at q; cases q)⟩) | (simp; omega) | (simp_all; done)⟩)
 ·
  rintro M w2 ⟨H, Y⟩
  refine qC M (fun N => ?_) (fun N => ?_)
  ·
   have F := Y.1 N
   refine uR 2 [.c [1, 0, 1, 0, 1], .c [2]] ?_
   refine qT (.bool false) Tryz.func30 ?_
   refine ⟨_, rfl, H.done, _, rfl, ?_⟩
   exact ⟨fun h => (by cases h), fun h => absurd h (okR_bad1 F)⟩
  ·
   have F : ¬ (R.id < 1 ∨ R.id > 32 ∨ R.beat < 1 ∨ R.election > 1000 ∨ R.election < 2 * R.beat) := fun q => absurd (Y.2 q) (by rw [N]; decide)
   refine uR 3 [.c [2, 0, 0], .c [2, 0, 1], .c [3]] ?_
   refine WK.joinV (α := Bool) (fun x_ w_ => match x_ with | O => Hp w S [] [] [] [Rp (Shape.slice (Shape.int .i64)) [.slice a R.baseConf.voters.length e] R.baseConf.voters, Rp (Shape.slice (Shape.int .i64)) [.slice f R.baseConf.learners.length g] R.baseConf.learners, Rp SB [.slice o R.snap.length s] R.snap, Rp (Shape.slice entS) [.slice t R.log.length u] R.log, Rp (Shape.slice (Shape.int .i64)) [.slice i R.votes.length j] R.votes, Rp (Shape.slice peerS) [.slice k R.peers.length l] R.peers, Rp (Shape.slice rdgS) [.slice m R.readings.length n] R.readings, Fc sb 0 [.I R.id, .I R.election, .I R.beat, .int .u64 R.term, .I R.vote, .int .u64 R.base, .int .u64 R.baseTerm, .slice a R.baseConf.voters.length e, .slice f R.baseConf.learners.length g, .slice o R.snap.length s, .slice t R.log.length u, .int .u64 R.commit, .I R.role, .I R.lead, .I R.elapsed, .I R.timeout, .slice i R.votes.length j, .slice k R.peers.length l, .int .u64 R.ctx, .slice m R.readings.length n, .I R.target]] w_ ∧ (O = true ↔ R.base ≥ 4611686018427387904 ∨ R.term ≥ 4611686018427387904 ∨ R.baseTerm > R.term ∨ okConf R.baseConf = false ∨ okRow R.log (R.base + 1) R.baseTerm R.term = false)) (fun x_ => match x_ with | O => [(0, .P sb 0), (110, .bool O)]) [Cq Tryz.prog 30 [2, 0, 1], Cq Tryz.prog 30 [3]] (fun A => ?_) ?_
   ·
    refine WK.draw1 61 [(0, .qui), (1, .qui), (2, .qui), (3, .qui), (4, .qui), (5, .qui), (6, .qui), (7, .qui), (8, .qui), (9, .qui), (10, .qui), (11, .qui), (12, .qui), (13, .qui), (14, .qui), (15, .qui), (16, .qui), (17, .qui), (18, .qui), (19, .qui), (20, .qui), (21, .qui), (22, .qui), (23, .qui), (24, .qui), (25, .qui), (26, .qui), (27, .qui), (28, .qui), (29, .qui), (30, .qui), (31, .qui), (32, .qui), (33, .chn), (34, .qui), (35, .qui), (36, .qui), (37, .qui), (38, .qui), (39, .qui), (40, .qui), (41, .qui), (42, .qui), (43, .qui), (44, .qui), (45, .qui), (46, .qui), (47, .qui), (48, .qui), (49, .qui), (50, .qui), (51, .qui), (52, .qui), (53, .qui), (54, .qui), (55, .qui), (56, .qui), (57, .qui), (58, .chn), (59, .qui), (60, .qui)] [(0, .qui), (1, .qui), (2, .qui), (3, .qui), (4, .qui), (5, .qui), (6, .qui), (7, .qui), (8, .qui), (9, .qui), (10, .qui), (11, .qui), (12, .qui), (13, .qui), (14, .qui), (15, .qui), (16, .qui), (17, .qui), (18, .qui), (19, .qui), (20, .qui), (21, .qui), (22, .qui), (23, .qui), (24, .qui), (25, .qui), (26, .qui), (27, .qui), (28, .qui), (29, .qui), (30, .qui), (31, .qui), (32, .qui), (33, .chn), (34, .qui), (35, .qui), (36, .qui), (37, .qui), (38, .qui), (39, .qui), (40, .qui), (41, .qui), (42, .qui), (43, .qui), (44, .qui), (45, .qui), (46, .qui), (47, .qui), (48, .qui), (49, .qui), (50, .qui), (51, .qui), (52, .qui), (53, .qui), (54, .qui), (55, .qui), (56, .qui), (57, .qui), (58, .chn), (59, .qui), (60, .qui)] Tryz_mixed (by as_aux_lemma => kernel_rfl) (by as_aux_lemma => kernel_rfl) (by as_aux_lemma => kernel_rfl) ?_
    have H := H.draw
    generalize ({ w2 with drawn := w2.drawn + 1 } : World) = N0 at H ⊢
    refine uP 4 ?_
    refine uV 25 5 (H.fc 7 rfl) ?_
    refine uP 2 ?_
    refine uD 56 ((R.base : Int) ≥ 4611686018427387904) (fun u0 => ?_) (fun u0 => ?_)
    ·
     refine qF 54 [(0, .P sb 0), (110, .bool true)] ?_
     exact uB (A (true) _ ⟨H, ⟨fun _ => by (try have heq9 := errOf_eq (by assumption)); first | omega | exact .inr (.inr (.inr (.inl (errOf_ne (by assumption))))) | (simp_all; done), fun _ => rfl⟩⟩)
    ·
     refine uP 4 ?_
     refine uV 25 3 (H.fc 7 rfl) ?_
     refine uP 3 ?_
     refine uD 64 ((R.term : Int) ≥ 4611686018427387904) (fun v0 => ?_) (fun v0 => ?_)
     ·
      refine uF 46 ?_
      exact uB (A (true) _ ⟨H, ⟨fun _ => by (try have heq9 := errOf_eq (by assumption)); first | omega | exact .inr (.inr (.inr (.inl (errOf_ne (by assumption))))) | (simp_all; done), fun _ => rfl⟩⟩)
     ·
      refine uP 4 ?_
      refine uV 25 6 (H.fc 7 rfl) ?_
      refine uP 4 ?_
      refine uV 25 3 (H.fc 7 rfl) ?_
      refine uP 3 ?_
      refine uD 77 ((R.baseTerm : Int) > R.term) (fun w0 => ?_) (fun w0 => ?_)
      ·
       refine uF 33 ?_
       exact uB (A (true) _ ⟨H, ⟨fun _ => by (try have heq9 := errOf_eq (by assumption)); first | omega | exact .inr (.inr (.inr (.inl (errOf_ne (by assumption))))) | (simp_all; done), fun _ => rfl⟩⟩)
      ·
       refine uP 4 ?_
       refine uV 28 7 (H.fc 7 rfl) ?_
       refine uK (check_spec (C := R.baseConf) (conf_mk (H.rp 0 rfl) (H.rp 1 rfl))) ?_
       rintro _ _ e0 rfl
       have H := H.ext e0
       refine uP 3 ?_
       refine uN 86 (errOf (okConf R.baseConf)) 0 (fun x0 => ?_) (fun x0 => ?_)
       ·
        refine uF 24 ?_
        exact uB (A (true) _ ⟨H, ⟨fun _ => by (try have heq9 := errOf_eq (by assumption)); first | omega | exact .inr (.inr (.inr (.inl (errOf_ne (by assumption))))) | (simp_all; done), fun _ => rfl⟩⟩)
       ·
        refine qP 4 [(41, .qui), (42, .qui), (43, .qui), (44, .qui), (45, .qui), (46, .qui), (47, .qui), (48, .qui), (49, .qui), (50, .qui), (51, .qui), (52, .qui), (53, .qui), (54, .qui), (55, .qui), (56, .qui), (57, .qui), (58, .chn), (59, .qui), (60, .qui)] [(0, .P sb 0), (86, .bool false), (90, .P sb 10)] ?_
        refine uV 30 10 (H.fc 7 rfl) ?_
        refine uP 4 ?_
        refine uV 25 5 (H.fc 7 rfl) ?_
        refine RW.pv (κ := .qui) (d := some 97) (r := [(48, .qui), (49, .qui), (50, .qui), (51, .qui), (52, .qui), (53, .qui), (54, .qui), (55, .qui), (56, .qui), (57, .qui), (58, .chn), (59, .qui), (60, .qui)]) (v := .int .u64 (IntKind.u64.wrap (R.base + 1))) (v' := .int .u64 (R.base + 1)) (by as_aux_lemma => kernel_rfl) (wr_u64 (by omega)) ?_
        refine uP 4 ?_
        refine uV 25 6 (H.fc 7 rfl) ?_
        refine uP 4 ?_
        refine uV 25 3 (H.fc 7 rfl) ?_
        refine uK (chained_spec (xs := R.log) (H.rp 3 rfl) (R.base + 1) R.baseTerm R.term (by omega)) ?_
        rintro _ _ f0 rfl
        have H := H.ext f0
        refine qF 2 [(0, .P sb 0), (110, .bool (!(okRow R.log (R.base + 1) R.baseTerm R.term)))] ?_
        exact A (!(okRow R.log (R.base + 1) R.baseTerm R.term)) _ ⟨H, by
         (try have heq9 := errOf_eq (by assumption)); first | (simp only [decide_eq_true_iff, Bool.not_eq_true', decide_eq_false_iff_not, Bool.not_eq_true, bne_iff_ne, beq_iff_eq, ne_eq]; omega) | (simp only [Bool.not_eq_true']; exact ⟨fun h => .inr (.inr (.inr (.inr (h)))), fun q => by rcases q with q | q | q | q | q <;> first | omega | exact q | (rw [heq9] at q; cases q)⟩) | (simp; omega) | (simp_all; done)⟩
   ·
    rintro O _ ⟨H, Z⟩
    refine qC O (fun Q => ?_) (fun Q => ?_)
    ·
     have G := Z.1 Q
     refine uR 2 [.c [2, 0, 1, 0, 1], .c [3]] ?_
     refine qT (.bool false) Tryz.func30 ?_
     refine ⟨_, rfl, H.done, _, rfl, ?_⟩
     exact ⟨fun h => (by cases h), fun h => absurd h (okR_bad2 G)⟩
    ·
     have G : ¬ (R.base ≥ 4611686018427387904 ∨ R.term ≥ 4611686018427387904 ∨ R.baseTerm > R.term ∨ okConf R.baseConf = false ∨ okRow R.log (R.base + 1) R.baseTerm R.term = false) := fun q => absurd (Z.2 q) (by rw [Q]; decide)
     refine uR 2 [.c [3, 0], .c [4]] ?_
     refine qG (sq 0 7) ?_
     refine uP 1 ?_
     refine uK (last_spec (R := R) (raft_mk (l0 := [.I R.id]) (y0 := R.id) (l1 := [.I R.election]) (y1 := R.election) (l2 := [.I R.beat]) (y2 := R.beat) (l3 := [.int .u64 R.term]) (y3 := R.term) (l4 := [.I R.vote]) (y4 := R.vote) (l5 := [.int .u64 R.base]) (y5 := R.base) (l6 := [.int .u64 R.baseTerm]) (y6 := R.baseTerm) (l7 := [.slice a R.baseConf.voters.length e, .slice f R.baseConf.learners.length g]) (y7 := R.baseConf) (l8 := [.slice o R.snap.length s]) (y8 := R.snap) (l9 := [.slice t R.log.length u]) (y9 := R.log) (l10 := [.int .u64 R.commit]) (y10 := R.commit) (l11 := [.I R.role]) (y11 := R.role) (l12 := [.I R.lead]) (y12 := R.lead) (l13 := [.I R.elapsed]) (y13 := R.elapsed) (l14 := [.I R.timeout]) (y14 := R.timeout) (l15 := [.slice i R.votes.length j]) (y15 := R.votes) (l16 := [.slice k R.peers.length l]) (y16 := R.peers) (l17 := [.int .u64 R.ctx]) (y17 := R.ctx) (l18 := [.slice m R.readings.length n]) (y18 := R.readings) (l19 := [.I R.target]) (y19 := R.target) i64a i64a i64a u64a i64a u64a u64a (conf_mk (H.rp 0 rfl) (H.rp 1 rfl)) (H.rp 2 rfl) (H.rp 3 rfl) u64a i64a i64a i64a i64a (H.rp 4 rfl) (H.rp 5 rfl) u64a (H.rp 6 rfl) i64a) (H.fact 7 rfl)) ?_
     rintro _ a0 g0 rfl
     have H := H.ext g0
     refine uF 5 ?_
     refine uR 2 [.c [4, 0, 0], .c [4, 0, 1], .c [5]] ?_
     refine WK.joinV (α := Bool) (fun x_ w_ => match x_ with | T => Hp w S [] [] [] [Rp (Shape.slice (Shape.int .i64)) [.slice a R.baseConf.voters.length e] R.baseConf.voters, Rp (Shape.slice (Shape.int .i64)) [.slice f R.baseConf.learners.length g] R.baseConf.learners, Rp SB [.slice o R.snap.length s] R.snap, Rp (Shape.slice entS) [.slice t R.log.length u] R.log, Rp (Shape.slice (Shape.int .i64)) [.slice i R.votes.length j] R.votes, Rp (Shape.slice peerS) [.slice k R.peers.length l] R.peers, Rp (Shape.slice rdgS) [.slice m R.readings.length n] R.readings, Fc sb 0 [.I R.id, .I R.election, .I R.beat, .int .u64 R.term, .I R.vote, .int .u64 R.base, .int .u64 R.baseTerm, .slice a R.baseConf.voters.length e, .slice f R.baseConf.learners.length g, .slice o R.snap.length s, .slice t R.log.length u, .int .u64 R.commit, .I R.role, .I R.lead, .I R.elapsed, .I R.timeout, .slice i R.votes.length j, .slice k R.peers.length l, .int .u64 R.ctx, .slice m R.readings.length n, .I R.target]] w_ ∧ (T = true ↔ (lastOf R).1 ≥ 4611686018427387904 ∨ (R.term = 0 ∧ R.log.length > 0) ∨ R.commit < R.base ∨ R.commit > (lastOf R).1 ∨ okPeers (lastOf R).1 R.peers 0 = false)) (fun x_ => match x_ with | T => [(0, .P sb 0), (162, .bool T)]) [Cq Tryz.prog 30 [4, 0, 1], Cq Tryz.prog 30 [5]] (fun y => ?_) ?_
     ·
      refine WK.draw1 47 [(0, .qui), (1, .qui), (2, .qui), (3, .qui), (4, .qui), (5, .qui), (6, .qui), (7, .qui), (8, .qui), (9, .qui), (10, .qui), (11, .qui), (12, .qui), (13, .qui), (14, .qui), (15, .qui), (16, .qui), (17, .qui), (18, .qui), (19, .qui), (20, .qui), (21, .qui), (22, .qui), (23, .qui), (24, .qui), (25, .qui), (26, .qui), (27, .qui), (28, .qui), (29, .qui), (30, .qui), (31, .qui), (32, .qui), (33, .qui), (34, .qui), (35, .qui), (36, .qui), (37, .qui), (38, .qui), (39, .qui), (40, .qui), (41, .qui), (42, .qui), (43, .qui), (44, .chn), (45, .qui), (46, .qui)] [(0, .qui), (1, .qui), (2, .qui), (3, .qui), (4, .qui), (5, .qui), (6, .qui), (7, .qui), (8, .qui), (9, .qui), (10, .qui), (11, .qui), (12, .qui), (13, .qui), (14, .qui), (15, .qui), (16, .qui), (17, .qui), (18, .qui), (19, .qui), (20, .qui), (21, .qui), (22, .qui), (23, .qui), (24, .qui), (25, .qui), (26, .qui), (27, .qui), (28, .qui), (29, .qui), (30, .qui), (31, .qui), (32, .qui), (33, .qui), (34, .qui), (35, .qui), (36, .qui), (37, .qui), (38, .qui), (39, .qui), (40, .qui), (41, .qui), (42, .qui), (43, .qui), (44, .chn), (45, .qui), (46, .qui)] Tryz_mixed (by as_aux_lemma => kernel_rfl) (by as_aux_lemma => kernel_rfl) (by as_aux_lemma => kernel_rfl) ?_
      have H := H.draw
      generalize ({ a0 with drawn := a0.drawn + 1 } : World) = O0 at H ⊢
      refine uP 3 ?_
      refine uD 118 (((lastOf R).1 : Int) ≥ 4611686018427387904) (fun z0 => ?_) (fun z0 => ?_)
      ·
       refine uF 44 ?_
       exact uB (y (true) _ ⟨H, ⟨fun _ => by first | omega | (simp_all; done), fun _ => rfl⟩⟩)
      ·
       refine uP 4 ?_
       refine uV 25 3 (H.fc 7 rfl) ?_
       refine qP 2 [(10, .qui), (11, .qui), (12, .qui), (13, .qui), (14, .qui), (15, .qui), (16, .qui), (17, .qui), (18, .qui), (19, .qui), (20, .qui), (21, .qui), (22, .qui), (23, .qui), (24, .qui), (25, .qui), (26, .qui), (27, .qui), (28, .qui), (29, .qui), (30, .qui), (31, .qui), (32, .qui), (33, .qui), (34, .qui), (35, .qui), (36, .qui), (37, .qui), (38, .qui), (39, .qui), (40, .qui), (41, .qui), (42, .qui), (43, .qui), (44, .chn), (45, .qui), (46, .qui)] [(0, .P sb 0), (3, .int .u64 ((lastOf R).1)), (118, .bool false), (125, .bool (R.term == 0))] ?_
       refine uE 125 R.term 0 (fun A0 => ?_) (fun A0 => ?_)
       ·
        refine uP 4 ?_
        refine uV 30 10 (H.fc 7 rfl) ?_
        refine uP 5 ?_
        refine uD 135 ((((R.log.length : Nat) : Int) : Int) > 0) (fun B0 => ?_) (fun B0 => ?_)
        ·
         refine uF 27 ?_
         exact uB (y (true) _ ⟨H, ⟨fun _ => by first | omega | (simp_all; done), fun _ => rfl⟩⟩)
        ·
         refine uP 4 ?_
         refine uV 25 11 (H.fc 7 rfl) ?_
         refine uP 4 ?_
         refine uV 25 5 (H.fc 7 rfl) ?_
         refine uP 3 ?_
         refine uD 148 ((R.commit : Int) < R.base) (fun C0 => ?_) (fun C0 => ?_)
         ·
          refine uF 14 ?_
          exact uB (y (true) _ ⟨H, ⟨fun _ => by first | omega | (simp_all; done), fun _ => rfl⟩⟩)
         ·
          refine uP 4 ?_
          refine uV 25 11 (H.fc 7 rfl) ?_
          refine uP 4 ?_
          refine uD 157 ((R.commit : Int) > (lastOf R).1) (fun D0 => ?_) (fun D0 => ?_)
          ·
           refine uF 5 ?_
           exact uB (y (true) _ ⟨H, ⟨fun _ => by first | omega | (simp_all; done), fun _ => rfl⟩⟩)
          ·
           refine qP 2 [(44, .chn), (45, .qui), (46, .qui)] [(0, .P sb 0), (157, .bool false), (158, .P sb 0), (159, .int .u64 ((lastOf R).1))] ?_
           refine uK (peers_spec (R := R) (raft_mk (l0 := [.I R.id]) (y0 := R.id) (l1 := [.I R.election]) (y1 := R.election) (l2 := [.I R.beat]) (y2 := R.beat) (l3 := [.int .u64 R.term]) (y3 := R.term) (l4 := [.I R.vote]) (y4 := R.vote) (l5 := [.int .u64 R.base]) (y5 := R.base) (l6 := [.int .u64 R.baseTerm]) (y6 := R.baseTerm) (l7 := [.slice a R.baseConf.voters.length e, .slice f R.baseConf.learners.length g]) (y7 := R.baseConf) (l8 := [.slice o R.snap.length s]) (y8 := R.snap) (l9 := [.slice t R.log.length u]) (y9 := R.log) (l10 := [.int .u64 R.commit]) (y10 := R.commit) (l11 := [.I R.role]) (y11 := R.role) (l12 := [.I R.lead]) (y12 := R.lead) (l13 := [.I R.elapsed]) (y13 := R.elapsed) (l14 := [.I R.timeout]) (y14 := R.timeout) (l15 := [.slice i R.votes.length j]) (y15 := R.votes) (l16 := [.slice k R.peers.length l]) (y16 := R.peers) (l17 := [.int .u64 R.ctx]) (y17 := R.ctx) (l18 := [.slice m R.readings.length n]) (y18 := R.readings) (l19 := [.I R.target]) (y19 := R.target) i64a i64a i64a u64a i64a u64a u64a (conf_mk (H.rp 0 rfl) (H.rp 1 rfl)) (H.rp 2 rfl) (H.rp 3 rfl) u64a i64a i64a i64a i64a (H.rp 4 rfl) (H.rp 5 rfl) u64a (H.rp 6 rfl) i64a) (H.fact 7 rfl) ((lastOf R).1) (by omega)) ?_
           rintro _ _ h0 rfl
           have H := H.ext h0
           refine uF 2 ?_
           exact uB (y (!(okPeers ((lastOf R).1) R.peers 0)) _ ⟨H, by first | (simp only [decide_eq_true_iff, Bool.not_eq_true', decide_eq_false_iff_not, Bool.not_eq_true, bne_iff_ne, beq_iff_eq, ne_eq]; omega) | (simp only [Bool.not_eq_true']; exact ⟨fun h => .inr (.inr (.inr (.inr (h)))), fun q => by rcases q with q | q | q | q | q <;> first | omega | exact q | (rw [heq9] at q; cases q)⟩) | (simp; omega) | (simp_all; done)⟩)
       ·
        refine uP 14 ?_
        refine uV 25 11 (H.fc 7 rfl) ?_
        refine uP 4 ?_
        refine uV 25 5 (H.fc 7 rfl) ?_
        refine uP 3 ?_
        refine uD 148 ((R.commit : Int) < R.base) (fun E0 => ?_) (fun E0 => ?_)
        ·
         refine uF 14 ?_
         exact uB (y (true) _ ⟨H, ⟨fun _ => by first | omega | (simp_all; done), fun _ => rfl⟩⟩)
        ·
         refine uP 4 ?_
         refine uV 25 11 (H.fc 7 rfl) ?_
         refine uP 4 ?_
         refine uD 157 ((R.commit : Int) > (lastOf R).1) (fun F0 => ?_) (fun F0 => ?_)
         ·
          refine uF 5 ?_
          exact uB (y (true) _ ⟨H, ⟨fun _ => by first | omega | (simp_all; done), fun _ => rfl⟩⟩)
         ·
          refine uP 2 ?_
          refine uK (peers_spec (R := R) (raft_mk (l0 := [.I R.id]) (y0 := R.id) (l1 := [.I R.election]) (y1 := R.election) (l2 := [.I R.beat]) (y2 := R.beat) (l3 := [.int .u64 R.term]) (y3 := R.term) (l4 := [.I R.vote]) (y4 := R.vote) (l5 := [.int .u64 R.base]) (y5 := R.base) (l6 := [.int .u64 R.baseTerm]) (y6 := R.baseTerm) (l7 := [.slice a R.baseConf.voters.length e, .slice f R.baseConf.learners.length g]) (y7 := R.baseConf) (l8 := [.slice o R.snap.length s]) (y8 := R.snap) (l9 := [.slice t R.log.length u]) (y9 := R.log) (l10 := [.int .u64 R.commit]) (y10 := R.commit) (l11 := [.I R.role]) (y11 := R.role) (l12 := [.I R.lead]) (y12 := R.lead) (l13 := [.I R.elapsed]) (y13 := R.elapsed) (l14 := [.I R.timeout]) (y14 := R.timeout) (l15 := [.slice i R.votes.length j]) (y15 := R.votes) (l16 := [.slice k R.peers.length l]) (y16 := R.peers) (l17 := [.int .u64 R.ctx]) (y17 := R.ctx) (l18 := [.slice m R.readings.length n]) (y18 := R.readings) (l19 := [.I R.target]) (y19 := R.target) i64a i64a i64a u64a i64a u64a u64a (conf_mk (H.rp 0 rfl) (H.rp 1 rfl)) (H.rp 2 rfl) (H.rp 3 rfl) u64a i64a i64a i64a i64a (H.rp 4 rfl) (H.rp 5 rfl) u64a (H.rp 6 rfl) i64a) (H.fact 7 rfl) ((lastOf R).1) (by omega)) ?_
          rintro _ _ i0 rfl
          have H := H.ext i0
          refine qF 2 [(0, .P sb 0), (162, .bool (!(okPeers ((lastOf R).1) R.peers 0)))] ?_
          exact uB (y (!(okPeers ((lastOf R).1) R.peers 0)) _ ⟨H, by first | (simp only [decide_eq_true_iff, Bool.not_eq_true', decide_eq_false_iff_not, Bool.not_eq_true, bne_iff_ne, beq_iff_eq, ne_eq]; omega) | (simp only [Bool.not_eq_true']; exact ⟨fun h => .inr (.inr (.inr (.inr (h)))), fun q => by rcases q with q | q | q | q | q <;> first | omega | exact q | (rw [heq9] at q; cases q)⟩) | (simp; omega) | (simp_all; done)⟩)
     ·
      rintro T _ ⟨H, b0⟩
      refine qC T (fun U => ?_) (fun U => ?_)
      ·
       have J := b0.1 U
       refine uR 2 [.c [4, 0, 1, 0, 1], .c [5]] ?_
       refine qT (.bool false) Tryz.func30 ?_
       refine ⟨_, rfl, H.done, _, rfl, ?_⟩
       exact ⟨fun h => (by cases h), fun h => absurd h (okR_bad3 J)⟩
      ·
       have J : ¬ ((lastOf R).1 ≥ 4611686018427387904 ∨ (R.term = 0 ∧ R.log.length > 0) ∨ R.commit < R.base ∨ R.commit > (lastOf R).1 ∨ okPeers (lastOf R).1 R.peers 0 = false) := fun q => absurd (b0.2 q) (by rw [U]; decide)
       refine uR 2 [.c [5, 0], .c [6]] ?_
       refine WK.joinV (α := Bool) (fun x_ w_ => match x_ with | V => Hp w S [] [] [] [Rp (Shape.slice (Shape.int .i64)) [.slice a R.baseConf.voters.length e] R.baseConf.voters, Rp (Shape.slice (Shape.int .i64)) [.slice f R.baseConf.learners.length g] R.baseConf.learners, Rp SB [.slice o R.snap.length s] R.snap, Rp (Shape.slice entS) [.slice t R.log.length u] R.log, Rp (Shape.slice (Shape.int .i64)) [.slice i R.votes.length j] R.votes, Rp (Shape.slice peerS) [.slice k R.peers.length l] R.peers, Rp (Shape.slice rdgS) [.slice m R.readings.length n] R.readings, Fc sb 0 [.I R.id, .I R.election, .I R.beat, .int .u64 R.term, .I R.vote, .int .u64 R.base, .int .u64 R.baseTerm, .slice a R.baseConf.voters.length e, .slice f R.baseConf.learners.length g, .slice o R.snap.length s, .slice t R.log.length u, .int .u64 R.commit, .I R.role, .I R.lead, .I R.elapsed, .I R.timeout, .slice i R.votes.length j, .slice k R.peers.length l, .int .u64 R.ctx, .slice m R.readings.length n, .I R.target]] w_ ∧ (V = true ↔ (0 ≤ R.role ∧ R.role ≤ 3) ∧ (0 ≤ R.elapsed ∧ R.elapsed ≤ 2000) ∧ (0 ≤ R.timeout ∧ R.timeout ≤ 2000) ∧ (0 ≤ R.vote ∧ R.vote ≤ 32) ∧ (0 ≤ R.lead ∧ R.lead ≤ 32) ∧ (0 ≤ R.target ∧ R.target ≤ 32))) (fun x_ => match x_ with | V => [(2, .bool V)]) [Cq Tryz.prog 30 [6]] (fun z => ?_) ?_
       ·
        refine qG (sq 0 47) ?_
        refine uP 4 ?_
        refine uV 31 12 (H.fc 7 rfl) ?_
        refine uK (within_spec (S := fun _ => True) R.role 3) ?_
        rintro _ _ j0 rfl
        have H := H.ext j0
        refine uP 1 ?_
        refine uD 169 (0 ≤ R.role ∧ R.role ≤ 3) (fun G0 => ?_) (fun G0 => ?_)
        ·
         refine uP 4 ?_
         refine uV 3 14 (H.fc 7 rfl) ?_
         refine uK (within_spec (S := fun _ => True) R.elapsed 2000) ?_
         rintro _ _ k0 rfl
         have H := H.ext k0
         refine uP 2 ?_
         refine uD 177 (0 ≤ R.elapsed ∧ R.elapsed ≤ 2000) (fun H0 => ?_) (fun H0 => ?_)
         ·
          refine uP 4 ?_
          refine uV 3 15 (H.fc 7 rfl) ?_
          refine uK (within_spec (S := fun _ => True) R.timeout 2000) ?_
          rintro _ _ m0 rfl
          have H := H.ext m0
          refine uP 2 ?_
          refine uD 185 (0 ≤ R.timeout ∧ R.timeout ≤ 2000) (fun I0 => ?_) (fun I0 => ?_)
          ·
           refine uP 4 ?_
           refine uV 3 4 (H.fc 7 rfl) ?_
           refine uK (within_spec (S := fun _ => True) R.vote 32) ?_
           rintro _ _ n0 rfl
           have H := H.ext n0
           refine uP 2 ?_
           refine uD 193 (0 ≤ R.vote ∧ R.vote ≤ 32) (fun J0 => ?_) (fun J0 => ?_)
           ·
            refine qP 4 (sq 35 47) [(0, .P sb 0), (193, .bool true), (197, .P sb 13)] ?_
            refine uV 3 13 (H.fc 7 rfl) ?_
            refine uK (within_spec (S := fun _ => True) R.lead 32) ?_
            rintro _ _ o0 rfl
            have H := H.ext o0
            refine uP 2 ?_
            refine uD 201 (0 ≤ R.lead ∧ R.lead ≤ 32) (fun K0 => ?_) (fun K0 => ?_)
            ·
             refine uP 4 ?_
             refine uV 3 20 (H.fc 7 rfl) ?_
             refine uK (within_spec (S := fun _ => True) R.target 32) ?_
             rintro _ _ p0 rfl
             have H := H.ext p0
             refine uF 2 ?_
             exact uB (z (decide (0 ≤ R.target ∧ R.target ≤ 32)) _ ⟨H, by first | (simp only [decide_eq_true_iff, Bool.not_eq_true', decide_eq_false_iff_not, Bool.not_eq_true, bne_iff_ne, beq_iff_eq, ne_eq]; omega) | (simp only [Bool.not_eq_true']; exact ⟨fun h => h, fun q => by rcases q with q <;> first | omega | exact q | (rw [heq9] at q; cases q)⟩) | (simp; omega) | (simp_all; done)⟩)
            ·
             refine uF 8 ?_
             exact uB (z (false) _ ⟨H, ⟨fun h => (by cases h), fun h => by first | omega | (simp_all; done)⟩⟩)
           ·
            refine uF 16 ?_
            exact uB (z (false) _ ⟨H, ⟨fun h => (by cases h), fun h => by first | omega | (simp_all; done)⟩⟩)
          ·
           refine qF 24 [(2, .bool false)] ?_
           exact uB (z (false) _ ⟨H, ⟨fun h => (by cases h), fun h => by first | omega | (simp_all; done)⟩⟩)
         ·
          refine uF 32 ?_
          exact uB (z (false) _ ⟨H, ⟨fun h => (by cases h), fun h => by first | omega | (simp_all; done)⟩⟩)
        ·
         refine uF 40 ?_
         exact uB (z (false) _ ⟨H, ⟨fun h => (by cases h), fun h => by first | omega | (simp_all; done)⟩⟩)
       ·
        rintro V _ ⟨H, L0⟩
        refine qT (.bool V) Tryz.func30 ?_
        refine ⟨_, rfl, H.done, _, rfl, ?_⟩
        exact L0.trans (okR_iff5 F G J)
theorem rcheck_spec {S : Nat → Prop} {w : World} {R : Raft} {cs : List Value} (hR : raftS.rep S w cs R) :
 Calls Tryz.prog 10 #[.agg cs.toArray] w (Ret fun v w' => Ext w w' ∧ ∃ b : Int, v = .I b ∧ (b = 0 ∨ b = 2) ∧ (b = 0 ↔ okR R)) := by
 obtain ⟨_, p, q, r, s, j, k, l, m, n, o, rfl, _, _, _, _, _, _, _, B, x, y, _, _, _, _, _, z, t, _, A, _⟩ := raft_open hR
 obtain ⟨a, d, e, f, rfl, g, i⟩ := conf_open B
 have hlLR := Shape.slice_len y
 have hlPR := Shape.slice_len t
 have hlBR := Shape.slice_len x
 refine uS1 Tryz.func10 ?_
 have H := Hp.startF (.rp g (.rp i (.rp x (.rp y (.rp z (.rp t (.rp A .nil)))))))
 refine uR 1 [.c [0], .c [1]] ?_
 refine qG (sq 0 2) ?_
 refine uC #[.I R.id, .I R.election, .I R.beat, .int .u64 R.term, .I R.vote, .int .u64 R.base, .int .u64 R.baseTerm, .slice a R.baseConf.voters.length d, .slice e R.baseConf.learners.length f, .slice p R.snap.length q, .slice r R.log.length s, .int .u64 R.commit, .I R.role, .I R.lead, .I R.elapsed, .I R.timeout, .slice j R.votes.length k, .slice l R.peers.length m, .int .u64 R.ctx, .slice n R.readings.length o, .I R.target] 35 H ?_
 intro _ _ H
 refine uF 1 ?_
 refine uR 2 [.c [1, 0, 0], .c [1, 0, 1], .c [2]] ?_
 refine qG (sq 0 4) ?_
 refine uV 35 0 (H.cells 0 rfl) ?_
 refine uP 1 ?_
 refine uC #[.I 0, .I 0, .I 0, .int .u64 0, .I 0, .int .u64 0, .int .u64 0, .slice none 0 0, .slice none 0 0, .slice none 0 0, .slice none 0 0, .int .u64 0, .I 0, .I 0, .I 0, .I 0, .slice none 0 0, .slice none 0 0, .int .u64 0, .slice none 0 0, .I 0] 97 H ?_
 intro _ _ H
 refine uW 97 0 #[.I R.id, .I R.election, .I R.beat, .int .u64 R.term, .I R.vote, .int .u64 R.base, .int .u64 R.baseTerm, .slice a R.baseConf.voters.length d, .slice e R.baseConf.learners.length f, .slice p R.snap.length q, .slice r R.log.length s, .int .u64 R.commit, .I R.role, .I R.lead, .I R.elapsed, .I R.timeout, .slice j R.votes.length k, .slice l R.peers.length m, .int .u64 R.ctx, .slice n R.readings.length o, .I R.target] H 0 rfl ?_
 intro _ H
 refine uF 0 ?_
 refine uR 1 [.c [1, 0, 1, 0], .c [1, 0, 2], .c [2]] ?_
 refine qG (sq 0 2) ?_
 refine uK (may_spec (R := R) (raftS.step (raft_mk (l0 := [.I R.id]) (y0 := R.id) (l1 := [.I R.election]) (y1 := R.election) (l2 := [.I R.beat]) (y2 := R.beat) (l3 := [.int .u64 R.term]) (y3 := R.term) (l4 := [.I R.vote]) (y4 := R.vote) (l5 := [.int .u64 R.base]) (y5 := R.base) (l6 := [.int .u64 R.baseTerm]) (y6 := R.baseTerm) (l7 := [.slice a R.baseConf.voters.length d, .slice e R.baseConf.learners.length f]) (y7 := R.baseConf) (l8 := [.slice p R.snap.length q]) (y8 := R.snap) (l9 := [.slice r R.log.length s]) (y9 := R.log) (l10 := [.int .u64 R.commit]) (y10 := R.commit) (l11 := [.I R.role]) (y11 := R.role) (l12 := [.I R.lead]) (y12 := R.lead) (l13 := [.I R.elapsed]) (y13 := R.elapsed) (l14 := [.I R.timeout]) (y14 := R.timeout) (l15 := [.slice j R.votes.length k]) (y15 := R.votes) (l16 := [.slice l R.peers.length m]) (y16 := R.peers) (l17 := [.int .u64 R.ctx]) (y17 := R.ctx) (l18 := [.slice n R.readings.length o]) (y18 := R.readings) (l19 := [.I R.target]) (y19 := R.target) i64a i64a i64a u64a i64a u64a u64a (conf_mk (H.rp 0 rfl) (H.rp 1 rfl)) (H.rp 2 rfl) (H.rp 3 rfl) u64a i64a i64a i64a i64a (H.rp 4 rfl) (H.rp 5 rfl) u64a (H.rp 6 rfl) i64a) fun _ _ _ => ⟨trivial, rfl⟩) (H.viewM 0 rfl (by simp))) ?_
 rintro _ _ C ⟨bm, rfl, hbm⟩
 have H := H.ext C
 refine uF 1 ?_
 refine qC (!bm) (fun u => ?_) (fun u => ?_)
 ·
  replace u : (bm) = false := by revert u; cases (bm) <;> simp
  refine uR 2 [.c [1, 0, 2, 0, 1], .c [2]] ?_
  refine qT (.I 2) Tryz.func10 ?_
  refine ⟨_, rfl, H.done, _, rfl, by decide, ?_⟩
  exact ⟨fun h => absurd h (by decide), fun h => absurd (hbm.2 h) (by simp [*])⟩
 ·
  replace u : (bm) = true := by revert u; cases (bm) <;> simp
  refine uR 3 [.c [3]] ?_
  refine qT (.I 0) Tryz.func10 ?_
  refine ⟨_, rfl, H.done, _, rfl, by decide, ?_⟩
  exact ⟨fun _ => hbm.1 (by assumption), fun _ => rfl⟩
end Go.Proofs.YtkjkmogipidkiaaGreat
