import Derived.Test.YtkjkmogipidkiaaGreatSBxA
import Derived.Test.YtkjkmogipidkiaaGreatSA1
namespace Go.Proofs.YtkjkmogipidkiaaGreat
open Go.BX
theorem refrow_spec {S : Nat → Prop} {w : World} {xs : List Ent} {a : Option Addr} {c : Nat} (h : (Shape.slice entS).rep S w [.slice a xs.length c] xs) (ix t m : Int) (hix : 0 ≤ ix ∧ ix + xs.length ≤ 18446744073709551615) :
 Calls Tryz.prog 66 #[.slice a xs.length c, .int .u64 ix, .int .u64 t, .int .u64 m] w (Ret fun v w' => Ext w w' ∧ v = .bool (okRow xs ix t m)) := by
 have hlen := Shape.slice_len h
 refine uS1 Tryz.func66 ?_
 have H := Hp.startF (.rp h .nil)
 refine uR 6 [.c [1, 0, 1, 0], .b 0, .c [2]] ?_
 refine uL (α := Nat × Int) (g := 66) (p := [1, 0, 1, 0, 0]) (fun (k, i) => [(0, .slice a xs.length c), (1, .int .u64 ix), (2, .int .u64 i), (3, .int .u64 m), (9, .I k)]) (fun (k, i) w' => Hp w S [] [] [] [Rp (Shape.slice entS) [.slice a xs.length c] xs] w' ∧ k ≤ xs.length ∧ okRow xs ix t m = okRow (xs.drop k) (ix + (k : Int)) i m) (fun (k, i) => xs.length - k) (0, t) ⟨H, Nat.zero_le _, by simp⟩ ?_
 rintro ⟨k, i⟩ _ ⟨H, e⟩ f
 refine uR 3 [.c [1, 0, 1, 0, 0, 0, 1], .c [1, 0, 1, 0, 0, 1], .l [1, 0, 1, 0, 0], .b 0, .c [2]] ?_
 refine qD (((k : Int) : Int) < ((xs.length : Nat) : Int)) (fun T => ?_) (fun T => ?_)
 ·
  refine uR 4 [.c [1, 0, 1, 0, 0, 1, 0, 0, 0], .c [1, 0, 1, 0, 0, 1, 0, 0, 1], .b 1, .c [1, 0, 1, 0, 0, 2], .l [1, 0, 1, 0, 0], .b 0, .c [2]] ?_
  refine qG (sq 0 6) ?_
  refine uP 2 ?_
  have L : k < xs.length := by omega
  refine uX 30 (k : Int) H 0 rfl k (by omega) (List.getElem?_eq_getElem L) ?_
  intro _ _ _ M H
  obtain ⟨_, _, rfl, _, _, _, A, B⟩ := ent_open M
  obtain ⟨_, _, rfl, _, _, _, _, _, _, _, _, _, D, E⟩ := cmd_open A
  obtain ⟨rfl, _, _, _⟩ := cid_open D
  obtain ⟨o, s, rfl, _, F⟩ := amap_open E
  obtain ⟨u, x, y, z, rfl, G, J⟩ := conf_open B
  have H := H.addR F
  have H := H.addR G
  have H := H.addR J
  refine uV 71 0 (H.fc 3 rfl) ?_
  refine uC #[.int .u64 0, .int .u64 0, .I 0, .I 0, .int .u64 0, .int .u64 0, .string (⟨#[]⟩ : ByteArray), .I 0, .int .u32 0, .int .u64 0, .int .u64 0, .I 0, .I 0, .bool false, .int .u64 0, .I 0, .int .u64 0, .int .u64 0, .slice none 0 0, .slice none 0 0, .slice none 0 0] 71 H ?_
  intro j _ H
  refine uW 71 0 #[.int .u64 ((xs[k]).index), .int .u64 ((xs[k]).term), .I ((xs[k]).kind), .I (((xs[k]).cmd).kind), .int .u64 (((xs[k]).cmd).client), .int .u64 (((xs[k]).cmd).seq), .string (((xs[k]).cmd).key), .I (((xs[k]).cmd).size), .int .u32 (((((xs[k]).cmd).sum).toNat : Nat) : Int), .int .u64 (((xs[k]).cmd).version), .int .u64 (((xs[k]).cmd).epoch), .I (((xs[k]).cmd).group), .I (((xs[k]).cmd).node), .bool (((xs[k]).cmd).up), .int .u64 ((((xs[k]).cmd).id).version), .I ((((xs[k]).cmd).id).index), .int .u64 ((((xs[k]).cmd).id).epoch), .int .u64 ((((xs[k]).cmd).amap).epoch), .slice o ((((xs[k]).cmd).amap).members.length) s, .slice u (((xs[k]).conf).voters.length) x, .slice y (((xs[k]).conf).learners.length) z] H 0 rfl ?_
  intro _ H
  refine uF 0 ?_
  refine uR 2 [.c [1, 0, 1, 0, 0, 1, 0, 0, 1, 0, 0], .c [1, 0, 1, 0, 0, 1, 0, 0, 1, 0, 1], .c [1, 0, 1, 0, 0, 1, 0, 0, 2], .b 1, .c [1, 0, 1, 0, 0, 2], .l [1, 0, 1, 0, 0], .b 0, .c [2]] ?_
  refine qG (sq 0 19) ?_
  refine uP 1 ?_
  refine uV 25 0 (H.cells 0 rfl) ?_
  refine uP 2 ?_
  refine RW.pv (κ := .seq) (d := some 25) (r := (sq 5 19)) (v' := .int .u64 (k : Int)) (v := .int .u64 (IntKind.u64.wrap ((k : Int)))) (by as_aux_lemma => kernel_rfl) (wr_u64 (by omega)) ?_
  refine RW.pv (κ := .seq) (d := some 26) (r := (sq 6 19)) (v := .int .u64 (IntKind.u64.wrap (ix + (k : Int)))) (v' := .int .u64 (ix + (k : Int))) (by as_aux_lemma => kernel_rfl) (wr_u64 (by omega)) ?_
  refine uP 2 ?_
  refine uN 28 ((xs[k]).index) (ix + (k : Int)) (fun N => ?_) (fun N => ?_)
  ·
   refine uF 11 ?_
   refine uR 3 [.c [1, 0, 1, 0, 0, 1, 0, 0, 1, 0, 1, 0, 1], .c [1, 0, 1, 0, 0, 1, 0, 0, 2], .b 1, .c [1, 0, 1, 0, 0, 2], .l [1, 0, 1, 0, 0], .b 0, .c [2]] ?_
   refine qT (.bool false) Tryz.func66 ?_
   refine ⟨_, rfl, H.done, ?_⟩
   congr 1
   rw [e.2]
   rw [okRow_step (by omega), if_pos (by first | omega | exact .inr (.inr (.inr ⟨by omega, hoc⟩)))]
  ·
   refine qP 1 (sq 9 19) [(0, .slice a xs.length c), (1, .int .u64 ix), (2, .int .u64 i), (3, .int .u64 m), (9, .I k), (10, .P j 0), (28, .bool false), (29, .P j 1)] ?_
   refine uV 25 1 (H.cells 0 rfl) ?_
   refine uP 4 ?_
   refine uD 34 (((xs[k]).term : Int) < i) (fun O => ?_) (fun O => ?_)
   ·
    refine uF 5 ?_
    refine uR 3 [.c [1, 0, 1, 0, 0, 1, 0, 0, 1, 0, 1, 0, 1], .c [1, 0, 1, 0, 0, 1, 0, 0, 2], .b 1, .c [1, 0, 1, 0, 0, 2], .l [1, 0, 1, 0, 0], .b 0, .c [2]] ?_
    refine qT (.bool false) Tryz.func66 ?_
    refine ⟨_, rfl, H.done, ?_⟩
    congr 1
    rw [e.2]
    rw [okRow_step (by omega), if_pos (by first | omega | exact .inr (.inr (.inr ⟨by omega, hoc⟩)))]
   ·
    refine uP 1 ?_
    refine uV 25 1 (H.cells 0 rfl) ?_
    refine uF 3 ?_
    refine qD (((xs[k]).term : Int) > m) (fun Q => ?_) (fun Q => ?_)
    ·
     refine uR 2 [.c [1, 0, 1, 0, 0, 1, 0, 0, 1, 0, 1, 0, 1], .c [1, 0, 1, 0, 0, 1, 0, 0, 2], .b 1, .c [1, 0, 1, 0, 0, 2], .l [1, 0, 1, 0, 0], .b 0, .c [2]] ?_
     refine qT (.bool false) Tryz.func66 ?_
     refine ⟨_, rfl, H.done, ?_⟩
     congr 1
     rw [e.2]
     rw [okRow_step (by omega), if_pos (by first | omega | exact .inr (.inr (.inr ⟨by omega, hoc⟩)))]
    ·
     refine uR 3 [.c [1, 0, 1, 0, 0, 1, 0, 0, 2, 0, 0], .c [1, 0, 1, 0, 0, 1, 0, 0, 2, 0, 1], .c [1, 0, 1, 0, 0, 1, 0, 0, 3], .b 1, .c [1, 0, 1, 0, 0, 2], .l [1, 0, 1, 0, 0], .b 0, .c [2]] ?_
     refine qG (sq 0 9) ?_
     refine uP 1 ?_
     refine uV 69 2 (H.cells 0 rfl) ?_
     refine uP 2 ?_
     refine uE 43 ((xs[k]).kind) 2 (fun R => ?_) (fun R => ?_)
     ·
      refine uP 1 ?_
      refine uV 28 19 (H.cells 0 rfl) ?_
      refine uK (refcheck_spec (C := ((xs[k]).conf)) (conf_mk (H.rp 1 rfl) (H.rp 0 rfl))) ?_
      rintro _ _ K rfl
      have H := H.ext K
      refine qF 2 [(0, .slice a xs.length c), (1, .int .u64 ix), (3, .int .u64 m), (9, .I k), (10, .P j 0), (48, .bool ((errOf (okConf ((xs[k]).conf))) != 0))] ?_
      refine qN (errOf (okConf ((xs[k]).conf))) 0 (fun n => ?_) (fun n => ?_)
      ·
       have hoc := errOf_ne n
       refine uR 2 [.c [1, 0, 1, 0, 0, 1, 0, 0, 2, 0, 1, 0, 1], .c [1, 0, 1, 0, 0, 1, 0, 0, 3], .b 1, .c [1, 0, 1, 0, 0, 2], .l [1, 0, 1, 0, 0], .b 0, .c [2]] ?_
       refine qT (.bool false) Tryz.func66 ?_
       refine ⟨_, rfl, H.done, ?_⟩
       congr 1
       rw [e.2]
       rw [okRow_step (by omega), if_pos (by first | omega | exact .inr (.inr (.inr ⟨by omega, hoc⟩)))]
      ·
       have hoc := errOf_eq n
       refine uR 1 [.c [1, 0, 1, 0, 0, 1, 0, 0, 3], .b 1, .c [1, 0, 1, 0, 0, 2], .l [1, 0, 1, 0, 0], .b 0, .c [2]] ?_
       refine qG (sq 0 3) ?_
       refine uP 1 ?_
       refine uV 25 1 (H.cells 0 rfl) ?_
       refine uF 1 ?_
       refine uR 1 [.c [1, 0, 1, 0, 0, 2], .l [1, 0, 1, 0, 0], .b 0, .c [2]] ?_
       refine qG (sq 0 3) ?_
       refine uP 1 ?_
       refine uI ((k : Int) + 1) ?_
       refine uF 1 ?_
       have H := H.pick [4] rfl
       have H := H.take 0 0
       exact uB (f (k + 1, (xs[k]).term) _ ⟨H, by omega, by rw [e.2, okRow_step (by omega), if_neg (by rintro (q | q | q | q) <;> first | omega | (rw [hoc] at q; exact absurd q.2 (by decide)))]; congr 1; omega⟩ (by first | omega | (simp only []; omega)))
     ·
      refine uF 5 ?_
      refine uR 2 [.c [1, 0, 1, 0, 0, 1, 0, 0, 3], .b 1, .c [1, 0, 1, 0, 0, 2], .l [1, 0, 1, 0, 0], .b 0, .c [2]] ?_
      refine qG (sq 0 3) ?_
      refine uP 1 ?_
      refine uV 25 1 (H.cells 0 rfl) ?_
      refine uF 1 ?_
      refine uR 1 [.c [1, 0, 1, 0, 0, 2], .l [1, 0, 1, 0, 0], .b 0, .c [2]] ?_
      refine qG (sq 0 3) ?_
      refine uP 1 ?_
      refine uI ((k : Int) + 1) ?_
      refine uF 1 ?_
      have H := H.pick [4] rfl
      have H := H.take 0 0
      exact uB (f (k + 1, (xs[k]).term) _ ⟨H, by omega, by rw [e.2, okRow_step (by omega), if_neg (by rintro (q | q | q | q) <;> first | omega | (rw [hoc] at q; exact absurd q.2 (by decide)))]; congr 1; omega⟩ (by first | omega | (simp only []; omega)))
 ·
  refine uR 3 [.c [3]] ?_
  refine qT (.bool true) Tryz.func66 ?_
  refine ⟨_, rfl, H.done, ?_⟩
  congr 1
  rw [e.2]
  rw [List.drop_of_length_le (by omega)]; rfl
theorem reflast_spec {S : Nat → Prop} {w : World} {R : Raft} {cs : List Value} (hR : raftS.rep S w cs R) :
 Calls Tryz.prog 43 #[.agg cs.toArray] w (Ret fun v w' => Ext w w' ∧ v = .tuple #[.int .u64 (lastOf R).1, .int .u64 (lastOf R).2]) := by
 obtain ⟨_, K, L, M, N, r, s, t, u, x, y, rfl, _, _, _, _, _, _, _, O, o, p, _, _, _, _, _, z, h, _, A, _⟩ := raft_open hR
 obtain ⟨a, b, d, e, rfl, f, g⟩ := conf_open O
 have hlLR := Shape.slice_len p
 have hlPR := Shape.slice_len h
 have hlBR := Shape.slice_len o
 refine uS1 Tryz.func43 ?_
 have H := Hp.startF (.rp f (.rp g (.rp o (.rp p (.rp z (.rp h (.rp A .nil)))))))
 refine uR 1 [.c [0], .c [1]] ?_
 refine qG (sq 0 3) ?_
 refine uC #[.I R.id, .I R.election, .I R.beat, .int .u64 R.term, .I R.vote, .int .u64 R.base, .int .u64 R.baseTerm, .slice a R.baseConf.voters.length b, .slice d R.baseConf.learners.length e, .slice K R.snap.length L, .slice M R.log.length N, .int .u64 R.commit, .I R.role, .I R.lead, .I R.elapsed, .I R.timeout, .slice r R.votes.length s, .slice t R.peers.length u, .int .u64 R.ctx, .slice x R.readings.length y, .I R.target] 35 H ?_
 intro Q T H
 refine uF 2 ?_
 refine uR 2 [.c [1, 0, 0], .c [1, 0, 1], .c [2]] ?_
 refine qG (sq 0 4) ?_
 refine uP 1 ?_
 refine uV 30 10 (H.cells 0 rfl) ?_
 refine uF 2 ?_
 refine qE ((R.log.length : Nat) : Int) 0 (fun W => ?_) (fun W => ?_)
 ·
  refine uR 1 [.c [1, 0, 1, 0, 0], .c [1, 0, 1, 0, 1], .c [2]] ?_
  refine WK.draw1 6 (qs [0, 1, 2, 3, 4, 5]) (qs [0, 1, 2, 3, 4, 5]) Tryz_mixed (by as_aux_lemma => kernel_rfl) (by as_aux_lemma => kernel_rfl) (by as_aux_lemma => kernel_rfl) ?_
  have H := H.draw
  generalize ({ T with drawn := T.drawn + 1 } : World) = Y at H ⊢
  refine uP 1 ?_
  refine uV 25 5 (H.cells 0 rfl) ?_
  refine uP 1 ?_
  refine uV 25 6 (H.cells 0 rfl) ?_
  refine uF 2 ?_
  refine qT (.tuple #[.int .u64 R.base, .int .u64 R.baseTerm]) Tryz.func43 ?_
  refine ⟨_, rfl, H.done, ?_⟩
  rw [lastOf_none (by omega)]
 ·
  refine uR 2 [.c [2, 0], .c [3]] ?_
  refine qG (sq 0 10) ?_
  refine qP 1 (sq 1 10) [(1, .P Q 0), (13, .P Q 10)] ?_
  refine uV 30 10 (H.cells 0 rfl) ?_
  refine uP 1 ?_
  refine uV 30 10 (H.cells 0 rfl) ?_
  refine uP 1 ?_
  refine uI (((R.log.length : Nat) : Int) - 1) ?_
  have U : (R.log.length - 1) < R.log.length := by omega
  refine uX 30 (((R.log.length : Nat) : Int) - 1) H 3 rfl (R.log.length - 1) (by omega) (List.getElem?_eq_getElem U) ?_
  intro _ _ _ V H
  obtain ⟨_, _, rfl, _, _, _, B, C⟩ := ent_open V
  obtain ⟨_, _, rfl, _, _, _, _, _, _, _, _, _, D, E⟩ := cmd_open B
  obtain ⟨rfl, _, _, _⟩ := cid_open D
  obtain ⟨i, j, rfl, _, F⟩ := amap_open E
  obtain ⟨k, l, m, n, rfl, G, J⟩ := conf_open C
  have H := H.addR F
  have H := H.addR G
  have H := H.addR J
  refine uV 71 0 (H.fc 3 rfl) ?_
  refine uC #[.int .u64 0, .int .u64 0, .I 0, .I 0, .int .u64 0, .int .u64 0, .string (⟨#[]⟩ : ByteArray), .I 0, .int .u32 0, .int .u64 0, .int .u64 0, .I 0, .I 0, .bool false, .int .u64 0, .I 0, .int .u64 0, .int .u64 0, .slice none 0 0, .slice none 0 0, .slice none 0 0] 71 H ?_
  intro _ _ H
  refine uW 71 0 #[.int .u64 ((R.log[(R.log.length - 1)]).index), .int .u64 ((R.log[(R.log.length - 1)]).term), .I ((R.log[(R.log.length - 1)]).kind), .I (((R.log[(R.log.length - 1)]).cmd).kind), .int .u64 (((R.log[(R.log.length - 1)]).cmd).client), .int .u64 (((R.log[(R.log.length - 1)]).cmd).seq), .string (((R.log[(R.log.length - 1)]).cmd).key), .I (((R.log[(R.log.length - 1)]).cmd).size), .int .u32 (((((R.log[(R.log.length - 1)]).cmd).sum).toNat : Nat) : Int), .int .u64 (((R.log[(R.log.length - 1)]).cmd).version), .int .u64 (((R.log[(R.log.length - 1)]).cmd).epoch), .I (((R.log[(R.log.length - 1)]).cmd).group), .I (((R.log[(R.log.length - 1)]).cmd).node), .bool (((R.log[(R.log.length - 1)]).cmd).up), .int .u64 ((((R.log[(R.log.length - 1)]).cmd).id).version), .I ((((R.log[(R.log.length - 1)]).cmd).id).index), .int .u64 ((((R.log[(R.log.length - 1)]).cmd).id).epoch), .int .u64 ((((R.log[(R.log.length - 1)]).cmd).amap).epoch), .slice i ((((R.log[(R.log.length - 1)]).cmd).amap).members.length) j, .slice k (((R.log[(R.log.length - 1)]).conf).voters.length) l, .slice m (((R.log[(R.log.length - 1)]).conf).learners.length) n] H 0 rfl ?_
  intro q H
  refine uF 0 ?_
  refine uR 1 [.c [3, 0], .c [4]] ?_
  refine WK.draw1 6 (qs [0, 1, 2, 3, 4, 5]) (qs [0, 1, 2, 3, 4, 5]) Tryz_mixed (by as_aux_lemma => kernel_rfl) (by as_aux_lemma => kernel_rfl) (by as_aux_lemma => kernel_rfl) ?_
  have H := H.draw
  generalize ({ q with drawn := q.drawn + 1 } : World) = X at H ⊢
  refine uP 1 ?_
  refine uV 25 0 (H.cells 0 rfl) ?_
  refine uP 1 ?_
  refine uV 25 1 (H.cells 0 rfl) ?_
  refine uF 2 ?_
  refine qT (.tuple #[.int .u64 ((R.log[(R.log.length - 1)]).index), .int .u64 ((R.log[(R.log.length - 1)]).term)]) Tryz.func43 ?_
  refine ⟨_, rfl, H.done, ?_⟩
  rw [lastOf_some (by omega)]
theorem okR_bad4 {R : Raft} (h : R.role < 0 ∨ R.role > 3 ∨ R.elapsed < 0 ∨ R.elapsed > 2000 ∨ R.timeout < 0 ∨ R.timeout > 2000) : ¬ okR R := fun q => by have := q.2.2.2.2.1; unfold ok5 at this; omega
theorem okR_bad6 {R : Raft} (h : R.vote < 0 ∨ R.vote > 32 ∨ R.lead < 0 ∨ R.lead > 32 ∨ R.target < 0 ∨ R.target > 32) : ¬ okR R := fun q => by have := q.2.2.2.2.2; unfold ok6 at this; omega
theorem okR_bad3a {R : Raft} (h : (lastOf R).1 ≥ 4611686018427387904 ∨ (R.term = 0 ∧ R.log.length > 0) ∨ R.commit < R.base ∨ R.commit > (lastOf R).1) : ¬ okR R := okR_bad3 (by rcases h with h | h | h | h; exact .inl h; exact .inr (.inl h); exact .inr (.inr (.inl h)); exact .inr (.inr (.inr (.inl h))))
theorem okR_bad5 {R : Raft} (h : okPeers (lastOf R).1 R.peers 0 = false) : ¬ okR R := okR_bad3 (.inr (.inr (.inr (.inr h))))
theorem okR_of {R : Raft} (h1 : ¬ (R.id < 1 ∨ R.id > 32 ∨ R.beat < 1 ∨ R.election > 1000 ∨ R.election < 2 * R.beat)) (h2 : ¬ (R.base ≥ 4611686018427387904 ∨ R.term ≥ 4611686018427387904 ∨ R.baseTerm > R.term ∨ okConf R.baseConf = false ∨ okRow R.log (R.base + 1) R.baseTerm R.term = false)) (h3 : ¬ ((lastOf R).1 ≥ 4611686018427387904 ∨ (R.term = 0 ∧ R.log.length > 0) ∨ R.commit < R.base ∨ R.commit > (lastOf R).1)) (h4 : ¬ (R.role < 0 ∨ R.role > 3 ∨ R.elapsed < 0 ∨ R.elapsed > 2000 ∨ R.timeout < 0 ∨ R.timeout > 2000)) (h6 : ¬ (R.vote < 0 ∨ R.vote > 32 ∨ R.lead < 0 ∨ R.lead > 32 ∨ R.target < 0 ∨ R.target > 32)) (h5 : okPeers (lastOf R).1 R.peers 0 = true) : okR R :=
 (okR_iff5 h1 h2 (by rintro (q | q | q | q | q); exact h3 (.inl q); exact h3 (.inr (.inl q)); exact h3 (.inr (.inr (.inl q))); exact h3 (.inr (.inr (.inr q))); rw [h5] at q; cases q)).1 (by omega)
set_option maxHeartbeats 4000000 in
theorem refrcheck_spec {S : Nat → Prop} {w : World} {R : Raft} {cs : List Value} (hR : raftS.rep S w cs R) :
 Calls Tryz.prog 40 #[.agg cs.toArray] w (Ret fun v w' => Ext w w' ∧ ∃ b : Int, v = .I b ∧ (b = 0 ∨ b = 2) ∧ (b = 0 ↔ okR R)) := by
 obtain ⟨_, y, z, A, B, j, m, n, o, s, t, rfl, _, _, _, _, _, _, _, t0, d0, e0, _, _, _, _, _, m0, W, _, n0, _⟩ := raft_open hR
 obtain ⟨a, e, f, i, rfl, K, L⟩ := conf_open t0
 have hlLR := Shape.slice_len e0
 have hlPR := Shape.slice_len W
 have hlBR := Shape.slice_len d0
 obtain ⟨q9, u0, v0⟩ := half (x := R.election) (by omega)
 have W0 := v0 R.beat
 refine uS1 Tryz.func40 ?_
 have H := Hp.startF (.rp K (.rp L (.rp d0 (.rp e0 (.rp m0 (.rp W (.rp n0 .nil)))))))
 refine uR 1 [.c [0], .c [1]] ?_
 refine qG (sq 0 2) ?_
 refine uC #[.I R.id, .I R.election, .I R.beat, .int .u64 R.term, .I R.vote, .int .u64 R.base, .int .u64 R.baseTerm, .slice a R.baseConf.voters.length e, .slice f R.baseConf.learners.length i, .slice y R.snap.length z, .slice A R.log.length B, .int .u64 R.commit, .I R.role, .I R.lead, .I R.elapsed, .I R.timeout, .slice j R.votes.length m, .slice n R.peers.length o, .int .u64 R.ctx, .slice s R.readings.length t, .I R.target] 35 H ?_
 intro u _ H
 refine uF 1 ?_
 refine uR 2 [.c [1, 0, 0], .c [1, 0, 1], .c [2]] ?_
 refine WK.joinV (α := Bool) (fun x_ w_ => match x_ with | X => Hp w S [] [(u, .cells #[.I R.id, .I R.election, .I R.beat, .int .u64 R.term, .I R.vote, .int .u64 R.base, .int .u64 R.baseTerm, .slice a R.baseConf.voters.length e, .slice f R.baseConf.learners.length i, .slice y R.snap.length z, .slice A R.log.length B, .int .u64 R.commit, .I R.role, .I R.lead, .I R.elapsed, .I R.timeout, .slice j R.votes.length m, .slice n R.peers.length o, .int .u64 R.ctx, .slice s R.readings.length t, .I R.target] 35 (0, 0))] [] [Rp (Shape.slice (Shape.int .i64)) [.slice a R.baseConf.voters.length e] R.baseConf.voters, Rp (Shape.slice (Shape.int .i64)) [.slice f R.baseConf.learners.length i] R.baseConf.learners, Rp SB [.slice y R.snap.length z] R.snap, Rp (Shape.slice entS) [.slice A R.log.length B] R.log, Rp (Shape.slice (Shape.int .i64)) [.slice j R.votes.length m] R.votes, Rp (Shape.slice peerS) [.slice n R.peers.length o] R.peers, Rp (Shape.slice rdgS) [.slice s R.readings.length t] R.readings] w_ ∧ (X = true ↔ R.id < 1 ∨ R.id > 32 ∨ R.beat < 1 ∨ R.election > 1000 ∨ R.election < 2 * R.beat)) (fun x_ => match x_ with | X => [(1, .P u 0), (33, .bool X)]) [Cq Tryz.prog 40 [1, 0, 1], Cq Tryz.prog 40 [2]] (fun U => ?_) ?_
 ·
  refine qG (sq 0 26) ?_
  refine uP 1 ?_
  refine uV 3 0 (H.cells 0 rfl) ?_
  refine uP 2 ?_
  refine uD 11 ((R.id : Int) < 1) (fun h5 => ?_) (fun h5 => ?_)
  ·
   refine uF 22 ?_
   exact uB (U (true) _ ⟨H, ⟨fun _ => by first | omega | (simp_all; done), fun _ => rfl⟩⟩)
  ·
   refine uP 1 ?_
   refine uV 3 0 (H.cells 0 rfl) ?_
   refine uP 3 ?_
   refine uD 16 ((R.id : Int) > 32) (fun h6 => ?_) (fun h6 => ?_)
   ·
    refine uF 17 ?_
    exact uB (U (true) _ ⟨H, ⟨fun _ => by first | omega | (simp_all; done), fun _ => rfl⟩⟩)
   ·
    refine uP 1 ?_
    refine uV 3 2 (H.cells 0 rfl) ?_
    refine qP 3 (sq 14 26) [(1, .P u 0), (21, .bool (decide ((R.beat : Int) < 1)))] ?_
    refine uD 21 ((R.beat : Int) < 1) (fun h7 => ?_) (fun h7 => ?_)
    ·
     refine uF 12 ?_
     exact uB (U (true) _ ⟨H, ⟨fun _ => by first | omega | (simp_all; done), fun _ => rfl⟩⟩)
    ·
     refine uP 1 ?_
     refine uV 3 1 (H.cells 0 rfl) ?_
     refine uP 3 ?_
     refine uD 26 ((R.election : Int) > 1000) (fun h8 => ?_) (fun h8 => ?_)
     ·
      refine uF 7 ?_
      exact uB (U (true) _ ⟨H, ⟨fun _ => by first | omega | (simp_all; done), fun _ => rfl⟩⟩)
     ·
      refine uP 1 ?_
      refine uV 3 1 (H.cells 0 rfl) ?_
      refine RW.pv (κ := .seq) (d := some 29) (r := (sq 22 26)) (v' := .I q9) (v := .I (IntKind.i64.wrap (R.election.tdiv 2))) (by as_aux_lemma => kernel_rfl) (u0) ?_
      refine uP 1 ?_
      refine uV 3 2 (H.cells 0 rfl) ?_
      refine uF 2 ?_
      exact uB (U (decide ((q9 : Int) < R.beat)) _ ⟨H, by first | (simp only [decide_eq_true_iff, Bool.not_eq_true', decide_eq_false_iff_not, Bool.not_eq_true, bne_iff_ne, beq_iff_eq, ne_eq]; omega) | (simp only [Bool.not_eq_true']; exact ⟨fun h => .inr (.inr (.inr (.inr (h)))), fun q => by rcases q with q | q | q | q | q <;> first | omega | exact q | (rw [heq9] at q; cases q)⟩) | (simp; omega) | (simp_all; done)⟩)
 ·
  rintro X _ ⟨H, f0⟩
  refine qC X (fun h9 => ?_) (fun h9 => ?_)
  ·
   have M := f0.1 h9
   refine uR 2 [.c [1, 0, 1, 0, 1], .c [2]] ?_
   refine qT (.I 2) Tryz.func40 ?_
   refine ⟨_, rfl, H.done, _, rfl, by decide, ?_⟩
   exact ⟨fun h => absurd h (by decide), fun h => absurd h (okR_bad1 M)⟩
  ·
   have M : ¬ (R.id < 1 ∨ R.id > 32 ∨ R.beat < 1 ∨ R.election > 1000 ∨ R.election < 2 * R.beat) := fun q => absurd (f0.2 q) (by rw [h9]; decide)
   refine uR 3 [.c [2, 0, 0], .c [2, 0, 1], .c [3]] ?_
   refine WK.joinV (α := Bool) (fun x_ w_ => match x_ with | Y => Hp w S [] [(u, .cells #[.I R.id, .I R.election, .I R.beat, .int .u64 R.term, .I R.vote, .int .u64 R.base, .int .u64 R.baseTerm, .slice a R.baseConf.voters.length e, .slice f R.baseConf.learners.length i, .slice y R.snap.length z, .slice A R.log.length B, .int .u64 R.commit, .I R.role, .I R.lead, .I R.elapsed, .I R.timeout, .slice j R.votes.length m, .slice n R.peers.length o, .int .u64 R.ctx, .slice s R.readings.length t, .I R.target] 35 (0, 0))] [] [Rp (Shape.slice (Shape.int .i64)) [.slice a R.baseConf.voters.length e] R.baseConf.voters, Rp (Shape.slice (Shape.int .i64)) [.slice f R.baseConf.learners.length i] R.baseConf.learners, Rp SB [.slice y R.snap.length z] R.snap, Rp (Shape.slice entS) [.slice A R.log.length B] R.log, Rp (Shape.slice (Shape.int .i64)) [.slice j R.votes.length m] R.votes, Rp (Shape.slice peerS) [.slice n R.peers.length o] R.peers, Rp (Shape.slice rdgS) [.slice s R.readings.length t] R.readings] w_ ∧ (Y = true ↔ R.base ≥ 4611686018427387904 ∨ R.term ≥ 4611686018427387904 ∨ R.baseTerm > R.term ∨ okConf R.baseConf = false ∨ okRow R.log (R.base + 1) R.baseTerm R.term = false)) (fun x_ => match x_ with | Y => [(1, .P u 0), (67, .bool Y)]) [Cq Tryz.prog 40 [2, 0, 1], Cq Tryz.prog 40 [3]] (fun J => ?_) ?_
   ·
    refine qG (sq 0 34) ?_
    refine qP 1 (sq 1 34) [(1, .P u 0), (34, .P u 5)] ?_
    refine uV 25 5 (H.cells 0 rfl) ?_
    refine uP 2 ?_
    refine uD 37 ((R.base : Int) ≥ 4611686018427387904) (fun w0 => ?_) (fun w0 => ?_)
    ·
     refine uF 30 ?_
     exact uB (J (true) _ ⟨H, ⟨fun _ => by (try have heq9 := errOf_eq (by assumption)); first | omega | exact .inr (.inr (.inr (.inl (errOf_ne (by assumption))))) | (simp_all; done), fun _ => rfl⟩⟩)
    ·
     refine uP 1 ?_
     refine uV 25 3 (H.cells 0 rfl) ?_
     refine uP 3 ?_
     refine uD 42 ((R.term : Int) ≥ 4611686018427387904) (fun x0 => ?_) (fun x0 => ?_)
     ·
      refine uF 25 ?_
      exact uB (J (true) _ ⟨H, ⟨fun _ => by (try have heq9 := errOf_eq (by assumption)); first | omega | exact .inr (.inr (.inr (.inl (errOf_ne (by assumption))))) | (simp_all; done), fun _ => rfl⟩⟩)
     ·
      refine uP 1 ?_
      refine uV 25 6 (H.cells 0 rfl) ?_
      refine uP 1 ?_
      refine uV 25 3 (H.cells 0 rfl) ?_
      refine uP 3 ?_
      refine uD 49 ((R.baseTerm : Int) > R.term) (fun z0 => ?_) (fun z0 => ?_)
      ·
       refine uF 18 ?_
       exact uB (J (true) _ ⟨H, ⟨fun _ => by (try have heq9 := errOf_eq (by assumption)); first | omega | exact .inr (.inr (.inr (.inl (errOf_ne (by assumption))))) | (simp_all; done), fun _ => rfl⟩⟩)
      ·
       refine uP 1 ?_
       refine uV 28 7 (H.cells 0 rfl) ?_
       refine uK (refcheck_spec (C := R.baseConf) (conf_mk (H.rp 0 rfl) (H.rp 1 rfl))) ?_
       rintro _ _ o0 rfl
       have H := H.ext o0
       refine qP 3 (sq 22 34) [(1, .P u 0), (55, .bool ((errOf (okConf R.baseConf)) != 0))] ?_
       refine uN 55 (errOf (okConf R.baseConf)) 0 (fun A0 => ?_) (fun A0 => ?_)
       ·
        refine uF 12 ?_
        exact uB (J (true) _ ⟨H, ⟨fun _ => by (try have heq9 := errOf_eq (by assumption)); first | omega | exact .inr (.inr (.inr (.inl (errOf_ne (by assumption))))) | (simp_all; done), fun _ => rfl⟩⟩)
       ·
        refine uP 1 ?_
        refine uV 30 10 (H.cells 0 rfl) ?_
        refine uP 1 ?_
        refine uV 25 5 (H.cells 0 rfl) ?_
        refine RW.pv (κ := .seq) (d := some 60) (r := (sq 27 34)) (v := .int .u64 (IntKind.u64.wrap (R.base + 1))) (v' := .int .u64 (R.base + 1)) (by as_aux_lemma => kernel_rfl) (wr_u64 (by omega)) ?_
        refine uP 1 ?_
        refine uV 25 6 (H.cells 0 rfl) ?_
        refine uP 1 ?_
        refine uV 25 3 (H.cells 0 rfl) ?_
        refine uK (refrow_spec (xs := R.log) (H.rp 3 rfl) (R.base + 1) R.baseTerm R.term (by omega)) ?_
        rintro _ _ p0 rfl
        have H := H.ext p0
        refine qF 2 [(1, .P u 0), (67, .bool (!(okRow R.log (R.base + 1) R.baseTerm R.term)))] ?_
        exact J (!(okRow R.log (R.base + 1) R.baseTerm R.term)) _ ⟨H, by
         (try have heq9 := errOf_eq (by assumption)); first | (simp only [decide_eq_true_iff, Bool.not_eq_true', decide_eq_false_iff_not, Bool.not_eq_true, bne_iff_ne, beq_iff_eq, ne_eq]; omega) | (simp only [Bool.not_eq_true']; exact ⟨fun h => .inr (.inr (.inr (.inr (h)))), fun q => by rcases q with q | q | q | q | q <;> first | omega | exact q | (rw [heq9] at q; cases q)⟩) | (simp; omega) | (simp_all; done)⟩
   ·
    rintro Y _ ⟨H, g0⟩
    refine qC Y (fun Z => ?_) (fun Z => ?_)
    ·
     have N := g0.1 Z
     refine uR 2 [.c [2, 0, 1, 0, 1], .c [3]] ?_
     refine qT (.I 2) Tryz.func40 ?_
     refine ⟨_, rfl, H.done, _, rfl, by decide, ?_⟩
     exact ⟨fun h => absurd h (by decide), fun h => absurd h (okR_bad2 N)⟩
    ·
     have N : ¬ (R.base ≥ 4611686018427387904 ∨ R.term ≥ 4611686018427387904 ∨ R.baseTerm > R.term ∨ okConf R.baseConf = false ∨ okRow R.log (R.base + 1) R.baseTerm R.term = false) := fun q => absurd (g0.2 q) (by rw [Z]; decide)
     refine uR 2 [.c [3, 0], .c [4]] ?_
     refine qG (sq 0 7) ?_
     refine uV 35 0 (H.cells 0 rfl) ?_
     refine uK (reflast_spec (R := R) (raft_mk (l0 := [.I R.id]) (y0 := R.id) (l1 := [.I R.election]) (y1 := R.election) (l2 := [.I R.beat]) (y2 := R.beat) (l3 := [.int .u64 R.term]) (y3 := R.term) (l4 := [.I R.vote]) (y4 := R.vote) (l5 := [.int .u64 R.base]) (y5 := R.base) (l6 := [.int .u64 R.baseTerm]) (y6 := R.baseTerm) (l7 := [.slice a R.baseConf.voters.length e, .slice f R.baseConf.learners.length i]) (y7 := R.baseConf) (l8 := [.slice y R.snap.length z]) (y8 := R.snap) (l9 := [.slice A R.log.length B]) (y9 := R.log) (l10 := [.int .u64 R.commit]) (y10 := R.commit) (l11 := [.I R.role]) (y11 := R.role) (l12 := [.I R.lead]) (y12 := R.lead) (l13 := [.I R.elapsed]) (y13 := R.elapsed) (l14 := [.I R.timeout]) (y14 := R.timeout) (l15 := [.slice j R.votes.length m]) (y15 := R.votes) (l16 := [.slice n R.peers.length o]) (y16 := R.peers) (l17 := [.int .u64 R.ctx]) (y17 := R.ctx) (l18 := [.slice s R.readings.length t]) (y18 := R.readings) (l19 := [.I R.target]) (y19 := R.target) i64a i64a i64a u64a i64a u64a u64a (conf_mk (H.rp 0 rfl) (H.rp 1 rfl)) (H.rp 2 rfl) (H.rp 3 rfl) u64a i64a i64a i64a i64a (H.rp 4 rfl) (H.rp 5 rfl) u64a (H.rp 6 rfl) i64a)) ?_
     rintro _ _ q0 rfl
     have H := H.ext q0
     refine uF 5 ?_
     refine uR 2 [.c [4, 0, 0], .c [4, 0, 1], .c [5]] ?_
     refine WK.joinV (α := Bool) (fun x_ w_ => match x_ with | g3 => Hp w S [] [(u, .cells #[.I R.id, .I R.election, .I R.beat, .int .u64 R.term, .I R.vote, .int .u64 R.base, .int .u64 R.baseTerm, .slice a R.baseConf.voters.length e, .slice f R.baseConf.learners.length i, .slice y R.snap.length z, .slice A R.log.length B, .int .u64 R.commit, .I R.role, .I R.lead, .I R.elapsed, .I R.timeout, .slice j R.votes.length m, .slice n R.peers.length o, .int .u64 R.ctx, .slice s R.readings.length t, .I R.target] 35 (0, 0))] [] [Rp (Shape.slice (Shape.int .i64)) [.slice a R.baseConf.voters.length e] R.baseConf.voters, Rp (Shape.slice (Shape.int .i64)) [.slice f R.baseConf.learners.length i] R.baseConf.learners, Rp SB [.slice y R.snap.length z] R.snap, Rp (Shape.slice entS) [.slice A R.log.length B] R.log, Rp (Shape.slice (Shape.int .i64)) [.slice j R.votes.length m] R.votes, Rp (Shape.slice peerS) [.slice n R.peers.length o] R.peers, Rp (Shape.slice rdgS) [.slice s R.readings.length t] R.readings] w_ ∧ (g3 = true ↔ (lastOf R).1 ≥ 4611686018427387904 ∨ (R.term = 0 ∧ R.log.length > 0) ∨ R.commit < R.base ∨ R.commit > (lastOf R).1)) (fun x_ => match x_ with | g3 => [(1, .P u 0), (3, .int .u64 ((lastOf R).1)), (98, .bool g3)]) [Cq Tryz.prog 40 [4, 0, 1], Cq Tryz.prog 40 [5]] (fun E => ?_) ?_
     ·
      refine qG (sq 0 26) ?_
      refine uP 3 ?_
      refine uD 75 (((lastOf R).1 : Int) ≥ 4611686018427387904) (fun B0 => ?_) (fun B0 => ?_)
      ·
       refine uF 23 ?_
       exact uB (E (true) _ ⟨H, ⟨fun _ => by first | omega | (simp_all; done), fun _ => rfl⟩⟩)
      ·
       refine qP 1 (sq 4 26) [(1, .P u 0), (3, .int .u64 ((lastOf R).1)), (75, .bool false), (76, .P u 3)] ?_
       refine uV 25 3 (H.cells 0 rfl) ?_
       refine uP 2 ?_
       refine uE 79 R.term 0 (fun C0 => ?_) (fun C0 => ?_)
       ·
        refine uP 1 ?_
        refine uV 30 10 (H.cells 0 rfl) ?_
        refine uP 5 ?_
        refine uD 86 ((((R.log.length : Nat) : Int) : Int) > 0) (fun D0 => ?_) (fun D0 => ?_)
        ·
         refine uF 12 ?_
         exact uB (E (true) _ ⟨H, ⟨fun _ => by first | omega | (simp_all; done), fun _ => rfl⟩⟩)
        ·
         refine uP 1 ?_
         refine uV 25 11 (H.cells 0 rfl) ?_
         refine uP 1 ?_
         refine uV 25 5 (H.cells 0 rfl) ?_
         refine uP 3 ?_
         refine uD 93 ((R.commit : Int) < R.base) (fun E0 => ?_) (fun E0 => ?_)
         ·
          refine uF 5 ?_
          exact uB (E (true) _ ⟨H, ⟨fun _ => by first | omega | (simp_all; done), fun _ => rfl⟩⟩)
         ·
          refine uP 1 ?_
          refine uV 25 11 (H.cells 0 rfl) ?_
          refine uF 3 ?_
          exact uB (E (decide ((R.commit : Int) > (lastOf R).1)) _ ⟨H, by first | (simp only [decide_eq_true_iff, Bool.not_eq_true', decide_eq_false_iff_not, Bool.not_eq_true, bne_iff_ne, beq_iff_eq, ne_eq]; omega) | (simp only [Bool.not_eq_true']; exact ⟨fun h => .inr (.inr (.inr (h))), fun q => by rcases q with q | q | q | q <;> first | omega | exact q | (rw [heq9] at q; cases q)⟩) | (simp; omega) | (simp_all; done)⟩)
       ·
        refine uP 8 ?_
        refine uV 25 11 (H.cells 0 rfl) ?_
        refine uP 1 ?_
        refine uV 25 5 (H.cells 0 rfl) ?_
        refine uP 3 ?_
        refine uD 93 ((R.commit : Int) < R.base) (fun F0 => ?_) (fun F0 => ?_)
        ·
         refine uF 5 ?_
         exact uB (E (true) _ ⟨H, ⟨fun _ => by first | omega | (simp_all; done), fun _ => rfl⟩⟩)
        ·
         refine uP 1 ?_
         refine uV 25 11 (H.cells 0 rfl) ?_
         refine uF 3 ?_
         exact uB (E (decide ((R.commit : Int) > (lastOf R).1)) _ ⟨H, by first | (simp only [decide_eq_true_iff, Bool.not_eq_true', decide_eq_false_iff_not, Bool.not_eq_true, bne_iff_ne, beq_iff_eq, ne_eq]; omega) | (simp only [Bool.not_eq_true']; exact ⟨fun h => .inr (.inr (.inr (h))), fun q => by rcases q with q | q | q | q <;> first | omega | exact q | (rw [heq9] at q; cases q)⟩) | (simp; omega) | (simp_all; done)⟩)
     ·
      rintro g3 _ ⟨H, h0⟩
      refine qC g3 (fun a0 => ?_) (fun a0 => ?_)
      ·
       have O := h0.1 a0
       refine uR 2 [.c [4, 0, 1, 0, 1], .c [5]] ?_
       refine qT (.I 2) Tryz.func40 ?_
       refine ⟨_, rfl, H.done, _, rfl, by decide, ?_⟩
       exact ⟨fun h => absurd h (by decide), fun h => absurd h (okR_bad3a O)⟩
      ·
       have O : ¬ ((lastOf R).1 ≥ 4611686018427387904 ∨ (R.term = 0 ∧ R.log.length > 0) ∨ R.commit < R.base ∨ R.commit > (lastOf R).1) := fun q => absurd (h0.2 q) (by rw [a0]; decide)
       refine uR 3 [.c [5, 0, 0], .c [5, 0, 1], .c [6]] ?_
       refine WK.joinV (α := Bool) (fun x_ w_ => match x_ with | g4 => Hp w S [] [(u, .cells #[.I R.id, .I R.election, .I R.beat, .int .u64 R.term, .I R.vote, .int .u64 R.base, .int .u64 R.baseTerm, .slice a R.baseConf.voters.length e, .slice f R.baseConf.learners.length i, .slice y R.snap.length z, .slice A R.log.length B, .int .u64 R.commit, .I R.role, .I R.lead, .I R.elapsed, .I R.timeout, .slice j R.votes.length m, .slice n R.peers.length o, .int .u64 R.ctx, .slice s R.readings.length t, .I R.target] 35 (0, 0))] [] [Rp (Shape.slice (Shape.int .i64)) [.slice a R.baseConf.voters.length e] R.baseConf.voters, Rp (Shape.slice (Shape.int .i64)) [.slice f R.baseConf.learners.length i] R.baseConf.learners, Rp SB [.slice y R.snap.length z] R.snap, Rp (Shape.slice entS) [.slice A R.log.length B] R.log, Rp (Shape.slice (Shape.int .i64)) [.slice j R.votes.length m] R.votes, Rp (Shape.slice peerS) [.slice n R.peers.length o] R.peers, Rp (Shape.slice rdgS) [.slice s R.readings.length t] R.readings] w_ ∧ (g4 = true ↔ R.role < 0 ∨ R.role > 3 ∨ R.elapsed < 0 ∨ R.elapsed > 2000 ∨ R.timeout < 0 ∨ R.timeout > 2000)) (fun x_ => match x_ with | g4 => [(1, .P u 0), (3, .int .u64 ((lastOf R).1)), (126, .bool g4)]) [Cq Tryz.prog 40 [5, 0, 1], Cq Tryz.prog 40 [6]] (fun F => ?_) ?_
       ·
        refine qG (sq 0 28) ?_
        refine uP 1 ?_
        refine uV 31 12 (H.cells 0 rfl) ?_
        refine uP 2 ?_
        refine uD 102 ((R.role : Int) < 0) (fun G0 => ?_) (fun G0 => ?_)
        ·
         refine uF 24 ?_
         exact uB (F (true) _ ⟨H, ⟨fun _ => by first | omega | (simp_all; done), fun _ => rfl⟩⟩)
        ·
         refine uP 1 ?_
         refine uV 31 12 (H.cells 0 rfl) ?_
         refine uP 3 ?_
         refine uD 107 ((R.role : Int) > 3) (fun H0 => ?_) (fun H0 => ?_)
         ·
          refine uF 19 ?_
          exact uB (F (true) _ ⟨H, ⟨fun _ => by first | omega | (simp_all; done), fun _ => rfl⟩⟩)
         ·
          refine uP 1 ?_
          refine uV 3 14 (H.cells 0 rfl) ?_
          refine qP 3 (sq 14 28) [(1, .P u 0), (3, .int .u64 ((lastOf R).1)), (112, .bool (decide ((R.elapsed : Int) < 0)))] ?_
          refine uD 112 ((R.elapsed : Int) < 0) (fun I0 => ?_) (fun I0 => ?_)
          ·
           refine uF 14 ?_
           exact uB (F (true) _ ⟨H, ⟨fun _ => by first | omega | (simp_all; done), fun _ => rfl⟩⟩)
          ·
           refine uP 1 ?_
           refine uV 3 14 (H.cells 0 rfl) ?_
           refine uP 3 ?_
           refine uD 117 ((R.elapsed : Int) > 2000) (fun J0 => ?_) (fun J0 => ?_)
           ·
            refine uF 9 ?_
            exact uB (F (true) _ ⟨H, ⟨fun _ => by first | omega | (simp_all; done), fun _ => rfl⟩⟩)
           ·
            refine uP 1 ?_
            refine uV 3 15 (H.cells 0 rfl) ?_
            refine uP 3 ?_
            refine uD 122 ((R.timeout : Int) < 0) (fun K0 => ?_) (fun K0 => ?_)
            ·
             refine uF 4 ?_
             exact uB (F (true) _ ⟨H, ⟨fun _ => by first | omega | (simp_all; done), fun _ => rfl⟩⟩)
            ·
             refine uP 1 ?_
             refine uV 3 15 (H.cells 0 rfl) ?_
             refine uF 2 ?_
             exact uB (F (decide ((R.timeout : Int) > 2000)) _ ⟨H, by first | (simp only [decide_eq_true_iff, Bool.not_eq_true', decide_eq_false_iff_not, Bool.not_eq_true, bne_iff_ne, beq_iff_eq, ne_eq]; omega) | (simp only [Bool.not_eq_true']; exact ⟨fun h => .inr (.inr (.inr (.inr (.inr (h))))), fun q => by rcases q with q | q | q | q | q | q <;> first | omega | exact q | (rw [heq9] at q; cases q)⟩) | (simp; omega) | (simp_all; done)⟩)
       ·
        rintro g4 _ ⟨H, i0⟩
        refine qC g4 (fun b0 => ?_) (fun b0 => ?_)
        ·
         have Q := i0.1 b0
         refine uR 2 [.c [5, 0, 1, 0, 1], .c [6]] ?_
         refine qT (.I 2) Tryz.func40 ?_
         refine ⟨_, rfl, H.done, _, rfl, by decide, ?_⟩
         exact ⟨fun h => absurd h (by decide), fun h => absurd h (okR_bad4 Q)⟩
        ·
         have Q : ¬ (R.role < 0 ∨ R.role > 3 ∨ R.elapsed < 0 ∨ R.elapsed > 2000 ∨ R.timeout < 0 ∨ R.timeout > 2000) := fun q => absurd (i0.2 q) (by rw [b0]; decide)
         refine uR 7 [.c [7, 0, 1, 0], .b 0, .c [8]] ?_
         refine uL (α := Nat × Int) (g := 40) (p := [7, 0, 1, 0, 0]) (fun (k, id) => [(1, .P u 0), (3, .int .u64 ((lastOf R).1)), (5, .I id), (6, .I k)]) (fun (k, id) w' => Hp w S [] [(u, .cells #[.I R.id, .I R.election, .I R.beat, .int .u64 R.term, .I R.vote, .int .u64 R.base, .int .u64 R.baseTerm, .slice a R.baseConf.voters.length e, .slice f R.baseConf.learners.length i, .slice y R.snap.length z, .slice A R.log.length B, .int .u64 R.commit, .I R.role, .I R.lead, .I R.elapsed, .I R.timeout, .slice j R.votes.length m, .slice n R.peers.length o, .int .u64 R.ctx, .slice s R.readings.length t, .I R.target] 35 (0, 0))] [] [Rp (Shape.slice (Shape.int .i64)) [.slice a R.baseConf.voters.length e] R.baseConf.voters, Rp (Shape.slice (Shape.int .i64)) [.slice f R.baseConf.learners.length i] R.baseConf.learners, Rp SB [.slice y R.snap.length z] R.snap, Rp (Shape.slice entS) [.slice A R.log.length B] R.log, Rp (Shape.slice (Shape.int .i64)) [.slice j R.votes.length m] R.votes, Rp (Shape.slice peerS) [.slice n R.peers.length o] R.peers, Rp (Shape.slice rdgS) [.slice s R.readings.length t] R.readings] w' ∧ k ≤ R.peers.length ∧ okPeers (lastOf R).1 R.peers 0 = okPeers (lastOf R).1 (R.peers.drop k) id) (fun (k, id) => R.peers.length - k) (0, 0) ⟨H, Nat.zero_le _, rfl⟩ ?_
         rintro ⟨k, id⟩ _ ⟨H, D⟩ V
         refine uR 2 [.c [7, 0, 1, 0, 0, 0, 0], .c [7, 0, 1, 0, 0, 0, 1], .c [7, 0, 1, 0, 0, 1], .l [7, 0, 1, 0, 0], .b 0, .c [8]] ?_
         refine qG (sq 0 5) ?_
         refine uP 2 ?_
         refine uV 32 17 (H.cells 0 rfl) ?_
         refine uF 2 ?_
         refine qD (((k : Int) : Int) < ((R.peers.length : Nat) : Int)) (fun L0 => ?_) (fun L0 => ?_)
         ·
          refine uR 4 [.c [7, 0, 1, 0, 0, 1, 0, 0, 0], .c [7, 0, 1, 0, 0, 1, 0, 0, 1], .b 1, .c [7, 0, 1, 0, 0, 2], .l [7, 0, 1, 0, 0], .b 0, .c [8]] ?_
          refine qG (sq 0 7) ?_
          refine uP 1 ?_
          refine uV 32 17 (H.cells 0 rfl) ?_
          refine uP 1 ?_
          have r0 : k < R.peers.length := by omega
          refine uX 32 (k : Int) H 5 rfl k (by omega) (List.getElem?_eq_getElem r0) ?_
          intro _ _ _ s0 H
          obtain ⟨rfl, _, _, _⟩ := peer_open s0
          refine uV 123 0 (H.fc 0 rfl) ?_
          refine uC #[.I 0, .int .u64 0, .int .u64 0, .bool false] 123 H ?_
          intro j0 _ H
          refine uW 123 0 #[.I ((R.peers[k]).id), .int .u64 ((R.peers[k]).next), .int .u64 ((R.peers[k]).mat), .bool ((R.peers[k]).heard)] H 0 rfl ?_
          intro _ H
          refine uF 0 ?_
          refine uR 2 [.c [7, 0, 1, 0, 0, 1, 0, 0, 1, 0, 0], .c [7, 0, 1, 0, 0, 1, 0, 0, 1, 0, 1], .c [7, 0, 1, 0, 0, 1, 0, 0, 2], .b 1, .c [7, 0, 1, 0, 0, 2], .l [7, 0, 1, 0, 0], .b 0, .c [8]] ?_
          refine qG (sq 0 27) ?_
          refine uP 1 ?_
          refine uV 3 0 (H.cells 0 rfl) ?_
          refine uP 3 ?_
          refine uD 143 (((R.peers[k]).id : Int) ≤ id) (fun M0 => ?_) (fun M0 => ?_)
          ·
           refine qF 22 [(1, .P u 0), (3, .int .u64 ((lastOf R).1)), (6, .I k), (7, .P j0 0), (165, .bool true)] ?_
           refine uR 3 [.c [7, 0, 1, 0, 0, 1, 0, 0, 1, 0, 1, 0, 1], .c [7, 0, 1, 0, 0, 1, 0, 0, 2], .b 1, .c [7, 0, 1, 0, 0, 2], .l [7, 0, 1, 0, 0], .b 0, .c [8]] ?_
           refine qT (.I 2) Tryz.func40 ?_
           refine ⟨_, rfl, H.done, _, rfl, by decide, ?_⟩
           exact ⟨fun h => absurd h (by decide), fun h => absurd h (okR_bad5 (by rw [D.2, okPeers_step (by omega), if_pos (by omega)]))⟩
          ·
           refine uP 1 ?_
           refine uV 3 0 (H.cells 0 rfl) ?_
           refine uP 3 ?_
           refine uD 148 (((R.peers[k]).id : Int) > 32) (fun N0 => ?_) (fun N0 => ?_)
           ·
            refine uF 17 ?_
            refine uR 3 [.c [7, 0, 1, 0, 0, 1, 0, 0, 1, 0, 1, 0, 1], .c [7, 0, 1, 0, 0, 1, 0, 0, 2], .b 1, .c [7, 0, 1, 0, 0, 2], .l [7, 0, 1, 0, 0], .b 0, .c [8]] ?_
            refine qT (.I 2) Tryz.func40 ?_
            refine ⟨_, rfl, H.done, _, rfl, by decide, ?_⟩
            exact ⟨fun h => absurd h (by decide), fun h => absurd h (okR_bad5 (by rw [D.2, okPeers_step (by omega), if_pos (by omega)]))⟩
           ·
            refine uP 1 ?_
            refine uV 25 1 (H.cells 0 rfl) ?_
            refine uP 3 ?_
            refine uD 153 (((R.peers[k]).next : Int) < 1) (fun O0 => ?_) (fun O0 => ?_)
            ·
             refine uF 12 ?_
             refine uR 3 [.c [7, 0, 1, 0, 0, 1, 0, 0, 1, 0, 1, 0, 1], .c [7, 0, 1, 0, 0, 1, 0, 0, 2], .b 1, .c [7, 0, 1, 0, 0, 2], .l [7, 0, 1, 0, 0], .b 0, .c [8]] ?_
             refine qT (.I 2) Tryz.func40 ?_
             refine ⟨_, rfl, H.done, _, rfl, by decide, ?_⟩
             exact ⟨fun h => absurd h (by decide), fun h => absurd h (okR_bad5 (by rw [D.2, okPeers_step (by omega), if_pos (by omega)]))⟩
            ·
             refine uP 1 ?_
             refine uV 25 1 (H.cells 0 rfl) ?_
             refine qP 1 (sq 18 27) [(1, .P u 0), (3, .int .u64 ((lastOf R).1)), (6, .I k), (7, .P j0 0), (153, .bool false), (155, .int .u64 ((R.peers[k]).next)), (156, .int .u64 ((lastOf R).1))] ?_
             refine RW.pv (κ := .seq) (d := some 157) (r := (sq 19 27)) (v := .int .u64 (IntKind.u64.wrap (((lastOf R).1) + 1))) (v' := .int .u64 (((lastOf R).1) + 1)) (by as_aux_lemma => kernel_rfl) (wr_u64 (by omega)) ?_
             refine uP 3 ?_
             refine uD 160 (((R.peers[k]).next : Int) > ((lastOf R).1) + 1) (fun P0 => ?_) (fun P0 => ?_)
             ·
              refine uF 5 ?_
              refine uR 3 [.c [7, 0, 1, 0, 0, 1, 0, 0, 1, 0, 1, 0, 1], .c [7, 0, 1, 0, 0, 1, 0, 0, 2], .b 1, .c [7, 0, 1, 0, 0, 2], .l [7, 0, 1, 0, 0], .b 0, .c [8]] ?_
              refine qT (.I 2) Tryz.func40 ?_
              refine ⟨_, rfl, H.done, _, rfl, by decide, ?_⟩
              exact ⟨fun h => absurd h (by decide), fun h => absurd h (okR_bad5 (by rw [D.2, okPeers_step (by omega), if_pos (by omega)]))⟩
             ·
              refine uP 1 ?_
              refine uV 25 2 (H.cells 0 rfl) ?_
              refine uF 3 ?_
              refine qD (((R.peers[k]).mat : Int) > (lastOf R).1) (fun Q0 => ?_) (fun Q0 => ?_)
              ·
               refine uR 2 [.c [7, 0, 1, 0, 0, 1, 0, 0, 1, 0, 1, 0, 1], .c [7, 0, 1, 0, 0, 1, 0, 0, 2], .b 1, .c [7, 0, 1, 0, 0, 2], .l [7, 0, 1, 0, 0], .b 0, .c [8]] ?_
               refine qT (.I 2) Tryz.func40 ?_
               refine ⟨_, rfl, H.done, _, rfl, by decide, ?_⟩
               exact ⟨fun h => absurd h (by decide), fun h => absurd h (okR_bad5 (by rw [D.2, okPeers_step (by omega), if_pos (by omega)]))⟩
              ·
               refine uR 1 [.c [7, 0, 1, 0, 0, 1, 0, 0, 2], .b 1, .c [7, 0, 1, 0, 0, 2], .l [7, 0, 1, 0, 0], .b 0, .c [8]] ?_
               refine qG (sq 0 3) ?_
               refine uP 1 ?_
               refine uV 3 0 (H.cells 0 rfl) ?_
               refine uF 1 ?_
               refine uR 1 [.c [7, 0, 1, 0, 0, 2], .l [7, 0, 1, 0, 0], .b 0, .c [8]] ?_
               refine qG (sq 0 3) ?_
               refine qP 1 (sq 1 3) [(1, .P u 0), (3, .int .u64 ((lastOf R).1)), (5, .I ((R.peers[k]).id)), (6, .I k), (132, .I k)] ?_
               refine uI ((k : Int) + 1) ?_
               refine uF 1 ?_
               have H := H.pick [1, 2, 3, 4, 5, 6, 7] rfl
               have H := H.frontM 1 rfl
               have H := H.take 1 0
               exact uB (V (k + 1, (R.peers[k]).id) _ ⟨H, by omega, by rw [D.2, okPeers_step (by omega), if_neg (by omega)]⟩ (by first | omega | (simp only []; omega)))
         ·
          refine qR 3 [.c [8, 0, 0], .c [8, 0, 1], .c [9]] [(1, .P u 0)] ?_
          refine WK.joinV (α := Bool) (fun x_ w_ => match x_ with | g6 => Hp w S [] [(u, .cells #[.I R.id, .I R.election, .I R.beat, .int .u64 R.term, .I R.vote, .int .u64 R.base, .int .u64 R.baseTerm, .slice a R.baseConf.voters.length e, .slice f R.baseConf.learners.length i, .slice y R.snap.length z, .slice A R.log.length B, .int .u64 R.commit, .I R.role, .I R.lead, .I R.elapsed, .I R.timeout, .slice j R.votes.length m, .slice n R.peers.length o, .int .u64 R.ctx, .slice s R.readings.length t, .I R.target] 35 (0, 0))] [] [Rp (Shape.slice (Shape.int .i64)) [.slice a R.baseConf.voters.length e] R.baseConf.voters, Rp (Shape.slice (Shape.int .i64)) [.slice f R.baseConf.learners.length i] R.baseConf.learners, Rp SB [.slice y R.snap.length z] R.snap, Rp (Shape.slice entS) [.slice A R.log.length B] R.log, Rp (Shape.slice (Shape.int .i64)) [.slice j R.votes.length m] R.votes, Rp (Shape.slice peerS) [.slice n R.peers.length o] R.peers, Rp (Shape.slice rdgS) [.slice s R.readings.length t] R.readings] w_ ∧ (g6 = true ↔ R.vote < 0 ∨ R.vote > 32 ∨ R.lead < 0 ∨ R.lead > 32 ∨ R.target < 0 ∨ R.target > 32)) (fun x_ => match x_ with | g6 => [(195, .bool g6)]) [Cq Tryz.prog 40 [8, 0, 1], Cq Tryz.prog 40 [9]] (fun G => ?_) ?_
          ·
           refine qG (sq 0 28) ?_
           refine uP 1 ?_
           refine uV 3 4 (H.cells 0 rfl) ?_
           refine uP 2 ?_
           refine uD 171 ((R.vote : Int) < 0) (fun R0 => ?_) (fun R0 => ?_)
           ·
            refine uF 24 ?_
            exact uB (G (true) _ ⟨H, ⟨fun _ => by first | omega | (simp_all; done), fun _ => rfl⟩⟩)
           ·
            refine uP 1 ?_
            refine uV 3 4 (H.cells 0 rfl) ?_
            refine uP 3 ?_
            refine uD 176 ((R.vote : Int) > 32) (fun S0 => ?_) (fun S0 => ?_)
            ·
             refine uF 19 ?_
             exact uB (G (true) _ ⟨H, ⟨fun _ => by first | omega | (simp_all; done), fun _ => rfl⟩⟩)
            ·
             refine uP 1 ?_
             refine uV 3 13 (H.cells 0 rfl) ?_
             refine uP 3 ?_
             refine uD 181 ((R.lead : Int) < 0) (fun T0 => ?_) (fun T0 => ?_)
             ·
              refine uF 14 ?_
              exact uB (G (true) _ ⟨H, ⟨fun _ => by first | omega | (simp_all; done), fun _ => rfl⟩⟩)
             ·
              refine uP 1 ?_
              refine uV 3 13 (H.cells 0 rfl) ?_
              refine qP 3 (sq 19 28) [(1, .P u 0), (186, .bool (decide ((R.lead : Int) > 32)))] ?_
              refine uD 186 ((R.lead : Int) > 32) (fun U0 => ?_) (fun U0 => ?_)
              ·
               refine uF 9 ?_
               exact uB (G (true) _ ⟨H, ⟨fun _ => by first | omega | (simp_all; done), fun _ => rfl⟩⟩)
              ·
               refine uP 1 ?_
               refine uV 3 20 (H.cells 0 rfl) ?_
               refine uP 3 ?_
               refine uD 191 ((R.target : Int) < 0) (fun V0 => ?_) (fun V0 => ?_)
               ·
                refine uF 4 ?_
                exact uB (G (true) _ ⟨H, ⟨fun _ => by first | omega | (simp_all; done), fun _ => rfl⟩⟩)
               ·
                refine uP 1 ?_
                refine uV 3 20 (H.cells 0 rfl) ?_
                refine uF 2 ?_
                exact uB (G (decide ((R.target : Int) > 32)) _ ⟨H, by first | (simp only [decide_eq_true_iff, Bool.not_eq_true', decide_eq_false_iff_not, Bool.not_eq_true, bne_iff_ne, beq_iff_eq, ne_eq]; omega) | (simp only [Bool.not_eq_true']; exact ⟨fun h => .inr (.inr (.inr (.inr (.inr (h))))), fun q => by rcases q with q | q | q | q | q | q <;> first | omega | exact q | (rw [heq9] at q; cases q)⟩) | (simp; omega) | (simp_all; done)⟩)
          ·
           rintro g6 _ ⟨H, k0⟩
           refine qC g6 (fun c0 => ?_) (fun c0 => ?_)
           ·
            have T := k0.1 c0
            refine uR 2 [.c [8, 0, 1, 0, 1], .c [9]] ?_
            refine qT (.I 2) Tryz.func40 ?_
            refine ⟨_, rfl, H.done, _, rfl, by decide, ?_⟩
            exact ⟨fun h => absurd h (by decide), fun h => absurd h (okR_bad6 T)⟩
           ·
            have T : ¬ (R.vote < 0 ∨ R.vote > 32 ∨ R.lead < 0 ∨ R.lead > 32 ∨ R.target < 0 ∨ R.target > 32) := fun q => absurd (k0.2 q) (by rw [c0]; decide)
            refine uR 3 [.c [10]] ?_
            refine qT (.I 0) Tryz.func40 ?_
            refine ⟨_, rfl, H.done, _, rfl, by decide, ?_⟩
            exact ⟨fun _ => okR_of M N O Q T (by rw [D.2, List.drop_of_length_le (by omega)]; rfl), fun _ => rfl⟩
end Go.Proofs.YtkjkmogipidkiaaGreat
