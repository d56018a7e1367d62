import Derived.Test.YtkjkmogipidkiaaGreatSBxA
import Derived.Test.YtkjkmogipidkiaaGreatSMJ
namespace Go.Proofs.YtkjkmogipidkiaaGreat
open Go.BX
def CA : Conf := ⟨[1], []⟩
def CB : Conf := ⟨[1, 2, 3], []⟩
theorem startR_rng {C : Conf} {k : Int} (hk : 0 ≤ k ∧ k ≤ 10) : ((-9223372036854775808) ≤ (startR C k).id ∧ (startR C k).id ≤ 9223372036854775807) ∧ ((-9223372036854775808) ≤ (startR C k).election ∧ (startR C k).election ≤ 9223372036854775807) ∧ ((-9223372036854775808) ≤ (startR C k).beat ∧ (startR C k).beat ≤ 9223372036854775807) ∧ (0 ≤ (startR C k).term ∧ (startR C k).term ≤ 18446744073709551615) ∧ ((-9223372036854775808) ≤ (startR C k).vote ∧ (startR C k).vote ≤ 9223372036854775807) ∧ (0 ≤ (startR C k).base ∧ (startR C k).base ≤ 18446744073709551615) ∧ (0 ≤ (startR C k).baseTerm ∧ (startR C k).baseTerm ≤ 18446744073709551615) ∧ (0 ≤ (startR C k).commit ∧ (startR C k).commit ≤ 18446744073709551615) ∧ ((-9223372036854775808) ≤ (startR C k).role ∧ (startR C k).role ≤ 9223372036854775807) ∧ ((-9223372036854775808) ≤ (startR C k).lead ∧ (startR C k).lead ≤ 9223372036854775807) ∧ ((-9223372036854775808) ≤ (startR C k).elapsed ∧ (startR C k).elapsed ≤ 9223372036854775807) ∧ ((-9223372036854775808) ≤ (startR C k).timeout ∧ (startR C k).timeout ≤ 9223372036854775807) ∧ (0 ≤ (startR C k).ctx ∧ (startR C k).ctx ≤ 18446744073709551615) ∧ ((-9223372036854775808) ≤ (startR C k).target ∧ (startR C k).target ≤ 9223372036854775807) := by
 refine ⟨?_, ?_, ?_, ?_, ?_, ?_, ?_, ?_, ?_, ?_, ?_, ?_, ?_, ?_⟩
 · show ((-9223372036854775808) : Int) ≤ 1 ∧ (1 : Int) ≤ 9223372036854775807; decide
 · show ((-9223372036854775808) : Int) ≤ 10 ∧ (10 : Int) ≤ 9223372036854775807; decide
 · show ((-9223372036854775808) : Int) ≤ 2 ∧ (2 : Int) ≤ 9223372036854775807; decide
 · show (0 : Int) ≤ 0 ∧ (0 : Int) ≤ 18446744073709551615; decide
 · show ((-9223372036854775808) : Int) ≤ 0 ∧ (0 : Int) ≤ 9223372036854775807; decide
 · show (0 : Int) ≤ 0 ∧ (0 : Int) ≤ 18446744073709551615; decide
 · show (0 : Int) ≤ 0 ∧ (0 : Int) ≤ 18446744073709551615; decide
 · show (0 : Int) ≤ 0 ∧ (0 : Int) ≤ 18446744073709551615; decide
 · show ((-9223372036854775808) : Int) ≤ 0 ∧ (0 : Int) ≤ 9223372036854775807; decide
 · show ((-9223372036854775808) : Int) ≤ 0 ∧ (0 : Int) ≤ 9223372036854775807; decide
 · show _ ≤ k ∧ k ≤ _; omega
 · show ((-9223372036854775808) : Int) ≤ 10 ∧ (10 : Int) ≤ 9223372036854775807; decide
 · show (0 : Int) ≤ 0 ∧ (0 : Int) ≤ 18446744073709551615; decide
 · show ((-9223372036854775808) : Int) ≤ 0 ∧ (0 : Int) ≤ 9223372036854775807; decide
set_option maxHeartbeats 4000000 in
theorem heads_holds {S : Nat → Prop} {w : World}  :
 Calls Tryz.prog 6 #[] w (Ret fun v w' => Ext w w' ∧ v = .bool true) := by
 refine uS1 Tryz.func6 ?_
 have H := Hp.startF (w := w) (S := S) (G := []) .nil
 refine uR 3 [.c [1, 0], .c [2]] ?_
 refine qG (sq 0 9) ?_
 refine RW.new (κ := .seq) (d := some 9) (r := (sq 1 9)) (o := .cells #[.I 1] 3 (0, 0)) (v := fun b => .slice (some ⟨b, 0, none⟩) 1 1) (fun b => by as_aux_lemma => kernel_rfl) (nofun) H ?_
 intro b1 _ H
 refine uP 1 ?_
 have H := H.freeze 0 rfl (Shape.int .i64) ([1] : List Int) 1 (by simp [maxLen]) (by first | exact Nat.le_refl _ | simp) (EsP.cons (c := [.I 1]) (Shape.int_mk (by decide)) EsP.nil)
 have H : Hp w S [] [] [] [Rp (Shape.slice (Shape.int .i64)) [.slice (some ⟨b1, 0, none⟩) 1 1] ([1] : List Int)] _ := H
 refine uK (news_spec (C := CA) (conf_mk (H.rp 0 rfl) Shape.slice_nil) (by decide) (by decide) (by decide)) ?_
 rintro _ _ M1 ⟨_, rfl, w4⟩
 obtain ⟨_, m0, n0, o0, p0, b0, c0, d0, e0, f0, g0, rfl, _, _, _, _, _, _, _, c1, d1, e1, _, _, _, _, _, W0, X0, _, Y0, _⟩ := raft_open w4
 obtain ⟨w0, x0, n, q, rfl, F0, G0⟩ := conf_open c1
 have Hq := H
 have H := H.addM M1 F0
 have H := H.add (F := Rp (Shape.slice (Shape.int .i64)) [.slice n ((startR CA (0 : Int)).baseConf.learners.length) q] ((startR CA (0 : Int)).baseConf.learners)) ((Hq.addN M1 (F := Rp (Shape.slice (Shape.int .i64)) [.slice n ((startR CA (0 : Int)).baseConf.learners.length) q] ((startR CA (0 : Int)).baseConf.learners)) G0).fact 0 rfl)
 have H := H.add (F := Rp SB [.slice m0 ((startR CA (0 : Int)).snap.length) n0] ((startR CA (0 : Int)).snap)) ((Hq.addN M1 (F := Rp SB [.slice m0 ((startR CA (0 : Int)).snap.length) n0] ((startR CA (0 : Int)).snap)) d1).fact 0 rfl)
 have H := H.add (F := Rp (Shape.slice entS) [.slice o0 ((startR CA (0 : Int)).log.length) p0] ((startR CA (0 : Int)).log)) ((Hq.addN M1 (F := Rp (Shape.slice entS) [.slice o0 ((startR CA (0 : Int)).log.length) p0] ((startR CA (0 : Int)).log)) e1).fact 0 rfl)
 have H := H.add (F := Rp (Shape.slice (Shape.int .i64)) [.slice b0 ((startR CA (0 : Int)).votes.length) c0] ((startR CA (0 : Int)).votes)) ((Hq.addN M1 (F := Rp (Shape.slice (Shape.int .i64)) [.slice b0 ((startR CA (0 : Int)).votes.length) c0] ((startR CA (0 : Int)).votes)) W0).fact 0 rfl)
 have H := H.add (F := Rp (Shape.slice peerS) [.slice d0 ((startR CA (0 : Int)).peers.length) e0] ((startR CA (0 : Int)).peers)) ((Hq.addN M1 (F := Rp (Shape.slice peerS) [.slice d0 ((startR CA (0 : Int)).peers.length) e0] ((startR CA (0 : Int)).peers)) X0).fact 0 rfl)
 have H := H.add (F := Rp (Shape.slice rdgS) [.slice f0 ((startR CA (0 : Int)).readings.length) g0] ((startR CA (0 : Int)).readings)) ((Hq.addN M1 (F := Rp (Shape.slice rdgS) [.slice f0 ((startR CA (0 : Int)).readings.length) g0] ((startR CA (0 : Int)).readings)) Y0).fact 0 rfl)
 have H : Hp w S [] [] [] [_, _, _, _, _, _, _, _] _ := H
 clear Hq
 refine uP 3 ?_
 refine uC #[.I 0, .I 0, .I 0, .int .u64 0, .I 0, .int .u64 0, .int .u64 0, .slice none 0 0, .slice none 0 0, .slice none 0 0, .slice none 0 0, .int .u64 0, .I 0, .I 0, .I 0, .I 0, .slice none 0 0, .slice none 0 0, .int .u64 0, .slice none 0 0, .I 0] 35 H ?_
 intro b7 _ H
 refine uW 35 0 #[.I ((startR CA (0 : Int)).id), .I ((startR CA (0 : Int)).election), .I ((startR CA (0 : Int)).beat), .int .u64 ((startR CA (0 : Int)).term), .I ((startR CA (0 : Int)).vote), .int .u64 ((startR CA (0 : Int)).base), .int .u64 ((startR CA (0 : Int)).baseTerm), .slice w0 ((startR CA (0 : Int)).baseConf.voters.length) x0, .slice n ((startR CA (0 : Int)).baseConf.learners.length) q, .slice m0 ((startR CA (0 : Int)).snap.length) n0, .slice o0 ((startR CA (0 : Int)).log.length) p0, .int .u64 ((startR CA (0 : Int)).commit), .I ((startR CA (0 : Int)).role), .I ((startR CA (0 : Int)).lead), .I ((startR CA (0 : Int)).elapsed), .I ((startR CA (0 : Int)).timeout), .slice b0 ((startR CA (0 : Int)).votes.length) c0, .slice d0 ((startR CA (0 : Int)).peers.length) e0, .int .u64 ((startR CA (0 : Int)).ctx), .slice f0 ((startR CA (0 : Int)).readings.length) g0, .I ((startR CA (0 : Int)).target)] H 0 rfl ?_
 intro _ H
 refine uF 1 ?_
 refine uR 1 [.c [2, 0], .c [3]] ?_
 have H := H.pick [0, 1, 2, 3, 4, 5, 6] rfl
 refine qG (sq 0 9) ?_
 refine RW.new (κ := .seq) (d := some 15) (r := (sq 1 9)) (o := .cells #[.I 1, .I 2, .I 3] 3 (0, 0)) (v := fun b => .slice (some ⟨b, 0, none⟩) 3 3) (fun b => by as_aux_lemma => kernel_rfl) (nofun) H ?_
 intro x4 _ H
 refine uP 1 ?_
 have H := H.freeze 0 rfl (Shape.int .i64) ([1, 2, 3] : List Int) 3 (by simp [maxLen]) (by first | exact Nat.le_refl _ | simp) (EsP.cons (c := [.I 1]) (Shape.int_mk (by decide)) (EsP.cons (c := [.I 2]) (Shape.int_mk (by decide)) (EsP.cons (c := [.I 3]) (Shape.int_mk (by decide)) EsP.nil)))
 have H : Hp w S [] [_] [] [Rp (Shape.slice (Shape.int .i64)) [.slice (some ⟨x4, 0, none⟩) 3 3] ([1, 2, 3] : List Int), _, _, _, _, _, _, _] _ := H
 refine uK (news_spec (C := CB) (conf_mk (H.rp 0 rfl) Shape.slice_nil) (by decide) (by decide) (by decide)) ?_
 rintro _ _ f1 ⟨_, rfl, f4⟩
 obtain ⟨_, h0, i0, j0, k0, L, M, N, O, Q, R, rfl, _, _, _, _, _, _, _, Z0, a1, h9startRCB0Intz15, _, _, _, _, _, N0, O0, _, P0, _⟩ := raft_open f4
 obtain ⟨u0, v0, j, m, rfl, D0, E0⟩ := conf_open Z0
 have Hq := H
 have H := H.addM f1 D0
 have H := H.add (F := Rp (Shape.slice (Shape.int .i64)) [.slice j ((startR CB (0 : Int)).baseConf.learners.length) m] ((startR CB (0 : Int)).baseConf.learners)) ((Hq.addN f1 (F := Rp (Shape.slice (Shape.int .i64)) [.slice j ((startR CB (0 : Int)).baseConf.learners.length) m] ((startR CB (0 : Int)).baseConf.learners)) E0).fact 0 rfl)
 have H := H.add (F := Rp SB [.slice h0 ((startR CB (0 : Int)).snap.length) i0] ((startR CB (0 : Int)).snap)) ((Hq.addN f1 (F := Rp SB [.slice h0 ((startR CB (0 : Int)).snap.length) i0] ((startR CB (0 : Int)).snap)) a1).fact 0 rfl)
 have H := H.add (F := Rp (Shape.slice entS) [.slice j0 ((startR CB (0 : Int)).log.length) k0] ((startR CB (0 : Int)).log)) ((Hq.addN f1 (F := Rp (Shape.slice entS) [.slice j0 ((startR CB (0 : Int)).log.length) k0] ((startR CB (0 : Int)).log)) h9startRCB0Intz15).fact 0 rfl)
 have H := H.add (F := Rp (Shape.slice (Shape.int .i64)) [.slice L ((startR CB (0 : Int)).votes.length) M] ((startR CB (0 : Int)).votes)) ((Hq.addN f1 (F := Rp (Shape.slice (Shape.int .i64)) [.slice L ((startR CB (0 : Int)).votes.length) M] ((startR CB (0 : Int)).votes)) N0).fact 0 rfl)
 have H := H.add (F := Rp (Shape.slice peerS) [.slice N ((startR CB (0 : Int)).peers.length) O] ((startR CB (0 : Int)).peers)) ((Hq.addN f1 (F := Rp (Shape.slice peerS) [.slice N ((startR CB (0 : Int)).peers.length) O] ((startR CB (0 : Int)).peers)) O0).fact 0 rfl)
 have H := H.add (F := Rp (Shape.slice rdgS) [.slice Q ((startR CB (0 : Int)).readings.length) R] ((startR CB (0 : Int)).readings)) ((Hq.addN f1 (F := Rp (Shape.slice rdgS) [.slice Q ((startR CB (0 : Int)).readings.length) R] ((startR CB (0 : Int)).readings)) P0).fact 0 rfl)
 have H : Hp w S [] [_] [] [_, _, _, _, _, _, _, _, _, _, _, _, _, _, _] _ := H
 clear Hq
 refine uP 3 ?_
 refine uC #[.I 0, .I 0, .I 0, .int .u64 0, .I 0, .int .u64 0, .int .u64 0, .slice none 0 0, .slice none 0 0, .slice none 0 0, .slice none 0 0, .int .u64 0, .I 0, .I 0, .I 0, .I 0, .slice none 0 0, .slice none 0 0, .int .u64 0, .slice none 0 0, .I 0] 35 H ?_
 intro N1 _ H
 refine uW 35 0 #[.I ((startR CB (0 : Int)).id), .I ((startR CB (0 : Int)).election), .I ((startR CB (0 : Int)).beat), .int .u64 ((startR CB (0 : Int)).term), .I ((startR CB (0 : Int)).vote), .int .u64 ((startR CB (0 : Int)).base), .int .u64 ((startR CB (0 : Int)).baseTerm), .slice u0 ((startR CB (0 : Int)).baseConf.voters.length) v0, .slice j ((startR CB (0 : Int)).baseConf.learners.length) m, .slice h0 ((startR CB (0 : Int)).snap.length) i0, .slice j0 ((startR CB (0 : Int)).log.length) k0, .int .u64 ((startR CB (0 : Int)).commit), .I ((startR CB (0 : Int)).role), .I ((startR CB (0 : Int)).lead), .I ((startR CB (0 : Int)).elapsed), .I ((startR CB (0 : Int)).timeout), .slice L ((startR CB (0 : Int)).votes.length) M, .slice N ((startR CB (0 : Int)).peers.length) O, .int .u64 ((startR CB (0 : Int)).ctx), .slice Q ((startR CB (0 : Int)).readings.length) R, .I ((startR CB (0 : Int)).target)] H 0 rfl ?_
 intro _ H
 refine uF 1 ?_
 refine uR 1 [.c [3, 0], .c [4]] ?_
 have H := H.pick [0, 1, 2, 3, 4, 5, 6, 8, 9, 10, 11, 12, 13, 14] rfl
 refine qG (sq 0 2) ?_
 refine uC #[.bool false, .int .u64 0, .slice none 0 0, .bool false, .slice none 0 0, .slice none 0 0, .slice none 0 0, .slice none 0 0, .bool false, .I 0] 42 H ?_
 intro O1 _ H
 refine uC #[.bool false, .int .u64 0, .slice none 0 0, .bool false, .slice none 0 0, .slice none 0 0, .slice none 0 0, .slice none 0 0, .bool false, .I 0] 42 H ?_
 intro P1 _ H
 refine uF 0 ?_
 refine qR 4 [.c [4, 0, 1, 0], .b 0, .c [5]] [(1, .P b7 0), (2, .I 0), (3, .P N1 0), (4, .I 0), (5, .P O1 0), (6, .P P1 0), (7, .I 0)] ?_
 have H := H.pick [13, 12, 11, 10, 9, 8, 7, 6, 5, 4, 3, 2, 1, 0] rfl
 refine uL (α := Nat × Option Addr × Option Addr × Option Addr × Option Addr × Option Addr × Option Addr × Option Addr × Option Addr × Option Addr × Option Addr × Option Addr × Option Addr × Option Addr × Option Addr × Nat × Nat × Nat × Nat × Nat × Nat × Nat × Nat × Nat × Nat × Nat × Nat × Nat × Nat) (g := 6) (p := [4, 0, 1, 0, 0]) (fun (i, g1, h1, i1, j1, k1, m1, n1, o1, p1, q1, r1, s1, t1, u1, v1, w1, x1, z1, A1, B1, C1, D1, E1, F1, G1, H1, I1, J1) => [(1, .P b7 0), (2, .I 0), (3, .P N1 0), (4, .I 0), (5, .P O1 0), (6, .P P1 0), (7, .I i)]) (fun (i, g1, h1, i1, j1, k1, m1, n1, o1, p1, q1, r1, s1, t1, u1, v1, w1, x1, z1, A1, B1, C1, D1, E1, F1, G1, H1, I1, J1) w' => Hp w S [] [(P1, .cells #[.bool false, .int .u64 0, .slice none 0 0, .bool false, .slice none 0 0, .slice none 0 0, .slice none 0 0, .slice none 0 0, .bool false, .I 0] 42 (0, 0)), (O1, .cells #[.bool false, .int .u64 0, .slice none 0 0, .bool false, .slice none 0 0, .slice none 0 0, .slice none 0 0, .slice none 0 0, .bool false, .I 0] 42 (0, 0)), (N1, .cells #[.I ((startR CB (i : Int)).id), .I ((startR CB (i : Int)).election), .I ((startR CB (i : Int)).beat), .int .u64 ((startR CB (i : Int)).term), .I ((startR CB (i : Int)).vote), .int .u64 ((startR CB (i : Int)).base), .int .u64 ((startR CB (i : Int)).baseTerm), .slice o1 ((startR CB (i : Int)).baseConf.voters.length) D1, .slice p1 ((startR CB (i : Int)).baseConf.learners.length) E1, .slice q1 ((startR CB (i : Int)).snap.length) F1, .slice r1 ((startR CB (i : Int)).log.length) G1, .int .u64 ((startR CB (i : Int)).commit), .I ((startR CB (i : Int)).role), .I ((startR CB (i : Int)).lead), .I ((startR CB (i : Int)).elapsed), .I ((startR CB (i : Int)).timeout), .slice s1 ((startR CB (i : Int)).votes.length) H1, .slice t1 ((startR CB (i : Int)).peers.length) I1, .int .u64 ((startR CB (i : Int)).ctx), .slice u1 ((startR CB (i : Int)).readings.length) J1, .I ((startR CB (i : Int)).target)] 35 (0, 0)), (b7, .cells #[.I ((startR CA (i : Int)).id), .I ((startR CA (i : Int)).election), .I ((startR CA (i : Int)).beat), .int .u64 ((startR CA (i : Int)).term), .I ((startR CA (i : Int)).vote), .int .u64 ((startR CA (i : Int)).base), .int .u64 ((startR CA (i : Int)).baseTerm), .slice g1 ((startR CA (i : Int)).baseConf.voters.length) v1, .slice h1 ((startR CA (i : Int)).baseConf.learners.length) w1, .slice i1 ((startR CA (i : Int)).snap.length) x1, .slice j1 ((startR CA (i : Int)).log.length) z1, .int .u64 ((startR CA (i : Int)).commit), .I ((startR CA (i : Int)).role), .I ((startR CA (i : Int)).lead), .I ((startR CA (i : Int)).elapsed), .I ((startR CA (i : Int)).timeout), .slice k1 ((startR CA (i : Int)).votes.length) A1, .slice m1 ((startR CA (i : Int)).peers.length) B1, .int .u64 ((startR CA (i : Int)).ctx), .slice n1 ((startR CA (i : Int)).readings.length) C1, .I ((startR CA (i : Int)).target)] 35 (0, 0))] [] [Rp (Shape.slice (Shape.int .i64)) [.slice g1 ((startR CA (i : Int)).baseConf.voters.length) v1] ((startR CA (i : Int)).baseConf.voters), Rp (Shape.slice (Shape.int .i64)) [.slice h1 ((startR CA (i : Int)).baseConf.learners.length) w1] ((startR CA (i : Int)).baseConf.learners), Rp SB [.slice i1 ((startR CA (i : Int)).snap.length) x1] ((startR CA (i : Int)).snap), Rp (Shape.slice entS) [.slice j1 ((startR CA (i : Int)).log.length) z1] ((startR CA (i : Int)).log), Rp (Shape.slice (Shape.int .i64)) [.slice k1 ((startR CA (i : Int)).votes.length) A1] ((startR CA (i : Int)).votes), Rp (Shape.slice peerS) [.slice m1 ((startR CA (i : Int)).peers.length) B1] ((startR CA (i : Int)).peers), Rp (Shape.slice rdgS) [.slice n1 ((startR CA (i : Int)).readings.length) C1] ((startR CA (i : Int)).readings), Rp (Shape.slice (Shape.int .i64)) [.slice o1 ((startR CB (i : Int)).baseConf.voters.length) D1] ((startR CB (i : Int)).baseConf.voters), Rp (Shape.slice (Shape.int .i64)) [.slice p1 ((startR CB (i : Int)).baseConf.learners.length) E1] ((startR CB (i : Int)).baseConf.learners), Rp SB [.slice q1 ((startR CB (i : Int)).snap.length) F1] ((startR CB (i : Int)).snap), Rp (Shape.slice entS) [.slice r1 ((startR CB (i : Int)).log.length) G1] ((startR CB (i : Int)).log), Rp (Shape.slice (Shape.int .i64)) [.slice s1 ((startR CB (i : Int)).votes.length) H1] ((startR CB (i : Int)).votes), Rp (Shape.slice peerS) [.slice t1 ((startR CB (i : Int)).peers.length) I1] ((startR CB (i : Int)).peers), Rp (Shape.slice rdgS) [.slice u1 ((startR CB (i : Int)).readings.length) J1] ((startR CB (i : Int)).readings)] w' ∧ i ≤ 9) (fun (i, g1, h1, i1, j1, k1, m1, n1, o1, p1, q1, r1, s1, t1, u1, v1, w1, x1, z1, A1, B1, C1, D1, E1, F1, G1, H1, I1, J1) => 10 - i) (0, w0, n, m0, o0, b0, d0, f0, u0, j, h0, j0, L, N, Q, x0, q, n0, p0, c0, e0, g0, v0, m, i0, k0, M, O, R) ⟨H, Nat.zero_le _⟩ ?_
 rintro ⟨i, g1, h1, i1, j1, k1, m1, n1, o1, p1, q1, r1, s1, t1, u1, v1, w1, x1, z1, A1, B1, C1, D1, E1, F1, G1, H1, I1, J1⟩ _ ⟨H, _⟩ Q1
 rcases Nat.lt_or_ge i 9 with z4 | z4
 ·
  refine uR 3 [.c [4, 0, 1, 0, 0, 0, 1], .c [4, 0, 1, 0, 0, 1], .l [4, 0, 1, 0, 0], .b 0, .c [5]] ?_
  refine qD (((i : Int) : Int) < 10) (fun A4 => ?_) (fun A4 => ?_)
  ·
   refine uR 4 [.c [4, 0, 1, 0, 0, 1, 0, 0, 0], .c [4, 0, 1, 0, 0, 1, 0, 0, 1], .b 1, .c [4, 0, 1, 0, 0, 2], .l [4, 0, 1, 0, 0], .b 0, .c [5]] ?_
   refine qG (sq 0 8) ?_
   refine uV 35 0 (H.cells 3 rfl) ?_
   refine uP 1 ?_
   have D4 := startR_rng (C := CA) (k := ((i : Int) : Int)) (by omega)
   refine uK (stepWs (C := CA) (k := (i : Int)) (raft_mk (l0 := [.I ((startR CA (i : Int)).id)]) (y0 := (startR CA (i : Int)).id) (l1 := [.I ((startR CA (i : Int)).election)]) (y1 := (startR CA (i : Int)).election) (l2 := [.I ((startR CA (i : Int)).beat)]) (y2 := (startR CA (i : Int)).beat) (l3 := [.int .u64 ((startR CA (i : Int)).term)]) (y3 := (startR CA (i : Int)).term) (l4 := [.I ((startR CA (i : Int)).vote)]) (y4 := (startR CA (i : Int)).vote) (l5 := [.int .u64 ((startR CA (i : Int)).base)]) (y5 := (startR CA (i : Int)).base) (l6 := [.int .u64 ((startR CA (i : Int)).baseTerm)]) (y6 := (startR CA (i : Int)).baseTerm) (l7 := [.slice g1 ((startR CA (i : Int)).baseConf.voters.length) v1, .slice h1 ((startR CA (i : Int)).baseConf.learners.length) w1]) (y7 := ⟨(startR CA (i : Int)).baseConf.voters, (startR CA (i : Int)).baseConf.learners⟩) (l8 := [.slice i1 ((startR CA (i : Int)).snap.length) x1]) (y8 := (startR CA (i : Int)).snap) (l9 := [.slice j1 ((startR CA (i : Int)).log.length) z1]) (y9 := (startR CA (i : Int)).log) (l10 := [.int .u64 ((startR CA (i : Int)).commit)]) (y10 := (startR CA (i : Int)).commit) (l11 := [.I ((startR CA (i : Int)).role)]) (y11 := (startR CA (i : Int)).role) (l12 := [.I ((startR CA (i : Int)).lead)]) (y12 := (startR CA (i : Int)).lead) (l13 := [.I ((startR CA (i : Int)).elapsed)]) (y13 := (startR CA (i : Int)).elapsed) (l14 := [.I ((startR CA (i : Int)).timeout)]) (y14 := (startR CA (i : Int)).timeout) (l15 := [.slice k1 ((startR CA (i : Int)).votes.length) A1]) (y15 := (startR CA (i : Int)).votes) (l16 := [.slice m1 ((startR CA (i : Int)).peers.length) B1]) (y16 := (startR CA (i : Int)).peers) (l17 := [.int .u64 ((startR CA (i : Int)).ctx)]) (y17 := (startR CA (i : Int)).ctx) (l18 := [.slice n1 ((startR CA (i : Int)).readings.length) C1]) (y18 := (startR CA (i : Int)).readings) (l19 := [.I ((startR CA (i : Int)).target)]) (y19 := (startR CA (i : Int)).target) i64a i64a i64a u64a i64a u64a u64a (conf_mk (H.rp 0 rfl) (H.rp 1 rfl)) (H.rp 2 rfl) (H.rp 3 rfl) u64a i64a i64a i64a i64a (H.rp 4 rfl) (H.rp 5 rfl) u64a (H.rp 6 rfl) i64a) (by decide) (by decide) (by decide) (by omega)) ?_
   rintro _ _ K1 ⟨_, rfl, g4⟩
   obtain ⟨_, T, U, V, W, s, t, u, x, y, z, rfl, _, _, _, _, _, _, _, Q0, R0, S0, _, _, _, _, _, H0, I0, _, J0, _⟩ := raft_open g4
   obtain ⟨q0, r0, a, e, rfl, z0, A0⟩ := conf_open Q0
   have Hq := H
   have H := H.addM K1 z0
   have H := H.add (F := Rp (Shape.slice (Shape.int .i64)) [.slice a ((startR CA ((i + 1) : Int)).baseConf.learners.length) e] ((startR CA ((i + 1) : Int)).baseConf.learners)) ((Hq.addN K1 (F := Rp (Shape.slice (Shape.int .i64)) [.slice a ((startR CA ((i + 1) : Int)).baseConf.learners.length) e] ((startR CA ((i + 1) : Int)).baseConf.learners)) A0).fact 0 rfl)
   have H := H.add (F := Rp SB [.slice T ((startR CA ((i + 1) : Int)).snap.length) U] ((startR CA ((i + 1) : Int)).snap)) ((Hq.addN K1 (F := Rp SB [.slice T ((startR CA ((i + 1) : Int)).snap.length) U] ((startR CA ((i + 1) : Int)).snap)) R0).fact 0 rfl)
   have H := H.add (F := Rp (Shape.slice entS) [.slice V ((startR CA ((i + 1) : Int)).log.length) W] ((startR CA ((i + 1) : Int)).log)) ((Hq.addN K1 (F := Rp (Shape.slice entS) [.slice V ((startR CA ((i + 1) : Int)).log.length) W] ((startR CA ((i + 1) : Int)).log)) S0).fact 0 rfl)
   have H := H.add (F := Rp (Shape.slice (Shape.int .i64)) [.slice s ((startR CA ((i + 1) : Int)).votes.length) t] ((startR CA ((i + 1) : Int)).votes)) ((Hq.addN K1 (F := Rp (Shape.slice (Shape.int .i64)) [.slice s ((startR CA ((i + 1) : Int)).votes.length) t] ((startR CA ((i + 1) : Int)).votes)) H0).fact 0 rfl)
   have H := H.add (F := Rp (Shape.slice peerS) [.slice u ((startR CA ((i + 1) : Int)).peers.length) x] ((startR CA ((i + 1) : Int)).peers)) ((Hq.addN K1 (F := Rp (Shape.slice peerS) [.slice u ((startR CA ((i + 1) : Int)).peers.length) x] ((startR CA ((i + 1) : Int)).peers)) I0).fact 0 rfl)
   have H := H.add (F := Rp (Shape.slice rdgS) [.slice y ((startR CA ((i + 1) : Int)).readings.length) z] ((startR CA ((i + 1) : Int)).readings)) ((Hq.addN K1 (F := Rp (Shape.slice rdgS) [.slice y ((startR CA ((i + 1) : Int)).readings.length) z] ((startR CA ((i + 1) : Int)).readings)) J0).fact 0 rfl)
   have H : Hp w S [] [_, _, _, _] [] [_, _, _, _, _, _, _, _, _, _, _, _, _, _, _, _, _, _, _, _, _] _ := H
   clear Hq
   refine uP 3 ?_
   refine uW 35 0 #[.I ((startR CA ((i + 1) : Int)).id), .I ((startR CA ((i + 1) : Int)).election), .I ((startR CA ((i + 1) : Int)).beat), .int .u64 ((startR CA ((i + 1) : Int)).term), .I ((startR CA ((i + 1) : Int)).vote), .int .u64 ((startR CA ((i + 1) : Int)).base), .int .u64 ((startR CA ((i + 1) : Int)).baseTerm), .slice q0 ((startR CA ((i + 1) : Int)).baseConf.voters.length) r0, .slice a ((startR CA ((i + 1) : Int)).baseConf.learners.length) e, .slice T ((startR CA ((i + 1) : Int)).snap.length) U, .slice V ((startR CA ((i + 1) : Int)).log.length) W, .int .u64 ((startR CA ((i + 1) : Int)).commit), .I ((startR CA ((i + 1) : Int)).role), .I ((startR CA ((i + 1) : Int)).lead), .I ((startR CA ((i + 1) : Int)).elapsed), .I ((startR CA ((i + 1) : Int)).timeout), .slice s ((startR CA ((i + 1) : Int)).votes.length) t, .slice u ((startR CA ((i + 1) : Int)).peers.length) x, .int .u64 ((startR CA ((i + 1) : Int)).ctx), .slice y ((startR CA ((i + 1) : Int)).readings.length) z, .I ((startR CA ((i + 1) : Int)).target)] H 3 rfl ?_
   intro _ H
   refine uW 42 0 #[.bool false, .int .u64 0, .slice none 0 0, .bool false, .slice none 0 0, .slice none 0 0, .slice none 0 0, .slice none 0 0, .bool false, .I 0] H 1 rfl ?_
   intro _ H
   refine uF 0 ?_
   refine qG (sq 0 8) ?_
   refine uV 35 0 (H.cells 2 rfl) ?_
   refine uP 1 ?_
   have E4 := startR_rng (C := CB) (k := ((i : Int) : Int)) (by omega)
   refine uK (stepWs (C := CB) (k := (i : Int)) (raft_mk (l0 := [.I ((startR CB (i : Int)).id)]) (y0 := (startR CB (i : Int)).id) (l1 := [.I ((startR CB (i : Int)).election)]) (y1 := (startR CB (i : Int)).election) (l2 := [.I ((startR CB (i : Int)).beat)]) (y2 := (startR CB (i : Int)).beat) (l3 := [.int .u64 ((startR CB (i : Int)).term)]) (y3 := (startR CB (i : Int)).term) (l4 := [.I ((startR CB (i : Int)).vote)]) (y4 := (startR CB (i : Int)).vote) (l5 := [.int .u64 ((startR CB (i : Int)).base)]) (y5 := (startR CB (i : Int)).base) (l6 := [.int .u64 ((startR CB (i : Int)).baseTerm)]) (y6 := (startR CB (i : Int)).baseTerm) (l7 := [.slice o1 ((startR CB (i : Int)).baseConf.voters.length) D1, .slice p1 ((startR CB (i : Int)).baseConf.learners.length) E1]) (y7 := ⟨(startR CB (i : Int)).baseConf.voters, (startR CB (i : Int)).baseConf.learners⟩) (l8 := [.slice q1 ((startR CB (i : Int)).snap.length) F1]) (y8 := (startR CB (i : Int)).snap) (l9 := [.slice r1 ((startR CB (i : Int)).log.length) G1]) (y9 := (startR CB (i : Int)).log) (l10 := [.int .u64 ((startR CB (i : Int)).commit)]) (y10 := (startR CB (i : Int)).commit) (l11 := [.I ((startR CB (i : Int)).role)]) (y11 := (startR CB (i : Int)).role) (l12 := [.I ((startR CB (i : Int)).lead)]) (y12 := (startR CB (i : Int)).lead) (l13 := [.I ((startR CB (i : Int)).elapsed)]) (y13 := (startR CB (i : Int)).elapsed) (l14 := [.I ((startR CB (i : Int)).timeout)]) (y14 := (startR CB (i : Int)).timeout) (l15 := [.slice s1 ((startR CB (i : Int)).votes.length) H1]) (y15 := (startR CB (i : Int)).votes) (l16 := [.slice t1 ((startR CB (i : Int)).peers.length) I1]) (y16 := (startR CB (i : Int)).peers) (l17 := [.int .u64 ((startR CB (i : Int)).ctx)]) (y17 := (startR CB (i : Int)).ctx) (l18 := [.slice u1 ((startR CB (i : Int)).readings.length) J1]) (y18 := (startR CB (i : Int)).readings) (l19 := [.I ((startR CB (i : Int)).target)]) (y19 := (startR CB (i : Int)).target) i64a i64a i64a u64a i64a u64a u64a (conf_mk (H.rp 14 rfl) (H.rp 15 rfl)) (H.rp 16 rfl) (H.rp 17 rfl) u64a i64a i64a i64a i64a (H.rp 18 rfl) (H.rp 19 rfl) u64a (H.rp 20 rfl) i64a) (by decide) (by decide) (by decide) (by omega)) ?_
   rintro _ _ L1 ⟨_, rfl, h4⟩
   obtain ⟨_, X, Y, Z, a0, A, B, D, E, J, K, rfl, _, _, _, _, _, _, _, T0, U0, V0, _, _, _, _, _, K0, L0, _, M0, _⟩ := raft_open h4
   obtain ⟨s0, t0, f, h, rfl, B0, C0⟩ := conf_open T0
   have Hq := H
   have H := H.addM L1 B0
   have H := H.add (F := Rp (Shape.slice (Shape.int .i64)) [.slice f ((startR CB ((i + 1) : Int)).baseConf.learners.length) h] ((startR CB ((i + 1) : Int)).baseConf.learners)) ((Hq.addN L1 (F := Rp (Shape.slice (Shape.int .i64)) [.slice f ((startR CB ((i + 1) : Int)).baseConf.learners.length) h] ((startR CB ((i + 1) : Int)).baseConf.learners)) C0).fact 0 rfl)
   have H := H.add (F := Rp SB [.slice X ((startR CB ((i + 1) : Int)).snap.length) Y] ((startR CB ((i + 1) : Int)).snap)) ((Hq.addN L1 (F := Rp SB [.slice X ((startR CB ((i + 1) : Int)).snap.length) Y] ((startR CB ((i + 1) : Int)).snap)) U0).fact 0 rfl)
   have H := H.add (F := Rp (Shape.slice entS) [.slice Z ((startR CB ((i + 1) : Int)).log.length) a0] ((startR CB ((i + 1) : Int)).log)) ((Hq.addN L1 (F := Rp (Shape.slice entS) [.slice Z ((startR CB ((i + 1) : Int)).log.length) a0] ((startR CB ((i + 1) : Int)).log)) V0).fact 0 rfl)
   have H := H.add (F := Rp (Shape.slice (Shape.int .i64)) [.slice A ((startR CB ((i + 1) : Int)).votes.length) B] ((startR CB ((i + 1) : Int)).votes)) ((Hq.addN L1 (F := Rp (Shape.slice (Shape.int .i64)) [.slice A ((startR CB ((i + 1) : Int)).votes.length) B] ((startR CB ((i + 1) : Int)).votes)) K0).fact 0 rfl)
   have H := H.add (F := Rp (Shape.slice peerS) [.slice D ((startR CB ((i + 1) : Int)).peers.length) E] ((startR CB ((i + 1) : Int)).peers)) ((Hq.addN L1 (F := Rp (Shape.slice peerS) [.slice D ((startR CB ((i + 1) : Int)).peers.length) E] ((startR CB ((i + 1) : Int)).peers)) L0).fact 0 rfl)
   have H := H.add (F := Rp (Shape.slice rdgS) [.slice J ((startR CB ((i + 1) : Int)).readings.length) K] ((startR CB ((i + 1) : Int)).readings)) ((Hq.addN L1 (F := Rp (Shape.slice rdgS) [.slice J ((startR CB ((i + 1) : Int)).readings.length) K] ((startR CB ((i + 1) : Int)).readings)) M0).fact 0 rfl)
   have H : Hp w S [] [_, _, _, _] [] [_, _, _, _, _, _, _, _, _, _, _, _, _, _, _, _, _, _, _, _, _, _, _, _, _, _, _, _] _ := H
   clear Hq
   refine uP 3 ?_
   refine uW 35 0 #[.I ((startR CB ((i + 1) : Int)).id), .I ((startR CB ((i + 1) : Int)).election), .I ((startR CB ((i + 1) : Int)).beat), .int .u64 ((startR CB ((i + 1) : Int)).term), .I ((startR CB ((i + 1) : Int)).vote), .int .u64 ((startR CB ((i + 1) : Int)).base), .int .u64 ((startR CB ((i + 1) : Int)).baseTerm), .slice s0 ((startR CB ((i + 1) : Int)).baseConf.voters.length) t0, .slice f ((startR CB ((i + 1) : Int)).baseConf.learners.length) h, .slice X ((startR CB ((i + 1) : Int)).snap.length) Y, .slice Z ((startR CB ((i + 1) : Int)).log.length) a0, .int .u64 ((startR CB ((i + 1) : Int)).commit), .I ((startR CB ((i + 1) : Int)).role), .I ((startR CB ((i + 1) : Int)).lead), .I ((startR CB ((i + 1) : Int)).elapsed), .I ((startR CB ((i + 1) : Int)).timeout), .slice A ((startR CB ((i + 1) : Int)).votes.length) B, .slice D ((startR CB ((i + 1) : Int)).peers.length) E, .int .u64 ((startR CB ((i + 1) : Int)).ctx), .slice J ((startR CB ((i + 1) : Int)).readings.length) K, .I ((startR CB ((i + 1) : Int)).target)] H 2 rfl ?_
   intro _ H
   refine uW 42 0 #[.bool false, .int .u64 0, .slice none 0 0, .bool false, .slice none 0 0, .slice none 0 0, .slice none 0 0, .slice none 0 0, .bool false, .I 0] H 0 rfl ?_
   intro _ H
   refine uF 0 ?_
   refine uR 1 [.c [4, 0, 1, 0, 0, 2], .l [4, 0, 1, 0, 0], .b 0, .c [5]] ?_
   refine qG (sq 0 3) ?_
   refine uP 1 ?_
   refine uI ((i : Int) + 1) ?_
   refine qF 1 [(1, .P b7 0), (2, .I 0), (3, .P N1 0), (4, .I 0), (5, .P O1 0), (6, .P P1 0), (7, .I ((i : Int) + 1))] ?_
   have H := H.pick [13, 12, 11, 10, 9, 8, 7, 6, 5, 4, 3, 2, 1, 0] rfl
   exact uB (Q1 (i + 1, q0, a, T, V, s, u, y, s0, f, X, Z, A, D, J, r0, e, U, W, t, x, z, t0, h, Y, a0, B, E, K) _ ⟨H, by omega⟩ (by first | omega | (simp only []; omega)))
  ·
   omega
 ·
  obtain rfl : i = 9 := by omega
  refine uR 8 [.c [4, 0, 1, 0, 0, 1, 0, 0, 0], .c [4, 0, 1, 0, 0, 1, 0, 0, 1], .b 1, .c [4, 0, 1, 0, 0, 2], .l [4, 0, 1, 0, 0], .b 0, .c [5]] ?_
  refine qG (sq 0 8) ?_
  refine uV 35 0 (H.cells 3 rfl) ?_
  refine uP 1 ?_
  have F4 := startR_rng (C := CA) (k := (9 : Int)) (by omega)
  refine uK (stepAs (raft_mk (l0 := [.I ((startR CA (9 : Int)).id)]) (y0 := (startR CA (9 : Int)).id) (l1 := [.I ((startR CA (9 : Int)).election)]) (y1 := (startR CA (9 : Int)).election) (l2 := [.I ((startR CA (9 : Int)).beat)]) (y2 := (startR CA (9 : Int)).beat) (l3 := [.int .u64 ((startR CA (9 : Int)).term)]) (y3 := (startR CA (9 : Int)).term) (l4 := [.I ((startR CA (9 : Int)).vote)]) (y4 := (startR CA (9 : Int)).vote) (l5 := [.int .u64 ((startR CA (9 : Int)).base)]) (y5 := (startR CA (9 : Int)).base) (l6 := [.int .u64 ((startR CA (9 : Int)).baseTerm)]) (y6 := (startR CA (9 : Int)).baseTerm) (l7 := [.slice g1 ((startR CA (9 : Int)).baseConf.voters.length) v1, .slice h1 ((startR CA (9 : Int)).baseConf.learners.length) w1]) (y7 := ⟨(startR CA (9 : Int)).baseConf.voters, (startR CA (9 : Int)).baseConf.learners⟩) (l8 := [.slice i1 ((startR CA (9 : Int)).snap.length) x1]) (y8 := (startR CA (9 : Int)).snap) (l9 := [.slice j1 ((startR CA (9 : Int)).log.length) z1]) (y9 := (startR CA (9 : Int)).log) (l10 := [.int .u64 ((startR CA (9 : Int)).commit)]) (y10 := (startR CA (9 : Int)).commit) (l11 := [.I ((startR CA (9 : Int)).role)]) (y11 := (startR CA (9 : Int)).role) (l12 := [.I ((startR CA (9 : Int)).lead)]) (y12 := (startR CA (9 : Int)).lead) (l13 := [.I ((startR CA (9 : Int)).elapsed)]) (y13 := (startR CA (9 : Int)).elapsed) (l14 := [.I ((startR CA (9 : Int)).timeout)]) (y14 := (startR CA (9 : Int)).timeout) (l15 := [.slice k1 ((startR CA (9 : Int)).votes.length) A1]) (y15 := (startR CA (9 : Int)).votes) (l16 := [.slice m1 ((startR CA (9 : Int)).peers.length) B1]) (y16 := (startR CA (9 : Int)).peers) (l17 := [.int .u64 ((startR CA (9 : Int)).ctx)]) (y17 := (startR CA (9 : Int)).ctx) (l18 := [.slice n1 ((startR CA (9 : Int)).readings.length) C1]) (y18 := (startR CA (9 : Int)).readings) (l19 := [.I ((startR CA (9 : Int)).target)]) (y19 := (startR CA (9 : Int)).target) i64a i64a i64a u64a i64a u64a u64a (conf_mk (H.rp 0 rfl) (H.rp 1 rfl)) (H.rp 2 rfl) (H.rp 3 rfl) u64a i64a i64a i64a i64a (H.rp 4 rfl) (H.rp 5 rfl) u64a (H.rp 6 rfl) i64a)) ?_
  rintro _ _ i4 ⟨u3, v3, x3, z3, A3, B3, q2, r2, s2, t2, u2, v2, x2, z2, A2, R1, S1, T1, B2, C2, D2, U1, V1, W1, X1, Y1, Z1, E2, a2, b2, c2, F2, C3, G2, H2, I2, D3, J2, K2, L2, M2, N2, O2, P2, Q2, R2, E3, F3, G3, H3, rfl⟩
  have H := H.ext i4
  refine uP 3 ?_
  refine uW 35 0 #[.I u3, .I v3, .I x3, .int .u64 1, .I z3, .int .u64 A3, .int .u64 B3, .slice q2 r2 s2, .slice t2 u2 v2, .slice x2 z2 A2, .slice R1 S1 T1, .int .u64 1, .I 3, .I B2, .I C2, .I D2, .slice U1 V1 W1, .slice X1 Y1 Z1, .int .u64 E2, .slice a2 b2 c2, .I F2] H 3 rfl ?_
  intro _ H
  refine uW 42 0 #[.bool true, .int .u64 C3, .slice G2 H2 I2, .bool D3, .slice J2 K2 L2, .slice G3 1 H3, .slice M2 N2 O2, .slice P2 Q2 R2, .bool E3, .I F3] H 1 rfl ?_
  intro _ H
  refine uF 0 ?_
  refine qG (sq 0 8) ?_
  refine uV 35 0 (H.cells 2 rfl) ?_
  refine uP 1 ?_
  have G4 := startR_rng (C := CB) (k := (9 : Int)) (by omega)
  refine uK (stepBs (raft_mk (l0 := [.I ((startR CB (9 : Int)).id)]) (y0 := (startR CB (9 : Int)).id) (l1 := [.I ((startR CB (9 : Int)).election)]) (y1 := (startR CB (9 : Int)).election) (l2 := [.I ((startR CB (9 : Int)).beat)]) (y2 := (startR CB (9 : Int)).beat) (l3 := [.int .u64 ((startR CB (9 : Int)).term)]) (y3 := (startR CB (9 : Int)).term) (l4 := [.I ((startR CB (9 : Int)).vote)]) (y4 := (startR CB (9 : Int)).vote) (l5 := [.int .u64 ((startR CB (9 : Int)).base)]) (y5 := (startR CB (9 : Int)).base) (l6 := [.int .u64 ((startR CB (9 : Int)).baseTerm)]) (y6 := (startR CB (9 : Int)).baseTerm) (l7 := [.slice o1 ((startR CB (9 : Int)).baseConf.voters.length) D1, .slice p1 ((startR CB (9 : Int)).baseConf.learners.length) E1]) (y7 := ⟨(startR CB (9 : Int)).baseConf.voters, (startR CB (9 : Int)).baseConf.learners⟩) (l8 := [.slice q1 ((startR CB (9 : Int)).snap.length) F1]) (y8 := (startR CB (9 : Int)).snap) (l9 := [.slice r1 ((startR CB (9 : Int)).log.length) G1]) (y9 := (startR CB (9 : Int)).log) (l10 := [.int .u64 ((startR CB (9 : Int)).commit)]) (y10 := (startR CB (9 : Int)).commit) (l11 := [.I ((startR CB (9 : Int)).role)]) (y11 := (startR CB (9 : Int)).role) (l12 := [.I ((startR CB (9 : Int)).lead)]) (y12 := (startR CB (9 : Int)).lead) (l13 := [.I ((startR CB (9 : Int)).elapsed)]) (y13 := (startR CB (9 : Int)).elapsed) (l14 := [.I ((startR CB (9 : Int)).timeout)]) (y14 := (startR CB (9 : Int)).timeout) (l15 := [.slice s1 ((startR CB (9 : Int)).votes.length) H1]) (y15 := (startR CB (9 : Int)).votes) (l16 := [.slice t1 ((startR CB (9 : Int)).peers.length) I1]) (y16 := (startR CB (9 : Int)).peers) (l17 := [.int .u64 ((startR CB (9 : Int)).ctx)]) (y17 := (startR CB (9 : Int)).ctx) (l18 := [.slice u1 ((startR CB (9 : Int)).readings.length) J1]) (y18 := (startR CB (9 : Int)).readings) (l19 := [.I ((startR CB (9 : Int)).target)]) (y19 := (startR CB (9 : Int)).target) i64a i64a i64a u64a i64a u64a u64a (conf_mk (H.rp 7 rfl) (H.rp 8 rfl)) (H.rp 9 rfl) (H.rp 10 rfl) u64a i64a i64a i64a i64a (H.rp 11 rfl) (H.rp 12 rfl) u64a (H.rp 13 rfl) i64a)) ?_
  rintro _ _ j4 ⟨I3, J3, K3, L3, M3, N3, O3, S2, T2, U2, V2, W2, X2, Y2, Z2, a3, d2, e2, f2, b3, c3, d3, e3, g2, h2, i2, j2, k2, m2, f3, n2, o2, p2, g3, P3, Q3, h3, i3, j3, R3, k3, m3, n3, o3, p3, q3, r3, s3, t3, S3, T3, U3, V3, rfl, k4⟩
  have H := H.addM j4 k4
  refine uP 3 ?_
  refine uW 35 0 #[.I I3, .I J3, .I K3, .int .u64 L3, .I M3, .int .u64 N3, .int .u64 O3, .slice S2 T2 U2, .slice V2 W2 X2, .slice Y2 Z2 a3, .slice d2 e2 f2, .int .u64 b3, .I 1, .I c3, .I d3, .I e3, .slice g2 h2 i2, .slice j2 k2 m2, .int .u64 f3, .slice n2 o2 p2, .I g3] H 2 rfl ?_
  intro _ H
  refine uW 42 0 #[.bool P3, .int .u64 Q3, .slice h3 i3 j3, .bool R3, .slice U3 2 V3, .slice k3 m3 n3, .slice o3 p3 q3, .slice r3 s3 t3, .bool S3, .I T3] H 0 rfl ?_
  intro _ H
  refine uF 0 ?_
  refine uR 2 [.l [4, 0, 1, 0, 0], .b 0, .c [5]] ?_
  refine WK.again ?_
  refine uR 6 [.c [5, 0], .c [6]] ?_
  refine qG (sq 0 59) ?_
  refine qP 8 (sq 8 59) [(1, .P b7 0), (3, .P N1 0), (5, .P O1 0), (6, .P P1 0), (42, .bool true), (43, .P b7 12)] ?_
  refine uV 31 12 (H.cells 3 rfl) ?_
  refine uP 4 ?_
  refine uV 25 3 (H.cells 3 rfl) ?_
  refine uP 4 ?_
  refine uV 25 11 (H.cells 3 rfl) ?_
  refine uP 4 ?_
  refine uV 4 0 (H.cells 1 rfl) ?_
  refine uP 3 ?_
  refine uV 30 5 (H.cells 1 rfl) ?_
  refine uP 5 ?_
  refine uV 31 12 (H.cells 2 rfl) ?_
  refine uP 4 ?_
  refine uV 39 4 (H.cells 0 rfl) ?_
  refine uP 5 ?_
  refine uV 39 4 (H.cells 0 rfl) ?_
  have H4 : 0 < msB.length := by decide
  refine uX 39 0 H 0 rfl 0 (by omega) (rfl) ?_
  intro _ _ _ m4 H
  obtain ⟨_, _, _, _, _, _, _, _, rfl, _, _, _, _, _, _, _, _, n4, o4, p4, q4, _, _, _, _, _, r4⟩ := msg_open m4
  obtain ⟨_, _, _, _, rfl, s4, t4⟩ := conf_open o4
  obtain ⟨_, rfl, u4, _, _, _⟩ := hdr_open p4
  obtain ⟨rfl, _, _, _⟩ := cid_open u4
  have H := H.addR n4
  have H := H.addR s4
  have H := H.addR t4
  have H := H.addR q4
  have H := H.addR r4
  refine uP 1 ?_
  refine uV 46 0 (H.fc 5 rfl) ?_
  refine uP 3 ?_
  refine uE 86 ((askM (preM 1) 0 0 1 2).kind) 1 (fun e4 => ?_) (fun e4 => ?_)
  ·
   refine uP 1 ?_
   refine uV 39 4 (H.cells 0 rfl) ?_
   have I4 : 0 < msB.length := by decide
   refine uX 39 0 H 6 rfl 0 (by omega) (rfl) ?_
   intro B4 C4 _ v4 H
   obtain ⟨_, _, _, _, _, _, _, _, rfl, _, _, _, _, _, _, _, _, W3, X3, Y3, Z3, _, _, _, _, _, a4⟩ := msg_open v4
   obtain ⟨_, _, _, _, rfl, b4, c4⟩ := conf_open X3
   obtain ⟨_, rfl, d4, _, _, _⟩ := hdr_open Y3
   obtain ⟨rfl, _, _, _⟩ := cid_open d4
   have H := H.addR W3
   have H := H.addR b4
   have H := H.addR c4
   have H := H.addR Z3
   have H := H.addR a4
   refine qP 1 (sq 55 59) [(86, .bool true), (90, .pointer (some ⟨B4, C4 + 2, none⟩))] ?_
   refine uV 3 2 (H.fc 5 rfl) ?_
   refine uF 3 ?_
   refine qT (.bool (((askM (preM 1) 0 0 1 2).to) == 2)) Tryz.func6 ?_
   exact ⟨_, rfl, H.done, rfl⟩
  ·
   exact absurd rfl e4
end Go.Proofs.YtkjkmogipidkiaaGreat
