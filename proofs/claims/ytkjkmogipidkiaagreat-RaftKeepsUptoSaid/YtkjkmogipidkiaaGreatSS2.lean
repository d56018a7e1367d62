import Derived.Test.YtkjkmogipidkiaaGreatSBxA
import Derived.Test.YtkjkmogipidkiaaGreatSS1
namespace Go.Proofs.YtkjkmogipidkiaaGreat
open Go.BX
theorem putconf_spec {S : Nat → Prop} {w : World} {ys : List (BitVec 8)} {a0 : Option Addr} {c0 : Nat} (h0 : SB.rep S w [.slice a0 ys.length c0] ys) {cs : List Value} {C : Conf} (h : confS.rep S w cs C) (hz : C.voters.length ≤ 1048576 ∧ C.learners.length ≤ 1048576) (hby : ys.length ≤ 1048576) :
 Calls Tryz.prog 47 #[.slice a0 ys.length c0, .agg cs.toArray] w (Ret fun v w' => Ext w w' ∧ Hp w S [] [] [⟨Sb, 5, v, ys ++ confE C⟩] [] w') := by
 obtain ⟨g, i, j, k, rfl, hvC, hlC⟩ := conf_open h
 refine uS1 Tryz.func47 ?_
 have H := Hp.startF (.rp h0 (.rp hvC (.rp hlC .nil)))
 refine uR 1 [.c [0], .c [1]] ?_
 refine qG (sq 0 2) ?_
 refine uC #[.slice g C.voters.length i, .slice j C.learners.length k] 28 H ?_
 intro l _ H
 refine uF 1 ?_
 refine uR 1 [.c [1, 0], .c [2]] ?_
 refine qG (sq 0 3) ?_
 refine uP 1 ?_
 refine uK (writer_spec (ys := ys) (H.rp 0 rfl) (by first | omega | simp)) ?_
 rintro _ _ - ⟨f, b, d, rfl, H'⟩
 have H := H.back (M1 := []) (W1 := []) H'
 have H : Hp w S [] [(f, .cells #[.slice b ys.length d, .I 0, .bool true, .bool false] 130 (0, 0)), (l, .cells #[.slice g C.voters.length i, .slice j C.learners.length k] 28 (0, 0))] [⟨Sb, 5, .slice b ys.length d, ys⟩] [_, _, _] _ := H
 refine uF 1 ?_
 refine uR 1 [.c [2, 0], .c [3]] ?_
 refine qG (sq 0 3) ?_
 refine uP 1 ?_
 refine uV 28 0 (H.cells 1 rfl) ?_
 refine uKS (pconf_spec (C := C) ((H.lend (M1 := [(f, .cells #[.slice b ys.length d, .I 0, .bool true, .bool false] 130 (0, 0))]) (W1 := [⟨Sb, 5, .slice b ys.length d, ys⟩])).pick [1, 2] rfl) (by first | omega | (simp only [List.length_append, List.length_nil]; omega))) ?_
 rintro _ _ ⟨e, a, ⟨_, _, _, _, rfl⟩, H'⟩
 have H := H.back (M1 := [(f, .cells #[.slice b ys.length d, .I 0, .bool true, .bool false] 130 (0, 0))]) (W1 := [⟨Sb, 5, .slice b ys.length d, ys⟩]) H'
 have H : Hp w S [] [(f, .cells #[.slice e (ys ++ confE C).length a, .I 0, .bool true, .bool false] 130 (0, 0)), _] [⟨Sb, 5, .slice e (ys ++ confE C).length a, (ys ++ confE C)⟩] [_, _, _] _ := H
 refine uF 0 ?_
 refine uR 1 [.c [3, 0], .c [4]] ?_
 refine qG (sq 0 5) ?_
 refine uP 3 ?_
 refine uV 29 0 (H.cells 0 rfl) ?_
 refine qF 1 [(4, .slice e (ys ++ confE C).length a)] ?_
 refine qT (.slice e (ys ++ confE C).length a) Tryz.func47 ?_
 have H := H.drop (M' := []) (W' := [⟨Sb, 5, .slice e (ys ++ confE C).length a, (ys ++ confE C)⟩]) (List.nil_sublist _) (List.Sublist.refl _)
 exact ⟨_, rfl, H.done, H.pick [] rfl⟩
theorem sameconf_eq {S : Nat → Prop} {w : World} {C : Conf} {cs ds : List Value} (h : confS.rep S w cs C) (h2 : confS.rep S w ds C) (hz : C.voters.length ≤ 1048576 ∧ C.learners.length ≤ 1048576) :
 Calls Tryz.prog 25 #[.agg cs.toArray, .agg ds.toArray] w (Ret fun v w' => Ext w w' ∧ v = .bool true) := by
 obtain ⟨b, e, f, g, rfl, o, p⟩ := conf_open h
 obtain ⟨i, j, k, l, rfl, q, s⟩ := conf_open h2
 refine uS1 Tryz.func25 ?_
 have H := Hp.startF (.rp o (.rp p (.rp q (.rp s .nil))))
 refine uR 1 [.c [0], .c [1]] ?_
 refine qG (sq 0 3) ?_
 refine uC #[.slice b C.voters.length e, .slice f C.learners.length g] 28 H ?_
 intro y _ H
 refine uC #[.slice i C.voters.length j, .slice k C.learners.length l] 28 H ?_
 intro z t H
 refine uF 1 ?_
 refine uR 1 [.c [1, 0], .c [2]] ?_
 refine WK.draw1 8 [(0, .qui), (3, .qui), (1, .chn), (2, .qui), (4, .chn), (5, .qui), (6, .qui), (7, .qui)] [(0, .qui), (3, .qui), (1, .chn), (2, .qui), (4, .chn), (5, .qui), (6, .qui), (7, .qui)] Tryz_mixed (by as_aux_lemma => kernel_rfl) (by as_aux_lemma => kernel_rfl) (by as_aux_lemma => kernel_rfl) ?_
 have H := H.draw
 generalize ({ t with drawn := t.drawn + 1 } : World) = A at H ⊢
 refine uV 28 0 (H.cells 1 rfl) ?_
 refine uV 28 0 (H.cells 0 rfl) ?_
 have H := H.addRp SB [.slice none 0 0] [] Shape.slice_nil
 refine uK (putconf_spec (ys := ([] : List (BitVec 8))) (C := C) (H.rp 0 rfl) (conf_mk (H.rp 1 rfl) (H.rp 2 rfl)) (by first | assumption | omega) (by simp)) ?_
 rintro _ _ - H'
 have H := H.back (M1 := []) (W1 := []) H'
 obtain ⟨u, x, rfl, _, _⟩ := H.ownForm 0 rfl
 have H : Hp w S [] [(z, .cells #[.slice i C.voters.length j, .slice k C.learners.length l] 28 (0, 0)), (y, .cells #[.slice b C.voters.length e, .slice f C.learners.length g] 28 (0, 0))] [⟨Sb, 5, .slice u (confE C).length x, confE C⟩] [_, _, _, _, _] _ := H
 refine RW.toStr (κ := .qui) (d := some 7) (r := [(4, .chn), (5, .qui), (6, .qui), (7, .qui)]) (Ts := 29) (Td := 9) 5 (a := u) (len := (confE C).length) (cap := x) (xs := confE C) (by as_aux_lemma => kernel_rfl) (by as_aux_lemma => kernel_rfl) (H.view 0 rfl) ?_
 refine uK (putconf_spec (ys := ([] : List (BitVec 8))) (C := C) (H.rp 0 rfl) (conf_mk (H.rp 3 rfl) (H.rp 4 rfl)) (by first | assumption | omega) (by simp)) ?_
 rintro _ _ - H'
 have H := H.back (M1 := []) (W1 := []) H'
 obtain ⟨m, n, rfl, _, _⟩ := H.ownForm 0 rfl
 have H : Hp w S [] [_, _] [⟨Sb, 5, .slice m (confE C).length n, confE C⟩, _] [_, _, _, _, _] _ := H
 refine RW.toStr (κ := .qui) (d := some 10) (r := (qs [6, 7])) (Ts := 29) (Td := 9) 5 (a := m) (len := (confE C).length) (cap := n) (xs := confE C) (by as_aux_lemma => kernel_rfl) (by as_aux_lemma => kernel_rfl) (H.view 0 rfl) ?_
 refine uF 2 ?_
 refine qT (.bool ((strOf (confE C)).toList == (strOf (confE C)).toList)) Tryz.func25 ?_
 refine ⟨_, rfl, H.done, ?_⟩
 congr 1
 simp
def szK (K : Kept) : Prop := K.snap.length ≤ 1048576 ∧ K.log.length ≤ 1048576 ∧ (K.baseConf.voters.length ≤ 1048576 ∧ K.baseConf.learners.length ≤ 1048576) ∧ ∀ e ∈ K.log, szE e
set_option maxHeartbeats 4000000 in
theorem samekept_eq {S : Nat → Prop} {w : World} {K : Kept} {cs ds : List Value} (h : keptS.rep S w cs K) (h2 : keptS.rep S w ds K) (hz : szK K) :
 Calls Tryz.prog 24 #[.agg cs.toArray, .agg ds.toArray] w (Ret fun v w' => Ext w w' ∧ v = .bool true) := by
 obtain ⟨_, q, s, t, u, rfl, _, _, _, _, A, B, D⟩ := kept_open h
 obtain ⟨b, e, f, g, rfl, i, j⟩ := conf_open A
 obtain ⟨_, x, y, E, F, rfl, _, _, _, _, G, J, L⟩ := kept_open h2
 obtain ⟨k, l, m, n, rfl, o, p⟩ := conf_open G
 obtain ⟨_, _, _, _⟩ := hz
 refine uS1 Tryz.func24 ?_
 have H := Hp.startF (.rp i (.rp j (.rp B (.rp D (.rp o (.rp p (.rp J (.rp L .nil))))))))
 refine uR 1 [.c [0], .c [1]] ?_
 refine qG (sq 0 3) ?_
 refine uC #[.int .u64 K.term, .I K.vote, .int .u64 K.base, .int .u64 K.baseTerm, .slice b K.baseConf.voters.length e, .slice f K.baseConf.learners.length g, .slice q K.snap.length s, .slice t K.log.length u] 82 H ?_
 intro V _ H
 refine uC #[.int .u64 K.term, .I K.vote, .int .u64 K.base, .int .u64 K.baseTerm, .slice k K.baseConf.voters.length l, .slice m K.baseConf.learners.length n, .slice x K.snap.length y, .slice E K.log.length F] 82 H ?_
 intro M _ H
 refine uF 1 ?_
 refine uR 1 [.c [1, 0], .c [2]] ?_
 refine qG (sq 0 50) ?_
 refine uP 1 ?_
 refine uV 25 0 (H.cells 1 rfl) ?_
 refine uP 1 ?_
 refine uV 25 0 (H.cells 0 rfl) ?_
 refine uP 2 ?_
 refine uE 10 K.term K.term (fun Q => ?_) (fun Q => ?_)
 ·
  refine uP 1 ?_
  refine uV 3 1 (H.cells 1 rfl) ?_
  refine uP 1 ?_
  refine uV 3 1 (H.cells 0 rfl) ?_
  refine uP 3 ?_
  refine uE 17 K.vote K.vote (fun R => ?_) (fun R => ?_)
  ·
   refine uP 1 ?_
   refine uV 25 2 (H.cells 1 rfl) ?_
   refine qP 1 (sq 16 50) [(2, .P V 0), (3, .P M 0), (17, .bool true), (19, .int .u64 K.base), (20, .P M 2)] ?_
   refine uV 25 2 (H.cells 0 rfl) ?_
   refine uP 3 ?_
   refine uE 24 K.base K.base (fun T => ?_) (fun T => ?_)
   ·
    refine uP 1 ?_
    refine uV 25 3 (H.cells 1 rfl) ?_
    refine uP 1 ?_
    refine uV 25 3 (H.cells 0 rfl) ?_
    refine uP 3 ?_
    refine uE 31 K.baseTerm K.baseTerm (fun U => ?_) (fun U => ?_)
    ·
     refine uP 1 ?_
     refine uV 28 4 (H.cells 1 rfl) ?_
     refine uP 1 ?_
     refine uV 28 4 (H.cells 0 rfl) ?_
     refine uK (sameconf_eq (C := K.baseConf) (conf_mk (H.rp 0 rfl) (H.rp 1 rfl)) (conf_mk (H.rp 4 rfl) (H.rp 5 rfl)) (by first | assumption | omega)) ?_
     rintro _ _ N rfl
     have H := H.ext N
     refine uP 3 ?_
     refine uV 29 6 (H.cells 1 rfl) ?_
     refine RW.toStr (κ := .seq) (d := some 41) (r := (sq 37 50)) (Ts := 29) (Td := 9) 5 (a := q) (len := K.snap.length) (cap := s) (xs := K.snap) (by as_aux_lemma => kernel_rfl) (by as_aux_lemma => kernel_rfl) (H.rp 2 rfl) ?_
     refine uP 1 ?_
     refine uV 29 6 (H.cells 0 rfl) ?_
     refine RW.toStr (κ := .seq) (d := some 44) (r := (sq 40 50)) (Ts := 29) (Td := 9) 5 (a := x) (len := K.snap.length) (cap := y) (xs := K.snap) (by as_aux_lemma => kernel_rfl) (by as_aux_lemma => kernel_rfl) (H.rp 6 rfl) ?_
     refine uP 3 ?_
     refine uE 47 ((strOf K.snap).toList) ((strOf K.snap).toList) (fun z => ?_) (fun z => ?_)
     ·
      refine uP 1 ?_
      refine uV 30 7 (H.cells 1 rfl) ?_
      refine qP 1 (sq 46 50) [(47, .bool true), (49, .slice t K.log.length u), (50, .P M 7)] ?_
      refine uV 30 7 (H.cells 0 rfl) ?_
      refine uK (entries_eq (xs := K.log) (H.rp 3 rfl) (H.rp 7 rfl) (by assumption)) ?_
      rintro _ _ O rfl
      have H := H.ext O
      refine uF 2 ?_
      refine qT (.bool true) Tryz.func24 ?_
      exact ⟨_, rfl, H.done, rfl⟩
     ·
      exact absurd rfl z
    ·
     exact absurd rfl U
   ·
    exact absurd rfl T
  ·
   exact absurd rfl R
 ·
  exact absurd rfl Q
def kR (R : Raft) : Kept := ⟨R.term, R.vote, R.base, R.baseTerm, R.baseConf, R.snap, R.log⟩
set_option maxHeartbeats 8000000 in
theorem same_eq {S : Nat → Prop} {w : World} {R : Raft} {cs ds : List Value} (h : raftS.rep S w cs R) (h2 : raftS.rep S w ds R) (hz : szK (kR R)) :
 Calls Tryz.prog 12 #[.agg cs.toArray, .agg ds.toArray] w (Ret fun v w' => Ext w w' ∧ v = .bool true) := by
 obtain ⟨_, s, t, u, x, G, J, L, M, N, O, rfl, _, _, _, _, _, _, _, h0, y, z, _, _, _, _, _, Q, p, _, T, _⟩ := raft_open h
 obtain ⟨a, b, d, e, rfl, k, l⟩ := conf_open h0
 have hlLRp := Shape.slice_len z
 have hlPRp := Shape.slice_len p
 have hlBRp := Shape.slice_len y
 obtain ⟨_, A, B, C, D, U, V, W, X, Y, Z, rfl, _, _, _, _, _, _, _, i0, E, F, _, _, _, _, _, a0, q, _, b0, _⟩ := raft_open h2
 obtain ⟨f, g, i, j, rfl, m, n⟩ := conf_open i0
 have hlLRq := Shape.slice_len F
 have hlPRq := Shape.slice_len q
 have hlBRq := Shape.slice_len E
 refine uS1 Tryz.func12 ?_
 have H := Hp.startF (.rp k (.rp l (.rp y (.rp z (.rp Q (.rp p (.rp T (.rp m (.rp n (.rp E (.rp F (.rp a0 (.rp q (.rp b0 .nil))))))))))))))
 refine uR 1 [.c [0], .c [1]] ?_
 refine qG (sq 0 3) ?_
 refine uC #[.I R.id, .I R.election, .I R.beat, .int .u64 R.term, .I R.vote, .int .u64 R.base, .int .u64 R.baseTerm, .slice a R.baseConf.voters.length b, .slice d R.baseConf.learners.length e, .slice s R.snap.length t, .slice u R.log.length x, .int .u64 R.commit, .I R.role, .I R.lead, .I R.elapsed, .I R.timeout, .slice G R.votes.length J, .slice L R.peers.length M, .int .u64 R.ctx, .slice N R.readings.length O, .I R.target] 35 H ?_
 intro o _ H
 refine uC #[.I R.id, .I R.election, .I R.beat, .int .u64 R.term, .I R.vote, .int .u64 R.base, .int .u64 R.baseTerm, .slice f R.baseConf.voters.length g, .slice i R.baseConf.learners.length j, .slice A R.snap.length B, .slice C R.log.length D, .int .u64 R.commit, .I R.role, .I R.lead, .I R.elapsed, .I R.timeout, .slice U R.votes.length V, .slice W R.peers.length X, .int .u64 R.ctx, .slice Y R.readings.length Z, .I R.target] 35 H ?_
 intro r _ H
 refine uF 1 ?_
 refine uR 2 [.c [1, 0, 0], .c [1, 0, 1], .c [2]] ?_
 refine qG (sq 0 68) ?_
 refine uP 1 ?_
 refine uV 3 0 (H.cells 1 rfl) ?_
 refine uP 1 ?_
 refine uV 3 0 (H.cells 0 rfl) ?_
 refine uP 2 ?_
 refine uN 12 R.id R.id (fun h5 => ?_) (fun h5 => ?_)
 ·
  exact absurd rfl h5
 ·
  refine uP 1 ?_
  refine uV 3 1 (H.cells 1 rfl) ?_
  refine uP 1 ?_
  refine uV 3 1 (H.cells 0 rfl) ?_
  refine uP 3 ?_
  refine uN 19 R.election R.election (fun h6 => ?_) (fun h6 => ?_)
  ·
   exact absurd rfl h6
  ·
   refine uP 1 ?_
   refine uV 3 2 (H.cells 1 rfl) ?_
   refine qP 1 (sq 16 68) [(2, .P o 0), (3, .P r 0), (19, .bool false), (21, .I R.beat), (22, .P r 2)] ?_
   refine uV 3 2 (H.cells 0 rfl) ?_
   refine uP 3 ?_
   refine uN 26 R.beat R.beat (fun h7 => ?_) (fun h7 => ?_)
   ·
    exact absurd rfl h7
   ·
    refine uP 1 ?_
    refine uV 25 11 (H.cells 1 rfl) ?_
    refine uP 1 ?_
    refine uV 25 11 (H.cells 0 rfl) ?_
    refine uP 3 ?_
    refine uN 33 R.commit R.commit (fun h8 => ?_) (fun h8 => ?_)
    ·
     exact absurd rfl h8
    ·
     refine uP 1 ?_
     refine uV 31 12 (H.cells 1 rfl) ?_
     refine uP 1 ?_
     refine uV 31 12 (H.cells 0 rfl) ?_
     refine uP 3 ?_
     refine uN 40 R.role R.role (fun h9 => ?_) (fun h9 => ?_)
     ·
      exact absurd rfl h9
     ·
      refine uP 1 ?_
      refine uV 3 13 (H.cells 1 rfl) ?_
      refine uP 1 ?_
      refine uV 3 13 (H.cells 0 rfl) ?_
      refine uP 3 ?_
      refine uN 47 R.lead R.lead (fun c0 => ?_) (fun c0 => ?_)
      ·
       exact absurd rfl c0
      ·
       refine qP 1 (sq 42 68) [(2, .P o 0), (3, .P r 0), (47, .bool false), (48, .P o 14)] ?_
       refine uV 3 14 (H.cells 1 rfl) ?_
       refine uP 1 ?_
       refine uV 3 14 (H.cells 0 rfl) ?_
       refine uP 3 ?_
       refine uN 54 R.elapsed R.elapsed (fun d0 => ?_) (fun d0 => ?_)
       ·
        exact absurd rfl d0
       ·
        refine uP 1 ?_
        refine uV 3 15 (H.cells 1 rfl) ?_
        refine uP 1 ?_
        refine uV 3 15 (H.cells 0 rfl) ?_
        refine uP 3 ?_
        refine uN 61 R.timeout R.timeout (fun e0 => ?_) (fun e0 => ?_)
        ·
         exact absurd rfl e0
        ·
         refine uP 1 ?_
         refine uV 25 18 (H.cells 1 rfl) ?_
         refine uP 1 ?_
         refine uV 25 18 (H.cells 0 rfl) ?_
         refine uP 3 ?_
         refine uN 68 R.ctx R.ctx (fun f0 => ?_) (fun f0 => ?_)
         ·
          exact absurd rfl f0
         ·
          refine uP 1 ?_
          refine uV 3 20 (H.cells 1 rfl) ?_
          refine uP 1 ?_
          refine uV 3 20 (H.cells 0 rfl) ?_
          refine qF 2 [(2, .P o 0), (3, .P r 0), (74, .bool (R.target != R.target))] ?_
          refine qN R.target R.target (fun g0 => ?_) (fun g0 => ?_)
          ·
           exact absurd rfl g0
          ·
           refine uR 2 [.c [2, 0], .c [3]] ?_
           refine qG (sq 0 17) ?_
           refine uP 1 ?_
           refine uV 25 3 (H.cells 1 rfl) ?_
           refine uP 1 ?_
           refine uV 3 4 (H.cells 1 rfl) ?_
           refine uP 1 ?_
           refine uV 25 5 (H.cells 1 rfl) ?_
           refine uP 1 ?_
           refine uV 25 6 (H.cells 1 rfl) ?_
           refine uP 1 ?_
           refine uV 28 7 (H.cells 1 rfl) ?_
           refine uP 1 ?_
           refine uV 29 9 (H.cells 1 rfl) ?_
           refine uP 1 ?_
           refine uV 30 10 (H.cells 1 rfl) ?_
           refine uP 1 ?_
           refine uC #[.int .u64 0, .I 0, .int .u64 0, .int .u64 0, .slice none 0 0, .slice none 0 0, .slice none 0 0, .slice none 0 0] 82 H ?_
           intro n0 _ H
           refine uW 82 0 #[.int .u64 R.term, .I R.vote, .int .u64 R.base, .int .u64 R.baseTerm, .slice a R.baseConf.voters.length b, .slice d R.baseConf.learners.length e, .slice s R.snap.length t, .slice u R.log.length x] H 0 rfl ?_
           intro _ H
           refine uF 0 ?_
           refine qR 1 [.c [3, 0], .c [4]] [(2, .P o 0), (3, .P r 0), (5, .P n0 0)] ?_
           refine qG (sq 0 17) ?_
           refine uP 1 ?_
           refine uV 25 3 (H.cells 1 rfl) ?_
           refine uP 1 ?_
           refine uV 3 4 (H.cells 1 rfl) ?_
           refine uP 1 ?_
           refine uV 25 5 (H.cells 1 rfl) ?_
           refine uP 1 ?_
           refine uV 25 6 (H.cells 1 rfl) ?_
           refine uP 1 ?_
           refine uV 28 7 (H.cells 1 rfl) ?_
           refine uP 1 ?_
           refine uV 29 9 (H.cells 1 rfl) ?_
           refine uP 1 ?_
           refine uV 30 10 (H.cells 1 rfl) ?_
           refine uP 1 ?_
           refine uC #[.int .u64 0, .I 0, .int .u64 0, .int .u64 0, .slice none 0 0, .slice none 0 0, .slice none 0 0, .slice none 0 0] 82 H ?_
           intro _ _ H
           refine uW 82 0 #[.int .u64 R.term, .I R.vote, .int .u64 R.base, .int .u64 R.baseTerm, .slice f R.baseConf.voters.length g, .slice i R.baseConf.learners.length j, .slice A R.snap.length B, .slice C R.log.length D] H 0 rfl ?_
           intro _ H
           refine uF 0 ?_
           refine uR 1 [.c [4, 0], .c [5]] ?_
           refine qG (sq 0 25) ?_
           refine uV 82 0 (H.cells 1 rfl) ?_
           refine uV 82 0 (H.cells 0 rfl) ?_
           refine uK (samekept_eq (K := (kR R)) (kept_mk u64a i64a u64a u64a (conf_mk (H.rp 0 rfl) (H.rp 1 rfl)) (H.rp 2 rfl) (H.rp 3 rfl)) (kept_mk u64a i64a u64a u64a (conf_mk (H.rp 7 rfl) (H.rp 8 rfl)) (H.rp 9 rfl) (H.rp 10 rfl)) (show szK (kR R) from hz)) ?_
           rintro _ _ j0 rfl
           have H := H.ext j0
           refine qP 2 (sq 5 25) [(2, .P o 0), (3, .P r 0), (108, .bool true), (109, .P o 16)] ?_
           refine uV 26 16 (H.cells 3 rfl) ?_
           refine uP 1 ?_
           refine uV 26 16 (H.cells 2 rfl) ?_
           refine uK (ints_eq (xs := R.votes) (H.rp 4 rfl) (H.rp 11 rfl)) ?_
           rintro _ _ k0 rfl
           have H := H.ext k0
           refine uP 3 ?_
           refine uV 32 17 (H.cells 3 rfl) ?_
           refine uP 1 ?_
           refine uV 32 17 (H.cells 2 rfl) ?_
           refine uK (peers_eq (xs := R.peers) (H.rp 5 rfl) (H.rp 12 rfl)) ?_
           rintro _ _ l0 rfl
           have H := H.ext l0
           refine uP 3 ?_
           refine uV 33 19 (H.cells 3 rfl) ?_
           refine uP 1 ?_
           refine uV 33 19 (H.cells 2 rfl) ?_
           refine uK (readings_eq (xs := R.readings) (H.rp 6 rfl) (H.rp 13 rfl)) ?_
           rintro _ _ m0 rfl
           have H := H.ext m0
           refine uF 2 ?_
           refine qT (.bool true) Tryz.func12 ?_
           exact ⟨_, rfl, H.done, rfl⟩
end Go.Proofs.YtkjkmogipidkiaaGreat
