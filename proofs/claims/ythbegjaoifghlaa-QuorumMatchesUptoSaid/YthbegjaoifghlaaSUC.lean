import Derived.Test.YthbegjaoifghlaaSUB
import Derived.Test.YthbegjaoifghlaaSQ6
import Derived.Test.YthbegjaoifghlaaSBxA
namespace Go.Proofs.Ythbegjaoifghlaa
open Go.BX
open Go.Sort (swp insInner insOuter insertionSort ltInt siftDown heapBuild heapPop heapSort reverseLoop reverseRange scanUp scanDown partLoop partition partEqLoop partitionEqual scanSorted shiftDown shiftUp partialIns partialInsertionSort)
open Go.Sort (bitsLen PermIn SortedIn Below)
def mOf (ps : List Peer) (v : Int) : Int := match ps.find? (fun p => p.id == v) with
 | some p => p.mat
 | none => 0
theorem mOf_at {ps : List Peer} {x : Int} {k : Nat} (hk : k < ps.length) (h1 : ps[k].id = x) (h2 : ∀ p ∈ ps.take k, p.id ≠ x) : mOf ps x = ps[k].mat := by
 unfold mOf
 have e : ps = ps.take k ++ (ps[k] :: ps.drop (k + 1)) := by rw [← List.drop_eq_getElem_cons hk, List.take_append_drop]
 have e2 : ps.find? (fun p => p.id == x) = some ps[k] := by
  obtain ⟨q, hq⟩ : ∃ q, ps[k] = q := ⟨_, rfl⟩
  rw [hq] at h1 e ⊢
  have hq2 : (q.id == x) = true := by simpa using h1
  rw [e, List.find?_append, List.find?_eq_none.2 (fun p hp => by simpa using h2 p hp)]
  simp [List.find?_cons, hq2]
 rw [e2]
theorem mOf_no {ps : List Peer} {x : Int} (h : ∀ p ∈ ps, p.id ≠ x) : mOf ps x = 0 := by
 unfold mOf
 rw [List.find?_eq_none.2 (fun p hp => by simpa using h p hp)]
theorem map_take_succ {α β : Type} (f : α → β) {xs : List α} {i : Nat} (h : i < xs.length) : (xs.take i).map f ++ [f xs[i]] = (xs.take (i + 1)).map f := by
 rw [List.take_succ_eq_append_getElem h, List.map_append]; rfl
def Med (L : List Int) (m : Int) : Prop := (L = [] ∧ m = 0) ∨ (L ≠ [] ∧ ∃ e : Array Int, PermIn 0 L.length L.toArray e ∧ SortedIn ltInt 0 L.length e ∧ m = e[(L.length - 1) / 2]!)
theorem med_counts {L : List Int} {m : Int} (h0 : L ≠ []) (h : Med L m) : L.length < 2 * (L.filter (fun x => decide (m ≤ x))).length ∧ 2 * (L.filter (fun x => decide (m < x))).length ≤ L.length := by
 rcases h with ⟨h, -⟩ | ⟨-, e, hp, hs, rfl⟩
 · exact absurd h h0
 have hsz : e.size = L.length := by rw [hp.1]; rfl
 have hpos : 0 < L.length := List.length_pos_iff.2 h0
 have hP : e.toList.Perm L := by
  have := hp.2.2
  rw [show e.extract 0 L.length = e by rw [← hsz, Array.extract_size], show L.toArray.extract 0 L.length = L.toArray by rw [show L.length = L.toArray.size from rfl, Array.extract_size]] at this
  exact this
 obtain ⟨E, hE⟩ : ∃ E, E = e.toList := ⟨_, rfl⟩
 have hl : E.length = L.length := by rw [hE]; exact hsz
 have hget : ∀ (i : Nat) (hi : i < E.length), E[i] = e[i]! := fun i hi => by
  subst hE
  rw [Array.getElem_toList, getElem!_pos]
 have hle : ∀ (i j : Nat) (_ : i ≤ j) (hj : j < E.length), e[i]! ≤ e[j]! := fun i j hij hj => by
  rcases Nat.lt_or_ge i j with h | h
  · have := hs i j (Nat.zero_le _) h (by omega)
    rw [ltI0] at this; omega
  · have : i = j := by omega
    subst this; exact Int.le_refl _
 rw [← hE] at hP
 obtain ⟨k, hk⟩ : ∃ k, k = (L.length - 1) / 2 := ⟨_, rfl⟩
 rw [← hk]
 have hkE : k < E.length := by omega
 constructor
 · have hA : (E.drop k).filter (fun x => decide (e[k]! ≤ x)) = E.drop k := List.filter_eq_self.2 fun x hx => by
    obtain ⟨i, hi, rfl⟩ := List.mem_iff_getElem.1 hx
    rw [List.length_drop] at hi
    rw [List.getElem_drop, hget _ (by omega)]
    exact decide_eq_true (hle _ _ (by omega) (by omega))
   have hB := congrArg List.length (congrArg (List.filter (fun x => decide (e[k]! ≤ x))) (List.take_append_drop k E))
   rw [List.filter_append, List.length_append, hA, List.length_drop] at hB
   rw [← (hP.filter _).length_eq]
   omega
 · have hA : (E.take (k + 1)).filter (fun x => decide (e[k]! < x)) = [] := List.filter_eq_nil_iff.2 fun x hx => by
    obtain ⟨i, hi, rfl⟩ := List.mem_iff_getElem.1 hx
    rw [List.length_take] at hi
    rw [List.getElem_take, hget _ (by omega)]
    have := hle i k (by omega) hkE
    simpa using this
   have hB := congrArg List.length (congrArg (List.filter (fun x => decide (e[k]! < x))) (List.take_append_drop (k + 1) E))
   rw [List.filter_append, List.length_append, hA, List.length_nil] at hB
   have hC := List.length_filter_le (fun x => decide (e[k]! < x)) (E.drop (k + 1))
   rw [List.length_drop] at hC
   rw [← (hP.filter _).length_eq]
   omega
def haveL (m : Int) (ps : List Peer) : List Int := (ps.filter (fun p => decide (m ≤ p.mat))).map Peer.id
def moreL (m : Int) (ps : List Peer) : List Int := (ps.filter (fun p => decide (m < p.mat))).map Peer.id
theorem haveL_step {m : Int} {ps : List Peer} {i : Nat} (h : i < ps.length) : haveL m (ps.take (i + 1)) = if m ≤ ps[i].mat then haveL m (ps.take i) ++ [ps[i].id] else haveL m (ps.take i) := by
 unfold haveL
 rw [List.take_succ_eq_append_getElem h, List.filter_append, List.map_append]
 by_cases h2 : m ≤ ps[i].mat <;> simp [h2]
theorem moreL_step {m : Int} {ps : List Peer} {i : Nat} (h : i < ps.length) : moreL m (ps.take (i + 1)) = if m < ps[i].mat then moreL m (ps.take i) ++ [ps[i].id] else moreL m (ps.take i) := by
 unfold moreL
 rw [List.take_succ_eq_append_getElem h, List.filter_append, List.map_append]
 by_cases h2 : m < ps[i].mat <;> simp [h2]
theorem haveL_le {m : Int} {ps : List Peer} {i : Nat} : (haveL m (ps.take i)).length ≤ i := by
 unfold haveL
 rw [List.length_map]
 exact Nat.le_trans (List.length_filter_le _ _) (List.length_take_le _ _)
theorem moreL_le {m : Int} {ps : List Peer} {i : Nat} : (moreL m (ps.take i)).length ≤ i := by
 unfold moreL
 rw [List.length_map]
 exact Nat.le_trans (List.length_filter_le _ _) (List.length_take_le _ _)
def unlike (ps : List Peer) (n : Nat) : Prop := ∀ i j (_ : j < i) (_ : i < n) (hi : i < ps.length), (ps[j]'(by omega)).id ≠ ps[i].id
theorem unlike_step {ps : List Peer} {i : Nat} (h : unlike ps i) (hi : i < ps.length) (h2 : ∀ j (hj : j < i), (ps[j]'(by omega)).id ≠ ps[i].id) : unlike ps (i + 1) := fun a b hb ha hl => by
 rcases Nat.lt_or_ge a i with q | q
 · exact h a b hb q hl
 · have : a = i := by omega
   subst this; exact h2 b hb
theorem mOf_iff {ps : List Peer} (hu : unlike ps ps.length) {p : Int → Bool} (hp0 : p 0 = false) (v : Int) : (p (mOf ps v) = true ↔ v ∈ (ps.filter (fun q => p q.mat)).map Peer.id) := by
 constructor
 · intro h
   unfold mOf at h
   cases hf : ps.find? (fun p => p.id == v) with
   | none => rw [hf] at h; simp only [] at h; rw [hp0] at h; cases h
   | some q =>
    rw [hf] at h
    have h1 := List.mem_of_find?_eq_some hf
    have h2 := List.find?_some hf
    exact List.mem_map.2 ⟨q, List.mem_filter.2 ⟨h1, h⟩, eq_of_beq h2⟩
 · intro h
   obtain ⟨q, hq, rfl⟩ := List.mem_map.1 h
   obtain ⟨hq1, hq2⟩ := List.mem_filter.1 hq
   obtain ⟨k, hk, rfl⟩ := List.mem_iff_getElem.1 hq1
   rw [mOf_at hk rfl fun x hx => ?_]
   · exact hq2
   · obtain ⟨j, hj, rfl⟩ := List.mem_iff_getElem.1 hx
     rw [List.length_take] at hj
     rw [List.getElem_take]
     exact hu k j (by omega) hk hk
theorem common_map {ps : List Peer} (hu : unlike ps ps.length) {p : Int → Bool} (hp0 : p 0 = false) (V : List Int) : common V ((ps.filter (fun q => p q.mat)).map Peer.id) = ((V.map (mOf ps)).filter p).length := by
 unfold common
 rw [List.filter_map, List.length_map]
 congr 1
 apply List.filter_congr
 intro v _
 rw [Bool.eq_iff_iff, decide_eq_true_iff, ← mOf_iff hu hp0]
 rfl
theorem matches_law {C : Conf} {ps : List Peer} {m : Int} (hV : C.voters ≠ []) (hu : unlike ps ps.length) (hm : Med (C.voters.map (mOf ps)) m) (h0 : 0 ≤ m) : (m = 0 ∨ majB C (haveL m ps) = true) ∧ majB C (moreL m ps) = false := by
 obtain ⟨h1, h2⟩ := med_counts (by simpa using hV) hm
 rw [List.length_map] at h1 h2
 constructor
 · rcases Int.lt_or_le 0 m with h | h
   · right
     unfold majB haveL
     rw [common_map (p := fun x => decide (m ≤ x)) hu (decide_eq_false (by omega))]
     exact decide_eq_true (by omega)
   · left; omega
 · unfold majB moreL
   rw [common_map (p := fun x => decide (m < x)) hu (decide_eq_false (by omega))]
   exact decide_eq_false (by omega)
theorem usort_spec {S : Nat → Prop} {w : World} {O : List Nat} {d : Array Int} {pb z q : Nat} (H0 : Hp w S O [] [⟨Shape.int .u64, 44, .slice (some ⟨pb, 0, none⟩) z q, d.toList⟩] [] w) (hz : d.size = z) (hle : z ≤ 1048576) :
 Calls Try.prog 32 #[.slice (some ⟨pb, 0, none⟩) z q] w (Ret fun v w' => ∃ e : Array Int, v = .tuple #[] ∧ PermIn 0 z d e ∧ SortedIn ltInt 0 z e ∧ Hp w S O [] [⟨Shape.int .u64, 44, .slice (some ⟨pb, 0, none⟩) z q, e.toList⟩] [] w') := by
 refine qS (fn := Try.f32) (n := 11) (σ := [(0, .slice (some ⟨pb, 0, none⟩) z q)]) Try.func32 ?_
 have H := H0
 refine qR 2 [.c [1]] [(0, .slice (some ⟨pb, 0, none⟩) z q), (2, .I ((z : Nat) : Int))] ?_
 refine qG (sq 0 6) ?_
 refine qP 3 (sq 3 6) [(5, .slice (some ⟨pb, 0, none⟩) z q), (6, .I ((z : Nat) : Int)), (7, .I ((z : Nat) : Int))] ?_
 refine RW.pv (κ := .seq) (d := some 8) (r := (sq 4 6)) (v' := .int .u64 (z : Int)) (v := .int .u64 (IntKind.u64.wrap (((z : Nat) : Int)))) (by as_aux_lemma => kernel_rfl) (wr_u64 (by omega)) ?_
 refine qK .seq (some 9) (sq 5 6) 42 #[.int .u64 (z : Int)] (ulen0_spec (S := fun _ => True) (n := z) (by omega)) ?_
 rintro _ w1 hE2 rfl
 have H := H.ext hE2
 refine RW.callS (d := some 10) (r := (sq 6 6)) (g := 41) (args := #[.slice (some ⟨pb, 0, none⟩) z q, .I 0, .I ((z : Nat) : Int), .I ((bitsLen z : Nat) : Int)]) (by as_aux_lemma => kernel_rfl) (updq_all (z - 0) _ _ _ d pb z q 0 z (bitsLen z) 0 ((z : Nat) : Int) ((bitsLen z : Nat) : Int) rfl rfl rfl (by omega) (by omega) rfl (Nat.le_trans (len_le (j := 21) (by omega)) (by decide)) (Or.inl rfl) ((H.lend (M1 := []) (W1 := [⟨Shape.int .u64, 44, .slice (some ⟨pb, 0, none⟩) z q, d.toList⟩])).pick [] rfl) hz (by omega)) ?_
 rintro _ w3 ⟨e5, rfl, l1, l2, H'⟩
 have H := H.back (M1 := []) (W1 := [⟨Shape.int .u64, 44, .slice (some ⟨pb, 0, none⟩) z q, d.toList⟩]) H'
 have H : Hp w S O [] [⟨Shape.int .u64, 44, .slice (some ⟨pb, 0, none⟩) z q, e5.toList⟩] [] _ := H
 refine qF 0 [] ?_
 refine WK.fin (v := .tuple #[]) Try.func32 (by as_aux_lemma => kernel_rfl) ?_
 exact ⟨_, rfl, _, rfl, l1, l2, H.pick [] rfl⟩
theorem matched1_spec {S : Nat → Prop} {w : World} {bx : Nat} {x : Int} (y n2 m2 : Int) (hd : Bool) (h : (Fc bx 0 [.I x]).p S w) :
 Calls Try.prog 31 #[.agg #[.I y, .int .u64 n2, .int .u64 m2, .bool hd], .P bx 0] w (Ret fun v w' => Ext w w' ∧ v = .bool (y == x)) := by
 refine qS (fn := Try.f31) (n := 8) (σ := [(0, .agg #[.I y, .int .u64 n2, .int .u64 m2, .bool hd]), (1, .P bx 0)]) Try.func31 ?_
 have H := Hp.startF (w := w) (S := S) (G := [Fc bx 0 [.I x]]) (.cons h .nil)
 refine qR 1 [.c [0], .c [1]] [(0, .agg #[.I y, .int .u64 n2, .int .u64 m2, .bool hd]), (1, .P bx 0)] ?_
 refine qG (sq 0 2) ?_
 refine qB .seq 2 (sq 1 2) #[.I y, .int .u64 n2, .int .u64 m2, .bool hd] 47 H ?_
 intro b1 w2 H
 refine qF 1 [(1, .P bx 0), (2, .P b1 0)] ?_
 refine qR 1 [.c [1, 0], .c [2]] [(1, .P bx 0), (2, .P b1 0)] ?_
 refine qG (sq 0 5) ?_
 refine qP 1 (sq 1 5) [(1, .P bx 0), (4, .P b1 0)] ?_
 refine qL .seq 5 (sq 2 5) 3 b1 0 0 (.I y) (H.cells 0 rfl) ?_
 refine qL .seq 6 (sq 3 5) 3 bx 0 0 (.I x) (H.fc 0 rfl) ?_
 refine qF 2 [(3, .bool (y == x))] ?_
 refine qT (.bool (y == x)) Try.func31 ?_
 exact ⟨_, rfl, H.done, rfl⟩
theorem ixpeer_spec {S : Nat → Prop} {w : World} {bx : Nat} {x : Int} {ps : List Peer} {pa : Option Addr} {pc : Nat} (hps : (Shape.slice peerS).rep S w [.slice pa ps.length pc] ps) (h : (Fc bx 0 [.I x]).p S w) :
 Calls Try.prog 30 #[.slice pa ps.length pc, .func (.func 31) #[] #[.P bx 0]] w (Ret fun v w' => Ext w w' ∧ ∃ i : Int, v = .I i ∧ ((i = -1 ∧ ∀ p ∈ ps, p.id ≠ x) ∨ ∃ k : Nat, i = k ∧ ∃ h : k < ps.length, ps[k].id = x ∧ ∀ p ∈ ps.take k, p.id ≠ x)) := by
 have hlen := Shape.slice_len hps
 refine qS (fn := Try.f30) (n := 19) (σ := [(0, .slice pa ps.length pc), (1, .func (.func 31) #[] #[.P bx 0])]) Try.func30 ?_
 have H := Hp.startF (w := w) (S := S) (G := [Rp (Shape.slice peerS) [.slice pa ps.length pc] ps, Fc bx 0 [.I x]]) (.rp hps (.cons h .nil))
 refine qR 6 [.c [1, 0, 1, 0], .b 0, .c [2]] [(0, .slice pa ps.length pc), (1, .func (.func 31) #[] #[.P bx 0]), (7, .I ((ps.length : Nat) : Int)), (8, .I 0)] ?_
 refine WK.loop (α := Nat) (b := cd Try.prog 30 [1, 0, 1, 0, 0]) (by as_aux_lemma => kernel_rfl) (fun k => [(0, .slice pa ps.length pc), (1, .func (.func 31) #[] #[.P bx 0]), (7, .I ((ps.length : Nat) : Int)), (8, .I k)]) (fun k w' => Hp w S [] [] [] [Rp (Shape.slice peerS) [.slice pa ps.length pc] ps, Fc bx 0 [.I x]] w' ∧ k ≤ ps.length ∧ ∀ p ∈ ps.take k, p.id ≠ x) (fun k => ps.length - k) 0 ⟨H, Nat.zero_le _, by simp⟩ (rfl) ?_
 rintro k w2 ⟨H, hinv0⟩ hback1
 refine qR 3 [.c [1, 0, 1, 0, 0, 1, 0], .c [1, 0, 1, 0, 0, 2], .l [1, 0, 1, 0, 0], .b 0, .c [2]] [(0, .slice pa ps.length pc), (1, .func (.func 31) #[] #[.P bx 0]), (7, .I ((ps.length : Nat) : Int)), (8, .I k), (9, .bool (decide (((k : Int) : Int) < ((ps.length : Nat) : Int))))] ?_
 refine qD (((k : Int) : Int) < ((ps.length : Nat) : Int)) (fun h3 => ?_) (fun h3 => ?_)
 ·
  refine qR 6 [.c [1, 0, 1, 0, 0, 2, 0, 0, 1, 0], .c [1, 0, 1, 0, 0, 2, 0, 0, 2], .b 1, .c [1, 0, 1, 0, 0, 3], .l [1, 0, 1, 0, 0], .b 0, .c [2]] [(0, .slice pa ps.length pc), (1, .func (.func 31) #[] #[.P bx 0]), (5, .I k), (7, .I ((ps.length : Nat) : Int)), (8, .I k)] ?_
  refine qG (sq 0 6) ?_
  refine qP 3 (sq 3 6) [(0, .slice pa ps.length pc), (1, .func (.func 31) #[] #[.P bx 0]), (5, .I k), (7, .I ((ps.length : Nat) : Int)), (8, .I k), (11, .func (.func 31) #[] #[.P bx 0]), (12, .slice pa ps.length pc), (13, .I k)] ?_
  have hx4 : k < ps.length := by omega
  refine qX .seq 14 (sq 4 6) 43 47 (k : Int) peerS (ps[k]) H 0 rfl k (by omega) (List.getElem?_eq_getElem hx4) ?_
  intro b5 o6 es7 hr8 H
  obtain ⟨rfl, hf10, hf11, hf12⟩ := peer_open hr8
  refine qL .seq 15 (sq 5 6) 47 b5 o6 0 (.agg #[.I ((ps[k]).id), .int .u64 ((ps[k]).next), .int .u64 ((ps[k]).mat), .bool ((ps[k]).heard)]) (H.fc 0 rfl) ?_
  refine qK .seq (some 16) (sq 6 6) 31 #[.agg #[.I ((ps[k]).id), .int .u64 ((ps[k]).next), .int .u64 ((ps[k]).mat), .bool ((ps[k]).heard)], .P bx 0] (matched1_spec ((ps[k]).id) ((ps[k]).next) ((ps[k]).mat) ((ps[k]).heard) (H.fact 2 rfl)) ?_
  rintro _ w13 hE14 rfl
  have H := H.ext hE14
  refine qF 0 [(0, .slice pa ps.length pc), (1, .func (.func 31) #[] #[.P bx 0]), (5, .I k), (7, .I ((ps.length : Nat) : Int)), (8, .I k), (16, .bool (((ps[k]).id) == x))] ?_
  refine qE ((ps[k]).id) x (fun h15 => ?_) (fun h15 => ?_)
  ·
   refine qR 2 [.c [1, 0, 1, 0, 0, 2, 0, 0, 2, 0, 1], .b 1, .c [1, 0, 1, 0, 0, 3], .l [1, 0, 1, 0, 0], .b 0, .c [2]] [(4, .I k)] ?_
   refine qT (.I k) Try.func30 ?_
   exact ⟨_, rfl, H.done, _, rfl, .inr ⟨k, rfl, by omega, by assumption, hinv0.2⟩⟩
  ·
   refine qR 2 [.c [1, 0, 1, 0, 0, 3], .l [1, 0, 1, 0, 0], .b 0, .c [2]] [(0, .slice pa ps.length pc), (1, .func (.func 31) #[] #[.P bx 0]), (7, .I ((ps.length : Nat) : Int)), (8, .I k)] ?_
   refine qG (sq 0 2) ?_
   refine qI .seq 18 (sq 1 2) ((k : Int) + 1) ?_
   refine qF 1 [(0, .slice pa ps.length pc), (1, .func (.func 31) #[] #[.P bx 0]), (7, .I ((ps.length : Nat) : Int)), (8, .I ((k : Int) + 1))] ?_
   have H := H.pick [1, 2] rfl
   exact WK.back (hback1 (k + 1) _ ⟨H, by omega, fun p hm => by rw [List.take_succ_eq_append_getElem (by omega), List.mem_append, List.mem_singleton] at hm; rcases hm with hm | rfl; exact hinv0.2 p hm; assumption⟩ (by first | omega | (simp only []; omega))) (by as_aux_lemma => kernel_rfl)
 ·
  refine qR 3 [.c [3]] [(4, .I (-1))] ?_
  refine qT (.I (-1)) Try.func30 ?_
  exact ⟨_, rfl, H.done, _, rfl, .inl ⟨rfl, fun p h => hinv0.2 p (by rw [List.take_of_length_le (by omega)]; exact h)⟩⟩
theorem matched_spec {S : Nat → Prop} {w : World} {cs : List Value} {C : Conf} (h : confS.rep S w cs C) {ps : List Peer} {pa : Option Addr} {pc : Nat} (hps : (Shape.slice peerS).rep S w [.slice pa ps.length pc] ps) (hv1 : C.voters.length ≤ 1048576) :
 Calls Try.prog 17 #[.agg cs.toArray, .slice pa ps.length pc] w (Ret fun v w' => Ext w w' ∧ ∃ m : Int, v = .int .u64 m ∧ (0 ≤ m ∧ m ≤ 18446744073709551615) ∧ Med (C.voters.map (mOf ps)) m) := by
 obtain ⟨a0C, k0C, a1C, k1C, rfl, hvC, hlC⟩ := conf_open h
 have hlen := Shape.slice_len hps
 refine qS (fn := Try.f17) (n := 44) (σ := [(0, .agg #[.slice a0C C.voters.length k0C, .slice a1C C.learners.length k1C]), (1, .slice pa ps.length pc)]) Try.func17 ?_
 have H := Hp.startF (w := w) (S := S) (G := [Rp (Shape.slice (Shape.int .i64)) [.slice a0C C.voters.length k0C] C.voters, Rp (Shape.slice (Shape.int .i64)) [.slice a1C C.learners.length k1C] C.learners, Rp (Shape.slice peerS) [.slice pa ps.length pc] ps]) (.rp hvC (.rp hlC (.rp hps .nil)))
 refine qR 1 [.c [0], .c [1]] [(0, .agg #[.slice a0C C.voters.length k0C, .slice a1C C.learners.length k1C]), (1, .slice pa ps.length pc)] ?_
 refine qG (sq 0 2) ?_
 refine qB .seq 2 (sq 1 2) #[.slice a0C C.voters.length k0C, .slice a1C C.learners.length k1C] 24 H ?_
 intro b1 w2 H
 refine qF 1 [(1, .slice pa ps.length pc), (2, .P b1 0)] ?_
 refine qR 4 [.c [2, 0, 0], .c [2, 0, 1], .c [3]] [(1, .slice pa ps.length pc), (2, .P b1 0), (5, .slice none 0 0)] ?_
 refine qG (sq 0 4) ?_
 refine qP 1 (sq 1 4) [(1, .slice pa ps.length pc), (5, .slice none 0 0), (10, .P b1 0)] ?_
 refine qL .seq 11 (sq 2 4) 22 b1 0 0 (.slice a0C C.voters.length k0C) (H.cells 0 rfl) ?_
 refine qF 2 [(1, .slice pa ps.length pc), (5, .slice none 0 0), (11, .slice a0C C.voters.length k0C), (12, .I ((C.voters.length : Nat) : Int)), (13, .I 0)] ?_
 refine qR 1 [.c [2, 0, 1, 0], .b 0, .c [3]] [(1, .slice pa ps.length pc), (5, .slice none 0 0), (11, .slice a0C C.voters.length k0C), (12, .I ((C.voters.length : Nat) : Int)), (13, .I 0)] ?_
 have H := H.ownNil (Shape.int .u64) 44
 refine WK.loop (α := Nat × List Int × Option Addr × Nat) (b := cd Try.prog 17 [2, 0, 1, 0, 0]) (by as_aux_lemma => kernel_rfl) (fun st_ => match st_ with | (i, ys, a9, c9) => [(1, .slice pa ps.length pc), (5, .slice a9 ys.length c9), (11, .slice a0C C.voters.length k0C), (12, .I ((C.voters.length : Nat) : Int)), (13, .I i)]) (fun st_ w' => match st_ with | (i, ys, a9, c9) => Hp w S [] [(b1, .cells #[.slice a0C C.voters.length k0C, .slice a1C C.learners.length k1C] 24 (0, 0))] [⟨Shape.int .u64, 44, .slice a9 ys.length c9, ys⟩] [Rp (Shape.slice (Shape.int .i64)) [.slice a0C C.voters.length k0C] C.voters, Rp (Shape.slice (Shape.int .i64)) [.slice a1C C.learners.length k1C] C.learners, Rp (Shape.slice peerS) [.slice pa ps.length pc] ps] w' ∧ i ≤ C.voters.length ∧ ys = (C.voters.take i).map (mOf ps)) (fun st_ => match st_ with | (i, ys, a9, c9) => C.voters.length - i) (0, [], none, 0) ⟨H, Nat.zero_le _, rfl⟩ (rfl) ?_
 rintro ⟨i, ys, a9, c9⟩ w4 ⟨H, hinv0⟩ hback3
 have hyl : ys.length = i := by rw [hinv0.2, List.length_map, List.length_take]; omega
 refine qR 3 [.c [2, 0, 1, 0, 0, 1, 0], .c [2, 0, 1, 0, 0, 2], .l [2, 0, 1, 0, 0], .b 0, .c [3]] [(1, .slice pa ps.length pc), (5, .slice a9 ys.length c9), (11, .slice a0C C.voters.length k0C), (12, .I ((C.voters.length : Nat) : Int)), (13, .I i), (14, .bool (decide (((i : Int) : Int) < ((C.voters.length : Nat) : Int))))] ?_
 refine qD (((i : Int) : Int) < ((C.voters.length : Nat) : Int)) (fun h5 => ?_) (fun h5 => ?_)
 ·
  refine qR 4 [.c [2, 0, 1, 0, 0, 2, 0, 0, 0], .c [2, 0, 1, 0, 0, 2, 0, 0, 1], .b 1, .c [2, 0, 1, 0, 0, 3], .l [2, 0, 1, 0, 0], .b 0, .c [3]] [(1, .slice pa ps.length pc), (5, .slice a9 ys.length c9), (11, .slice a0C C.voters.length k0C), (12, .I ((C.voters.length : Nat) : Int)), (13, .I i)] ?_
  refine qG (sq 0 4) ?_
  have hx6 : i < C.voters.length := by omega
  refine qX .seq 15 (sq 1 4) 22 3 (i : Int) (Shape.int .i64) (C.voters[i]) H 0 rfl i (by omega) (List.getElem?_eq_getElem hx6) ?_
  intro b7 o8 es9 hr10 H
  have hb11 := Shape.i64_bd hr10
  obtain ⟨rfl, -⟩ := hr10
  refine qL .seq 16 (sq 2 4) 3 b7 o8 0 (.I (C.voters[i])) (H.fc 0 rfl) ?_
  refine qB .seq 7 (sq 3 4) #[.I 0] 3 H ?_
  intro b12 w13 H
  refine qW 3 b12 0 (sq 4 4) (.I (C.voters[i])) [(b12, .cells #[.I (C.voters[i])] 3 (0, 0)), (b1, .cells #[.slice a0C C.voters.length k0C, .slice a1C C.learners.length k1C] 24 (0, 0))] H 0 rfl rfl ?_
  intro w14 H
  refine qF 0 [(1, .slice pa ps.length pc), (5, .slice a9 ys.length c9), (7, .P b12 0), (11, .slice a0C C.voters.length k0C), (12, .I ((C.voters.length : Nat) : Int)), (13, .I i)] ?_
  refine qR 4 [.c [2, 0, 1, 0, 0, 2, 0, 0, 2, 0, 0], .c [2, 0, 1, 0, 0, 2, 0, 0, 2, 0, 1], .c [2, 0, 1, 0, 0, 2, 0, 0, 3], .b 1, .c [2, 0, 1, 0, 0, 3], .l [2, 0, 1, 0, 0], .b 0, .c [3]] [(1, .slice pa ps.length pc), (5, .slice a9 ys.length c9), (7, .P b12 0), (8, .int .u64 0), (11, .slice a0C C.voters.length k0C), (12, .I ((C.voters.length : Nat) : Int)), (13, .I i)] ?_
  refine qG (sq 0 4) ?_
  refine qP 2 (sq 2 4) [(1, .slice pa ps.length pc), (5, .slice a9 ys.length c9), (8, .int .u64 0), (11, .slice a0C C.voters.length k0C), (12, .I ((C.voters.length : Nat) : Int)), (13, .I i), (17, .slice pa ps.length pc), (18, .func (.func 31) #[] #[.P b12 0])] ?_
  refine qK .seq (some 19) (sq 3 4) 30 #[.slice pa ps.length pc, .func (.func 31) #[] #[.P b12 0]] (ixpeer_spec (S := fun _ => True) ((Shape.slice peerS).step (H.rp 3 rfl) fun _ _ _ => ⟨trivial, rfl⟩) (H.viewM 0 rfl (by simp))) ?_
  rintro _ w15 hE16 ⟨ix, rfl, hix⟩
  have H := H.ext hE16
  refine qF 1 [(1, .slice pa ps.length pc), (5, .slice a9 ys.length c9), (8, .int .u64 0), (9, .I ix), (11, .slice a0C C.voters.length k0C), (12, .I ((C.voters.length : Nat) : Int)), (13, .I i)] ?_
  refine qR 2 [.c [2, 0, 1, 0, 0, 2, 0, 0, 2, 0, 2], .c [2, 0, 1, 0, 0, 2, 0, 0, 3], .b 1, .c [2, 0, 1, 0, 0, 3], .l [2, 0, 1, 0, 0], .b 0, .c [3]] [(1, .slice pa ps.length pc), (5, .slice a9 ys.length c9), (8, .int .u64 0), (9, .I ix), (11, .slice a0C C.voters.length k0C), (12, .I ((C.voters.length : Nat) : Int)), (13, .I i), (21, .bool (decide ((ix : Int) ≥ 0)))] ?_
  refine WK.joinV (α := Int) (fun x_ w_ => match x_ with | hs => Hp w S [] [(b12, .cells #[.I (C.voters[i])] 3 (0, 0)), (b1, .cells #[.slice a0C C.voters.length k0C, .slice a1C C.learners.length k1C] 24 (0, 0))] [⟨Shape.int .u64, 44, .slice a9 ys.length c9, ys⟩] [Fc b7 o8 [.I (C.voters[i])], Rp (Shape.slice (Shape.int .i64)) [.slice a0C C.voters.length k0C] C.voters, Rp (Shape.slice (Shape.int .i64)) [.slice a1C C.learners.length k1C] C.learners, Rp (Shape.slice peerS) [.slice pa ps.length pc] ps] w_ ∧ 0 ≤ hs ∧ hs ≤ 18446744073709551615 ∧ hs = mOf ps C.voters[i]) (fun x_ => match x_ with | hs => [(1, .slice pa ps.length pc), (5, .slice a9 ys.length c9), (8, .int .u64 hs), (11, .slice a0C C.voters.length k0C), (12, .I ((C.voters.length : Nat) : Int)), (13, .I i)]) [Cq Try.prog 17 [2, 0, 1, 0, 0, 2, 0, 0, 3], .inBlock 1, Cq Try.prog 17 [2, 0, 1, 0, 0, 3], Lq Try.prog 17 [2, 0, 1, 0, 0], .inBlock 0, Cq Try.prog 17 [3]] (fun hJ17 => ?_) ?_
  ·
   refine qD ((ix : Int) ≥ 0) (fun h19 => ?_) (fun h19 => ?_)
   ·
    obtain ⟨k0, rfl, hk0, hkx, hkn⟩ := hix.resolve_left (fun hq => by omega)
    refine qG (sq 0 6) ?_
    refine qP 2 (sq 2 6) [(1, .slice pa ps.length pc), (5, .slice a9 ys.length c9), (8, .int .u64 0), (11, .slice a0C C.voters.length k0C), (12, .I ((C.voters.length : Nat) : Int)), (13, .I i), (22, .slice pa ps.length pc), (23, .I k0)] ?_
    have hx20 : k0 < ps.length := by omega
    refine qX .seq 24 (sq 3 6) 43 47 (k0 : Int) peerS (ps[k0]) H 3 rfl k0 (by omega) (List.getElem?_eq_getElem hx20) ?_
    intro b21 o22 es23 hr24 H
    obtain ⟨rfl, hf26, hf27, hf28⟩ := peer_open hr24
    refine qP 1 (sq 4 6) [(1, .slice pa ps.length pc), (5, .slice a9 ys.length c9), (8, .int .u64 0), (11, .slice a0C C.voters.length k0C), (12, .I ((C.voters.length : Nat) : Int)), (13, .I i), (25, .pointer (some ⟨b21, o22 + 2, none⟩))] ?_
    refine qL .seq 26 (sq 5 6) 44 b21 (o22 + 2) 2 (.int .u64 ((ps[k0]).mat)) (H.fc 0 rfl) ?_
    refine qF 1 [(1, .slice pa ps.length pc), (5, .slice a9 ys.length c9), (8, .int .u64 ((ps[k0]).mat)), (11, .slice a0C C.voters.length k0C), (12, .I ((C.voters.length : Nat) : Int)), (13, .I i)] ?_
    have H := H.pick [1, 2, 3, 4] rfl
    exact hJ17 ((ps[k0]).mat) _ ⟨H, by omega, by omega, (mOf_at hk0 hkx hkn).symm⟩
   ·
    have hno := (hix.resolve_right (fun ⟨k, hq, _⟩ => by omega)).2
    refine qR 1 [.c [2, 0, 1, 0, 0, 2, 0, 0, 3], .b 1, .c [2, 0, 1, 0, 0, 3], .l [2, 0, 1, 0, 0], .b 0, .c [3]] [(1, .slice pa ps.length pc), (5, .slice a9 ys.length c9), (8, .int .u64 0), (11, .slice a0C C.voters.length k0C), (12, .I ((C.voters.length : Nat) : Int)), (13, .I i)] ?_
    exact hJ17 (0) _ ⟨H, by omega, by omega, (mOf_no hno).symm⟩
  ·
   rintro hs w18 ⟨H, hj⟩
   refine qG (sq 0 5) ?_
   refine qP 2 (sq 2 5) [(1, .slice pa ps.length pc), (5, .slice a9 ys.length c9), (11, .slice a0C C.voters.length k0C), (12, .I ((C.voters.length : Nat) : Int)), (13, .I i), (27, .slice a9 ys.length c9), (28, .int .u64 hs)] ?_
   refine RW.new (κ := .seq) (d := some 29) (r := (sq 3 5)) (o := .cells #[.int .u64 hs] 44 (0, 0)) (v := fun b => .slice (some ⟨b, 0, none⟩) 1 1) (fun b => by as_aux_lemma => kernel_rfl) (nofun) H ?_
   intro b29 w30 H
   have H := H.freeze 0 rfl (Shape.int .u64) ([hs] : List Int) 1 (by simp [maxLen]) (by first | exact Nat.le_refl _ | simp) (EsP.cons (c := [.int .u64 hs]) u64a EsP.nil)
   have H : Hp w S [] [(b12, .cells #[.I (C.voters[i])] 3 (0, 0)), (b1, .cells #[.slice a0C C.voters.length k0C, .slice a1C C.learners.length k1C] 24 (0, 0))] [⟨Shape.int .u64, 44, .slice a9 ys.length c9, ys⟩] [Rp (Shape.slice (Shape.int .u64)) [.slice (some ⟨b29, 0, none⟩) 1 1] ([hs] : List Int), Fc b7 o8 [.I (C.voters[i])], Rp (Shape.slice (Shape.int .i64)) [.slice a0C C.voters.length k0C] C.voters, Rp (Shape.slice (Shape.int .i64)) [.slice a1C C.learners.length k1C] C.learners, Rp (Shape.slice peerS) [.slice pa ps.length pc] ps] _ := H
   refine RW.appendW (d := some 30) (r := (sq 4 5)) (T := 58) (ty := 58) (e := 44) (m := 1) (by_ := 8) (v := .slice a9 ys.length c9) (a2 := (some ⟨b29, 0, none⟩)) (l2 := 1) (c2 := 1) (zs := ys ++ ([hs] : List Int)) (by as_aux_lemma => kernel_rfl) (by as_aux_lemma => kernel_rfl) rfl H 0 rfl 0 rfl (rfl) (by simp; omega) ?_
   intro a31 c32 w34 H hc33
   have H : Hp w S [] [(b12, .cells #[.I (C.voters[i])] 3 (0, 0)), (b1, .cells #[.slice a0C C.voters.length k0C, .slice a1C C.learners.length k1C] 24 (0, 0))] [⟨Shape.int .u64, 44, .slice a31 ((ys ++ ([hs] : List Int)).length) c32, ys ++ ([hs] : List Int)⟩] [Rp (Shape.slice (Shape.int .u64)) [.slice (some ⟨b29, 0, none⟩) 1 1] ([hs] : List Int), Fc b7 o8 [.I (C.voters[i])], Rp (Shape.slice (Shape.int .i64)) [.slice a0C C.voters.length k0C] C.voters, Rp (Shape.slice (Shape.int .i64)) [.slice a1C C.learners.length k1C] C.learners, Rp (Shape.slice peerS) [.slice pa ps.length pc] ps] _ := H
   refine qF 1 [(1, .slice pa ps.length pc), (5, .slice a31 ((ys ++ ([hs] : List Int)).length) c32), (11, .slice a0C C.voters.length k0C), (12, .I ((C.voters.length : Nat) : Int)), (13, .I i)] ?_
   refine qR 1 [.c [2, 0, 1, 0, 0, 3], .l [2, 0, 1, 0, 0], .b 0, .c [3]] [(1, .slice pa ps.length pc), (5, .slice a31 ((ys ++ ([hs] : List Int)).length) c32), (11, .slice a0C C.voters.length k0C), (12, .I ((C.voters.length : Nat) : Int)), (13, .I i)] ?_
   refine qG (sq 0 2) ?_
   refine qI .seq 31 (sq 1 2) ((i : Int) + 1) ?_
   refine qF 1 [(1, .slice pa ps.length pc), (5, .slice a31 ((ys ++ ([hs] : List Int)).length) c32), (11, .slice a0C C.voters.length k0C), (12, .I ((C.voters.length : Nat) : Int)), (13, .I ((i : Int) + 1))] ?_
   have H := H.pick [2, 3, 4] rfl
   have H := H.perms (M' := [(b1, .cells #[.slice a0C C.voters.length k0C, .slice a1C C.learners.length k1C] 24 (0, 0)), (b12, .cells #[.I (C.voters[i])] 3 (0, 0))]) (W' := [⟨Shape.int .u64, 44, .slice a31 ((ys ++ ([hs] : List Int)).length) c32, ys ++ ([hs] : List Int)⟩]) (List.perm_middle (l₁ := ([(b12, .cells #[.I (C.voters[i])] 3 (0, 0))] : Heap))).symm (List.Perm.refl _)
   have H := H.drop (M' := [(b1, .cells #[.slice a0C C.voters.length k0C, .slice a1C C.learners.length k1C] 24 (0, 0))]) (W' := [⟨Shape.int .u64, 44, .slice a31 (ys ++ ([hs] : List Int)).length c32, (ys ++ ([hs] : List Int))⟩]) (by repeat (first | exact List.Sublist.refl _ | apply List.Sublist.cons_cons | apply List.Sublist.cons)) (by repeat (first | exact List.Sublist.refl _ | apply List.Sublist.cons_cons | apply List.Sublist.cons))
   exact WK.back (hback3 (i + 1, ys ++ ([hs] : List Int), a31, c32) _ ⟨H, by omega, by rw [hinv0.2, hj.2.2]; exact map_take_succ _ (by omega)⟩ (by first | omega | (simp only []; omega))) (by as_aux_lemma => kernel_rfl)
 ·
  refine qR 4 [.c [3, 0, 1], .c [4]] [(5, .slice a9 ys.length c9), (34, .bool (((ys.length : Nat) : Int) == 0))] ?_
  refine qE ((ys.length : Nat) : Int) 0 (fun h35 => ?_) (fun h35 => ?_)
  ·
   refine qR 2 [.c [3, 0, 1, 0, 1], .c [4]] [(4, .int .u64 0)] ?_
   refine qT (.int .u64 0) Try.func17 ?_
   have hyF : ys = C.voters.map (mOf ps) := by rw [hinv0.2, List.take_of_length_le (by omega)]
   exact ⟨_, rfl, H.done, _, rfl, by omega, .inl ⟨by rw [← hyF]; exact List.length_eq_zero_iff.1 (by omega), rfl⟩⟩
  ·
   refine qR 2 [.c [4, 0], .c [5]] [(5, .slice a9 ys.length c9)] ?_
   refine qG (sq 0 2) ?_
   refine qP 1 (sq 1 2) [(5, .slice a9 ys.length c9), (35, .slice a9 ys.length c9)] ?_
   obtain ⟨pb, hpb⟩ := H.ownLit (by omega) rfl
   subst hpb
   have H := H.reW (ys := ys.toArray.toList) rfl
   refine RW.callS (d := some 36) (r := (sq 2 2)) (g := 32) (args := #[.slice (some ⟨pb, 0, none⟩) ys.length c9]) (by as_aux_lemma => kernel_rfl) (usort_spec (d := ys.toArray) (pb := pb) (z := ys.length) (q := c9) ((H.lend (M1 := []) (W1 := [⟨Shape.int .u64, 44, .slice (some ⟨pb, 0, none⟩) ys.length c9, ys.toArray.toList⟩])).pick [] rfl) (by simp) (by omega)) ?_
   rintro _ w36 ⟨e, rfl, hpe, hse, H'⟩
   have H := H.back (M1 := []) (W1 := [⟨Shape.int .u64, 44, .slice (some ⟨pb, 0, none⟩) ys.length c9, ys.toArray.toList⟩]) H'
   have hes : e.size = ys.length := by rw [hpe.1]; simp
   have H : Hp w S [] [(b1, .cells #[.slice a0C C.voters.length k0C, .slice a1C C.learners.length k1C] 24 (0, 0))] [⟨Shape.int .u64, 44, .slice (some ⟨pb, 0, none⟩) ys.length c9, e.toList⟩] [Rp (Shape.slice (Shape.int .i64)) [.slice a0C C.voters.length k0C] C.voters, Rp (Shape.slice (Shape.int .i64)) [.slice a1C C.learners.length k1C] C.learners, Rp (Shape.slice peerS) [.slice pa ps.length pc] ps] _ := H
   refine qF 0 [(5, .slice (some ⟨pb, 0, none⟩) ys.length c9)] ?_
   refine qR 1 [.c [5, 0], .c [6]] [(5, .slice (some ⟨pb, 0, none⟩) ys.length c9)] ?_
   refine qG (sq 0 8) ?_
   refine qP 3 (sq 3 8) [(37, .slice (some ⟨pb, 0, none⟩) ys.length c9), (39, .I ((ys.length : Nat) : Int))] ?_
   refine qI .seq 40 (sq 4 8) (((ys.length : Nat) : Int) - 1) ?_
   refine RW.pv (κ := .seq) (d := some 41) (r := (sq 5 8)) (v := .I (IntKind.i64.wrap ((((ys.length : Nat) : Int) - 1).tdiv 2))) (v' := .I ((((ys.length : Nat) : Int) - 1) / 2)) (by as_aux_lemma => kernel_rfl) (quo_i64 (by decide) (by omega)) ?_
   have hn38 : ys.length = e.toList.length := by rw [tl_len (d := e)]; omega
   have hx37 : ((ys.length - 1) / 2) < e.toList.length := by rw [tl_len (d := e)]; omega
   refine RW.indexW (κ := .seq) (d := some 42) (r := (sq 6 8)) (T := 58) (e := 44) (m := 1) (ik := .i64) (ix := (((ys.length : Nat) : Int) - 1) / 2) (sh := (Shape.int .u64)) (xs := e.toList) (a := (some ⟨pb, 0, none⟩)) (len := ys.length) (cap := c9) (by as_aux_lemma => kernel_rfl) (by as_aux_lemma => kernel_rfl) rfl H ((ys.length - 1) / 2) (by omega) hx37 hn38 ?_
   intro b39 es40 ha41 hcell42 hr43
   cases ha41
   rw [tl_at (d := e) (k := ((ys.length - 1) / 2)) _] at hr43
   have hb44 := Shape.u64_bd hr43
   obtain ⟨rfl, -⟩ := hr43
   refine qL .seq 43 (sq 7 8) 44 pb (((ys.length - 1) / 2) * 1) 0 (.int .u64 (e[((ys.length - 1) / 2)]!)) hcell42 ?_
   refine qF 1 [(4, .int .u64 (e[((ys.length - 1) / 2)]!))] ?_
   refine qT (.int .u64 (e[((ys.length - 1) / 2)]!)) Try.func17 ?_
   have hyF : ys = C.voters.map (mOf ps) := by rw [hinv0.2, List.take_of_length_le (by omega)]
   exact ⟨_, rfl, H.done, _, rfl, by omega, .inr ⟨fun q => absurd (show ys.length = 0 by rw [hyF, q]; rfl) (by omega), e, by rw [← hyF]; exact hpe, by rw [← hyF]; exact hse, by rw [← hyF]⟩⟩
end Go.Proofs.Ythbegjaoifghlaa
