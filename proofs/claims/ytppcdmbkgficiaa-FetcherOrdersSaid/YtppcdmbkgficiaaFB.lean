import Derived.Test.YtppcdmbkgficiaaF9
namespace Go.Proofs.Ytppcdmbkgficiaa
open Go.BX

/-! two orders -/
def sAt (s0 s1 i : Nat) : Nat := if i = 0 then s0 else s1
def fAt (s0 s1 n i x : Nat) : Nat := if i = 1 then (sAt s0 s1 i + n - x) % n else (sAt s0 s1 i + x) % n
theorem sAt_get {s0 s1 i : Nat} (h : i < 2) : [((s0 : Nat) : Int), ((s1 : Nat) : Int)][i]? = some ((sAt s0 s1 i : Nat) : Int) := by
 match i, h with
 | 0, _ => rfl
 | 1, _ => rfl
theorem sAt_lt {s0 s1 i n : Nat} (h0 : s0 < n) (h1 : s1 < n) : sAt s0 s1 i < n := by
 unfold sAt
 split <;> assumption
theorem fAt_lt {s0 s1 n i x : Nat} (hn : 0 < n) : fAt s0 s1 n i x < n := by
 unfold fAt
 split
 · exact Nat.mod_lt _ hn
 · exact Nat.mod_lt _ hn
theorem mod_two {a n : Nat} (h : a < 2 * n) : a % n = if a < n then a else a - n := by
 by_cases h1 : a < n
 · rw [if_pos h1, Nat.mod_eq_of_lt h1]
 · rw [if_neg h1, Nat.mod_eq_sub_mod (by omega), Nat.mod_eq_of_lt (by omega)]
theorem fAt_ne {s0 s1 n i x : Nat} (h0 : s0 < n) (h1 : s1 < n) (hx : x < n) : ∀ j < x, fAt s0 s1 n i j ≠ fAt s0 s1 n i x := by
 intro j hj
 have hs := sAt_lt (i := i) h0 h1
 unfold fAt
 by_cases hi : i = 1
 · rw [if_pos hi, if_pos hi, mod_two (by omega), mod_two (by omega)]
   split <;> split <;> omega
 · rw [if_neg hi, if_neg hi, mod_two (by omega), mod_two (by omega)]
   split <;> split <;> omega
theorem ov_next {xs : List (BitVec 8)} {k n i s0 s1 : Nat} {r : Rd} {x z : Nat} (h : Ov xs k n (objOf xs n) (fAt s0 s1 n i) r x) (hx : x < k) (h0 : s0 < n) (h1 : s1 < n) (hz : z = fAt s0 s1 n i x) {r2 : Rd} {hd : Hdr} {dt : List (BitVec 8)} (hhd : hd = hdAt xs k n z) (hdt : dt = rowAt (enc xs k n) z) (e : r2 = gotR r ((z : Int) + 1) hd dt true) :
 Ov xs k n (objOf xs n) (fAt s0 s1 n i) r2 (x + 1) := by
 subst hz hdt hhd e
 have hkn := h.of.hkn
 exact h.step hx (fAt_lt (by omega)) (fAt_ne h0 h1 (by omega)) (hit_own h.ob (fAt_lt (by omega)) rfl) (head_own h.of h.ob)

theorem orders_bad {S : Nat → Prop} {w : World} {xs : List (BitVec 8)} {a : Option Addr} {c : Nat} (h : SB.rep S w [.slice a xs.length c] xs) (k n fi ot : Int) (hb : ¬ (1 ≤ k ∧ k ≤ n ∧ n ≤ 12 ∧ xs.length ≤ 2000 ∧ 0 ≤ fi ∧ 0 ≤ ot)) :
 Calls Try.prog 13 #[.slice a xs.length c, .I k, .I n, .I fi, .I ot] w (Ret fun v w' => Ext w w' ∧ v = .bool true) := by
 refine qS (fn := Try.f13) (n := 143) (σ := [(0, .slice a xs.length c), (1, .I k), (2, .I n), (3, .I fi), (4, .I ot)]) Try.func13 ?_
 have H := Hp.startF (w := w) (S := S) (G := [Rp SB [.slice a xs.length c] xs]) (.rp h .nil)
 refine qR 4 [.c [1, 0, 0], .c [1, 0, 1], .c [2]] [(0, .slice a xs.length c), (1, .I k), (2, .I n), (3, .I fi), (4, .I ot)] ?_
 refine WK.join (fun b_ : Bool => b_ = decide (k < 1 ∨ k > n ∨ n > 12 ∨ xs.length > 2000 ∨ fi < 0 ∨ ot < 0)) (fun b_ => [(0, .slice a xs.length c), (1, .I k), (2, .I n), (3, .I fi), (4, .I ot), (46, .bool b_)]) [Cq Try.prog 13 [1, 0, 1], Cq Try.prog 13 [2]] (fun hJ1 => ?_) (fun bj2 hbj3 => ?_)
 ·
  refine qG (sq 0 24) ?_
  refine qP 3 (sq 3 24) [(0, .slice a xs.length c), (1, .I k), (2, .I n), (3, .I fi), (4, .I ot), (25, .bool (decide ((k : Int) < 1)))] ?_
  refine tD (fun b_ => [(0, .slice a xs.length c), (1, .I k), (2, .I n), (3, .I fi), (4, .I ot), (25, .bool b_)]) ((k : Int) < 1) (fun h4 => ?_) (fun h4 => ?_)
  ·
   refine qF 21 [(0, .slice a xs.length c), (1, .I k), (2, .I n), (3, .I fi), (4, .I ot), (46, .bool true)] ?_
   exact hJ1 true ((decide_eq_true (by omega)).symm)
  ·
   refine qP 5 (sq 8 24) [(0, .slice a xs.length c), (1, .I k), (2, .I n), (3, .I fi), (4, .I ot), (30, .bool (decide ((k : Int) > n)))] ?_
   refine tD (fun b_ => [(0, .slice a xs.length c), (1, .I k), (2, .I n), (3, .I fi), (4, .I ot), (30, .bool b_)]) ((k : Int) > n) (fun h5 => ?_) (fun h5 => ?_)
   ·
    refine qF 16 [(0, .slice a xs.length c), (1, .I k), (2, .I n), (3, .I fi), (4, .I ot), (46, .bool true)] ?_
    exact hJ1 true ((decide_eq_true (by omega)).symm)
   ·
    refine qP 4 (sq 12 24) [(0, .slice a xs.length c), (1, .I k), (2, .I n), (3, .I fi), (4, .I ot), (34, .bool (decide ((n : Int) > 12)))] ?_
    refine tD (fun b_ => [(0, .slice a xs.length c), (1, .I k), (2, .I n), (3, .I fi), (4, .I ot), (34, .bool b_)]) ((n : Int) > 12) (fun h6 => ?_) (fun h6 => ?_)
    ·
     refine qF 12 [(0, .slice a xs.length c), (1, .I k), (2, .I n), (3, .I fi), (4, .I ot), (46, .bool true)] ?_
     exact hJ1 true ((decide_eq_true (by omega)).symm)
    ·
     refine qP 5 (sq 17 24) [(0, .slice a xs.length c), (1, .I k), (2, .I n), (3, .I fi), (4, .I ot), (39, .bool (decide ((((xs.length : Nat) : Int) : Int) > 2000)))] ?_
     refine tD (fun b_ => [(0, .slice a xs.length c), (1, .I k), (2, .I n), (3, .I fi), (4, .I ot), (39, .bool b_)]) ((((xs.length : Nat) : Int) : Int) > 2000) (fun h7 => ?_) (fun h7 => ?_)
     ·
      refine qF 7 [(0, .slice a xs.length c), (1, .I k), (2, .I n), (3, .I fi), (4, .I ot), (46, .bool true)] ?_
      exact hJ1 true ((decide_eq_true (by omega)).symm)
     ·
      refine qP 4 (sq 21 24) [(0, .slice a xs.length c), (1, .I k), (2, .I n), (3, .I fi), (4, .I ot), (43, .bool (decide ((fi : Int) < 0)))] ?_
      refine tD (fun b_ => [(0, .slice a xs.length c), (1, .I k), (2, .I n), (3, .I fi), (4, .I ot), (43, .bool b_)]) ((fi : Int) < 0) (fun h8 => ?_) (fun h8 => ?_)
      ·
       refine qF 3 [(0, .slice a xs.length c), (1, .I k), (2, .I n), (3, .I fi), (4, .I ot), (46, .bool true)] ?_
       exact hJ1 true ((decide_eq_true (by omega)).symm)
      ·
       refine qF 3 [(0, .slice a xs.length c), (1, .I k), (2, .I n), (3, .I fi), (4, .I ot), (46, .bool (decide ((ot : Int) < 0)))] ?_
       exact hJ1 (decide ((ot : Int) < 0)) (decide_eq_decide.2 (by constructor <;> intro _ <;> omega))
 ·
  refine qC bj2 (fun h9 => ?_) (fun h9 => ?_)
  ·
   rw [hbj3] at h9
   replace h9 := of_decide_eq_true h9
   refine qR 1 [.c [1, 0, 1, 0, 0], .c [1, 0, 1, 0, 1], .c [2]] [] ?_
   refine qG (sq 0 2) ?_
   refine qK .seq (some 47) (sq 1 2) 45 #[] (heads21_spec (S := fun _ => True)) ?_
   rintro _ w10 hE11 rfl
   have H := H.ext hE11
   refine qF 1 [(10, .bool true)] ?_
   refine qT (.bool true) Try.func13 ?_
   exact ⟨_, rfl, H.done, rfl⟩
  ·
   rw [hbj3] at h9
   replace h9 := of_decide_eq_false h9
   exact absurd (by omega) hb

set_option maxHeartbeats 4000000 in
theorem orders_ok {S : Nat → Prop} {w : World} {xs : List (BitVec 8)} {a : Option Addr} {c : Nat} (h : SB.rep S w [.slice a xs.length c] xs) {k n fi ot : Nat} (hk : 1 ≤ k) (hkn : k ≤ n) (hn : n ≤ 12) (hs : xs.length ≤ 2000) :
 Calls Try.prog 13 #[.slice a xs.length c, .I k, .I n, .I fi, .I ot] w (Ret fun v w' => Ext w w' ∧ v = .bool true) := by
 obtain ⟨s0, hs0⟩ : ∃ i : Nat, (fi : Int) % (n : Int) = (i : Int) := ⟨fi % n, rfl⟩
 obtain ⟨s1, hs1⟩ : ∃ i : Nat, (ot : Int) % (n : Int) = (i : Int) := ⟨ot % n, rfl⟩
 have hl0 : (s0 : Int) < (n : Int) := hs0 ▸ Int.emod_lt_of_pos _ (by omega)
 have hl1 : (s1 : Int) < (n : Int) := hs1 ▸ Int.emod_lt_of_pos _ (by omega)
 refine qS (fn := Try.f13) (n := 143) (σ := [(0, .slice a xs.length c), (1, .I k), (2, .I n), (3, .I fi), (4, .I ot)]) Try.func13 ?_
 have H := Hp.startF (w := w) (S := S) (G := [Rp SB [.slice a xs.length c] xs]) (.rp h .nil)
 refine qR 4 [.c [1, 0, 0], .c [1, 0, 1], .c [2]] [(0, .slice a xs.length c), (1, .I k), (2, .I n), (3, .I fi), (4, .I ot)] ?_
 refine qG (sq 0 24) ?_
 refine qP 3 (sq 3 24) [(0, .slice a xs.length c), (1, .I k), (2, .I n), (3, .I fi), (4, .I ot), (25, .bool (decide (((k : Int) : Int) < 1)))] ?_
 refine tD (fun b_ => [(0, .slice a xs.length c), (1, .I k), (2, .I n), (3, .I fi), (4, .I ot), (25, .bool b_)]) (((k : Int) : Int) < 1) (fun h1 => ?_) (fun h1 => ?_)
 ·
  omega
 ·
  refine qP 5 (sq 8 24) [(0, .slice a xs.length c), (1, .I k), (2, .I n), (3, .I fi), (4, .I ot), (30, .bool (decide (((k : Int) : Int) > (n : Int))))] ?_
  refine tD (fun b_ => [(0, .slice a xs.length c), (1, .I k), (2, .I n), (3, .I fi), (4, .I ot), (30, .bool b_)]) (((k : Int) : Int) > (n : Int)) (fun h2 => ?_) (fun h2 => ?_)
  ·
   omega
  ·
   refine qP 4 (sq 12 24) [(0, .slice a xs.length c), (1, .I k), (2, .I n), (3, .I fi), (4, .I ot), (34, .bool (decide (((n : Int) : Int) > 12)))] ?_
   refine tD (fun b_ => [(0, .slice a xs.length c), (1, .I k), (2, .I n), (3, .I fi), (4, .I ot), (34, .bool b_)]) (((n : Int) : Int) > 12) (fun h3 => ?_) (fun h3 => ?_)
   ·
    omega
   ·
    refine qP 5 (sq 17 24) [(0, .slice a xs.length c), (1, .I k), (2, .I n), (3, .I fi), (4, .I ot), (39, .bool (decide ((((xs.length : Nat) : Int) : Int) > 2000)))] ?_
    refine tD (fun b_ => [(0, .slice a xs.length c), (1, .I k), (2, .I n), (3, .I fi), (4, .I ot), (39, .bool b_)]) ((((xs.length : Nat) : Int) : Int) > 2000) (fun h4 => ?_) (fun h4 => ?_)
    ·
     omega
    ·
     refine qP 4 (sq 21 24) [(0, .slice a xs.length c), (1, .I k), (2, .I n), (3, .I fi), (4, .I ot), (43, .bool (decide (((fi : Int) : Int) < 0)))] ?_
     refine tD (fun b_ => [(0, .slice a xs.length c), (1, .I k), (2, .I n), (3, .I fi), (4, .I ot), (43, .bool b_)]) (((fi : Int) : Int) < 0) (fun h5 => ?_) (fun h5 => ?_)
     ·
      omega
     ·
      refine qF 3 [(0, .slice a xs.length c), (1, .I k), (2, .I n), (3, .I fi), (4, .I ot), (46, .bool (decide (((ot : Int) : Int) < 0)))] ?_
      refine qD (((ot : Int) : Int) < 0) (fun h6 => ?_) (fun h6 => ?_)
      ·
       omega
      ·
       refine qR 2 [.c [2, 0], .c [3]] [(0, .slice a xs.length c), (1, .I k), (2, .I n), (3, .I fi), (4, .I ot)] ?_
       refine qG (sq 0 12) ?_
       refine qP 3 (sq 3 12) [(0, .slice a xs.length c), (1, .I k), (2, .I n), (3, .I fi), (4, .I ot), (49, .slice a xs.length c), (50, .I k), (51, .I n)] ?_
       refine qK .seq (some 52) (sq 4 12) 46 #[.slice a xs.length c, .I k, .I n] (object21_ok (S := Av S w [] (idsOf [] [])) (xs := xs) (H.rp 0 rfl) (k := k) (n := n) (by omega) (by omega) (by omega) (by omega)) ?_
       rintro _ w7 hE11 ⟨cs8, a9, c10, rfl, hr12, hr13⟩
       have H0s := H
       obtain ⟨a6q14, k6q14, rfl, hf15, hf16, hf17, hf18, hf19, hf20⟩ := obj_open hr12
       have H := H.addN hE11 (F := Rp (Shape.slice chkS) [.slice a9 (chksOf xs k n).length c10] (chksOf xs k n)) hr13
       have H := H.add (F := Rp (Shape.slice (Shape.int .i64)) [.slice a6q14 ((objOf xs n).nodes.length) k6q14] ((objOf xs n).nodes)) ((H0s.addN hE11 (F := Rp (Shape.slice (Shape.int .i64)) [.slice a6q14 ((objOf xs n).nodes.length) k6q14] ((objOf xs n).nodes)) hf20).rp 0 rfl)
       refine qP 4 (sq 8 12) [(0, .slice a xs.length c), (1, .I k), (2, .I n), (3, .I fi), (4, .I ot), (53, .agg (objV (objOf xs n) a6q14 k6q14).toArray), (54, .slice a9 (chksOf xs k n).length c10), (55, .bool true)] ?_
       refine qB .seq 11 (sq 9 12) #[.string (⟨#[]⟩), .int .u64 0, .I 0, .int .u32 0, .I 0, .int .u64 0, .slice none 0 0] 102 H ?_
       intro b21 w22 H
       refine RW.store (d := none) (r := (sq 10 12)) (T := 102) (b := b21) (k := 0) (v := .agg (objV (objOf xs n) a6q14 k6q14).toArray) (c' := (objV (objOf xs n) a6q14 k6q14).toArray) (M' := [(b21, .cells (objV (objOf xs n) a6q14 k6q14).toArray 102 (0, 0))]) (by as_aux_lemma => kernel_rfl) H 0 rfl (by as_aux_lemma => kernel_rfl) (by as_aux_lemma => kernel_rfl) ?_
       intro w23 H
       refine qF 2 [(0, .slice a xs.length c), (1, .I k), (2, .I n), (3, .I fi), (4, .I ot), (11, .P b21 0), (12, .slice a9 (chksOf xs k n).length c10), (13, .bool true)] ?_
       refine qR 1 [.c [3, 0], .c [4]] [(0, .slice a xs.length c), (1, .I k), (2, .I n), (3, .I fi), (4, .I ot), (11, .P b21 0), (12, .slice a9 (chksOf xs k n).length c10), (13, .bool true)] ?_
       refine WK.draw1 8 [(0, .qui), (1, .qui), (2, .qui), (3, .qui), (4, .qui), (5, .qui), (6, .chn), (7, .qui)] [(0, .qui), (1, .qui), (2, .qui), (3, .qui), (4, .qui), (5, .qui), (6, .chn), (7, .qui)] Try_mixed (by as_aux_lemma => kernel_rfl) (by as_aux_lemma => kernel_rfl) (by as_aux_lemma => kernel_rfl) ?_
       have H := H.draw
       generalize ({ w23 with drawn := w23.drawn + 1 } : World) = w24 at H ⊢
       refine qP 2 [(2, .qui), (3, .qui), (4, .qui), (5, .qui), (6, .chn), (7, .qui)] [(0, .slice a xs.length c), (1, .I k), (2, .I n), (4, .I ot), (11, .P b21 0), (12, .slice a9 (chksOf xs k n).length c10), (13, .bool true), (56, .I fi), (57, .I n)] ?_
       refine RW.readS (κ := .qui) (d := some 58) (r := [(3, .qui), (4, .qui), (5, .qui), (6, .chn), (7, .qui)]) (s := semV (Op.intDiv .rem .i64 (fi : Int) (n : Int))) (v := .I s0) (by as_aux_lemma => kernel_rfl) (fun w' _ => semV_run (rem_nat (r := s0) (by omega) (by omega) (hs0))) ?_
       refine qP 2 [(5, .qui), (6, .chn), (7, .qui)] [(0, .slice a xs.length c), (1, .I k), (2, .I n), (11, .P b21 0), (12, .slice a9 (chksOf xs k n).length c10), (13, .bool true), (58, .I s0), (59, .I ot), (60, .I n)] ?_
       refine RW.readS (κ := .qui) (d := some 61) (r := [(6, .chn), (7, .qui)]) (s := semV (Op.intDiv .rem .i64 (ot : Int) (n : Int))) (v := .I s1) (by as_aux_lemma => kernel_rfl) (fun w' _ => semV_run (rem_nat (r := s1) (by omega) (by omega) (hs1))) ?_
       refine RW.new (κ := .chn) (d := some 62) (r := [(7, .qui)]) (o := .cells #[.I s0, .I s1] 3 (0, 0)) (v := fun b => .slice (some ⟨b, 0, none⟩) 2 2) (fun b => by as_aux_lemma => kernel_rfl) (nofun) H ?_
       intro b25 w26 H
       refine qF 1 [(0, .slice a xs.length c), (1, .I k), (2, .I n), (11, .P b21 0), (12, .slice a9 (chksOf xs k n).length c10), (13, .bool true), (14, .slice (some ⟨b25, 0, none⟩) 2 2)] ?_
       refine qR 4 [.c [4, 0, 1, 0], .b 0, .c [5]] [(0, .slice a xs.length c), (1, .I k), (2, .I n), (11, .P b21 0), (12, .slice a9 (chksOf xs k n).length c10), (13, .bool true), (14, .slice (some ⟨b25, 0, none⟩) 2 2), (15, .I 0)] ?_
       have H := H.freeze 0 rfl (Shape.int .i64) ([(s0 : Int), (s1 : Int)] : List Int) 2 (by simp [maxLen]) (by first | exact Nat.le_refl _ | simp) (EsP.cons (c := [.I s0]) i64a (EsP.cons (c := [.I s1]) i64a EsP.nil))
       have H : Hp w S [] [(b21, .cells (objV (objOf xs n) a6q14 k6q14).toArray 102 (0, 0))] [] [Rp (Shape.slice (Shape.int .i64)) [.slice (some ⟨b25, 0, none⟩) 2 2] ([(s0 : Int), (s1 : Int)] : List Int), Rp (Shape.slice (Shape.int .i64)) [.slice a6q14 ((objOf xs n).nodes.length) k6q14] ((objOf xs n).nodes), Rp (Shape.slice chkS) [.slice a9 (chksOf xs k n).length c10] (chksOf xs k n), Rp SB [.slice a xs.length c] xs] _ := H
       refine WK.loop (α := Nat) (b := cd Try.prog 13 [4, 0, 1, 0, 0]) (by as_aux_lemma => kernel_rfl) (fun i => [(0, .slice a xs.length c), (1, .I k), (2, .I n), (11, .P b21 0), (12, .slice a9 (chksOf xs k n).length c10), (13, .bool true), (14, .slice (some ⟨b25, 0, none⟩) 2 2), (15, .I i)]) (fun i w' => Hp w S [] [(b21, .cells (objV (objOf xs n) a6q14 k6q14).toArray 102 (0, 0))] [] [Rp (Shape.slice (Shape.int .i64)) [.slice (some ⟨b25, 0, none⟩) 2 2] ([(s0 : Int), (s1 : Int)] : List Int), Rp (Shape.slice (Shape.int .i64)) [.slice a6q14 ((objOf xs n).nodes.length) k6q14] ((objOf xs n).nodes), Rp (Shape.slice chkS) [.slice a9 (chksOf xs k n).length c10] (chksOf xs k n), Rp SB [.slice a xs.length c] xs] w' ∧ i ≤ 2) (fun i => 2 - i) 0 ⟨H, by omega⟩ (rfl) ?_
       rintro i w28 ⟨H, hinv0⟩ hback27
       have hsl := sAt_lt (i := i) (show s0 < n by omega) (show s1 < n by omega)
       refine qR 3 [.c [4, 0, 1, 0, 0, 0, 1], .c [4, 0, 1, 0, 0, 1], .l [4, 0, 1, 0, 0], .b 0, .c [5]] [(0, .slice a xs.length c), (1, .I k), (2, .I n), (11, .P b21 0), (12, .slice a9 (chksOf xs k n).length c10), (13, .bool true), (14, .slice (some ⟨b25, 0, none⟩) 2 2), (15, .I i), (64, .bool (decide (((i : Int) : Int) < 2)))] ?_
       refine qD (((i : Int) : Int) < 2) (fun h29 => ?_) (fun h29 => ?_)
       ·
        refine qR 4 [.c [4, 0, 1, 0, 0, 1, 0, 0, 0], .c [4, 0, 1, 0, 0, 1, 0, 0, 1], .b 1, .c [4, 0, 1, 0, 0, 2], .l [4, 0, 1, 0, 0], .b 0, .c [5]] [(0, .slice a xs.length c), (1, .I k), (2, .I n), (11, .P b21 0), (12, .slice a9 (chksOf xs k n).length c10), (13, .bool true), (14, .slice (some ⟨b25, 0, none⟩) 2 2), (15, .I i)] ?_
        refine qG (sq 0 12) ?_
        refine qL .seq 68 (sq 1 12) 102 b21 0 0 (.agg (objV (objOf xs n) a6q14 k6q14).toArray) (H.cells 0 rfl) ?_
        refine qP 2 (sq 3 12) [(0, .slice a xs.length c), (1, .I k), (2, .I n), (11, .P b21 0), (12, .slice a9 (chksOf xs k n).length c10), (13, .bool true), (14, .slice (some ⟨b25, 0, none⟩) 2 2), (15, .I i), (68, .agg (objV (objOf xs n) a6q14 k6q14).toArray), (69, .I k), (70, .I n)] ?_
        refine qK .seq (some 71) (sq 4 12) 47 #[.agg (objV (objOf xs n) a6q14 k6q14).toArray, .I k, .I n, .I 100] (fbegin_ok (O := (objOf xs n)) (obj_mk (y0 := (objOf xs n).key) (y1 := (objOf xs n).version) (y2 := (objOf xs n).size) (y3 := (objOf xs n).sum) (y4 := (objOf xs n).group) (y5 := (objOf xs n).epoch) (y6 := (objOf xs n).nodes) ⟨rfl, by first | assumption | (simp [maxLen]; done) | decide⟩ u64a i64a Shape.bv_mk i64a u64a (H.rp 1 rfl)) (k : Int) (n : Int) 100 (okB_begin hk hkn (by omega) (by omega))) ?_
        rintro _ w30 hE31 ⟨cs32, a33, c34, rfl, hr35, hr36⟩
        have H0s := H
        replace hr35 : rdS.rep _ _ cs32 (beginR (objOf xs n) (k : Int) (n : Int) 100) := hr35
        replace hr36 : (Shape.slice msgS).rep _ _ [.slice a33 (asksR (beginR (objOf xs n) (k : Int) (n : Int) 100)).length c34] (asksR (beginR (objOf xs n) (k : Int) (n : Int) 100)) := hr36
        obtain ⟨cs0q37, a3q37, k3q37, a4q37, k4q37, rfl, hf38, hf39, hf40, hf41, hf42, hf43, hf44, hf45⟩ := rd_open hr35
        obtain ⟨a6q46, k6q46, rfl, hf47, hf48, hf49, hf50, hf51, hf52⟩ := obj_open hf38
        have H := H.addN hE31 (F := Rp (Shape.slice msgS) [.slice a33 ((asksR (beginR (objOf xs n) (k : Int) (n : Int) 100)).length) c34] (asksR (beginR (objOf xs n) (k : Int) (n : Int) 100))) hr36
        have H := H.add (F := Rp (Shape.slice (Shape.int .i64)) [.slice a6q46 (((beginR (objOf xs n) (k : Int) (n : Int) 100).object).nodes.length) k6q46] (((beginR (objOf xs n) (k : Int) (n : Int) 100).object).nodes)) ((H0s.addN hE31 (F := Rp (Shape.slice (Shape.int .i64)) [.slice a6q46 (((beginR (objOf xs n) (k : Int) (n : Int) 100).object).nodes.length) k6q46] (((beginR (objOf xs n) (k : Int) (n : Int) 100).object).nodes)) hf52).rp 0 rfl)
        have H := H.add (F := Rp (Shape.slice pcS) [.slice a3q37 ((beginR (objOf xs n) (k : Int) (n : Int) 100).pieces.length) k3q37] ((beginR (objOf xs n) (k : Int) (n : Int) 100).pieces)) ((H0s.addN hE31 (F := Rp (Shape.slice pcS) [.slice a3q37 ((beginR (objOf xs n) (k : Int) (n : Int) 100).pieces.length) k3q37] ((beginR (objOf xs n) (k : Int) (n : Int) 100).pieces)) hf41).rp 0 rfl)
        have H := H.add (F := Rp (Shape.slice (Shape.int .i64)) [.slice a4q37 ((beginR (objOf xs n) (k : Int) (n : Int) 100).bad.length) k4q37] ((beginR (objOf xs n) (k : Int) (n : Int) 100).bad)) ((H0s.addN hE31 (F := Rp (Shape.slice (Shape.int .i64)) [.slice a4q37 ((beginR (objOf xs n) (k : Int) (n : Int) 100).bad.length) k4q37] ((beginR (objOf xs n) (k : Int) (n : Int) 100).bad)) hf42).rp 0 rfl)
        refine qP 4 (sq 8 12) [(0, .slice a xs.length c), (1, .I k), (2, .I n), (11, .P b21 0), (12, .slice a9 (chksOf xs k n).length c10), (13, .bool true), (14, .slice (some ⟨b25, 0, none⟩) 2 2), (15, .I i), (72, .agg (rdV (beginR (objOf xs n) (k : Int) (n : Int) 100) a6q46 k6q46 a3q37 k3q37 a4q37 k4q37).toArray), (73, .slice a33 ((asksR (beginR (objOf xs n) (k : Int) (n : Int) 100)).length) c34), (74, .I 0)] ?_
        refine qB .seq 16 (sq 9 12) ((rdZ).toArray) 107 H ?_
        intro b53 w54 H
        refine RW.store (d := none) (r := (sq 10 12)) (T := 107) (b := b53) (k := 0) (v := .agg (rdV (beginR (objOf xs n) (k : Int) (n : Int) 100) a6q46 k6q46 a3q37 k3q37 a4q37 k4q37).toArray) (c' := (rdV (beginR (objOf xs n) (k : Int) (n : Int) 100) a6q46 k6q46 a3q37 k3q37 a4q37 k4q37).toArray) (M' := [(b53, .cells (rdV (beginR (objOf xs n) (k : Int) (n : Int) 100) a6q46 k6q46 a3q37 k3q37 a4q37 k4q37).toArray 107 (0, 0)), (b21, .cells (objV (objOf xs n) a6q14 k6q14).toArray 102 (0, 0))]) (by as_aux_lemma => kernel_rfl) H 0 rfl (by as_aux_lemma => kernel_rfl) (by as_aux_lemma => kernel_rfl) ?_
        intro w55 H
        refine qF 2 [(0, .slice a xs.length c), (1, .I k), (2, .I n), (11, .P b21 0), (12, .slice a9 (chksOf xs k n).length c10), (13, .bool true), (14, .slice (some ⟨b25, 0, none⟩) 2 2), (15, .I i), (16, .P b53 0), (18, .I 0)] ?_
        refine qR 9 [.c [4, 0, 1, 0, 0, 1, 0, 0, 2, 0, 1, 0], .b 2, .c [4, 0, 1, 0, 0, 1, 0, 0, 3], .b 1, .c [4, 0, 1, 0, 0, 2], .l [4, 0, 1, 0, 0], .b 0, .c [5]] [(0, .slice a xs.length c), (1, .I k), (2, .I n), (11, .P b21 0), (12, .slice a9 (chksOf xs k n).length c10), (13, .bool true), (14, .slice (some ⟨b25, 0, none⟩) 2 2), (15, .I i), (16, .P b53 0), (19, .I 0)] ?_
        have H := H.pick [2, 1, 0, 2, 4, 5, 6, 7] (G' := [Rp (Shape.slice (Shape.int .i64)) [.slice a6q46 (beginR (objOf xs n) (k : Int) (n : Int) 100).object.nodes.length k6q46] (beginR (objOf xs n) (k : Int) (n : Int) 100).object.nodes, Rp (Shape.slice pcS) [.slice a3q37 (beginR (objOf xs n) (k : Int) (n : Int) 100).pieces.length k3q37] (beginR (objOf xs n) (k : Int) (n : Int) 100).pieces, Rp (Shape.slice (Shape.int .i64)) [.slice a4q37 (beginR (objOf xs n) (k : Int) (n : Int) 100).bad.length k4q37] (beginR (objOf xs n) (k : Int) (n : Int) 100).bad, Rp (Shape.slice (Shape.int .i64)) [.slice a6q46 (((beginR (objOf xs n) (k : Int) (n : Int) 100).object).nodes.length) k6q46] (((beginR (objOf xs n) (k : Int) (n : Int) 100).object).nodes), Rp (Shape.slice (Shape.int .i64)) [.slice (some ⟨b25, 0, none⟩) 2 2] ([(s0 : Int), (s1 : Int)] : List Int), Rp (Shape.slice (Shape.int .i64)) [.slice a6q14 ((objOf xs n).nodes.length) k6q14] ((objOf xs n).nodes), Rp (Shape.slice chkS) [.slice a9 (chksOf xs k n).length c10] (chksOf xs k n), Rp SB [.slice a xs.length c] xs]) rfl
        refine WK.loop (α := Nat × Rd × Option Addr × Nat × Option Addr × Nat × Option Addr × Nat) (b := cd Try.prog 13 [4, 0, 1, 0, 0, 1, 0, 0, 2, 0, 1, 0, 0]) (by as_aux_lemma => kernel_rfl) (fun st_ => match st_ with | (x, D, a06q, k06q, a3q, k3q, a4q, k4q) => [(0, .slice a xs.length c), (1, .I k), (2, .I n), (11, .P b21 0), (12, .slice a9 (chksOf xs k n).length c10), (13, .bool true), (14, .slice (some ⟨b25, 0, none⟩) 2 2), (15, .I i), (16, .P b53 0), (19, .I x)]) (fun st_ w' => match st_ with | (x, D, a06q, k06q, a3q, k3q, a4q, k4q) => Hp w S [] [(b53, .cells (rdV D a06q k06q a3q k3q a4q k4q).toArray 107 (0, 0)), (b21, .cells (objV (objOf xs n) a6q14 k6q14).toArray 102 (0, 0))] [] [Rp (Shape.slice (Shape.int .i64)) [.slice a06q D.object.nodes.length k06q] D.object.nodes, Rp (Shape.slice pcS) [.slice a3q D.pieces.length k3q] D.pieces, Rp (Shape.slice (Shape.int .i64)) [.slice a4q D.bad.length k4q] D.bad, Rp (Shape.slice (Shape.int .i64)) [.slice a6q46 (((beginR (objOf xs n) (k : Int) (n : Int) 100).object).nodes.length) k6q46] (((beginR (objOf xs n) (k : Int) (n : Int) 100).object).nodes), Rp (Shape.slice (Shape.int .i64)) [.slice (some ⟨b25, 0, none⟩) 2 2] ([(s0 : Int), (s1 : Int)] : List Int), Rp (Shape.slice (Shape.int .i64)) [.slice a6q14 ((objOf xs n).nodes.length) k6q14] ((objOf xs n).nodes), Rp (Shape.slice chkS) [.slice a9 (chksOf xs k n).length c10] (chksOf xs k n), Rp SB [.slice a xs.length c] xs] w' ∧ x ≤ k ∧ Ov xs k n (objOf xs n) (fAt s0 s1 n i) D x ∧ rdB D) (fun st_ => match st_ with | (x, D, a06q, k06q, a3q, k3q, a4q, k4q) => k - x) (0, beginR (objOf xs n) (k : Int) (n : Int) 100, a6q46, k6q46, a3q37, k3q37, a4q37, k4q37) ⟨H, by omega, Ov.begin _ hk hkn (by omega) (by omega), rdB_begin hk hkn (by omega) (by omega)⟩ (rfl) ?_
        rintro ⟨x, D, a06q, k06q, a3q, k3q, a4q, k4q⟩ w57 ⟨H, hinv1⟩ hback56
        have hBq := hinv1.2.2
        unfold rdB at hBq
        have hsq := hBq.1
        refine qR 3 [.c [4, 0, 1, 0, 0, 1, 0, 0, 2, 0, 1, 0, 0, 0, 1], .c [4, 0, 1, 0, 0, 1, 0, 0, 2, 0, 1, 0, 0, 1], .l [4, 0, 1, 0, 0, 1, 0, 0, 2, 0, 1, 0, 0], .b 2, .c [4, 0, 1, 0, 0, 1, 0, 0, 3], .b 1, .c [4, 0, 1, 0, 0, 2], .l [4, 0, 1, 0, 0], .b 0, .c [5]] [(0, .slice a xs.length c), (1, .I k), (2, .I n), (11, .P b21 0), (12, .slice a9 (chksOf xs k n).length c10), (13, .bool true), (14, .slice (some ⟨b25, 0, none⟩) 2 2), (15, .I i), (16, .P b53 0), (19, .I x), (83, .bool (decide (((x : Int) : Int) < (k : Int))))] ?_
        refine qD (((x : Int) : Int) < (k : Int)) (fun h58 => ?_) (fun h58 => ?_)
        ·
         refine qR 4 [.c [4, 0, 1, 0, 0, 1, 0, 0, 2, 0, 1, 0, 0, 1, 0, 0, 0], .c [4, 0, 1, 0, 0, 1, 0, 0, 2, 0, 1, 0, 0, 1, 0, 0, 1], .b 3, .c [4, 0, 1, 0, 0, 1, 0, 0, 2, 0, 1, 0, 0, 2], .l [4, 0, 1, 0, 0, 1, 0, 0, 2, 0, 1, 0, 0], .b 2, .c [4, 0, 1, 0, 0, 1, 0, 0, 3], .b 1, .c [4, 0, 1, 0, 0, 2], .l [4, 0, 1, 0, 0], .b 0, .c [5]] [(0, .slice a xs.length c), (1, .I k), (2, .I n), (11, .P b21 0), (12, .slice a9 (chksOf xs k n).length c10), (13, .bool true), (14, .slice (some ⟨b25, 0, none⟩) 2 2), (15, .I i), (16, .P b53 0), (19, .I x)] ?_
         refine qG (sq 0 9) ?_
         refine qP 2 (sq 2 9) [(0, .slice a xs.length c), (1, .I k), (2, .I n), (11, .P b21 0), (12, .slice a9 (chksOf xs k n).length c10), (13, .bool true), (14, .slice (some ⟨b25, 0, none⟩) 2 2), (15, .I i), (16, .P b53 0), (19, .I x), (86, .slice (some ⟨b25, 0, none⟩) 2 2), (87, .I i)] ?_
         have hx59 : i < ([(s0 : Int), (s1 : Int)] : List Int).length := by show i < 2; omega
         refine qX .seq 88 (sq 3 9) 25 3 (i : Int) (Shape.int .i64) ((sAt s0 s1 i : Nat) : Int) H 4 rfl i (by omega) (sAt_get (by omega)) ?_
         intro b60 o61 es62 hr63 H
         have hb64 := Shape.i64_bd hr63
         obtain ⟨rfl, -⟩ := hr63
         refine qL .seq 89 (sq 4 9) 3 b60 o61 0 (.I ((sAt s0 s1 i : Nat) : Int)) (H.fc 0 rfl) ?_
         refine qP 1 (sq 5 9) [(0, .slice a xs.length c), (1, .I k), (2, .I n), (11, .P b21 0), (12, .slice a9 (chksOf xs k n).length c10), (13, .bool true), (14, .slice (some ⟨b25, 0, none⟩) 2 2), (15, .I i), (16, .P b53 0), (19, .I x), (89, .I ((sAt s0 s1 i : Nat) : Int)), (90, .I x)] ?_
         refine qI .seq 91 (sq 6 9) (((sAt s0 s1 i : Nat) : Int) + (x : Int)) ?_
         refine qP 1 (sq 7 9) [(0, .slice a xs.length c), (1, .I k), (2, .I n), (11, .P b21 0), (12, .slice a9 (chksOf xs k n).length c10), (13, .bool true), (14, .slice (some ⟨b25, 0, none⟩) 2 2), (15, .I i), (16, .P b53 0), (19, .I x), (91, .I (((sAt s0 s1 i : Nat) : Int) + (x : Int))), (92, .I n)] ?_
         refine RW.readS (κ := .seq) (d := some 93) (r := (sq 8 9)) (s := semV (Op.intDiv .rem .i64 (((sAt s0 s1 i : Nat) : Int) + (x : Int)) (n : Int))) (v := .I (((sAt s0 s1 i + x) % n : Nat) : Int)) (by as_aux_lemma => kernel_rfl) (fun w' _ => semV_run (rem_nat (r := (sAt s0 s1 i + x) % n) (by omega) (by omega) (rfl))) ?_
         refine qF 1 [(0, .slice a xs.length c), (1, .I k), (2, .I n), (11, .P b21 0), (12, .slice a9 (chksOf xs k n).length c10), (13, .bool true), (14, .slice (some ⟨b25, 0, none⟩) 2 2), (15, .I i), (16, .P b53 0), (19, .I x), (20, .I (((sAt s0 s1 i + x) % n : Nat) : Int))] ?_
         refine qR 3 [.c [4, 0, 1, 0, 0, 1, 0, 0, 2, 0, 1, 0, 0, 1, 0, 0, 1, 0, 1], .c [4, 0, 1, 0, 0, 1, 0, 0, 2, 0, 1, 0, 0, 1, 0, 0, 2], .b 3, .c [4, 0, 1, 0, 0, 1, 0, 0, 2, 0, 1, 0, 0, 2], .l [4, 0, 1, 0, 0, 1, 0, 0, 2, 0, 1, 0, 0], .b 2, .c [4, 0, 1, 0, 0, 1, 0, 0, 3], .b 1, .c [4, 0, 1, 0, 0, 2], .l [4, 0, 1, 0, 0], .b 0, .c [5]] [(0, .slice a xs.length c), (1, .I k), (2, .I n), (11, .P b21 0), (12, .slice a9 (chksOf xs k n).length c10), (13, .bool true), (14, .slice (some ⟨b25, 0, none⟩) 2 2), (15, .I i), (16, .P b53 0), (19, .I x), (20, .I (((sAt s0 s1 i + x) % n : Nat) : Int)), (95, .bool ((i : Int) == 1))] ?_
         refine WK.joinV (α := Nat) (fun x_ w_ => match x_ with | z => Hp w S [] [(b53, .cells (rdV D a06q k06q a3q k3q a4q k4q).toArray 107 (0, 0)), (b21, .cells (objV (objOf xs n) a6q14 k6q14).toArray 102 (0, 0))] [] [Fc b60 o61 [.I ((sAt s0 s1 i : Nat) : Int)], Rp (Shape.slice (Shape.int .i64)) [.slice a06q D.object.nodes.length k06q] D.object.nodes, Rp (Shape.slice pcS) [.slice a3q D.pieces.length k3q] D.pieces, Rp (Shape.slice (Shape.int .i64)) [.slice a4q D.bad.length k4q] D.bad, Rp (Shape.slice (Shape.int .i64)) [.slice a6q46 (((beginR (objOf xs n) (k : Int) (n : Int) 100).object).nodes.length) k6q46] (((beginR (objOf xs n) (k : Int) (n : Int) 100).object).nodes), Rp (Shape.slice (Shape.int .i64)) [.slice (some ⟨b25, 0, none⟩) 2 2] ([(s0 : Int), (s1 : Int)] : List Int), Rp (Shape.slice (Shape.int .i64)) [.slice a6q14 ((objOf xs n).nodes.length) k6q14] ((objOf xs n).nodes), Rp (Shape.slice chkS) [.slice a9 (chksOf xs k n).length c10] (chksOf xs k n), Rp SB [.slice a xs.length c] xs] w_ ∧ z = fAt s0 s1 n i x) (fun x_ => match x_ with | z => [(0, .slice a xs.length c), (1, .I k), (2, .I n), (11, .P b21 0), (12, .slice a9 (chksOf xs k n).length c10), (13, .bool true), (14, .slice (some ⟨b25, 0, none⟩) 2 2), (15, .I i), (16, .P b53 0), (19, .I x), (20, .I z)]) [Cq Try.prog 13 [4, 0, 1, 0, 0, 1, 0, 0, 2, 0, 1, 0, 0, 1, 0, 0, 2], .inBlock 3, Cq Try.prog 13 [4, 0, 1, 0, 0, 1, 0, 0, 2, 0, 1, 0, 0, 2], Lq Try.prog 13 [4, 0, 1, 0, 0, 1, 0, 0, 2, 0, 1, 0, 0], .inBlock 2, Cq Try.prog 13 [4, 0, 1, 0, 0, 1, 0, 0, 3], .inBlock 1, Cq Try.prog 13 [4, 0, 1, 0, 0, 2], Lq Try.prog 13 [4, 0, 1, 0, 0], .inBlock 0, Cq Try.prog 13 [5]] (fun hJ65 => ?_) ?_
         ·
          refine qE (i : Int) 1 (fun h67 => ?_) (fun h67 => ?_)
          ·
           refine qG (sq 0 11) ?_
           refine qP 2 (sq 2 11) [(0, .slice a xs.length c), (1, .I k), (2, .I n), (11, .P b21 0), (12, .slice a9 (chksOf xs k n).length c10), (13, .bool true), (14, .slice (some ⟨b25, 0, none⟩) 2 2), (15, .I i), (16, .P b53 0), (19, .I x), (20, .I (((sAt s0 s1 i + x) % n : Nat) : Int)), (96, .slice (some ⟨b25, 0, none⟩) 2 2), (97, .I i)] ?_
           have hx68 : i < ([(s0 : Int), (s1 : Int)] : List Int).length := by show i < 2; omega
           refine qX .seq 98 (sq 3 11) 25 3 (i : Int) (Shape.int .i64) ((sAt s0 s1 i : Nat) : Int) H 5 rfl i (by omega) (sAt_get (by omega)) ?_
           intro b69 o70 es71 hr72 H
           have hb73 := Shape.i64_bd hr72
           obtain ⟨rfl, -⟩ := hr72
           refine qL .seq 99 (sq 4 11) 3 b69 o70 0 (.I ((sAt s0 s1 i : Nat) : Int)) (H.fc 0 rfl) ?_
           refine qP 1 (sq 5 11) [(0, .slice a xs.length c), (1, .I k), (2, .I n), (11, .P b21 0), (12, .slice a9 (chksOf xs k n).length c10), (13, .bool true), (14, .slice (some ⟨b25, 0, none⟩) 2 2), (15, .I i), (16, .P b53 0), (19, .I x), (20, .I (((sAt s0 s1 i + x) % n : Nat) : Int)), (99, .I ((sAt s0 s1 i : Nat) : Int)), (100, .I n)] ?_
           refine qI .seq 101 (sq 6 11) (((sAt s0 s1 i : Nat) : Int) + (n : Int)) ?_
           refine qP 1 (sq 7 11) [(0, .slice a xs.length c), (1, .I k), (2, .I n), (11, .P b21 0), (12, .slice a9 (chksOf xs k n).length c10), (13, .bool true), (14, .slice (some ⟨b25, 0, none⟩) 2 2), (15, .I i), (16, .P b53 0), (19, .I x), (20, .I (((sAt s0 s1 i + x) % n : Nat) : Int)), (101, .I (((sAt s0 s1 i : Nat) : Int) + (n : Int))), (102, .I x)] ?_
           refine qI .seq 103 (sq 8 11) ((((sAt s0 s1 i : Nat) : Int) + (n : Int)) - (x : Int)) ?_
           refine qP 1 (sq 9 11) [(0, .slice a xs.length c), (1, .I k), (2, .I n), (11, .P b21 0), (12, .slice a9 (chksOf xs k n).length c10), (13, .bool true), (14, .slice (some ⟨b25, 0, none⟩) 2 2), (15, .I i), (16, .P b53 0), (19, .I x), (20, .I (((sAt s0 s1 i + x) % n : Nat) : Int)), (103, .I ((((sAt s0 s1 i : Nat) : Int) + (n : Int)) - (x : Int))), (104, .I n)] ?_
           refine RW.readS (κ := .seq) (d := some 105) (r := (sq 10 11)) (s := semV (Op.intDiv .rem .i64 ((((sAt s0 s1 i : Nat) : Int) + (n : Int)) - (x : Int)) (n : Int))) (v := .I (((sAt s0 s1 i + n - x) % n : Nat) : Int)) (by as_aux_lemma => kernel_rfl) (fun w' _ => semV_run (rem_nat (r := (sAt s0 s1 i + n - x) % n) (by omega) (by omega) (by rw [show ((sAt s0 s1 i : Nat) : Int) + (n : Int) - (x : Int) = ((sAt s0 s1 i + n - x : Nat) : Int) by omega]; rfl))) ?_
           refine qF 1 [(0, .slice a xs.length c), (1, .I k), (2, .I n), (11, .P b21 0), (12, .slice a9 (chksOf xs k n).length c10), (13, .bool true), (14, .slice (some ⟨b25, 0, none⟩) 2 2), (15, .I i), (16, .P b53 0), (19, .I x), (20, .I (((sAt s0 s1 i + n - x) % n : Nat) : Int))] ?_
           have H := H.pick [1, 2, 3, 4, 5, 6, 7, 8, 9] (G' := [Fc b60 o61 [.I ((sAt s0 s1 i : Nat) : Int)], Rp (Shape.slice (Shape.int .i64)) [.slice a06q D.object.nodes.length k06q] D.object.nodes, Rp (Shape.slice pcS) [.slice a3q D.pieces.length k3q] D.pieces, Rp (Shape.slice (Shape.int .i64)) [.slice a4q D.bad.length k4q] D.bad, Rp (Shape.slice (Shape.int .i64)) [.slice a6q46 (((beginR (objOf xs n) (k : Int) (n : Int) 100).object).nodes.length) k6q46] (((beginR (objOf xs n) (k : Int) (n : Int) 100).object).nodes), Rp (Shape.slice (Shape.int .i64)) [.slice (some ⟨b25, 0, none⟩) 2 2] ([(s0 : Int), (s1 : Int)] : List Int), Rp (Shape.slice (Shape.int .i64)) [.slice a6q14 ((objOf xs n).nodes.length) k6q14] ((objOf xs n).nodes), Rp (Shape.slice chkS) [.slice a9 (chksOf xs k n).length c10] (chksOf xs k n), Rp SB [.slice a xs.length c] xs]) rfl
           exact hJ65 ((sAt s0 s1 i + n - x) % n) _ ⟨H, by unfold fAt; first | rw [if_pos (by omega)] | rw [if_neg (by omega)]⟩
          ·
           refine qR 1 [.c [4, 0, 1, 0, 0, 1, 0, 0, 2, 0, 1, 0, 0, 1, 0, 0, 2], .b 3, .c [4, 0, 1, 0, 0, 1, 0, 0, 2, 0, 1, 0, 0, 2], .l [4, 0, 1, 0, 0, 1, 0, 0, 2, 0, 1, 0, 0], .b 2, .c [4, 0, 1, 0, 0, 1, 0, 0, 3], .b 1, .c [4, 0, 1, 0, 0, 2], .l [4, 0, 1, 0, 0], .b 0, .c [5]] [(0, .slice a xs.length c), (1, .I k), (2, .I n), (11, .P b21 0), (12, .slice a9 (chksOf xs k n).length c10), (13, .bool true), (14, .slice (some ⟨b25, 0, none⟩) 2 2), (15, .I i), (16, .P b53 0), (19, .I x), (20, .I (((sAt s0 s1 i + x) % n : Nat) : Int))] ?_
           exact hJ65 ((sAt s0 s1 i + x) % n) _ ⟨H, by unfold fAt; first | rw [if_pos (by omega)] | rw [if_neg (by omega)]⟩
         ·
          rintro z w66 ⟨H, hz⟩
          have hzn : z < n := hz ▸ fAt_lt (by omega)
          have hrl := row_len (xs := xs) hkn hzn
          have hLs := lenOf_le (size := xs.length) (k := k) (by omega)
          refine WK.drawH1 [b53] (.leaf [(1, .qui), (2, .qui), (3, .qui), (4, .qui), (5, .qui), (6, .qui), (7, .qui), (8, .qui), (9, .qui), (10, .qui), (11, .qui), (12, .qui), (13, .qui), (0, .seq), (14, .seq), (15, .qui), (16, .qui), (17, .qui), (18, .seq)]) Try_mixed (by as_aux_lemma => kernel_rfl) (by as_aux_lemma => kernel_rfl) ?_
          intro w74 hw75
          have H := H.draw
          rw [← hw75] at H
          clear hw75
          have hS := Chg.refl w74 [b53]
          refine RG.leaf' [(1, .qui), (2, .qui), (3, .qui), (4, .qui), (5, .qui), (6, .qui), (7, .qui), (8, .qui), (9, .qui), (10, .qui), (11, .qui), (12, .qui), (13, .qui), (0, .seq), (14, .seq), (15, .qui), (16, .qui), (17, .qui), (18, .seq)] (by as_aux_lemma => kernel_rfl) ?_
          refine qHP hS 1 [(2, .qui), (3, .qui), (4, .qui), (5, .qui), (6, .qui), (7, .qui), (8, .qui), (9, .qui), (10, .qui), (11, .qui), (12, .qui), (13, .qui), (0, .seq), (14, .seq), (15, .qui), (16, .qui), (17, .qui), (18, .seq)] [(0, .slice a xs.length c), (1, .I k), (2, .I n), (11, .P b21 0), (12, .slice a9 (chksOf xs k n).length c10), (13, .bool true), (14, .slice (some ⟨b25, 0, none⟩) 2 2), (15, .I i), (16, .P b53 0), (19, .I x), (20, .I z), (108, .I z)] ?_
          refine RH.pv (d := some 109) (r := [(3, .qui), (4, .qui), (5, .qui), (6, .qui), (7, .qui), (8, .qui), (9, .qui), (10, .qui), (11, .qui), (12, .qui), (13, .qui), (0, .seq), (14, .seq), (15, .qui), (16, .qui), (17, .qui), (18, .seq)]) (v := .I (IntKind.i64.wrap ((z : Int) + 1))) (v' := .I ((z : Int) + 1)) (by as_aux_lemma => kernel_rfl) hS (wr_i64 (by omega)) ?_
          refine qHP hS 2 [(5, .qui), (6, .qui), (7, .qui), (8, .qui), (9, .qui), (10, .qui), (11, .qui), (12, .qui), (13, .qui), (0, .seq), (14, .seq), (15, .qui), (16, .qui), (17, .qui), (18, .seq)] [(0, .slice a xs.length c), (1, .I k), (2, .I n), (11, .P b21 0), (12, .slice a9 (chksOf xs k n).length c10), (13, .bool true), (14, .slice (some ⟨b25, 0, none⟩) 2 2), (15, .I i), (16, .P b53 0), (19, .I x), (20, .I z), (109, .I ((z : Int) + 1)), (110, .slice a9 (chksOf xs k n).length c10), (111, .I z)] ?_
          have hx76 : z < (chksOf xs k n).length := by rw [chksOf_len]; omega
          refine RH.index (d := some 112) (r := [(6, .qui), (7, .qui), (8, .qui), (9, .qui), (10, .qui), (11, .qui), (12, .qui), (13, .qui), (0, .seq), (14, .seq), (15, .qui), (16, .qui), (17, .qui), (18, .seq)]) (T := 103) (e := 92) (ik := .i64) (ix := (z : Int)) (sh := chkS) (x := (chkAt xs k n z)) (by as_aux_lemma => kernel_rfl) hS (by as_aux_lemma => kernel_rfl) H 7 rfl z (by omega) (chksOf_get (by omega)) ?_
          intro b77 o78 es79 hr80 H
          obtain ⟨cs0q81, a1q81, k1q81, rfl, hf82, hf83⟩ := chk_open hr80
          obtain ⟨cs0q84, rfl, hf85, hf86, hf87, hf88⟩ := hdr_open hf82
          obtain ⟨rfl, hf90, hf91, hf92⟩ := cid_open hf85
          have H := H.add (F := Rp SB [.slice a1q81 ((chkAt xs k n z).data.length) k1q81] ((chkAt xs k n z).data)) hf83
          refine qHP hS 1 [(7, .qui), (8, .qui), (9, .qui), (10, .qui), (11, .qui), (12, .qui), (13, .qui), (0, .seq), (14, .seq), (15, .qui), (16, .qui), (17, .qui), (18, .seq)] [(0, .slice a xs.length c), (1, .I k), (2, .I n), (11, .P b21 0), (12, .slice a9 (chksOf xs k n).length c10), (13, .bool true), (14, .slice (some ⟨b25, 0, none⟩) 2 2), (15, .I i), (16, .P b53 0), (19, .I x), (20, .I z), (109, .I ((z : Int) + 1)), (113, .P b77 o78)] ?_
          refine RH.load (d := some 114) (r := [(8, .qui), (9, .qui), (10, .qui), (11, .qui), (12, .qui), (13, .qui), (0, .seq), (14, .seq), (15, .qui), (16, .qui), (17, .qui), (18, .seq)]) (T := 53) (b := b77) (o' := o78) (k := 0) (v := .agg (hdrV ((chkAt xs k n z).head)).toArray) (by as_aux_lemma => kernel_rfl) hS (H.fc 1 rfl) (by intro hq; simp only [List.mem_cons, List.not_mem_nil, or_false] at hq; exact H.fcne 1 rfl 0 rfl hq) (by simp) rfl (by as_aux_lemma => kernel_rfl) ?_
          refine qHP hS 2 [(10, .qui), (11, .qui), (12, .qui), (13, .qui), (0, .seq), (14, .seq), (15, .qui), (16, .qui), (17, .qui), (18, .seq)] [(0, .slice a xs.length c), (1, .I k), (2, .I n), (11, .P b21 0), (12, .slice a9 (chksOf xs k n).length c10), (13, .bool true), (14, .slice (some ⟨b25, 0, none⟩) 2 2), (15, .I i), (16, .P b53 0), (19, .I x), (109, .I ((z : Int) + 1)), (114, .agg (hdrV ((chkAt xs k n z).head)).toArray), (115, .slice a9 (chksOf xs k n).length c10), (116, .I z)] ?_
          have hx93 : z < (chksOf xs k n).length := by rw [chksOf_len]; omega
          refine RH.index (d := some 117) (r := [(11, .qui), (12, .qui), (13, .qui), (0, .seq), (14, .seq), (15, .qui), (16, .qui), (17, .qui), (18, .seq)]) (T := 103) (e := 92) (ik := .i64) (ix := (z : Int)) (sh := chkS) (x := (chkAt xs k n z)) (by as_aux_lemma => kernel_rfl) hS (by as_aux_lemma => kernel_rfl) H 9 rfl z (by omega) (chksOf_get (by omega)) ?_
          intro b94 o95 es96 hr97 H
          obtain ⟨cs0q98, a1q98, k1q98, rfl, hf99, hf100⟩ := chk_open hr97
          obtain ⟨cs0q101, rfl, hf102, hf103, hf104, hf105⟩ := hdr_open hf99
          obtain ⟨rfl, hf107, hf108, hf109⟩ := cid_open hf102
          have H := H.add (F := Rp SB [.slice a1q98 ((chkAt xs k n z).data.length) k1q98] ((chkAt xs k n z).data)) hf100
          refine qHP hS 1 [(12, .qui), (13, .qui), (0, .seq), (14, .seq), (15, .qui), (16, .qui), (17, .qui), (18, .seq)] [(0, .slice a xs.length c), (1, .I k), (2, .I n), (11, .P b21 0), (12, .slice a9 (chksOf xs k n).length c10), (13, .bool true), (14, .slice (some ⟨b25, 0, none⟩) 2 2), (15, .I i), (16, .P b53 0), (19, .I x), (109, .I ((z : Int) + 1)), (114, .agg (hdrV ((chkAt xs k n z).head)).toArray), (118, .pointer (some ⟨b94, o95 + 7, none⟩))] ?_
          refine RH.load (d := some 119) (r := [(13, .qui), (0, .seq), (14, .seq), (15, .qui), (16, .qui), (17, .qui), (18, .seq)]) (T := 23) (b := b94) (o' := o95 + 7) (k := 7) (v := .slice a1q98 ((chkAt xs k n z).data.length) k1q98) (by as_aux_lemma => kernel_rfl) hS (H.fc 1 rfl) (by intro hq; simp only [List.mem_cons, List.not_mem_nil, or_false] at hq; exact H.fcne 1 rfl 0 rfl hq) (by simp) rfl (by as_aux_lemma => kernel_rfl) ?_
          refine qHP hS 1 [(0, .seq), (14, .seq), (15, .qui), (16, .qui), (17, .qui), (18, .seq)] [(0, .slice a xs.length c), (1, .I k), (2, .I n), (11, .P b21 0), (12, .slice a9 (chksOf xs k n).length c10), (13, .bool true), (14, .slice (some ⟨b25, 0, none⟩) 2 2), (15, .I i), (16, .P b53 0), (19, .I x), (120, .agg #[.I 15, .I ((z : Int) + 1), .I 0, .int .u64 0, .int .u64 0, .int .u64 0, .int .u64 0, .int .u64 0, .bool true, .bool false, .slice none 0 0, .slice none 0 0, .slice none 0 0, .int .u64 ((((chkAt xs k n z).head).id).version), .I ((((chkAt xs k n z).head).id).index), .int .u64 ((((chkAt xs k n z).head).id).epoch), .I (((chkAt xs k n z).head).kk), .I (((chkAt xs k n z).head).nn), .I (((chkAt xs k n z).head).size), .int .u32 (((((chkAt xs k n z).head).sum).toNat : Nat) : Int), .slice a1q98 ((chkAt xs k n z).data.length) k1q98, .int .u64 0, .int .u64 0, .I 0, .string (⟨#[]⟩), .I 0, .slice none 0 0])] ?_
          have Hr := H
          refine RH.chn hS ?_
          refine qL .chn 107 [] 107 b53 0 0 (.agg (rdV D a06q k06q a3q k3q a4q k4q).toArray) (H.cells 0 rfl) ?_
          intro hS
          have Hr := H
          refine RH.chn hS ?_
          have hgo114 : ∀ i : Nat, hitR D ((z : Int) + 1) (⟨(((chkAt xs k n z).head).id), ((chkAt xs k n z).head).kk, ((chkAt xs k n z).head).nn, ((chkAt xs k n z).head).size, ((chkAt xs k n z).head).sum⟩) i = true → goodR D i (⟨(((chkAt xs k n z).head).id), ((chkAt xs k n z).head).kk, ((chkAt xs k n z).head).nn, ((chkAt xs k n z).head).size, ((chkAt xs k n z).head).sum⟩) ((chkAt xs k n z).data) true → (chkAt xs k n z).data = rowAt (enc xs k n) i := good_own z rfl rfl
          refine qK .chn (some 121) [] 48 #[.agg (rdV D a06q k06q a3q k3q a4q k4q).toArray, .agg #[.I 15, .I ((z : Int) + 1), .I 0, .int .u64 0, .int .u64 0, .int .u64 0, .int .u64 0, .int .u64 0, .bool true, .bool false, .slice none 0 0, .slice none 0 0, .slice none 0 0, .int .u64 ((((chkAt xs k n z).head).id).version), .I ((((chkAt xs k n z).head).id).index), .int .u64 ((((chkAt xs k n z).head).id).epoch), .I (((chkAt xs k n z).head).kk), .I (((chkAt xs k n z).head).nn), .I (((chkAt xs k n z).head).size), .int .u32 (((((chkAt xs k n z).head).sum).toNat : Nat) : Int), .slice a1q98 ((chkAt xs k n z).data.length) k1q98, .int .u64 0, .int .u64 0, .I 0, .string (⟨#[]⟩), .I 0, .slice none 0 0]] (fgot_spec (r := D) (rd_mkB (by unfold rdB; omega) (H.rp 5 rfl) (H.rp 6 rfl) (H.rp 7 rfl)) (hinv1.2.1.of) ((z : Int) + 1) (⟨(((chkAt xs k n z).head).id), ((chkAt xs k n z).head).kk, ((chkAt xs k n z).head).nn, ((chkAt xs k n z).head).size, ((chkAt xs k n z).head).sum⟩) true (dt := (chkAt xs k n z).data) (H.rp 0 rfl) (.I 0) (.int .u64 0) (.int .u64 0) (.int .u64 0) (.int .u64 0) (.int .u64 0) (.bool false) (.slice none 0 0) (.slice none 0 0) (.slice none 0 0) (.int .u64 0) (.int .u64 0) (.I 0) (.string (⟨#[]⟩)) (.I 0) (.slice none 0 0) (by rw [hinv1.2.1.bad]; decide) (by show (rowAt (enc xs k n) z).length ≤ _; omega) hgo114) ?_
          rintro _ w112 hE113 ⟨cs115, D116, rfl, hr117, hlaw118⟩
          have H0s := H
          obtain ⟨cs0q119, a3q119, k3q119, a4q119, k4q119, rfl, hf120, hf121, hf122, hf123, hf124, hf125, hf126, hf127⟩ := rd_open hr117
          obtain ⟨a6q128, k6q128, rfl, hf129, hf130, hf131, hf132, hf133, hf134⟩ := obj_open hf120
          have H := H.addN hE113 (F := Rp (Shape.slice (Shape.int .i64)) [.slice a6q128 D116.object.nodes.length k6q128] D116.object.nodes) hf134
          have H := H.add (F := Rp (Shape.slice pcS) [.slice a3q119 D116.pieces.length k3q119] D116.pieces) ((H0s.addN hE113 (F := Rp (Shape.slice pcS) [.slice a3q119 D116.pieces.length k3q119] D116.pieces) hf123).rp 0 rfl)
          have H := H.add (F := Rp (Shape.slice (Shape.int .i64)) [.slice a4q119 D116.bad.length k4q119] D116.bad) ((H0s.addN hE113 (F := Rp (Shape.slice (Shape.int .i64)) [.slice a4q119 D116.bad.length k4q119] D116.bad) hf124).rp 0 rfl)
          have hRD116 : RdOf xs k n D116 := hlaw118 ▸ RdOf.got (hinv1.2.1.of) hgo114
          have hBD116 : D116.bad.length ≤ D.bad.length + 1 := hlaw118 ▸ got_bad_le
          intro hS
          refine qHP hS 3 [(18, .seq)] [(0, .slice a xs.length c), (1, .I k), (2, .I n), (11, .P b21 0), (12, .slice a9 (chksOf xs k n).length c10), (13, .bool true), (14, .slice (some ⟨b25, 0, none⟩) 2 2), (15, .I i), (16, .P b53 0), (19, .I x), (122, .agg (rdV D116 a6q128 k6q128 a3q119 k3q119 a4q119 k4q119).toArray)] ?_
          refine RH.sto ?_
          refine RW.storeC (d := none) (r := []) (T := 107) (b := b53) (k := 0) (v := .agg (rdV D116 a6q128 k6q128 a3q119 k3q119 a4q119 k4q119).toArray) (c' := (rdV D116 a6q128 k6q128 a3q119 k3q119 a4q119 k4q119).toArray) (M' := [(b53, .cells (rdV D116 a6q128 k6q128 a3q119 k3q119 a4q119 k4q119).toArray 107 (0, 0)), (b21, .cells (objV (objOf xs n) a6q14 k6q14).toArray 102 (0, 0))]) (by as_aux_lemma => kernel_rfl) H 0 rfl (by as_aux_lemma => kernel_rfl) (by as_aux_lemma => kernel_rfl) ?_
          intro w136 hch135 H
          have hS137 := hS.sto hch135 (.inr (by simp))
          refine ⟨hS137, ?_⟩
          have hS := hS137
          refine RH.fin hS 0 [0, 1, 2, 11, 12, 13, 14, 15, 16, 19] [(0, .slice a xs.length c), (1, .I k), (2, .I n), (11, .P b21 0), (12, .slice a9 (chksOf xs k n).length c10), (13, .bool true), (14, .slice (some ⟨b25, 0, none⟩) 2 2), (15, .I i), (16, .P b53 0), (19, .I x)] (by as_aux_lemma => kernel_rfl) ?_
          refine qR 1 [.c [4, 0, 1, 0, 0, 1, 0, 0, 2, 0, 1, 0, 0, 2], .l [4, 0, 1, 0, 0, 1, 0, 0, 2, 0, 1, 0, 0], .b 2, .c [4, 0, 1, 0, 0, 1, 0, 0, 3], .b 1, .c [4, 0, 1, 0, 0, 2], .l [4, 0, 1, 0, 0], .b 0, .c [5]] [(0, .slice a xs.length c), (1, .I k), (2, .I n), (11, .P b21 0), (12, .slice a9 (chksOf xs k n).length c10), (13, .bool true), (14, .slice (some ⟨b25, 0, none⟩) 2 2), (15, .I i), (16, .P b53 0), (19, .I x)] ?_
          refine qG (sq 0 3) ?_
          refine qP 1 (sq 1 3) [(0, .slice a xs.length c), (1, .I k), (2, .I n), (11, .P b21 0), (12, .slice a9 (chksOf xs k n).length c10), (13, .bool true), (14, .slice (some ⟨b25, 0, none⟩) 2 2), (15, .I i), (16, .P b53 0), (19, .I x), (84, .I x)] ?_
          refine qI .seq 85 (sq 2 3) ((x : Int) + 1) ?_
          refine qF 1 [(0, .slice a xs.length c), (1, .I k), (2, .I n), (11, .P b21 0), (12, .slice a9 (chksOf xs k n).length c10), (13, .bool true), (14, .slice (some ⟨b25, 0, none⟩) 2 2), (15, .I i), (16, .P b53 0), (19, .I ((x : Int) + 1))] ?_
          have H := H.pick [2, 1, 0, 11, 12, 13, 14, 15] (G' := [Rp (Shape.slice (Shape.int .i64)) [.slice a6q128 D116.object.nodes.length k6q128] D116.object.nodes, Rp (Shape.slice pcS) [.slice a3q119 D116.pieces.length k3q119] D116.pieces, Rp (Shape.slice (Shape.int .i64)) [.slice a4q119 D116.bad.length k4q119] D116.bad, Rp (Shape.slice (Shape.int .i64)) [.slice a6q46 (((beginR (objOf xs n) (k : Int) (n : Int) 100).object).nodes.length) k6q46] (((beginR (objOf xs n) (k : Int) (n : Int) 100).object).nodes), Rp (Shape.slice (Shape.int .i64)) [.slice (some ⟨b25, 0, none⟩) 2 2] ([(s0 : Int), (s1 : Int)] : List Int), Rp (Shape.slice (Shape.int .i64)) [.slice a6q14 ((objOf xs n).nodes.length) k6q14] ((objOf xs n).nodes), Rp (Shape.slice chkS) [.slice a9 (chksOf xs k n).length c10] (chksOf xs k n), Rp SB [.slice a xs.length c] xs]) rfl
          exact WK.back (hback56 (x + 1, D116, a6q128, k6q128, a3q119, k3q119, a4q119, k4q119) _ ⟨H, by omega, ov_next hinv1.2.1 (by omega) (by omega) (by omega) hz rfl rfl hlaw118, hlaw118 ▸ rdB_got hinv1.2.2⟩ (by simp only []; omega)) (by as_aux_lemma => kernel_rfl)
        ·
         have hxk : x = k := by omega
         have hov : Ov xs k n (objOf xs n) (fAt s0 s1 n i) D k := hxk ▸ hinv1.2.1
         have hdn : D.done = 1 := hov.dn.trans (if_pos (Nat.le_refl _))
         refine qR 2 [.c [4, 0, 1, 0, 0, 1, 0, 0, 3, 0], .c [4, 0, 1, 0, 0, 1, 0, 0, 4], .b 1, .c [4, 0, 1, 0, 0, 2], .l [4, 0, 1, 0, 0], .b 0, .c [5]] [(0, .slice a xs.length c), (1, .I k), (2, .I n), (11, .P b21 0), (12, .slice a9 (chksOf xs k n).length c10), (13, .bool true), (14, .slice (some ⟨b25, 0, none⟩) 2 2), (15, .I i), (16, .P b53 0)] ?_
         refine qG (sq 0 7) ?_
         refine qL .seq 125 (sq 1 7) 107 b53 0 0 (.agg (rdV D a06q k06q a3q k3q a4q k4q).toArray) (H.cells 0 rfl) ?_
         refine qK .seq (some 126) (sq 2 7) 49 #[.agg (rdV D a06q k06q a3q k3q a4q k4q).toArray] (bytes_ok (r := D) (rd_mkB (by unfold rdB; omega) (H.rp 0 rfl) (H.rp 1 rfl) (H.rp 2 rfl)) (hov.of) (by rw [hov.len]; omega)) ?_
         rintro _ w138 hE141 ⟨a139, c140, rfl, hr142⟩
         have H := H.addN hE141 (F := Rp SB [.slice a139 xs.length c140] xs) hr142
         refine qF 5 [(0, .slice a xs.length c), (1, .I k), (2, .I n), (11, .P b21 0), (12, .slice a9 (chksOf xs k n).length c10), (13, .bool true), (14, .slice (some ⟨b25, 0, none⟩) 2 2), (15, .I i), (16, .P b53 0), (21, .slice a139 xs.length c140), (22, .I 0)] ?_
         refine qR 1 [.c [4, 0, 1, 0, 0, 1, 0, 0, 4, 0], .c [4, 0, 1, 0, 0, 1, 0, 0, 5], .b 1, .c [4, 0, 1, 0, 0, 2], .l [4, 0, 1, 0, 0], .b 0, .c [5]] [(0, .slice a xs.length c), (1, .I k), (2, .I n), (11, .P b21 0), (12, .slice a9 (chksOf xs k n).length c10), (13, .bool true), (14, .slice (some ⟨b25, 0, none⟩) 2 2), (15, .I i), (16, .P b53 0), (21, .slice a139 xs.length c140), (22, .I 0)] ?_
         refine qG (sq 0 13) ?_
         refine qP 1 (sq 1 13) [(0, .slice a xs.length c), (1, .I k), (2, .I n), (11, .P b21 0), (12, .slice a9 (chksOf xs k n).length c10), (13, .bool true), (14, .slice (some ⟨b25, 0, none⟩) 2 2), (15, .I i), (21, .slice a139 xs.length c140), (22, .I 0), (129, .P b53 13)] ?_
         refine qL .seq 130 (sq 2 13) 30 b53 13 13 (.I D.done) (H.cells 0 rfl) ?_
         refine qP 2 (sq 4 13) [(0, .slice a xs.length c), (1, .I k), (2, .I n), (11, .P b21 0), (12, .slice a9 (chksOf xs k n).length c10), (13, .bool true), (14, .slice (some ⟨b25, 0, none⟩) 2 2), (15, .I i), (21, .slice a139 xs.length c140), (22, .I 0), (132, .bool (D.done != 1))] ?_
         refine tN (fun b_ => [(0, .slice a xs.length c), (1, .I k), (2, .I n), (11, .P b21 0), (12, .slice a9 (chksOf xs k n).length c10), (13, .bool true), (14, .slice (some ⟨b25, 0, none⟩) 2 2), (15, .I i), (21, .slice a139 xs.length c140), (22, .I 0), (132, .bool b_)]) D.done 1 (fun h143 => ?_) (fun h143 => ?_)
         ·
          exact absurd hdn h143
         ·
          refine qP 6 (sq 10 13) [(0, .slice a xs.length c), (1, .I k), (2, .I n), (11, .P b21 0), (12, .slice a9 (chksOf xs k n).length c10), (13, .bool true), (14, .slice (some ⟨b25, 0, none⟩) 2 2), (15, .I i), (136, .bool false), (137, .slice a139 xs.length c140), (138, .slice a xs.length c)] ?_
          refine qK .seq (some 139) (sq 11 13) 30 #[.slice a139 xs.length c140, .slice a xs.length c] (same01_spec (S := Av S w [] (idsOf [(b53, .cells (rdV D a06q k06q a3q k3q a4q k4q).toArray 107 (0, 0)), (b21, .cells (objV (objOf xs n) a6q14 k6q14).toArray 102 (0, 0))] [])) (xs := xs) (ys := xs) (H.rp 0 rfl) (H.rp 8 rfl) (rfl)) ?_
          rintro _ w144 hE145 rfl
          have H := H.ext hE145
          refine qF 2 [(0, .slice a xs.length c), (1, .I k), (2, .I n), (11, .P b21 0), (12, .slice a9 (chksOf xs k n).length c10), (13, .bool true), (14, .slice (some ⟨b25, 0, none⟩) 2 2), (15, .I i), (141, .bool false)] ?_
          refine qR 3 [.c [4, 0, 1, 0, 0, 2], .l [4, 0, 1, 0, 0], .b 0, .c [5]] [(0, .slice a xs.length c), (1, .I k), (2, .I n), (11, .P b21 0), (12, .slice a9 (chksOf xs k n).length c10), (13, .bool true), (14, .slice (some ⟨b25, 0, none⟩) 2 2), (15, .I i)] ?_
          refine qG (sq 0 3) ?_
          refine qP 1 (sq 1 3) [(0, .slice a xs.length c), (1, .I k), (2, .I n), (11, .P b21 0), (12, .slice a9 (chksOf xs k n).length c10), (13, .bool true), (14, .slice (some ⟨b25, 0, none⟩) 2 2), (15, .I i), (65, .I i)] ?_
          refine qI .seq 66 (sq 2 3) ((i : Int) + 1) ?_
          refine qF 1 [(0, .slice a xs.length c), (1, .I k), (2, .I n), (11, .P b21 0), (12, .slice a9 (chksOf xs k n).length c10), (13, .bool true), (14, .slice (some ⟨b25, 0, none⟩) 2 2), (15, .I ((i : Int) + 1))] ?_
          have H := H.pick [5, 6, 7, 8] (G' := [Rp (Shape.slice (Shape.int .i64)) [.slice (some ⟨b25, 0, none⟩) 2 2] ([(s0 : Int), (s1 : Int)] : List Int), Rp (Shape.slice (Shape.int .i64)) [.slice a6q14 ((objOf xs n).nodes.length) k6q14] ((objOf xs n).nodes), Rp (Shape.slice chkS) [.slice a9 (chksOf xs k n).length c10] (chksOf xs k n), Rp SB [.slice a xs.length c] xs]) rfl
          have H := H.frontM 1 (M' := [(b21, .cells (objV (objOf xs n) a6q14 k6q14).toArray 102 (0, 0)), (b53, .cells (rdV D a06q k06q a3q k3q a4q k4q).toArray 107 (0, 0))]) rfl
          have H := H.drop (M' := [(b21, .cells (objV (objOf xs n) a6q14 k6q14).toArray 102 (0, 0))]) (W' := []) (by repeat (first | exact List.Sublist.refl _ | apply List.Sublist.cons_cons | apply List.Sublist.cons)) (by repeat (first | exact List.Sublist.refl _ | apply List.Sublist.cons_cons | apply List.Sublist.cons))
          exact WK.back (hback27 (i + 1) _ ⟨H, by omega⟩ (by first | omega | (simp only []; omega))) (by as_aux_lemma => kernel_rfl)
       ·
        refine qR 2 [.c [5, 0], .c [6]] [] ?_
        refine qG (sq 0 2) ?_
        refine qK .seq (some 142) (sq 1 2) 45 #[] (heads21_spec (S := fun _ => True)) ?_
        rintro _ w146 hE147 rfl
        have H := H.ext hE147
        refine qF 1 [(10, .bool true)] ?_
        refine qT (.bool true) Try.func13 ?_
        exact ⟨_, rfl, H.done, rfl⟩


end Go.Proofs.Ytppcdmbkgficiaa
