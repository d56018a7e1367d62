import Derived.Test.YtppcdmbkgficiaaGreatSG5
import Derived.Test.YtppcdmbkgficiaaGreatSBxHeld
namespace Go.Proofs.YtppcdmbkgficiaaGreat
open Go.BX
def num (n : Nat) : List (BitVec 8) := if n < 128 then [BitVec.ofNat 8 n] else (BitVec.ofInt 8 ((n : Int) % 128) ||| 128#8) :: num (n / 128)
termination_by n
decreasing_by omega
theorem num_lo {n : Nat} (h : n < 128) : num n = [BitVec.ofNat 8 n] := by
 rw [num, if_pos h]
theorem num_hi {n : Nat} (h : ¬ n < 128) : num n = (BitVec.ofInt 8 ((n : Int) % 128) ||| 128#8) :: num (n / 128) := by
 rw [num, if_neg h]
theorem num_pos (n : Nat) : 0 < (num n).length := by
 by_cases h : n < 128
 · rw [num_lo h]; simp
 · rw [num_hi h]; simp
theorem num_len : ∀ (k : Nat) {n : Nat}, n < 128 ^ (k + 1) → (num n).length ≤ k + 1
 | 0, n, h => by
  rw [num_lo (by omega)]; simp
 | k + 1, n, h => by
  by_cases h1 : n < 128
  · rw [num_lo h1]; simp
  · rw [num_hi h1, List.length_cons]
    have := num_len k (n := n / 128) (by rw [Nat.pow_succ] at h; omega)
    omega
theorem num_ten {n : Nat} (h : n ≤ 18446744073709551615) : (num n).length ≤ 10 := num_len 9 (by
 have : (128 : Nat) ^ 10 = 1180591620717411303424 := by decide
 omega)
def intE (x : Int) : List (BitVec 8) := if x ≥ 0 then num (2 * x).toNat else num (2 * (-1 - x) + 1).toNat
theorem intE_ten {x : Int} (h : -9223372036854775808 ≤ x ∧ x ≤ 9223372036854775807) : (intE x).length ≤ 10 := by
 unfold intE
 split <;> exact num_ten (by omega)
def intsE : List Int → List (BitVec 8)
 | [] => []
 | x :: r => intE x ++ intsE r
theorem intsE_app : ∀ (xs ys : List Int), intsE (xs ++ ys) = intsE xs ++ intsE ys
 | [], _ => rfl
 | x :: r, ys => by
  show intE x ++ intsE (r ++ ys) = intE x ++ intsE r ++ intsE ys
  rw [intsE_app r ys, List.append_assoc]
theorem intsE_take {xs : List Int} {k : Nat} (h : k < xs.length) : intsE (xs.take (k + 1)) = intsE (xs.take k) ++ intE xs[k] := by
 rw [List.take_succ_eq_append_getElem h, intsE_app]
 simp [intsE]
theorem intsE_len : ∀ {xs : List Int}, (∀ x ∈ xs, -9223372036854775808 ≤ x ∧ x ≤ 9223372036854775807) → (intsE xs).length ≤ 10 * xs.length
 | [], _ => Nat.zero_le _
 | x :: r, h => by
  have h1 := intE_ten (h x (by simp))
  have h2 := intsE_len (xs := r) fun y hy => h y (by simp [hy])
  show (intE x ++ intsE r).length ≤ _
  rw [List.length_append, List.length_cons]
  omega
theorem rep_ints {S : Nat → Prop} {w : World} {cs : List Value} {xs : List Int} (h : Li.rep S w cs xs) : ∀ x ∈ xs, -9223372036854775808 ≤ x ∧ x ≤ 9223372036854775807 := by
 intro x hx
 obtain ⟨a, c, _, _, _, hE⟩ := h
 obtain ⟨i, hi⟩ := List.mem_iff_getElem?.1 hx
 obtain ⟨b, o, es, _, _, _, hr⟩ := hE i x hi
 exact Shape.i64_bd hr
theorem copied_spec {S : Nat → Prop} {w : World} {xs : List (BitVec 8)} {a : Option Addr} {c : Nat} (h : SB.rep S w [.slice a xs.length c] xs) (hby : xs.length ≤ 1099511627776) :
 Calls Tryz.prog 119 #[.slice a xs.length c] w (Ret fun v w' => Ext w w' ∧ Hp w S [] [] [⟨Sb, 5, v, xs⟩] [] w') := by
 refine qS (fn := Tryz.f119) (n := 6) (σ := [(0, .slice a xs.length c)]) Tryz.func119 ?_
 have H := Hp.startF (w := w) (S := S) (G := [Rp SB [.slice a xs.length c] xs]) (.rp h .nil)
 refine qR 3 [.c [1, 0], .c [2]] [(0, .slice a xs.length c)] ?_
 refine qG (sq 0 4) ?_
 refine RW.new (κ := .seq) (d := some 3) (r := (sq 1 4)) (o := .cells #[] 5 (0, 0)) (v := fun b => .slice (some ⟨b, 0, none⟩) 0 0) (fun b => by as_aux_lemma => kernel_rfl) (nofun) H ?_
 intro b1 w2 H
 refine qP 1 (sq 2 4) [(3, .slice (some ⟨b1, 0, none⟩) 0 0), (4, .slice a xs.length c)] ?_
 have H := H.toOwn (sh := Sb) (xs := []) (cap := 0) (by rfl) (Nat.le_refl _) (Nat.zero_le _) (by simp) EsP.nil
 have H : Hp w S [] [] [⟨Sb, 5, .slice (some ⟨b1, 0, none⟩) 0 0, []⟩] [Rp SB [.slice a xs.length c] xs] _ := H
 refine RW.appendW (d := some 5) (r := (sq 3 4)) (T := 62) (ty := 62) (e := 5) (m := 1) (by_ := 1) (v := .slice (some ⟨b1, 0, none⟩) 0 0) (a2 := a) (l2 := xs.length) (c2 := c) (zs := xs) (by as_aux_lemma => kernel_rfl) (by as_aux_lemma => kernel_rfl) rfl H 0 rfl 0 rfl (rfl) (by omega) ?_
 intro a3 c4 w6 H hc5
 have H : Hp w S [] [] [⟨Sb, 5, .slice a3 xs.length c4, xs⟩] [Rp SB [.slice a xs.length c] xs] _ := H
 refine qF 1 [(2, .slice a3 xs.length c4)] ?_
 refine qT (.slice a3 xs.length c4) Tryz.func119 ?_
 exact ⟨_, rfl, H.done, H.pick [] rfl⟩
theorem putnumN_spec {S : Nat → Prop} {w : World} {xs : List (BitVec 8)} {a : Option Addr} {c : Nat} (h : SB.rep S w [.slice a xs.length c] xs) (n : Nat) (hn : n ≤ 18446744073709551615) (hby : xs.length ≤ 1099511627776) :
 Calls Tryz.prog 98 #[.slice a xs.length c, .int .u64 (n : Int)] w (Ret fun v w' => Ext w w' ∧ Hp w S [] [] [⟨Sb, 5, v, xs ++ num n⟩] [] w') := by
 have hten := num_ten hn
 refine qS (fn := Tryz.f98) (n := 24) (σ := [(0, .slice a xs.length c), (1, .int .u64 (n : Int))]) Tryz.func98 ?_
 have H := Hp.startF (w := w) (S := S) (G := [Rp SB [.slice a xs.length c] xs]) (.rp h .nil)
 refine qR 3 [.c [1, 0], .c [2]] [(0, .slice a xs.length c), (1, .int .u64 (n : Int))] ?_
 refine qG (sq 0 3) ?_
 refine qP 1 (sq 1 3) [(1, .int .u64 (n : Int)), (6, .slice a xs.length c)] ?_
 refine qK .seq (some 7) (sq 2 3) 119 #[.slice a xs.length c] (copied_spec (xs := xs) (H.rp 0 rfl) (by first | omega | simp)) ?_
 rintro v2 w1 - H'
 have H := H.back (M1 := []) (W1 := []) H'
 obtain ⟨a3, c4, rfl, hc5, hm6⟩ := H.ownForm 0 rfl
 have H : Hp w S [] [] [⟨Sb, 5, .slice a3 xs.length c4, xs⟩] [Rp SB [.slice a xs.length c] xs] _ := H
 refine qF 1 [(1, .int .u64 (n : Int)), (5, .slice a3 xs.length c4)] ?_
 refine qR 2 [.c [2, 0, 0], .b 0, .c [3]] [(1, .int .u64 (n : Int)), (5, .slice a3 xs.length c4)] ?_
 refine WK.loop (α := Nat × List (BitVec 8) × Option Addr × Nat) (b := cd Tryz.prog 98 [2, 0, 0, 0]) (by as_aux_lemma => kernel_rfl) (fun st_ => match st_ with | (m, rs, a9, c9) => [(1, .int .u64 (m : Int)), (5, .slice a9 rs.length c9)]) (fun st_ w' => match st_ with | (m, rs, a9, c9) => Hp w S [] [] [⟨Sb, 5, .slice a9 rs.length c9, rs⟩] [Rp SB [.slice a xs.length c] xs] w' ∧ m ≤ 18446744073709551615 ∧ rs ++ num m = xs ++ num n) (fun st_ => match st_ with | (m, rs, a9, c9) => m) (n, xs, a3, c4) ⟨H, hn, rfl⟩ (rfl) ?_
 rintro ⟨m, rs, a9, c9⟩ w8 ⟨H, hinv0⟩ hback7
 have hl9 := congrArg List.length hinv0.2
 simp only [List.length_append] at hl9
 have hp9 := num_pos m
 refine qR 3 [.c [2, 0, 0, 0, 0, 1], .c [2, 0, 0, 0, 1], .l [2, 0, 0, 0], .b 0, .c [3]] [(1, .int .u64 (m : Int)), (5, .slice a9 rs.length c9), (9, .bool (decide (((m : Int) : Int) ≥ 128)))] ?_
 refine qD (((m : Int) : Int) ≥ 128) (fun h9 => ?_) (fun h9 => ?_)
 ·
  refine qR 3 [.c [2, 0, 0, 0, 1, 0, 0], .c [2, 0, 0, 0, 1, 0, 1], .b 1, .l [2, 0, 0, 0], .b 0, .c [3]] [(1, .int .u64 (m : Int)), (5, .slice a9 rs.length c9)] ?_
  refine qG (sq 0 8) ?_
  refine qP 2 (sq 2 8) [(1, .int .u64 (m : Int)), (5, .slice a9 rs.length c9), (10, .slice a9 rs.length c9), (11, .int .u64 (m : Int))] ?_
  refine RW.pv (κ := .seq) (d := some 12) (r := (sq 3 8)) (v := .int .u64 (IntKind.u64.wrap ((BitVec.ofInt 64 (m : Int) &&& BitVec.ofInt 64 127).toNat : Nat))) (v' := .int .u64 ((m : Int) % 128)) (by as_aux_lemma => kernel_rfl) (and_u64 (j := 7) (m := 127) (by decide) (by decide) (by omega)) ?_
  refine RW.pv (κ := .seq) (d := some 13) (r := (sq 4 8)) (v := .int .u8 (IntKind.u8.wrap ((m : Int) % 128))) (v' := .int .u8 (((BitVec.ofInt 8 ((m : Int) % 128)).toNat : Nat) : Int)) (by as_aux_lemma => kernel_rfl) (wrap_bv8 _) ?_
  refine RW.pv (κ := .seq) (d := some 14) (r := (sq 5 8)) (v := .int .u8 (IntKind.u8.wrap ((BitVec.ofInt 8 (((BitVec.ofInt 8 ((m : Int) % 128)).toNat : Nat) : Int) ||| BitVec.ofInt 8 128).toNat : Nat))) (v' := .int .u8 (((((BitVec.ofInt 8 ((m : Int) % 128)) ||| (128#8)).toNat : Nat) : Int))) (by as_aux_lemma => kernel_rfl) (bv_or8 (bvi _) (by decide)) ?_
  refine RW.new (κ := .seq) (d := some 15) (r := (sq 6 8)) (o := .cells #[.int .u8 ((((BitVec.ofInt 8 ((m : Int) % 128)) ||| (128#8)).toNat : Nat) : Int)] 5 (0, 0)) (v := fun b => .slice (some ⟨b, 0, none⟩) 1 1) (fun b => by as_aux_lemma => kernel_rfl) (nofun) H ?_
  intro b10 w11 H
  have H := H.freeze 0 rfl Sb ([(BitVec.ofInt 8 ((m : Int) % 128)) ||| (128#8)] : List (BitVec 8)) 1 (by simp [maxLen]) (by first | exact Nat.le_refl _ | simp) (EsP.cons (c := [.int .u8 ((((BitVec.ofInt 8 ((m : Int) % 128)) ||| (128#8)).toNat : Nat) : Int)]) Shape.bv_mk EsP.nil)
  have H : Hp w S [] [] [⟨Sb, 5, .slice a9 rs.length c9, rs⟩] [Rp SB [.slice (some ⟨b10, 0, none⟩) 1 1] ([(BitVec.ofInt 8 ((m : Int) % 128)) ||| (128#8)] : List (BitVec 8)), Rp SB [.slice a xs.length c] xs] _ := H
  refine RW.appendW (d := some 16) (r := (sq 7 8)) (T := 62) (ty := 62) (e := 5) (m := 1) (by_ := 1) (v := .slice a9 rs.length c9) (a2 := (some ⟨b10, 0, none⟩)) (l2 := 1) (c2 := 1) (zs := rs ++ ([(BitVec.ofInt 8 ((m : Int) % 128)) ||| (128#8)] : List (BitVec 8))) (by as_aux_lemma => kernel_rfl) (by as_aux_lemma => kernel_rfl) rfl H 0 rfl 0 rfl (rfl) (by simp; omega) ?_
  intro a12 c13 w15 H hc14
  have H : Hp w S [] [] [⟨Sb, 5, .slice a12 ((rs ++ ([(BitVec.ofInt 8 ((m : Int) % 128)) ||| (128#8)] : List (BitVec 8))).length) c13, rs ++ ([(BitVec.ofInt 8 ((m : Int) % 128)) ||| (128#8)] : List (BitVec 8))⟩] [Rp SB [.slice (some ⟨b10, 0, none⟩) 1 1] ([(BitVec.ofInt 8 ((m : Int) % 128)) ||| (128#8)] : List (BitVec 8)), Rp SB [.slice a xs.length c] xs] _ := H
  refine qF 1 [(1, .int .u64 (m : Int)), (5, .slice a12 ((rs ++ ([(BitVec.ofInt 8 ((m : Int) % 128)) ||| (128#8)] : List (BitVec 8))).length) c13)] ?_
  refine qG (sq 0 3) ?_
  refine qP 1 (sq 1 3) [(1, .int .u64 (m : Int)), (5, .slice a12 ((rs ++ ([(BitVec.ofInt 8 ((m : Int) % 128)) ||| (128#8)] : List (BitVec 8))).length) c13), (17, .int .u64 (m : Int))] ?_
  refine RW.pv (κ := .seq) (d := some 18) (r := (sq 2 3)) (v := .int .u64 ((m : Int).fdiv (2 ^ 7))) (v' := .int .u64 ((m : Int) / 128)) (by as_aux_lemma => kernel_rfl) (shr_id (by decide) (by omega)) ?_
  refine qF 1 [(1, .int .u64 ((m : Int) / 128)), (5, .slice a12 ((rs ++ ([(BitVec.ofInt 8 ((m : Int) % 128)) ||| (128#8)] : List (BitVec 8))).length) c13)] ?_
  refine qR 1 [.l [2, 0, 0, 0], .b 0, .c [3]] [(1, .int .u64 ((m : Int) / 128)), (5, .slice a12 ((rs ++ ([(BitVec.ofInt 8 ((m : Int) % 128)) ||| (128#8)] : List (BitVec 8))).length) c13)] ?_
  have H := H.pick [1] rfl
  exact WK.back (hback7 (m / 128, rs ++ ([(BitVec.ofInt 8 ((m : Int) % 128)) ||| (128#8)] : List (BitVec 8)), a12, c13) _ ⟨H, by omega, by rw [← hinv0.2, num_hi (n := m) (by omega)]; simp⟩ (by simp only []; omega)) (by rfl)
 ·
  refine qR 2 [.c [3, 0], .c [4]] [(1, .int .u64 (m : Int)), (5, .slice a9 rs.length c9)] ?_
  refine qG (sq 0 6) ?_
  refine qP 2 (sq 2 6) [(19, .slice a9 rs.length c9), (20, .int .u64 (m : Int))] ?_
  refine RW.pv (κ := .seq) (d := some 21) (r := (sq 3 6)) (v := .int .u8 (IntKind.u8.wrap ((m : Int)))) (v' := .int .u8 (((BitVec.ofNat 8 m).toNat : Nat) : Int)) (by as_aux_lemma => kernel_rfl) ((wrap_bv8 _).trans (by rw [bv_nat])) ?_
  refine RW.new (κ := .seq) (d := some 22) (r := (sq 4 6)) (o := .cells #[.int .u8 (((BitVec.ofNat 8 m).toNat : Nat) : Int)] 5 (0, 0)) (v := fun b => .slice (some ⟨b, 0, none⟩) 1 1) (fun b => by as_aux_lemma => kernel_rfl) (nofun) H ?_
  intro b16 w17 H
  have H := H.freeze 0 rfl Sb ([BitVec.ofNat 8 m] : List (BitVec 8)) 1 (by simp [maxLen]) (by first | exact Nat.le_refl _ | simp) (EsP.cons (c := [.int .u8 (((BitVec.ofNat 8 m).toNat : Nat) : Int)]) Shape.bv_mk EsP.nil)
  have H : Hp w S [] [] [⟨Sb, 5, .slice a9 rs.length c9, rs⟩] [Rp SB [.slice (some ⟨b16, 0, none⟩) 1 1] ([BitVec.ofNat 8 m] : List (BitVec 8)), Rp SB [.slice a xs.length c] xs] _ := H
  refine RW.appendW (d := some 23) (r := (sq 5 6)) (T := 62) (ty := 62) (e := 5) (m := 1) (by_ := 1) (v := .slice a9 rs.length c9) (a2 := (some ⟨b16, 0, none⟩)) (l2 := 1) (c2 := 1) (zs := rs ++ ([BitVec.ofNat 8 m] : List (BitVec 8))) (by as_aux_lemma => kernel_rfl) (by as_aux_lemma => kernel_rfl) rfl H 0 rfl 0 rfl (rfl) (by simp; omega) ?_
  intro a18 c19 w21 H hc20
  have H : Hp w S [] [] [⟨Sb, 5, .slice a18 ((rs ++ ([BitVec.ofNat 8 m] : List (BitVec 8))).length) c19, rs ++ ([BitVec.ofNat 8 m] : List (BitVec 8))⟩] [Rp SB [.slice (some ⟨b16, 0, none⟩) 1 1] ([BitVec.ofNat 8 m] : List (BitVec 8)), Rp SB [.slice a xs.length c] xs] _ := H
  refine qF 1 [(4, .slice a18 ((rs ++ ([BitVec.ofNat 8 m] : List (BitVec 8))).length) c19)] ?_
  refine qT (.slice a18 ((rs ++ ([BitVec.ofNat 8 m] : List (BitVec 8))).length) c19) Tryz.func98 ?_
  exact ⟨_, rfl, H.done, (H.pick [] rfl).reW (by rw [← hinv0.2, num_lo (n := m) (by omega)])⟩
theorem putnum_spec {S : Nat → Prop} {w : World} {xs : List (BitVec 8)} {a : Option Addr} {c : Nat} (h : SB.rep S w [.slice a xs.length c] xs) (x : Int) (hn : 0 ≤ x ∧ x ≤ 18446744073709551615) (hby : xs.length ≤ 1099511627776) :
 Calls Tryz.prog 98 #[.slice a xs.length c, .int .u64 x] w (Ret fun v w' => Ext w w' ∧ Hp w S [] [] [⟨Sb, 5, v, xs ++ num x.toNat⟩] [] w') := by
 obtain ⟨n, rfl⟩ := Int.eq_ofNat_of_zero_le hn.1
 rw [Int.toNat_natCast]
 exact putnumN_spec h n (by omega) hby
theorem putint_spec {S : Nat → Prop} {w : World} {xs : List (BitVec 8)} {a : Option Addr} {c : Nat} (h : SB.rep S w [.slice a xs.length c] xs) (x : Int) (hn : -9223372036854775808 ≤ x ∧ x ≤ 9223372036854775807) (hby : xs.length ≤ 1099511627776) :
 Calls Tryz.prog 94 #[.slice a xs.length c, .I x] w (Ret fun v w' => Ext w w' ∧ Hp w S [] [] [⟨Sb, 5, v, xs ++ intE x⟩] [] w') := by
 refine qS (fn := Tryz.f94) (n := 19) (σ := [(0, .slice a xs.length c), (1, .I x)]) Tryz.func94 ?_
 have H := Hp.startF (w := w) (S := S) (G := [Rp SB [.slice a xs.length c] xs]) (.rp h .nil)
 refine qR 5 [.c [1, 0, 1], .c [2]] [(0, .slice a xs.length c), (1, .I x), (6, .bool (decide ((x : Int) ≥ 0)))] ?_
 refine qD ((x : Int) ≥ 0) (fun h1 => ?_) (fun h1 => ?_)
 ·
  refine qR 1 [.c [1, 0, 1, 0, 0], .c [1, 0, 1, 0, 1], .c [2]] [(0, .slice a xs.length c), (1, .I x)] ?_
  refine qG (sq 0 6) ?_
  refine qP 2 (sq 2 6) [(7, .slice a xs.length c), (8, .I x)] ?_
  refine RW.pv (κ := .seq) (d := some 9) (r := (sq 3 6)) (v := .int .u64 (IntKind.u64.wrap (x))) (v' := .int .u64 (x)) (by as_aux_lemma => kernel_rfl) (wr_u64 (by omega)) ?_
  refine RW.pv (κ := .seq) (d := some 10) (r := (sq 4 6)) (v := .int .u64 (IntKind.u64.wrap (2 * x))) (v' := .int .u64 (2 * x)) (by as_aux_lemma => kernel_rfl) (wr_u64 (by omega)) ?_
  refine qK .seq (some 11) (sq 5 6) 98 #[.slice a xs.length c, .int .u64 (2 * x)] (putnum_spec (xs := xs) (H.rp 0 rfl) (2 * x) (by omega) (by first | omega | simp)) ?_
  rintro v3 w2 - H'
  have H := H.back (M1 := []) (W1 := []) H'
  obtain ⟨a4, c5, rfl, hc6, hm7⟩ := H.ownForm 0 rfl
  have H : Hp w S [] [] [⟨Sb, 5, .slice a4 ((xs ++ num ((2 * x).toNat)).length) c5, (xs ++ num ((2 * x).toNat))⟩] [Rp SB [.slice a xs.length c] xs] _ := H
  refine qF 1 [(4, .slice a4 ((xs ++ num ((2 * x).toNat)).length) c5)] ?_
  refine qT (.slice a4 ((xs ++ num ((2 * x).toNat)).length) c5) Tryz.func94 ?_
  exact ⟨_, rfl, H.done, (H.pick [] rfl).reW (by unfold intE; rw [if_pos (by omega)]) (by rfl)⟩
 ·
  refine qR 2 [.c [2, 0], .c [3]] [(0, .slice a xs.length c), (1, .I x)] ?_
  refine qG (sq 0 8) ?_
  refine qP 2 (sq 2 8) [(12, .slice a xs.length c), (13, .I x)] ?_
  refine qI .seq 14 (sq 3 8) ((-1) - x) ?_
  refine RW.pv (κ := .seq) (d := some 15) (r := (sq 4 8)) (v := .int .u64 (IntKind.u64.wrap ((-1) - x))) (v' := .int .u64 ((-1) - x)) (by as_aux_lemma => kernel_rfl) (wr_u64 (by omega)) ?_
  refine RW.pv (κ := .seq) (d := some 16) (r := (sq 5 8)) (v := .int .u64 (IntKind.u64.wrap (2 * ((-1) - x)))) (v' := .int .u64 (2 * ((-1) - x))) (by as_aux_lemma => kernel_rfl) (wr_u64 (by omega)) ?_
  refine RW.pv (κ := .seq) (d := some 17) (r := (sq 6 8)) (v := .int .u64 (IntKind.u64.wrap ((2 * ((-1) - x)) + 1))) (v' := .int .u64 ((2 * ((-1) - x)) + 1)) (by as_aux_lemma => kernel_rfl) (wr_u64 (by omega)) ?_
  refine qK .seq (some 18) (sq 7 8) 98 #[.slice a xs.length c, .int .u64 ((2 * ((-1) - x)) + 1)] (putnum_spec (xs := xs) (H.rp 0 rfl) ((2 * ((-1) - x)) + 1) (by omega) (by first | omega | simp)) ?_
  rintro v9 w8 - H'
  have H := H.back (M1 := []) (W1 := []) H'
  obtain ⟨a10, c11, rfl, hc12, hm13⟩ := H.ownForm 0 rfl
  have H : Hp w S [] [] [⟨Sb, 5, .slice a10 ((xs ++ num (((2 * ((-1) - x)) + 1).toNat)).length) c11, (xs ++ num (((2 * ((-1) - x)) + 1).toNat))⟩] [Rp SB [.slice a xs.length c] xs] _ := H
  refine qF 1 [(4, .slice a10 ((xs ++ num (((2 * ((-1) - x)) + 1).toNat)).length) c11)] ?_
  refine qT (.slice a10 ((xs ++ num (((2 * ((-1) - x)) + 1).toNat)).length) c11) Tryz.func94 ?_
  exact ⟨_, rfl, H.done, (H.pick [] rfl).reW (by unfold intE; rw [if_neg (by omega)]) (by rfl)⟩
theorem writer_spec {S : Nat → Prop} {w : World} {ys : List (BitVec 8)} {a0 : Option Addr} {c0 : Nat} (h : SB.rep S w [.slice a0 ys.length c0] ys) (hby : ys.length ≤ 1099511627776) :
 Calls Tryz.prog 58 #[.slice a0 ys.length c0] w (Ret fun v w' => Ext w w' ∧ ∃ (bp : Nat) (a' : Option Addr) (c' : Nat), v = .P bp 0 ∧ Hp w S [] [(bp, .cells #[.slice a' ys.length c', .I 0, .bool true, .bool false] 136 (0, 0))] [⟨Sb, 5, .slice a' ys.length c', ys⟩] [] w') := by
 refine qS (fn := Tryz.f58) (n := 8) (σ := [(0, .slice a0 ys.length c0)]) Tryz.func58 ?_
 have H := Hp.startF (w := w) (S := S) (G := [Rp SB [.slice a0 ys.length c0] ys]) (.rp h .nil)
 refine qR 3 [.c [1, 0], .c [2]] [(0, .slice a0 ys.length c0)] ?_
 refine qG (sq 0 6) ?_
 refine RW.new (κ := .seq) (d := some 3) (r := (sq 1 6)) (o := .cells #[] 5 (0, 0)) (v := fun b => .slice (some ⟨b, 0, none⟩) 0 0) (fun b => by as_aux_lemma => kernel_rfl) (nofun) H ?_
 intro b1 w2 H
 refine qP 1 (sq 2 6) [(3, .slice (some ⟨b1, 0, none⟩) 0 0), (4, .slice a0 ys.length c0)] ?_
 have H := H.toOwn (sh := Sb) (xs := []) (cap := 0) (by rfl) (Nat.le_refl _) (Nat.zero_le _) (by simp) EsP.nil
 have H : Hp w S [] [] [⟨Sb, 5, .slice (some ⟨b1, 0, none⟩) 0 0, []⟩] [Rp SB [.slice a0 ys.length c0] ys] _ := H
 refine RW.appendW (d := some 5) (r := (sq 3 6)) (T := 62) (ty := 62) (e := 5) (m := 1) (by_ := 1) (v := .slice (some ⟨b1, 0, none⟩) 0 0) (a2 := a0) (l2 := ys.length) (c2 := c0) (zs := ys) (by as_aux_lemma => kernel_rfl) (by as_aux_lemma => kernel_rfl) rfl H 0 rfl 0 rfl (rfl) (by omega) ?_
 intro a3 c4 w6 H hc5
 have H : Hp w S [] [] [⟨Sb, 5, .slice a3 ys.length c4, ys⟩] [Rp SB [.slice a0 ys.length c0] ys] _ := H
 refine qP 1 (sq 4 6) [(6, .agg #[.slice a3 ys.length c4, .I 0, .bool true, .bool false])] ?_
 refine qB .seq 7 (sq 5 6) #[.slice a3 ys.length c4, .I 0, .bool true, .bool false] 136 H ?_
 intro b7 w8 H
 refine qF 1 [(2, .P b7 0)] ?_
 refine qT (.P b7 0) Tryz.func58 ?_
 exact ⟨_, rfl, H.done, _, _, _, rfl, H.pick [] rfl⟩
theorem u64_spec {S : Nat → Prop} {w : World} {O : List Nat} {bp : Nat} {xs : List (BitVec 8)} {a : Option Addr} {c : Nat} {x : Int} (hn : 0 ≤ x ∧ x ≤ 18446744073709551615) (H0 : Hp w S O [(bp, .cells #[.slice a xs.length c, .I 0, .bool true, .bool false] 136 (0, 0))] [⟨Sb, 5, .slice a xs.length c, xs⟩] [] w) (hby : xs.length + 10 ≤ 1099511627776) :
 Calls Tryz.prog 77 #[.P bp 0, .int .u64 x] w (Ret fun v w' => ∃ (a' : Option Addr) (c' : Nat), (v = .int .u64 x) ∧ Hp w S O [(bp, .cells #[.slice a' (xs ++ num x.toNat).length c', .I 0, .bool true, .bool false] 136 (0, 0))] [⟨Sb, 5, .slice a' (xs ++ num x.toNat).length c', (xs ++ num x.toNat)⟩] [] w') := by
 have hten : (num x.toNat).length ≤ 10 := num_ten (by omega)
 refine qS (fn := Tryz.f77) (n := 52) (σ := [(0, .P bp 0), (1, .int .u64 x)]) Tryz.func77 ?_
 have H := H0
 refine qR 4 [.c [1, 0, 0], .c [1, 0, 1], .c [2]] [(0, .P bp 0), (1, .int .u64 x)] ?_
 refine qG (sq 0 4) ?_
 refine qP 3 (sq 3 4) [(0, .P bp 0), (1, .int .u64 x), (10, .P bp 2)] ?_
 refine qL .seq 11 (sq 4 4) 4 bp 2 2 (.bool true) (H.cells 0 rfl) ?_
 refine qF 0 [(0, .P bp 0), (1, .int .u64 x), (11, .bool true)] ?_
 refine qR 2 [.c [1, 0, 1, 0, 0], .c [1, 0, 1, 0, 1], .c [2]] [(0, .P bp 0), (1, .int .u64 x)] ?_
 refine WK.drawP1 7 [0, 1, 2, 3, 5] [(17, .int .u64 x), (15, .P bp 0), (14, .P bp 0), (13, .P bp 0), (12, .P bp 0), (0, .P bp 0), (1, .int .u64 x)] [(4, .qui), (6, .chn)] [(4, .qui), (6, .chn), (7, .seq), (8, .seq), (9, .seq), (10, .seq)] Try_mixed (by as_aux_lemma => kernel_rfl) (by as_aux_lemma => kernel_rfl) (by as_aux_lemma => kernel_rfl) (by as_aux_lemma => kernel_rfl) ?_
 have H := H.draw
 generalize ({ w with drawn := w.drawn + 1 } : World) = w1 at H ⊢
 refine qL .qui 16 [(6, .chn), (7, .seq), (8, .seq), (9, .seq), (10, .seq)] 62 bp 0 0 (.slice a xs.length c) (H.cells 0 rfl) ?_
 have H := H.addRp SB [.slice none 0 0] [] Shape.slice_nil
 refine qK .chn (some 18) [(7, .seq), (8, .seq), (9, .seq), (10, .seq)] 98 #[.slice none 0 0, .int .u64 x] (putnum_spec (xs := ([] : List (BitVec 8))) (H.rp 0 rfl) x (by omega) (by first | omega | simp)) ?_
 rintro v3 w2 - H'
 have H := H.back (M1 := []) (W1 := []) H'
 obtain ⟨a4, c5, rfl, hc6, hm7⟩ := H.ownForm 0 rfl
 have H : Hp w S O [(bp, .cells #[.slice a xs.length c, .I 0, .bool true, .bool false] 136 (0, 0))] [⟨Sb, 5, .slice a4 (num x.toNat).length c5, num x.toNat⟩, ⟨Sb, 5, .slice a xs.length c, xs⟩] [Rp SB [.slice none 0 0] []] _ := H
 have H : Hp w S O [(bp, .cells #[.slice a xs.length c, .I 0, .bool true, .bool false] 136 (0, 0))] [⟨Sb, 5, .slice a xs.length c, xs⟩] [Rp SB [.slice a4 (num x.toNat).length c5] (num x.toNat), Rp SB [.slice none 0 0] []] _ := H.freezeW 0 rfl
 refine RW.appendW (d := some 19) (r := [(8, .seq), (9, .seq), (10, .seq)]) (T := 62) (ty := 62) (e := 5) (m := 1) (by_ := 1) (v := .slice a xs.length c) (a2 := a4) (l2 := (num x.toNat).length) (c2 := c5) (zs := xs ++ (num x.toNat)) (by as_aux_lemma => kernel_rfl) (by as_aux_lemma => kernel_rfl) rfl H 0 rfl 0 rfl (rfl) (by simp; omega) ?_
 intro a8 c9 w11 H hc10
 have H : Hp w S O [(bp, .cells #[.slice a xs.length c, .I 0, .bool true, .bool false] 136 (0, 0))] [⟨Sb, 5, .slice a8 ((xs ++ (num x.toNat)).length) c9, xs ++ (num x.toNat)⟩] [Rp SB [.slice a4 (num x.toNat).length c5] (num x.toNat), Rp SB [.slice none 0 0] []] _ := H
 refine qP 2 [(10, .seq)] [(1, .int .u64 x), (19, .slice a8 ((xs ++ (num x.toNat)).length) c9), (21, .P bp 0)] ?_
 refine qW 62 bp 0 [] (.slice a8 ((xs ++ (num x.toNat)).length) c9) [(bp, .cells #[.slice a8 ((xs ++ (num x.toNat)).length) c9, .I 0, .bool true, .bool false] 136 (0, 0))] H 0 rfl rfl ?_
 intro w12 H
 refine qF 0 [(1, .int .u64 x)] ?_
 refine qR 2 [.c [1, 0, 1, 0, 2], .c [2]] [(4, .int .u64 x)] ?_
 refine qT (.int .u64 x) Tryz.func77 ?_
 exact ⟨_, rfl, _, _, by first | rfl | trivial, H.pick [] rfl⟩
theorem int_spec {S : Nat → Prop} {w : World} {O : List Nat} {bp : Nat} {xs : List (BitVec 8)} {a : Option Addr} {c : Nat} {x : Int} (hn : -9223372036854775808 ≤ x ∧ x ≤ 9223372036854775807) (H0 : Hp w S O [(bp, .cells #[.slice a xs.length c, .I 0, .bool true, .bool false] 136 (0, 0))] [⟨Sb, 5, .slice a xs.length c, xs⟩] [] w) (hby : xs.length + 10 ≤ 1099511627776) :
 Calls Tryz.prog 70 #[.P bp 0, .I x] w (Ret fun v w' => ∃ (a' : Option Addr) (c' : Nat), (v = .I x) ∧ Hp w S O [(bp, .cells #[.slice a' (xs ++ intE x).length c', .I 0, .bool true, .bool false] 136 (0, 0))] [⟨Sb, 5, .slice a' (xs ++ intE x).length c', (xs ++ intE x)⟩] [] w') := by
 have hten := intE_ten hn
 refine qS (fn := Tryz.f70) (n := 52) (σ := [(0, .P bp 0), (1, .I x)]) Tryz.func70 ?_
 have H := H0
 refine qR 4 [.c [1, 0, 0], .c [1, 0, 1], .c [2]] [(0, .P bp 0), (1, .I x)] ?_
 refine qG (sq 0 4) ?_
 refine qP 3 (sq 3 4) [(0, .P bp 0), (1, .I x), (10, .P bp 2)] ?_
 refine qL .seq 11 (sq 4 4) 4 bp 2 2 (.bool true) (H.cells 0 rfl) ?_
 refine qF 0 [(0, .P bp 0), (1, .I x), (11, .bool true)] ?_
 refine qR 2 [.c [1, 0, 1, 0, 0], .c [1, 0, 1, 0, 1], .c [2]] [(0, .P bp 0), (1, .I x)] ?_
 refine WK.drawP1 7 [0, 1, 2, 3, 5] [(17, .I x), (15, .P bp 0), (14, .P bp 0), (13, .P bp 0), (12, .P bp 0), (0, .P bp 0), (1, .I x)] [(4, .qui), (6, .chn)] [(4, .qui), (6, .chn), (7, .seq), (8, .seq), (9, .seq), (10, .seq)] Try_mixed (by as_aux_lemma => kernel_rfl) (by as_aux_lemma => kernel_rfl) (by as_aux_lemma => kernel_rfl) (by as_aux_lemma => kernel_rfl) ?_
 have H := H.draw
 generalize ({ w with drawn := w.drawn + 1 } : World) = w1 at H ⊢
 refine qL .qui 16 [(6, .chn), (7, .seq), (8, .seq), (9, .seq), (10, .seq)] 62 bp 0 0 (.slice a xs.length c) (H.cells 0 rfl) ?_
 have H := H.addRp SB [.slice none 0 0] [] Shape.slice_nil
 refine qK .chn (some 18) [(7, .seq), (8, .seq), (9, .seq), (10, .seq)] 94 #[.slice none 0 0, .I x] (putint_spec (xs := ([] : List (BitVec 8))) (H.rp 0 rfl) x (by omega) (by first | omega | simp)) ?_
 rintro v3 w2 - H'
 have H := H.back (M1 := []) (W1 := []) H'
 obtain ⟨a4, c5, rfl, hc6, hm7⟩ := H.ownForm 0 rfl
 have H : Hp w S O [(bp, .cells #[.slice a xs.length c, .I 0, .bool true, .bool false] 136 (0, 0))] [⟨Sb, 5, .slice a4 (intE x).length c5, intE x⟩, ⟨Sb, 5, .slice a xs.length c, xs⟩] [Rp SB [.slice none 0 0] []] _ := H
 have H : Hp w S O [(bp, .cells #[.slice a xs.length c, .I 0, .bool true, .bool false] 136 (0, 0))] [⟨Sb, 5, .slice a xs.length c, xs⟩] [Rp SB [.slice a4 (intE x).length c5] (intE x), Rp SB [.slice none 0 0] []] _ := H.freezeW 0 rfl
 refine RW.appendW (d := some 19) (r := [(8, .seq), (9, .seq), (10, .seq)]) (T := 62) (ty := 62) (e := 5) (m := 1) (by_ := 1) (v := .slice a xs.length c) (a2 := a4) (l2 := (intE x).length) (c2 := c5) (zs := xs ++ (intE x)) (by as_aux_lemma => kernel_rfl) (by as_aux_lemma => kernel_rfl) rfl H 0 rfl 0 rfl (rfl) (by simp; omega) ?_
 intro a8 c9 w11 H hc10
 have H : Hp w S O [(bp, .cells #[.slice a xs.length c, .I 0, .bool true, .bool false] 136 (0, 0))] [⟨Sb, 5, .slice a8 ((xs ++ (intE x)).length) c9, xs ++ (intE x)⟩] [Rp SB [.slice a4 (intE x).length c5] (intE x), Rp SB [.slice none 0 0] []] _ := H
 refine qP 2 [(10, .seq)] [(1, .I x), (19, .slice a8 ((xs ++ (intE x)).length) c9), (21, .P bp 0)] ?_
 refine qW 62 bp 0 [] (.slice a8 ((xs ++ (intE x)).length) c9) [(bp, .cells #[.slice a8 ((xs ++ (intE x)).length) c9, .I 0, .bool true, .bool false] 136 (0, 0))] H 0 rfl rfl ?_
 intro w12 H
 refine qF 0 [(1, .I x)] ?_
 refine qR 2 [.c [1, 0, 1, 0, 2], .c [2]] [(4, .I x)] ?_
 refine qT (.I x) Tryz.func70 ?_
 exact ⟨_, rfl, _, _, by first | rfl | trivial, H.pick [] rfl⟩
theorem len_spec {S : Nat → Prop} {w : World} {O : List Nat} {bp : Nat} {xs : List (BitVec 8)} {a : Option Addr} {c : Nat} {k : Nat} (hn : k ≤ 9223372036854775807) (H0 : Hp w S O [(bp, .cells #[.slice a xs.length c, .I 0, .bool true, .bool false] 136 (0, 0))] [⟨Sb, 5, .slice a xs.length c, xs⟩] [] w) (hby : xs.length + 10 ≤ 1099511627776) :
 Calls Tryz.prog 84 #[.P bp 0, .I k] w (Ret fun v w' => ∃ (a' : Option Addr) (c' : Nat), (v = .I k) ∧ Hp w S O [(bp, .cells #[.slice a' (xs ++ num k).length c', .I 0, .bool true, .bool false] 136 (0, 0))] [⟨Sb, 5, .slice a' (xs ++ num k).length c', (xs ++ num k)⟩] [] w') := by
 have hten : (num k).length ≤ 10 := num_ten (by omega)
 refine qS (fn := Tryz.f84) (n := 37) (σ := [(0, .P bp 0), (1, .I k)]) Tryz.func84 ?_
 have H := H0
 refine qR 3 [.c [1, 0], .c [2]] [(0, .P bp 0), (1, .I k)] ?_
 refine qG (sq 0 5) ?_
 refine qP 2 (sq 2 5) [(0, .P bp 0), (1, .I k), (6, .P bp 0), (7, .I k)] ?_
 refine RW.pv (κ := .seq) (d := some 8) (r := (sq 3 5)) (v := .int .u64 (IntKind.u64.wrap ((k : Int)))) (v' := .int .u64 ((k : Int))) (by as_aux_lemma => kernel_rfl) (wr_u64 (by omega)) ?_
 refine RW.callS (d := some 9) (r := (sq 4 5)) (g := 77) (args := #[.P bp 0, .int .u64 (k : Int)]) (by as_aux_lemma => kernel_rfl) (u64_spec (x := (k : Int)) (by omega) ((H.lend (M1 := [(bp, .cells #[.slice a xs.length c, .I 0, .bool true, .bool false] 136 (0, 0))]) (W1 := [⟨Sb, 5, .slice a xs.length c, xs⟩])).pick [] rfl) (by first | omega | (simp only [List.length_append, List.length_nil]; omega))) ?_
 rintro _ w1 ⟨a3, c4, rfl, H'⟩
 have H := H.back (M1 := [(bp, .cells #[.slice a xs.length c, .I 0, .bool true, .bool false] 136 (0, 0))]) (W1 := [⟨Sb, 5, .slice a xs.length c, xs⟩]) H'
 have H : Hp w S O [(bp, .cells #[.slice a3 ((xs ++ num (k : Int).toNat).length) c4, .I 0, .bool true, .bool false] 136 (0, 0))] [⟨Sb, 5, .slice a3 ((xs ++ num (k : Int).toNat).length) c4, (xs ++ num (k : Int).toNat)⟩] [] _ := H
 refine qF 1 [(0, .P bp 0), (1, .I k), (5, .int .u64 (k : Int))] ?_
 refine qR 2 [.c [2, 0, 0], .c [2, 0, 1], .c [3]] [(0, .P bp 0), (1, .I k), (5, .int .u64 (k : Int))] ?_
 refine qG (sq 0 4) ?_
 refine qP 3 (sq 3 4) [(0, .P bp 0), (1, .I k), (5, .int .u64 (k : Int)), (12, .P bp 2)] ?_
 refine qL .seq 13 (sq 4 4) 4 bp 2 2 (.bool true) (H.cells 0 rfl) ?_
 refine qF 0 [(0, .P bp 0), (1, .I k), (5, .int .u64 (k : Int)), (13, .bool true)] ?_
 refine qR 3 [.c [2, 0, 1, 0, 1], .c [3]] [(4, .I k)] ?_
 refine qT (.I k) Tryz.func84 ?_
 exact ⟨_, rfl, _, _, by first | rfl | trivial, H.pick [] rfl⟩
theorem ints_spec {S : Nat → Prop} {w : World} {O : List Nat} {bp : Nat} {xs : List (BitVec 8)} {a : Option Addr} {c : Nat} {ls : List Int} {al : Option Addr} {cl : Nat} (H0 : Hp w S O [(bp, .cells #[.slice a xs.length c, .I 0, .bool true, .bool false] 136 (0, 0))] [⟨Sb, 5, .slice a xs.length c, xs⟩] [Rp Li [.slice al ls.length cl] ls] w) (hby : xs.length + 10 * (ls.length + 2) ≤ 1099511627776) :
 Calls Tryz.prog 72 #[.P bp 0, .slice al ls.length cl] w (Ret fun v w' => ∃ (a' : Option Addr) (c' : Nat), (∃ (ar : Option Addr) (cr : Nat), v = .slice ar ls.length cr) ∧ Hp w S O [(bp, .cells #[.slice a' ((xs ++ (num ls.length ++ intsE ls)).length) c', .I 0, .bool true, .bool false] 136 (0, 0))] [⟨Sb, 5, .slice a' ((xs ++ (num ls.length ++ intsE ls)).length) c', (xs ++ (num ls.length ++ intsE ls))⟩] [] w') := by
 have hlen := Shape.slice_len (H0.rp 0 rfl)
 have hten : (num ls.length).length ≤ 10 := num_ten (by omega)
 refine qS (fn := Tryz.f72) (n := 40) (σ := [(0, .P bp 0), (1, .slice al ls.length cl)]) Tryz.func72 ?_
 have H := H0
 refine qR 3 [.c [1, 0], .c [2]] [(0, .P bp 0), (1, .slice al ls.length cl)] ?_
 refine qG (sq 0 5) ?_
 refine qP 3 (sq 3 5) [(0, .P bp 0), (1, .slice al ls.length cl), (9, .P bp 0), (11, .I ((ls.length : Nat) : Int))] ?_
 refine RW.callS (d := some 12) (r := (sq 4 5)) (g := 84) (args := #[.P bp 0, .I ((ls.length : Nat) : Int)]) (by as_aux_lemma => kernel_rfl) (len_spec (k := ls.length) (by omega) ((H.lend (M1 := [(bp, .cells #[.slice a xs.length c, .I 0, .bool true, .bool false] 136 (0, 0))]) (W1 := [⟨Sb, 5, .slice a xs.length c, xs⟩])).pick [] rfl) (by first | omega | (simp only [List.length_append, List.length_nil]; omega))) ?_
 rintro _ w1 ⟨a3, c4, rfl, H'⟩
 have H := H.back (M1 := [(bp, .cells #[.slice a xs.length c, .I 0, .bool true, .bool false] 136 (0, 0))]) (W1 := [⟨Sb, 5, .slice a xs.length c, xs⟩]) H'
 have H : Hp w S O [(bp, .cells #[.slice a3 (xs ++ num ls.length).length c4, .I 0, .bool true, .bool false] 136 (0, 0))] [⟨Sb, 5, .slice a3 (xs ++ num ls.length).length c4, (xs ++ num ls.length)⟩] [Rp Li [.slice al ls.length cl] ls] _ := H
 refine qF 1 [(0, .P bp 0), (1, .slice al ls.length cl), (5, .I ((ls.length : Nat) : Int))] ?_
 refine qR 6 [.c [3, 0, 1, 0], .b 0, .c [4]] [(0, .P bp 0), (1, .slice al ls.length cl), (5, .I ((ls.length : Nat) : Int)), (6, .slice none 0 0), (7, .I 0)] ?_
 have H := H.ownNil Si 3
 refine WK.loop (α := Nat × List (BitVec 8) × Option Addr × Nat × Option Addr × Nat) (b := cd Tryz.prog 72 [3, 0, 1, 0, 0]) (by as_aux_lemma => kernel_rfl) (fun st_ => match st_ with | (i, ys, a9, c9, ao, co) => [(0, .P bp 0), (1, .slice al ls.length cl), (5, .I ((ls.length : Nat) : Int)), (6, .slice ao (ls.take i).length co), (7, .I i)]) (fun st_ w' => match st_ with | (i, ys, a9, c9, ao, co) => Hp w S O [(bp, .cells #[.slice a9 ys.length c9, .I 0, .bool true, .bool false] 136 (0, 0))] [⟨Shape.int .i64, 3, .slice ao (ls.take i).length co, ls.take i⟩, ⟨Sb, 5, .slice a9 ys.length c9, ys⟩] [Rp Li [.slice al ls.length cl] ls] w' ∧ i ≤ ls.length ∧ ys = xs ++ num ls.length ++ intsE (ls.take i) ∧ ys.length ≤ xs.length + 10 * (i + 1)) (fun st_ => match st_ with | (i, ys, a9, c9, ao, co) => ls.length - i) (0, (xs ++ num ls.length), a3, c4, none, 0) ⟨H, Nat.zero_le _, by simp [intsE], by simp only [List.length_append]; omega⟩ (rfl) ?_
 rintro ⟨i, ys, a9, c9, ao, co⟩ w7 ⟨H, hinv0⟩ hback6
 have htl : (ls.take i).length = i := List.length_take_of_le hinv0.1
 refine qR 2 [.c [3, 0, 1, 0, 0, 0, 0], .c [3, 0, 1, 0, 0, 0, 1], .c [3, 0, 1, 0, 0, 1], .l [3, 0, 1, 0, 0], .b 0, .c [4]] [(0, .P bp 0), (1, .slice al ls.length cl), (5, .I ((ls.length : Nat) : Int)), (6, .slice ao (ls.take i).length co), (7, .I i)] ?_
 refine qG (sq 0 10) ?_
 refine qP 4 (sq 4 10) [(0, .P bp 0), (1, .slice al ls.length cl), (5, .I ((ls.length : Nat) : Int)), (6, .slice ao (ls.take i).length co), (7, .I i), (16, .bool (decide (((i : Int) : Int) < ((ls.length : Nat) : Int))))] ?_
 refine tD (fun b_ => [(0, .P bp 0), (1, .slice al ls.length cl), (5, .I ((ls.length : Nat) : Int)), (6, .slice ao (ls.take i).length co), (7, .I i), (16, .bool b_)]) (((i : Int) : Int) < ((ls.length : Nat) : Int)) (fun h8 => ?_) (fun h8 => ?_)
 ·
  refine qP 3 (sq 7 10) [(0, .P bp 0), (1, .slice al ls.length cl), (5, .I ((ls.length : Nat) : Int)), (6, .slice ao (ls.take i).length co), (7, .I i), (16, .bool true), (19, .P bp 3)] ?_
  refine qL .seq 20 (sq 8 10) 4 bp 3 3 (.bool false) (H.cells 0 rfl) ?_
  refine qF 2 [(0, .P bp 0), (1, .slice al ls.length cl), (5, .I ((ls.length : Nat) : Int)), (6, .slice ao (ls.take i).length co), (7, .I i), (22, .bool true)] ?_
  refine qR 8 [.c [3, 0, 1, 0, 0, 1, 0, 0, 1, 0, 0], .c [3, 0, 1, 0, 0, 1, 0, 0, 1, 0, 1], .c [3, 0, 1, 0, 0, 1, 0, 0, 2], .b 1, .c [3, 0, 1, 0, 0, 2], .l [3, 0, 1, 0, 0], .b 0, .c [4]] [(0, .P bp 0), (1, .slice al ls.length cl), (5, .I ((ls.length : Nat) : Int)), (6, .slice ao (ls.take i).length co), (7, .I i), (8, .I 0)] ?_
  refine qG (sq 0 4) ?_
  refine qP 3 (sq 3 4) [(0, .P bp 0), (1, .slice al ls.length cl), (5, .I ((ls.length : Nat) : Int)), (6, .slice ao (ls.take i).length co), (7, .I i), (8, .I 0), (27, .P bp 2)] ?_
  refine qL .seq 28 (sq 4 4) 4 bp 2 2 (.bool true) (H.cells 0 rfl) ?_
  refine qF 0 [(0, .P bp 0), (1, .slice al ls.length cl), (5, .I ((ls.length : Nat) : Int)), (6, .slice ao (ls.take i).length co), (7, .I i), (8, .I 0), (28, .bool true)] ?_
  refine qR 1 [.c [3, 0, 1, 0, 0, 1, 0, 0, 1, 0, 1, 0], .c [3, 0, 1, 0, 0, 1, 0, 0, 2], .b 1, .c [3, 0, 1, 0, 0, 2], .l [3, 0, 1, 0, 0], .b 0, .c [4]] [(0, .P bp 0), (1, .slice al ls.length cl), (5, .I ((ls.length : Nat) : Int)), (6, .slice ao (ls.take i).length co), (7, .I i)] ?_
  refine qG (sq 0 5) ?_
  refine qP 2 (sq 2 5) [(0, .P bp 0), (1, .slice al ls.length cl), (5, .I ((ls.length : Nat) : Int)), (6, .slice ao (ls.take i).length co), (7, .I i), (29, .slice al ls.length cl), (30, .I i)] ?_
  have hx9 : i < ls.length := by omega
  refine qX .seq 31 (sq 3 5) 24 3 (i : Int) Si (ls[i]) H 0 rfl i (by omega) (List.getElem?_eq_getElem hx9) ?_
  intro b10 o11 es12 hr13 H
  have hb14 := Shape.i64_bd hr13
  obtain ⟨rfl, -⟩ := hr13
  refine qL .seq 32 (sq 4 5) 3 b10 o11 0 (.I (ls[i])) (H.fc 0 rfl) ?_
  refine qF 1 [(0, .P bp 0), (1, .slice al ls.length cl), (5, .I ((ls.length : Nat) : Int)), (6, .slice ao (ls.take i).length co), (7, .I i), (8, .I (ls[i]))] ?_
  refine qG (sq 0 7) ?_
  refine qP 3 (sq 3 7) [(0, .P bp 0), (1, .slice al ls.length cl), (5, .I ((ls.length : Nat) : Int)), (6, .slice ao (ls.take i).length co), (7, .I i), (33, .slice ao (ls.take i).length co), (34, .P bp 0), (35, .I (ls[i]))] ?_
  have H := H.frontW 1 (W' := [⟨Sb, 5, .slice a9 ys.length c9, ys⟩, ⟨Shape.int .i64, 3, .slice ao (ls.take i).length co, ls.take i⟩]) rfl
  refine RW.callS (d := some 36) (r := (sq 4 7)) (g := 70) (args := #[.P bp 0, .I (ls[i])]) (by as_aux_lemma => kernel_rfl) (int_spec (x := ls[i]) (by omega) ((H.lend (M1 := [(bp, .cells #[.slice a9 ys.length c9, .I 0, .bool true, .bool false] 136 (0, 0))]) (W1 := [⟨Sb, 5, .slice a9 ys.length c9, ys⟩])).pick [] rfl) (by first | omega | (simp only [List.length_append, List.length_nil]; omega))) ?_
  rintro _ w15 ⟨a17, c18, rfl, H'⟩
  have H := H.back (M1 := [(bp, .cells #[.slice a9 ys.length c9, .I 0, .bool true, .bool false] 136 (0, 0))]) (W1 := [⟨Sb, 5, .slice a9 ys.length c9, ys⟩]) H'
  have H : Hp w S O [(bp, .cells #[.slice a17 ((ys ++ intE (ls[i])).length) c18, .I 0, .bool true, .bool false] 136 (0, 0))] [⟨Sb, 5, .slice a17 ((ys ++ intE (ls[i])).length) c18, (ys ++ intE (ls[i]))⟩, ⟨Shape.int .i64, 3, .slice ao (ls.take i).length co, ls.take i⟩] [Fc b10 o11 [.I (ls[i])], Rp Li [.slice al ls.length cl] ls] _ := H
  refine RW.new (κ := .seq) (d := some 37) (r := (sq 5 7)) (o := .cells #[.I (ls[i])] 3 (0, 0)) (v := fun b => .slice (some ⟨b, 0, none⟩) 1 1) (fun b => by as_aux_lemma => kernel_rfl) (nofun) H ?_
  intro b20 w21 H
  have H := H.freeze 0 rfl Si ([ls[i]] : List Int) 1 (by simp [maxLen]) (by first | exact Nat.le_refl _ | simp) (EsP.cons (c := [.I (ls[i])]) i64a EsP.nil)
  have H : Hp w S O [(bp, .cells #[.slice a17 ((ys ++ intE (ls[i])).length) c18, .I 0, .bool true, .bool false] 136 (0, 0))] [⟨Sb, 5, .slice a17 ((ys ++ intE (ls[i])).length) c18, (ys ++ intE (ls[i]))⟩, ⟨Shape.int .i64, 3, .slice ao (ls.take i).length co, ls.take i⟩] [Rp Li [.slice (some ⟨b20, 0, none⟩) 1 1] ([ls[i]] : List Int), Fc b10 o11 [.I (ls[i])], Rp Li [.slice al ls.length cl] ls] _ := H
  refine RW.appendW (d := some 38) (r := (sq 6 7)) (T := 24) (ty := 24) (e := 3) (m := 1) (by_ := 8) (v := .slice ao (ls.take i).length co) (a2 := (some ⟨b20, 0, none⟩)) (l2 := 1) (c2 := 1) (zs := ls.take (i + 1)) (by as_aux_lemma => kernel_rfl) (by as_aux_lemma => kernel_rfl) rfl H 1 rfl 0 rfl ((take_succ' (by omega)).symm) (by rw [List.length_take]; omega) ?_
  intro a22 c23 w25 H hc24
  have H : Hp w S O [(bp, .cells #[.slice a17 ((ys ++ intE (ls[i])).length) c18, .I 0, .bool true, .bool false] 136 (0, 0))] [⟨Sb, 5, .slice a17 ((ys ++ intE (ls[i])).length) c18, (ys ++ intE (ls[i]))⟩, ⟨Shape.int .i64, 3, .slice a22 ((ls.take (i + 1)).length) c23, ls.take (i + 1)⟩] [Rp Li [.slice (some ⟨b20, 0, none⟩) 1 1] ([ls[i]] : List Int), Fc b10 o11 [.I (ls[i])], Rp Li [.slice al ls.length cl] ls] _ := H
  refine qF 1 [(0, .P bp 0), (1, .slice al ls.length cl), (5, .I ((ls.length : Nat) : Int)), (6, .slice a22 ((ls.take (i + 1)).length) c23), (7, .I i)] ?_
  refine qR 1 [.c [3, 0, 1, 0, 0, 2], .l [3, 0, 1, 0, 0], .b 0, .c [4]] [(0, .P bp 0), (1, .slice al ls.length cl), (5, .I ((ls.length : Nat) : Int)), (6, .slice a22 ((ls.take (i + 1)).length) c23), (7, .I i)] ?_
  refine qG (sq 0 3) ?_
  refine qP 1 (sq 1 3) [(0, .P bp 0), (1, .slice al ls.length cl), (5, .I ((ls.length : Nat) : Int)), (6, .slice a22 ((ls.take (i + 1)).length) c23), (7, .I i), (23, .I i)] ?_
  refine qI .seq 24 (sq 2 3) ((i : Int) + 1) ?_
  refine qF 1 [(0, .P bp 0), (1, .slice al ls.length cl), (5, .I ((ls.length : Nat) : Int)), (6, .slice a22 ((ls.take (i + 1)).length) c23), (7, .I ((i : Int) + 1))] ?_
  have H := H.pick [2] rfl
  have H := H.frontW 1 (W' := [⟨Shape.int .i64, 3, .slice a22 ((ls.take (i + 1)).length) c23, ls.take (i + 1)⟩, ⟨Sb, 5, .slice a17 ((ys ++ intE (ls[i])).length) c18, (ys ++ intE (ls[i]))⟩]) rfl
  exact WK.back (hback6 (i + 1, (ys ++ intE (ls[i])), a17, c18, a22, c23) _ ⟨H, by omega, by rw [intsE_take (by omega), hinv0.2.1]; simp, by simp only [List.length_append]; have := intE_ten (x := ls[i]) (by omega); omega⟩ (by first | omega | (simp only []; omega))) (by rfl)
 ·
  refine qF 6 [(0, .P bp 0), (1, .slice al ls.length cl), (5, .I ((ls.length : Nat) : Int)), (6, .slice ao (ls.take i).length co), (7, .I i), (22, .bool false)] ?_
  refine qR 4 [.c [5]] [(4, .slice ao (ls.take i).length co)] ?_
  refine qT (.slice ao (ls.take i).length co) Tryz.func72 ?_
  have H := H.frontW 1 (W' := [⟨Sb, 5, .slice a9 ys.length c9, ys⟩, ⟨Shape.int .i64, 3, .slice ao (ls.take i).length co, ls.take i⟩]) rfl
  have hi9 : i = ls.length := by omega
  subst hi9
  rw [List.take_length] at hinv0
  obtain ⟨-, hy9, -⟩ := hinv0
  rw [List.append_assoc] at hy9
  subst hy9
  have H := H.drop (M' := [_]) (W' := [_]) (List.Sublist.refl _) (List.Sublist.cons_cons _ (List.nil_sublist _))
  exact ⟨_, rfl, _, _, ⟨_, _, by rw [List.take_length]⟩, H.pick [] rfl⟩
def flagE (b : Bool) : List (BitVec 8) := if b = true then [1#8] else [0#8]
theorem flagE_len (b : Bool) : (flagE b).length = 1 := by cases b <;> rfl
def bytesE (x : List (BitVec 8)) : List (BitVec 8) := num x.length ++ x
theorem putflag_spec {S : Nat → Prop} {w : World} {xs : List (BitVec 8)} {a : Option Addr} {c : Nat} (h : SB.rep S w [.slice a xs.length c] xs) (b : Bool) (hby : xs.length ≤ 1099511627776) :
 Calls Tryz.prog 100 #[.slice a xs.length c, .bool b] w (Ret fun v w' => Ext w w' ∧ Hp w S [] [] [⟨Sb, 5, v, xs ++ flagE b⟩] [] w') := by
 refine qS (fn := Tryz.f100) (n := 14) (σ := [(0, .slice a xs.length c), (1, .bool b)]) Tryz.func100 ?_
 have H := Hp.startF (w := w) (S := S) (G := [Rp SB [.slice a xs.length c] xs]) (.rp h .nil)
 refine qR 5 [.c [1, 0, 1], .c [2]] [(0, .slice a xs.length c), (5, .bool b)] ?_
 refine qC b (fun h1 => ?_) (fun h1 => ?_)
 ·
  refine qR 1 [.c [1, 0, 1, 0, 0], .c [1, 0, 1, 0, 1], .c [2]] [(0, .slice a xs.length c)] ?_
  refine qG (sq 0 5) ?_
  refine qP 1 (sq 1 5) [(6, .slice a xs.length c)] ?_
  refine qK .seq (some 7) (sq 2 5) 119 #[.slice a xs.length c] (copied_spec (xs := xs) (H.rp 0 rfl) (by first | omega | simp)) ?_
  rintro v3 w2 - H'
  have H := H.back (M1 := []) (W1 := []) H'
  obtain ⟨a4, c5, rfl, hc6, hm7⟩ := H.ownForm 0 rfl
  have H : Hp w S [] [] [⟨Sb, 5, .slice a4 xs.length c5, xs⟩] [Rp SB [.slice a xs.length c] xs] _ := H
  refine RW.new (κ := .seq) (d := some 8) (r := (sq 3 5)) (o := .cells #[.int .u8 1] 5 (0, 0)) (v := fun b => .slice (some ⟨b, 0, none⟩) 1 1) (fun b => by as_aux_lemma => kernel_rfl) (nofun) H ?_
  intro b8 w9 H
  have H := H.freeze 0 rfl Sb ([1#8] : List (BitVec 8)) 1 (by simp [maxLen]) (by first | exact Nat.le_refl _ | simp) (EsP.cons (c := [.int .u8 1]) (Shape.bv_lit (x := 1#8) (by decide)) EsP.nil)
  have H : Hp w S [] [] [⟨Sb, 5, .slice a4 xs.length c5, xs⟩] [Rp SB [.slice (some ⟨b8, 0, none⟩) 1 1] ([1#8] : List (BitVec 8)), Rp SB [.slice a xs.length c] xs] _ := H
  refine RW.appendW (d := some 9) (r := (sq 4 5)) (T := 62) (ty := 62) (e := 5) (m := 1) (by_ := 1) (v := .slice a4 xs.length c5) (a2 := (some ⟨b8, 0, none⟩)) (l2 := 1) (c2 := 1) (zs := xs ++ ([1#8] : List (BitVec 8))) (by as_aux_lemma => kernel_rfl) (by as_aux_lemma => kernel_rfl) rfl H 0 rfl 0 rfl (rfl) (by simp; omega) ?_
  intro a10 c11 w13 H hc12
  have H : Hp w S [] [] [⟨Sb, 5, .slice a10 ((xs ++ ([1#8] : List (BitVec 8))).length) c11, xs ++ ([1#8] : List (BitVec 8))⟩] [Rp SB [.slice (some ⟨b8, 0, none⟩) 1 1] ([1#8] : List (BitVec 8)), Rp SB [.slice a xs.length c] xs] _ := H
  refine qF 1 [(4, .slice a10 ((xs ++ ([1#8] : List (BitVec 8))).length) c11)] ?_
  refine qT (.slice a10 ((xs ++ ([1#8] : List (BitVec 8))).length) c11) Tryz.func100 ?_
  have H := H.drop (M' := []) (W' := [⟨Sb, 5, .slice a10 ((xs ++ ([1#8] : List (BitVec 8))).length) c11, xs ++ ([1#8] : List (BitVec 8))⟩]) (List.nil_sublist _) (List.Sublist.refl _)
  exact ⟨_, rfl, H.done, (H.pick [] rfl).reW (by unfold flagE; simp [*]) (by rfl)⟩
 ·
  refine qR 2 [.c [2, 0], .c [3]] [(0, .slice a xs.length c)] ?_
  refine qG (sq 0 5) ?_
  refine qP 1 (sq 1 5) [(10, .slice a xs.length c)] ?_
  refine qK .seq (some 11) (sq 2 5) 119 #[.slice a xs.length c] (copied_spec (xs := xs) (H.rp 0 rfl) (by first | omega | simp)) ?_
  rintro v15 w14 - H'
  have H := H.back (M1 := []) (W1 := []) H'
  obtain ⟨a16, c17, rfl, hc18, hm19⟩ := H.ownForm 0 rfl
  have H : Hp w S [] [] [⟨Sb, 5, .slice a16 xs.length c17, xs⟩] [Rp SB [.slice a xs.length c] xs] _ := H
  refine RW.new (κ := .seq) (d := some 12) (r := (sq 3 5)) (o := .cells #[.int .u8 0] 5 (0, 0)) (v := fun b => .slice (some ⟨b, 0, none⟩) 1 1) (fun b => by as_aux_lemma => kernel_rfl) (nofun) H ?_
  intro b20 w21 H
  have H := H.freeze 0 rfl Sb ([0#8] : List (BitVec 8)) 1 (by simp [maxLen]) (by first | exact Nat.le_refl _ | simp) (EsP.cons (c := [.int .u8 0]) (Shape.bv_lit (x := 0#8) (by decide)) EsP.nil)
  have H : Hp w S [] [] [⟨Sb, 5, .slice a16 xs.length c17, xs⟩] [Rp SB [.slice (some ⟨b20, 0, none⟩) 1 1] ([0#8] : List (BitVec 8)), Rp SB [.slice a xs.length c] xs] _ := H
  refine RW.appendW (d := some 13) (r := (sq 4 5)) (T := 62) (ty := 62) (e := 5) (m := 1) (by_ := 1) (v := .slice a16 xs.length c17) (a2 := (some ⟨b20, 0, none⟩)) (l2 := 1) (c2 := 1) (zs := xs ++ ([0#8] : List (BitVec 8))) (by as_aux_lemma => kernel_rfl) (by as_aux_lemma => kernel_rfl) rfl H 0 rfl 0 rfl (rfl) (by simp; omega) ?_
  intro a22 c23 w25 H hc24
  have H : Hp w S [] [] [⟨Sb, 5, .slice a22 ((xs ++ ([0#8] : List (BitVec 8))).length) c23, xs ++ ([0#8] : List (BitVec 8))⟩] [Rp SB [.slice (some ⟨b20, 0, none⟩) 1 1] ([0#8] : List (BitVec 8)), Rp SB [.slice a xs.length c] xs] _ := H
  refine qF 1 [(4, .slice a22 ((xs ++ ([0#8] : List (BitVec 8))).length) c23)] ?_
  refine qT (.slice a22 ((xs ++ ([0#8] : List (BitVec 8))).length) c23) Tryz.func100 ?_
  have H := H.drop (M' := []) (W' := [⟨Sb, 5, .slice a22 ((xs ++ ([0#8] : List (BitVec 8))).length) c23, xs ++ ([0#8] : List (BitVec 8))⟩]) (List.nil_sublist _) (List.Sublist.refl _)
  exact ⟨_, rfl, H.done, (H.pick [] rfl).reW (by unfold flagE; simp [*]) (by rfl)⟩
theorem putbytes_spec {S : Nat → Prop} {w : World} {xs : List (BitVec 8)} {a : Option Addr} {c : Nat} (h : SB.rep S w [.slice a xs.length c] xs) {ys : List (BitVec 8)} {b : Option Addr} {d : Nat} (h2 : SB.rep S w [.slice b ys.length d] ys) (hby : xs.length + ys.length + 10 ≤ 1099511627776) :
 Calls Tryz.prog 104 #[.slice a xs.length c, .slice b ys.length d] w (Ret fun v w' => Ext w w' ∧ Hp w S [] [] [⟨Sb, 5, v, xs ++ bytesE ys⟩] [] w') := by
 have hyl := Shape.slice_len h2
 have hten : (num ys.length).length ≤ 10 := num_ten (by omega)
 refine qS (fn := Tryz.f104) (n := 12) (σ := [(0, .slice a xs.length c), (1, .slice b ys.length d)]) Tryz.func104 ?_
 have H := Hp.startF (w := w) (S := S) (G := [Rp SB [.slice a xs.length c] xs, Rp SB [.slice b ys.length d] ys]) (.rp h (.rp h2 .nil))
 refine qR 3 [.c [1, 0], .c [2]] [(0, .slice a xs.length c), (1, .slice b ys.length d)] ?_
 refine qG (sq 0 8) ?_
 refine qP 3 (sq 3 8) [(1, .slice b ys.length d), (5, .slice a xs.length c), (7, .I ((ys.length : Nat) : Int))] ?_
 refine RW.pv (κ := .seq) (d := some 8) (r := (sq 4 8)) (v' := .int .u64 ((ys.length : Nat) : Int)) (v := .int .u64 (IntKind.u64.wrap (((ys.length : Nat) : Int)))) (by as_aux_lemma => kernel_rfl) (wr_u64 (by omega)) ?_
 refine qK .seq (some 9) (sq 5 8) 98 #[.slice a xs.length c, .int .u64 ((ys.length : Nat) : Int)] (putnum_spec (xs := xs) (H.rp 0 rfl) ((ys.length : Nat) : Int) (by omega) (by first | omega | simp)) ?_
 rintro v2 w1 - H'
 have H := H.back (M1 := []) (W1 := []) H'
 obtain ⟨a3, c4, rfl, hc5, hm6⟩ := H.ownForm 0 rfl
 have H : Hp w S [] [] [⟨Sb, 5, .slice a3 ((xs ++ num (((ys.length : Nat) : Int).toNat)).length) c4, (xs ++ num (((ys.length : Nat) : Int).toNat))⟩] [Rp SB [.slice a xs.length c] xs, Rp SB [.slice b ys.length d] ys] _ := H
 refine qP 1 (sq 6 8) [(9, .slice a3 ((xs ++ num (((ys.length : Nat) : Int).toNat)).length) c4), (10, .slice b ys.length d)] ?_
 refine RW.appendW (d := some 11) (r := (sq 7 8)) (T := 62) (ty := 62) (e := 5) (m := 1) (by_ := 1) (v := .slice a3 ((xs ++ num (((ys.length : Nat) : Int).toNat)).length) c4) (a2 := b) (l2 := ys.length) (c2 := d) (zs := (xs ++ num (((ys.length : Nat) : Int).toNat)) ++ ys) (by as_aux_lemma => kernel_rfl) (by as_aux_lemma => kernel_rfl) rfl H 0 rfl 1 rfl (rfl) (by simp; omega) ?_
 intro a7 c8 w10 H hc9
 have H : Hp w S [] [] [⟨Sb, 5, .slice a7 (((xs ++ num (((ys.length : Nat) : Int).toNat)) ++ ys).length) c8, (xs ++ num (((ys.length : Nat) : Int).toNat)) ++ ys⟩] [Rp SB [.slice a xs.length c] xs, Rp SB [.slice b ys.length d] ys] _ := H
 refine qF 1 [(4, .slice a7 (((xs ++ num (((ys.length : Nat) : Int).toNat)) ++ ys).length) c8)] ?_
 refine qT (.slice a7 (((xs ++ num (((ys.length : Nat) : Int).toNat)) ++ ys).length) c8) Tryz.func104 ?_
 have H := H.drop (M' := []) (W' := [⟨Sb, 5, .slice a7 (((xs ++ num (((ys.length : Nat) : Int).toNat)) ++ ys).length) c8, (xs ++ num (((ys.length : Nat) : Int).toNat)) ++ ys⟩]) (List.nil_sublist _) (List.Sublist.refl _)
 exact ⟨_, rfl, H.done, (H.pick [] rfl).reW (by unfold bytesE; simp) (by rfl)⟩
theorem flag_spec {S : Nat → Prop} {w : World} {O : List Nat} {bp : Nat} {xs : List (BitVec 8)} {a : Option Addr} {c : Nat} {b : Bool} (H0 : Hp w S O [(bp, .cells #[.slice a xs.length c, .I 0, .bool true, .bool false] 136 (0, 0))] [⟨Sb, 5, .slice a xs.length c, xs⟩] [] w) (hby : xs.length + 10 ≤ 1099511627776) :
 Calls Tryz.prog 78 #[.P bp 0, .bool b] w (Ret fun v w' => ∃ (a' : Option Addr) (c' : Nat), (v = .bool b) ∧ Hp w S O [(bp, .cells #[.slice a' (xs ++ flagE b).length c', .I 0, .bool true, .bool false] 136 (0, 0))] [⟨Sb, 5, .slice a' (xs ++ flagE b).length c', (xs ++ flagE b)⟩] [] w') := by
 have hten := flagE_len b
 refine qS (fn := Tryz.f78) (n := 52) (σ := [(0, .P bp 0), (1, .bool b)]) Tryz.func78 ?_
 have H := H0
 refine qR 4 [.c [1, 0, 0], .c [1, 0, 1], .c [2]] [(0, .P bp 0), (1, .bool b)] ?_
 refine qG (sq 0 4) ?_
 refine qP 3 (sq 3 4) [(0, .P bp 0), (1, .bool b), (10, .P bp 2)] ?_
 refine qL .seq 11 (sq 4 4) 4 bp 2 2 (.bool true) (H.cells 0 rfl) ?_
 refine qF 0 [(0, .P bp 0), (1, .bool b), (11, .bool true)] ?_
 refine qR 2 [.c [1, 0, 1, 0, 0], .c [1, 0, 1, 0, 1], .c [2]] [(0, .P bp 0), (1, .bool b)] ?_
 refine WK.drawP1 7 [0, 1, 2, 3, 5] [(17, .bool b), (15, .P bp 0), (14, .P bp 0), (13, .P bp 0), (12, .P bp 0), (0, .P bp 0), (1, .bool b)] [(4, .qui), (6, .chn)] [(4, .qui), (6, .chn), (7, .seq), (8, .seq), (9, .seq), (10, .seq)] Try_mixed (by as_aux_lemma => kernel_rfl) (by as_aux_lemma => kernel_rfl) (by as_aux_lemma => kernel_rfl) (by as_aux_lemma => kernel_rfl) ?_
 have H := H.draw
 generalize ({ w with drawn := w.drawn + 1 } : World) = w1 at H ⊢
 refine qL .qui 16 [(6, .chn), (7, .seq), (8, .seq), (9, .seq), (10, .seq)] 62 bp 0 0 (.slice a xs.length c) (H.cells 0 rfl) ?_
 have H := H.addRp SB [.slice none 0 0] [] Shape.slice_nil
 refine qK .chn (some 18) [(7, .seq), (8, .seq), (9, .seq), (10, .seq)] 100 #[.slice none 0 0, .bool b] (putflag_spec (xs := ([] : List (BitVec 8))) (H.rp 0 rfl) b (by first | omega | simp)) ?_
 rintro v3 w2 - H'
 have H := H.back (M1 := []) (W1 := []) H'
 obtain ⟨a4, c5, rfl, hc6, hm7⟩ := H.ownForm 0 rfl
 have H : Hp w S O [(bp, .cells #[.slice a xs.length c, .I 0, .bool true, .bool false] 136 (0, 0))] [⟨Sb, 5, .slice a4 (flagE b).length c5, flagE b⟩, ⟨Sb, 5, .slice a xs.length c, xs⟩] [Rp SB [.slice none 0 0] []] _ := H
 have H : Hp w S O [(bp, .cells #[.slice a xs.length c, .I 0, .bool true, .bool false] 136 (0, 0))] [⟨Sb, 5, .slice a xs.length c, xs⟩] [Rp SB [.slice a4 (flagE b).length c5] (flagE b), Rp SB [.slice none 0 0] []] _ := H.freezeW 0 rfl
 refine RW.appendW (d := some 19) (r := [(8, .seq), (9, .seq), (10, .seq)]) (T := 62) (ty := 62) (e := 5) (m := 1) (by_ := 1) (v := .slice a xs.length c) (a2 := a4) (l2 := (flagE b).length) (c2 := c5) (zs := xs ++ (flagE b)) (by as_aux_lemma => kernel_rfl) (by as_aux_lemma => kernel_rfl) rfl H 0 rfl 0 rfl (rfl) (by simp; omega) ?_
 intro a8 c9 w11 H hc10
 have H : Hp w S O [(bp, .cells #[.slice a xs.length c, .I 0, .bool true, .bool false] 136 (0, 0))] [⟨Sb, 5, .slice a8 ((xs ++ (flagE b)).length) c9, xs ++ (flagE b)⟩] [Rp SB [.slice a4 (flagE b).length c5] (flagE b), Rp SB [.slice none 0 0] []] _ := H
 refine qP 2 [(10, .seq)] [(1, .bool b), (19, .slice a8 ((xs ++ (flagE b)).length) c9), (21, .P bp 0)] ?_
 refine qW 62 bp 0 [] (.slice a8 ((xs ++ (flagE b)).length) c9) [(bp, .cells #[.slice a8 ((xs ++ (flagE b)).length) c9, .I 0, .bool true, .bool false] 136 (0, 0))] H 0 rfl rfl ?_
 intro w12 H
 refine qF 0 [(1, .bool b)] ?_
 refine qR 2 [.c [1, 0, 1, 0, 2], .c [2]] [(4, .bool b)] ?_
 refine qT (.bool b) Tryz.func78 ?_
 exact ⟨_, rfl, _, _, by first | rfl | trivial, H.pick [] rfl⟩
theorem bytes_spec {S : Nat → Prop} {w : World} {O : List Nat} {bp : Nat} {xs : List (BitVec 8)} {a : Option Addr} {c : Nat} {ys : List (BitVec 8)} {b : Option Addr} {d : Nat} (H0 : Hp w S O [(bp, .cells #[.slice a xs.length c, .I 0, .bool true, .bool false] 136 (0, 0))] [⟨Sb, 5, .slice a xs.length c, xs⟩] [Rp SB [.slice b ys.length d] ys] w) (hby : xs.length + (ys.length + 10) ≤ 1099511627776) :
 Calls Tryz.prog 82 #[.P bp 0, .slice b ys.length d] w (Ret fun v w' => ∃ (a' : Option Addr) (c' : Nat), (v = .slice b ys.length d) ∧ Hp w S O [(bp, .cells #[.slice a' (xs ++ bytesE ys).length c', .I 0, .bool true, .bool false] 136 (0, 0))] [⟨Sb, 5, .slice a' (xs ++ bytesE ys).length c', (xs ++ bytesE ys)⟩] [] w') := by
 have hyl := Shape.slice_len (H0.rp 0 rfl)
 have hten : (num ys.length).length ≤ 10 := num_ten (by omega)
 have hten2 : (bytesE ys).length ≤ ys.length + 10 := by unfold bytesE; rw [List.length_append]; omega
 refine qS (fn := Tryz.f82) (n := 52) (σ := [(0, .P bp 0), (1, .slice b ys.length d)]) Tryz.func82 ?_
 have H := H0
 refine qR 4 [.c [1, 0, 0], .c [1, 0, 1], .c [2]] [(0, .P bp 0), (1, .slice b ys.length d)] ?_
 refine qG (sq 0 4) ?_
 refine qP 3 (sq 3 4) [(0, .P bp 0), (1, .slice b ys.length d), (10, .P bp 2)] ?_
 refine qL .seq 11 (sq 4 4) 4 bp 2 2 (.bool true) (H.cells 0 rfl) ?_
 refine qF 0 [(0, .P bp 0), (1, .slice b ys.length d), (11, .bool true)] ?_
 refine qR 2 [.c [1, 0, 1, 0, 0], .c [1, 0, 1, 0, 1], .c [2]] [(0, .P bp 0), (1, .slice b ys.length d)] ?_
 refine WK.drawP1 7 [0, 1, 2, 3, 5] [(17, .slice b ys.length d), (15, .P bp 0), (14, .P bp 0), (13, .P bp 0), (12, .P bp 0), (0, .P bp 0), (1, .slice b ys.length d)] [(4, .qui), (6, .chn)] [(4, .qui), (6, .chn), (7, .seq), (8, .seq), (9, .seq), (10, .seq)] Try_mixed (by as_aux_lemma => kernel_rfl) (by as_aux_lemma => kernel_rfl) (by as_aux_lemma => kernel_rfl) (by as_aux_lemma => kernel_rfl) ?_
 have H := H.draw
 generalize ({ w with drawn := w.drawn + 1 } : World) = w1 at H ⊢
 refine qL .qui 16 [(6, .chn), (7, .seq), (8, .seq), (9, .seq), (10, .seq)] 62 bp 0 0 (.slice a xs.length c) (H.cells 0 rfl) ?_
 have H := H.addRp SB [.slice none 0 0] [] Shape.slice_nil
 refine qK .chn (some 18) [(7, .seq), (8, .seq), (9, .seq), (10, .seq)] 104 #[.slice none 0 0, .slice b ys.length d] (putbytes_spec (xs := ([] : List (BitVec 8))) (ys := ys) (H.rp 0 rfl) (H.rp 1 rfl) (by first | omega | (simp only [List.length_nil]; omega))) ?_
 rintro v3 w2 - H'
 have H := H.back (M1 := []) (W1 := []) H'
 obtain ⟨a4, c5, rfl, hc6, hm7⟩ := H.ownForm 0 rfl
 have H : Hp w S O [(bp, .cells #[.slice a xs.length c, .I 0, .bool true, .bool false] 136 (0, 0))] [⟨Sb, 5, .slice a4 (bytesE ys).length c5, bytesE ys⟩, ⟨Sb, 5, .slice a xs.length c, xs⟩] [Rp SB [.slice none 0 0] [], Rp SB [.slice b ys.length d] ys] _ := H
 have H : Hp w S O [(bp, .cells #[.slice a xs.length c, .I 0, .bool true, .bool false] 136 (0, 0))] [⟨Sb, 5, .slice a xs.length c, xs⟩] [Rp SB [.slice a4 (bytesE ys).length c5] (bytesE ys), Rp SB [.slice none 0 0] [], Rp SB [.slice b ys.length d] ys] _ := H.freezeW 0 rfl
 refine RW.appendW (d := some 19) (r := [(8, .seq), (9, .seq), (10, .seq)]) (T := 62) (ty := 62) (e := 5) (m := 1) (by_ := 1) (v := .slice a xs.length c) (a2 := a4) (l2 := (bytesE ys).length) (c2 := c5) (zs := xs ++ (bytesE ys)) (by as_aux_lemma => kernel_rfl) (by as_aux_lemma => kernel_rfl) rfl H 0 rfl 0 rfl (rfl) (by simp; omega) ?_
 intro a8 c9 w11 H hc10
 have H : Hp w S O [(bp, .cells #[.slice a xs.length c, .I 0, .bool true, .bool false] 136 (0, 0))] [⟨Sb, 5, .slice a8 ((xs ++ (bytesE ys)).length) c9, xs ++ (bytesE ys)⟩] [Rp SB [.slice a4 (bytesE ys).length c5] (bytesE ys), Rp SB [.slice none 0 0] [], Rp SB [.slice b ys.length d] ys] _ := H
 refine qP 2 [(10, .seq)] [(1, .slice b ys.length d), (19, .slice a8 ((xs ++ (bytesE ys)).length) c9), (21, .P bp 0)] ?_
 refine qW 62 bp 0 [] (.slice a8 ((xs ++ (bytesE ys)).length) c9) [(bp, .cells #[.slice a8 ((xs ++ (bytesE ys)).length) c9, .I 0, .bool true, .bool false] 136 (0, 0))] H 0 rfl rfl ?_
 intro w12 H
 refine qF 0 [(1, .slice b ys.length d)] ?_
 refine qR 2 [.c [1, 0, 1, 0, 2], .c [2]] [(4, .slice b ys.length d)] ?_
 refine qT (.slice b ys.length d) Tryz.func82 ?_
 exact ⟨_, rfl, _, _, by first | rfl | trivial, H.pick [] rfl⟩
theorem pu32_spec {S : Nat → Prop} {w : World} {O : List Nat} {bp : Nat} {xs : List (BitVec 8)} {a : Option Addr} {c : Nat} {x : BitVec 32} (H0 : Hp w S O [(bp, .cells #[.slice a xs.length c, .I 0, .bool true, .bool false] 136 (0, 0))] [⟨Sb, 5, .slice a xs.length c, xs⟩] [] w) (hby : xs.length + 10 ≤ 1099511627776) :
 Calls Tryz.prog 103 #[.P bp 0, .int .u32 ((x.toNat : Nat) : Int)] w (Ret fun v w' => ∃ (a' : Option Addr) (c' : Nat), (v = .int .u32 ((x.toNat : Nat) : Int)) ∧ Hp w S O [(bp, .cells #[.slice a' (xs ++ num x.toNat).length c', .I 0, .bool true, .bool false] 136 (0, 0))] [⟨Sb, 5, .slice a' (xs ++ num x.toNat).length c', (xs ++ num x.toNat)⟩] [] w') := by
 have hxl := x.isLt
 refine qS (fn := Tryz.f103) (n := 18) (σ := [(0, .P bp 0), (1, .int .u32 ((x.toNat : Nat) : Int))]) Tryz.func103 ?_
 have H := H0
 refine qR 3 [.c [1, 0], .c [2]] [(0, .P bp 0), (1, .int .u32 ((x.toNat : Nat) : Int))] ?_
 refine qG (sq 0 5) ?_
 refine qP 2 (sq 2 5) [(0, .P bp 0), (6, .P bp 0), (7, .int .u32 ((x.toNat : Nat) : Int))] ?_
 refine RW.pv (κ := .seq) (d := some 8) (r := (sq 3 5)) (v' := .int .u64 ((x.toNat : Nat) : Int)) (v := .int .u64 (IntKind.u64.wrap (((x.toNat : Nat) : Int)))) (by as_aux_lemma => kernel_rfl) (wr_u64 (by omega)) ?_
 refine RW.callS (d := some 9) (r := (sq 4 5)) (g := 77) (args := #[.P bp 0, .int .u64 ((x.toNat : Nat) : Int)]) (by as_aux_lemma => kernel_rfl) (u64_spec (x := ((x.toNat : Nat) : Int)) (by omega) ((H.lend (M1 := [(bp, .cells #[.slice a xs.length c, .I 0, .bool true, .bool false] 136 (0, 0))]) (W1 := [⟨Sb, 5, .slice a xs.length c, xs⟩])).pick [] rfl) (by first | omega | (simp only [List.length_append, List.length_nil]; omega))) ?_
 rintro _ w1 ⟨a3, c4, rfl, H'⟩
 have H := H.back (M1 := [(bp, .cells #[.slice a xs.length c, .I 0, .bool true, .bool false] 136 (0, 0))]) (W1 := [⟨Sb, 5, .slice a xs.length c, xs⟩]) H'
 have H : Hp w S O [(bp, .cells #[.slice a3 ((xs ++ num ((x.toNat : Nat) : Int).toNat).length) c4, .I 0, .bool true, .bool false] 136 (0, 0))] [⟨Sb, 5, .slice a3 ((xs ++ num ((x.toNat : Nat) : Int).toNat).length) c4, (xs ++ num ((x.toNat : Nat) : Int).toNat)⟩] [] _ := H
 refine qF 1 [(0, .P bp 0), (5, .int .u64 ((x.toNat : Nat) : Int))] ?_
 refine qR 2 [.c [2, 0, 0], .c [2, 0, 1], .c [3]] [(0, .P bp 0), (5, .int .u64 ((x.toNat : Nat) : Int))] ?_
 refine qG (sq 0 3) ?_
 refine qP 1 (sq 1 3) [(0, .P bp 0), (5, .int .u64 ((x.toNat : Nat) : Int)), (10, .int .u64 ((x.toNat : Nat) : Int))] ?_
 refine RW.pv (κ := .seq) (d := some 11) (r := (sq 2 3)) (v := .int .u64 (((x.toNat : Nat) : Int).fdiv (2 ^ 32))) (v' := .int .u64 (((x.toNat : Nat) : Int) / 4294967296)) (by as_aux_lemma => kernel_rfl) (shr_id (by decide) (by omega)) ?_
 refine qF 1 [(0, .P bp 0), (5, .int .u64 ((x.toNat : Nat) : Int)), (12, .bool ((((x.toNat : Nat) : Int) / 4294967296) != 0))] ?_
 refine qN (((x.toNat : Nat) : Int) / 4294967296) 0 (fun h6 => ?_) (fun h6 => ?_)
 ·
  exact absurd h6 (by omega)
 ·
  refine qR 2 [.c [3, 0], .c [4]] [(5, .int .u64 ((x.toNat : Nat) : Int))] ?_
  refine qG (sq 0 3) ?_
  refine qP 1 (sq 1 3) [(16, .int .u64 ((x.toNat : Nat) : Int))] ?_
  refine RW.pv (κ := .seq) (d := some 17) (r := (sq 2 3)) (v' := .int .u32 ((x.toNat : Nat) : Int)) (v := .int .u32 (IntKind.u32.wrap (((x.toNat : Nat) : Int)))) (by as_aux_lemma => kernel_rfl) (wr_u32 (by omega)) ?_
  refine qF 1 [(4, .int .u32 ((x.toNat : Nat) : Int))] ?_
  refine qT (.int .u32 ((x.toNat : Nat) : Int)) Tryz.func103 ?_
  exact ⟨_, rfl, _, _, by first | rfl | trivial, H.pick [] rfl⟩
def idE (D : CID) : List (BitVec 8) := num D.version.toNat ++ (intE D.index ++ num D.epoch.toNat)
def hdrE (D : Hdr) : List (BitVec 8) := idE D.id ++ (intE D.kk ++ (intE D.nn ++ (intE D.size ++ num D.sum.toNat)))
def CidOk (D : CID) : Prop := (0 ≤ D.version ∧ D.version ≤ 18446744073709551615) ∧ (-9223372036854775808 ≤ D.index ∧ D.index ≤ 9223372036854775807) ∧ (0 ≤ D.epoch ∧ D.epoch ≤ 18446744073709551615)
def HdrOk (D : Hdr) : Prop := CidOk D.id ∧ (-9223372036854775808 ≤ D.kk ∧ D.kk ≤ 9223372036854775807) ∧ (-9223372036854775808 ≤ D.nn ∧ D.nn ≤ 9223372036854775807) ∧ (-9223372036854775808 ≤ D.size ∧ D.size ≤ 9223372036854775807)
theorem idE_len {D : CID} (h : CidOk D) : (idE D).length ≤ 30 := by
 obtain ⟨h1, h2, h3⟩ := h
 unfold idE
 rw [List.length_append, List.length_append]
 have a1 : (num D.version.toNat).length ≤ 10 := num_ten (by omega)
 have a2 := intE_ten h2
 have a3 : (num D.epoch.toNat).length ≤ 10 := num_ten (by omega)
 omega
theorem hdrE_len {D : Hdr} (h : HdrOk D) : (hdrE D).length ≤ 70 := by
 obtain ⟨h1, h2, h3, h4⟩ := h
 unfold hdrE
 rw [List.length_append, List.length_append, List.length_append, List.length_append]
 have a0 := idE_len h1
 have a1 := intE_ten h2
 have a2 := intE_ten h3
 have a3 := intE_ten h4
 have a4 : (num D.sum.toNat).length ≤ 10 := num_ten (by have := D.sum.isLt; omega)
 omega
theorem pid_spec {S : Nat → Prop} {w : World} {O : List Nat} {bp : Nat} {xs : List (BitVec 8)} {a : Option Addr} {c : Nat} {D : CID} (hD : CidOk D) (H0 : Hp w S O [(bp, .cells #[.slice a xs.length c, .I 0, .bool true, .bool false] 136 (0, 0))] [⟨Sb, 5, .slice a xs.length c, xs⟩] [] w) (hby : xs.length + 30 ≤ 1099511627776) :
 Calls Tryz.prog 97 #[.P bp 0, .agg #[.int .u64 D.version, .I D.index, .int .u64 D.epoch]] w (Ret fun v w' => ∃ (a' : Option Addr) (c' : Nat), (v = .agg #[.int .u64 D.version, .I D.index, .int .u64 D.epoch]) ∧ Hp w S O [(bp, .cells #[.slice a' (xs ++ idE D).length c', .I 0, .bool true, .bool false] 136 (0, 0))] [⟨Sb, 5, .slice a' (xs ++ idE D).length c', (xs ++ idE D)⟩] [] w') := by
 obtain ⟨hd1, hd2, hd3⟩ := hD
 have ht0 : (num D.version.toNat).length ≤ 10 := num_ten (by omega)
 have ht1 : (intE D.index).length ≤ 10 := intE_ten hd2
 have ht2 : (num D.epoch.toNat).length ≤ 10 := num_ten (by omega)
 refine qS (fn := Tryz.f97) (n := 21) (σ := [(0, .P bp 0), (1, .agg #[.int .u64 D.version, .I D.index, .int .u64 D.epoch])]) Tryz.func97 ?_
 have H := H0
 refine qR 1 [.c [0], .c [1]] [(0, .P bp 0), (1, .agg #[.int .u64 D.version, .I D.index, .int .u64 D.epoch])] ?_
 refine qG (sq 0 2) ?_
 refine qB .seq 3 (sq 1 2) #[.int .u64 D.version, .I D.index, .int .u64 D.epoch] 82 H ?_
 intro b1 w2 H
 refine qB .seq 4 (sq 2 2) #[.int .u64 0, .I 0, .int .u64 0] 82 H ?_
 intro b3 w4 H
 refine qF 0 [(0, .P bp 0), (3, .P b1 0), (4, .P b3 0)] ?_
 refine qR 1 [.c [1, 0], .c [2]] [(0, .P bp 0), (3, .P b1 0), (4, .P b3 0)] ?_
 refine qG (sq 0 6) ?_
 refine qP 2 (sq 2 6) [(0, .P bp 0), (3, .P b1 0), (4, .P b3 0), (5, .P bp 0), (6, .P b1 0)] ?_
 refine qL .seq 7 (sq 3 6) 22 b1 0 0 (.int .u64 D.version) (H.cells 1 rfl) ?_
 have H := H.frontM 2 (M' := [(bp, .cells #[.slice a xs.length c, .I 0, .bool true, .bool false] 136 (0, 0)), (b3, .cells #[.int .u64 0, .I 0, .int .u64 0] 82 (0, 0)), (b1, .cells #[.int .u64 D.version, .I D.index, .int .u64 D.epoch] 82 (0, 0))]) rfl
 refine RW.callS (d := some 8) (r := (sq 4 6)) (g := 77) (args := #[.P bp 0, .int .u64 D.version]) (by as_aux_lemma => kernel_rfl) (u64_spec (x := D.version) (by omega) ((H.lend (M1 := [(bp, .cells #[.slice a xs.length c, .I 0, .bool true, .bool false] 136 (0, 0))]) (W1 := [⟨Sb, 5, .slice a xs.length c, xs⟩])).pick [] rfl) (by first | omega | (simp only [List.length_append, List.length_nil]; omega))) ?_
 rintro _ w5 ⟨a7, c8, rfl, H'⟩
 have H := H.back (M1 := [(bp, .cells #[.slice a xs.length c, .I 0, .bool true, .bool false] 136 (0, 0))]) (W1 := [⟨Sb, 5, .slice a xs.length c, xs⟩]) H'
 have H : Hp w S O [(bp, .cells #[.slice a7 (xs ++ num D.version.toNat).length c8, .I 0, .bool true, .bool false] 136 (0, 0)), (b3, .cells #[.int .u64 0, .I 0, .int .u64 0] 82 (0, 0)), (b1, .cells #[.int .u64 D.version, .I D.index, .int .u64 D.epoch] 82 (0, 0))] [⟨Sb, 5, .slice a7 (xs ++ num D.version.toNat).length c8, (xs ++ num D.version.toNat)⟩] [] _ := H
 refine qP 1 (sq 5 6) [(0, .P bp 0), (3, .P b1 0), (4, .P b3 0), (8, .int .u64 D.version), (9, .P b1 0)] ?_
 refine qW 22 b1 0 (sq 6 6) (.int .u64 D.version) [(bp, .cells #[.slice a7 (xs ++ num D.version.toNat).length c8, .I 0, .bool true, .bool false] 136 (0, 0)), (b3, .cells #[.int .u64 0, .I 0, .int .u64 0] 82 (0, 0)), (b1, .cells #[.int .u64 D.version, .I D.index, .int .u64 D.epoch] 82 (0, 0))] H 2 rfl rfl ?_
 intro w10 H
 refine qF 0 [(0, .P bp 0), (3, .P b1 0), (4, .P b3 0)] ?_
 refine qR 1 [.c [2, 0], .c [3]] [(0, .P bp 0), (3, .P b1 0), (4, .P b3 0)] ?_
 refine qG (sq 0 6) ?_
 refine qP 2 (sq 2 6) [(0, .P bp 0), (3, .P b1 0), (4, .P b3 0), (10, .P bp 0), (11, .P b1 1)] ?_
 refine qL .seq 12 (sq 3 6) 3 b1 1 1 (.I D.index) (H.cells 2 rfl) ?_
 refine RW.callS (d := some 13) (r := (sq 4 6)) (g := 70) (args := #[.P bp 0, .I D.index]) (by as_aux_lemma => kernel_rfl) (int_spec (x := D.index) (by omega) ((H.lend (M1 := [(bp, .cells #[.slice a7 (xs ++ num D.version.toNat).length c8, .I 0, .bool true, .bool false] 136 (0, 0))]) (W1 := [⟨Sb, 5, .slice a7 (xs ++ num D.version.toNat).length c8, (xs ++ num D.version.toNat)⟩])).pick [] rfl) (by first | omega | (simp only [List.length_append, List.length_nil]; omega))) ?_
 rintro _ w11 ⟨a13, c14, rfl, H'⟩
 have H := H.back (M1 := [(bp, .cells #[.slice a7 (xs ++ num D.version.toNat).length c8, .I 0, .bool true, .bool false] 136 (0, 0))]) (W1 := [⟨Sb, 5, .slice a7 (xs ++ num D.version.toNat).length c8, (xs ++ num D.version.toNat)⟩]) H'
 have H : Hp w S O [(bp, .cells #[.slice a13 (((xs ++ num D.version.toNat) ++ intE D.index).length) c14, .I 0, .bool true, .bool false] 136 (0, 0)), (b3, .cells #[.int .u64 0, .I 0, .int .u64 0] 82 (0, 0)), (b1, .cells #[.int .u64 D.version, .I D.index, .int .u64 D.epoch] 82 (0, 0))] [⟨Sb, 5, .slice a13 (((xs ++ num D.version.toNat) ++ intE D.index).length) c14, ((xs ++ num D.version.toNat) ++ intE D.index)⟩] [] _ := H
 refine qP 1 (sq 5 6) [(0, .P bp 0), (3, .P b1 0), (4, .P b3 0), (13, .I D.index), (14, .P b1 1)] ?_
 refine qW 3 b1 1 (sq 6 6) (.I D.index) [(bp, .cells #[.slice a13 (((xs ++ num D.version.toNat) ++ intE D.index).length) c14, .I 0, .bool true, .bool false] 136 (0, 0)), (b3, .cells #[.int .u64 0, .I 0, .int .u64 0] 82 (0, 0)), (b1, .cells #[.int .u64 D.version, .I D.index, .int .u64 D.epoch] 82 (0, 0))] H 2 rfl rfl ?_
 intro w16 H
 refine qF 0 [(0, .P bp 0), (3, .P b1 0), (4, .P b3 0)] ?_
 refine qR 1 [.c [3, 0], .c [4]] [(0, .P bp 0), (3, .P b1 0), (4, .P b3 0)] ?_
 refine qG (sq 0 6) ?_
 refine qP 2 (sq 2 6) [(3, .P b1 0), (4, .P b3 0), (15, .P bp 0), (16, .P b1 2)] ?_
 refine qL .seq 17 (sq 3 6) 22 b1 2 2 (.int .u64 D.epoch) (H.cells 2 rfl) ?_
 refine RW.callS (d := some 18) (r := (sq 4 6)) (g := 77) (args := #[.P bp 0, .int .u64 D.epoch]) (by as_aux_lemma => kernel_rfl) (u64_spec (x := D.epoch) (by omega) ((H.lend (M1 := [(bp, .cells #[.slice a13 (((xs ++ num D.version.toNat) ++ intE D.index).length) c14, .I 0, .bool true, .bool false] 136 (0, 0))]) (W1 := [⟨Sb, 5, .slice a13 (((xs ++ num D.version.toNat) ++ intE D.index).length) c14, ((xs ++ num D.version.toNat) ++ intE D.index)⟩])).pick [] rfl) (by first | omega | (simp only [List.length_append, List.length_nil]; omega))) ?_
 rintro _ w17 ⟨a19, c20, rfl, H'⟩
 have H := H.back (M1 := [(bp, .cells #[.slice a13 (((xs ++ num D.version.toNat) ++ intE D.index).length) c14, .I 0, .bool true, .bool false] 136 (0, 0))]) (W1 := [⟨Sb, 5, .slice a13 (((xs ++ num D.version.toNat) ++ intE D.index).length) c14, ((xs ++ num D.version.toNat) ++ intE D.index)⟩]) H'
 have H : Hp w S O [(bp, .cells #[.slice a19 ((((xs ++ num D.version.toNat) ++ intE D.index) ++ num D.epoch.toNat).length) c20, .I 0, .bool true, .bool false] 136 (0, 0)), (b3, .cells #[.int .u64 0, .I 0, .int .u64 0] 82 (0, 0)), (b1, .cells #[.int .u64 D.version, .I D.index, .int .u64 D.epoch] 82 (0, 0))] [⟨Sb, 5, .slice a19 ((((xs ++ num D.version.toNat) ++ intE D.index) ++ num D.epoch.toNat).length) c20, (((xs ++ num D.version.toNat) ++ intE D.index) ++ num D.epoch.toNat)⟩] [] _ := H
 refine qP 1 (sq 5 6) [(3, .P b1 0), (4, .P b3 0), (18, .int .u64 D.epoch), (19, .P b1 2)] ?_
 refine qW 22 b1 2 (sq 6 6) (.int .u64 D.epoch) [(bp, .cells #[.slice a19 ((((xs ++ num D.version.toNat) ++ intE D.index) ++ num D.epoch.toNat).length) c20, .I 0, .bool true, .bool false] 136 (0, 0)), (b3, .cells #[.int .u64 0, .I 0, .int .u64 0] 82 (0, 0)), (b1, .cells #[.int .u64 D.version, .I D.index, .int .u64 D.epoch] 82 (0, 0))] H 2 rfl rfl ?_
 intro w22 H
 refine qF 0 [(3, .P b1 0), (4, .P b3 0)] ?_
 refine qR 1 [.c [4, 0], .c [5]] [(3, .P b1 0), (4, .P b3 0)] ?_
 refine qG (sq 0 2) ?_
 refine qL .seq 20 (sq 1 2) 82 b1 0 0 (.agg #[.int .u64 D.version, .I D.index, .int .u64 D.epoch]) (H.cells 2 rfl) ?_
 refine qW 82 b3 0 (sq 2 2) (.agg #[.int .u64 D.version, .I D.index, .int .u64 D.epoch]) [(bp, .cells #[.slice a19 ((((xs ++ num D.version.toNat) ++ intE D.index) ++ num D.epoch.toNat).length) c20, .I 0, .bool true, .bool false] 136 (0, 0)), (b3, .cells #[.int .u64 D.version, .I D.index, .int .u64 D.epoch] 82 (0, 0)), (b1, .cells #[.int .u64 D.version, .I D.index, .int .u64 D.epoch] 82 (0, 0))] H 1 rfl rfl ?_
 intro w23 H
 refine qF 0 [(4, .P b3 0)] ?_
 refine qRB (.agg #[.int .u64 D.version, .I D.index, .int .u64 D.epoch]) Tryz.func97 (v1 (.cell 4 82) (vC (H.cells 1 rfl))) ?_
 have hcf : (((xs ++ num D.version.toNat) ++ intE D.index) ++ num D.epoch.toNat) = xs ++ idE D := by simp [idE]
 rw [hcf] at H
 have H := H.drop (M' := [(bp, .cells #[.slice a19 (xs ++ idE D).length c20, .I 0, .bool true, .bool false] 136 (0, 0))]) (W' := [⟨Sb, 5, .slice a19 (xs ++ idE D).length c20, xs ++ idE D⟩]) (by repeat (first | exact List.Sublist.refl _ | apply List.Sublist.cons_cons | apply List.Sublist.cons)) (by repeat (first | exact List.Sublist.refl _ | apply List.Sublist.cons_cons | apply List.Sublist.cons))
 exact ⟨_, rfl, _, _, by first | rfl | trivial, H.pick [] rfl⟩
theorem phdr_spec {S : Nat → Prop} {w : World} {O : List Nat} {bp : Nat} {xs : List (BitVec 8)} {a : Option Addr} {c : Nat} {D : Hdr} (hD : HdrOk D) (H0 : Hp w S O [(bp, .cells #[.slice a xs.length c, .I 0, .bool true, .bool false] 136 (0, 0))] [⟨Sb, 5, .slice a xs.length c, xs⟩] [] w) (hby : xs.length + 70 ≤ 1099511627776) :
 Calls Tryz.prog 81 #[.P bp 0, .agg (hdrV D).toArray] w (Ret fun v w' => ∃ (a' : Option Addr) (c' : Nat), (v = .agg (hdrV D).toArray) ∧ Hp w S O [(bp, .cells #[.slice a' (xs ++ hdrE D).length c', .I 0, .bool true, .bool false] 136 (0, 0))] [⟨Sb, 5, .slice a' (xs ++ hdrE D).length c', (xs ++ hdrE D)⟩] [] w') := by
 have hD0 := hD
 obtain ⟨hd1, hd2, hd3, hd4⟩ := hD0
 have hti := idE_len hd1
 have ht0 : (intE D.kk).length ≤ 10 := intE_ten hd2
 have ht1 : (intE D.nn).length ≤ 10 := intE_ten hd3
 have ht2 : (intE D.size).length ≤ 10 := intE_ten hd4
 have ht3 : (num D.sum.toNat).length ≤ 10 := num_ten (by have := D.sum.isLt; omega)
 refine qS (fn := Tryz.f81) (n := 31) (σ := [(0, .P bp 0), (1, .agg (hdrV D).toArray)]) Tryz.func81 ?_
 have H := H0
 refine qR 1 [.c [0], .c [1]] [(0, .P bp 0), (1, .agg (hdrV D).toArray)] ?_
 refine qG (sq 0 2) ?_
 refine qB .seq 3 (sq 1 2) ((hdrV D).toArray) 84 H ?_
 intro b1 w2 H
 refine qB .seq 4 (sq 2 2) #[.int .u64 0, .I 0, .int .u64 0, .I 0, .I 0, .I 0, .int .u32 0] 84 H ?_
 intro b3 w4 H
 refine qF 0 [(0, .P bp 0), (3, .P b1 0), (4, .P b3 0)] ?_
 refine qR 1 [.c [1, 0], .c [2]] [(0, .P bp 0), (3, .P b1 0), (4, .P b3 0)] ?_
 refine qG (sq 0 6) ?_
 refine qP 2 (sq 2 6) [(0, .P bp 0), (3, .P b1 0), (4, .P b3 0), (5, .P bp 0), (6, .P b1 0)] ?_
 refine qL .seq 7 (sq 3 6) 82 b1 0 0 (.agg #[.int .u64 D.id.version, .I D.id.index, .int .u64 D.id.epoch]) (H.cells 1 rfl) ?_
 have H := H.frontM 2 (M' := [(bp, .cells #[.slice a xs.length c, .I 0, .bool true, .bool false] 136 (0, 0)), (b3, .cells #[.int .u64 0, .I 0, .int .u64 0, .I 0, .I 0, .I 0, .int .u32 0] 84 (0, 0)), (b1, .cells (hdrV D).toArray 84 (0, 0))]) rfl
 refine RW.callS (d := some 8) (r := (sq 4 6)) (g := 97) (args := #[.P bp 0, .agg #[.int .u64 D.id.version, .I D.id.index, .int .u64 D.id.epoch]]) (by as_aux_lemma => kernel_rfl) (pid_spec (D := D.id) (by first | assumption | exact hD.1) ((H.lend (M1 := [(bp, .cells #[.slice a xs.length c, .I 0, .bool true, .bool false] 136 (0, 0))]) (W1 := [⟨Sb, 5, .slice a xs.length c, xs⟩])).pick [] rfl) (by first | omega | (simp only [List.length_append, List.length_nil]; omega))) ?_
 rintro _ w5 ⟨a7, c8, rfl, H'⟩
 have H := H.back (M1 := [(bp, .cells #[.slice a xs.length c, .I 0, .bool true, .bool false] 136 (0, 0))]) (W1 := [⟨Sb, 5, .slice a xs.length c, xs⟩]) H'
 have H : Hp w S O [(bp, .cells #[.slice a7 (xs ++ idE D.id).length c8, .I 0, .bool true, .bool false] 136 (0, 0)), (b3, .cells #[.int .u64 0, .I 0, .int .u64 0, .I 0, .I 0, .I 0, .int .u32 0] 84 (0, 0)), (b1, .cells (hdrV D).toArray 84 (0, 0))] [⟨Sb, 5, .slice a7 (xs ++ idE D.id).length c8, (xs ++ idE D.id)⟩] [] _ := H
 refine qP 1 (sq 5 6) [(0, .P bp 0), (3, .P b1 0), (4, .P b3 0), (8, .agg #[.int .u64 D.id.version, .I D.id.index, .int .u64 D.id.epoch]), (9, .P b1 0)] ?_
 refine qW 82 b1 0 (sq 6 6) (.agg #[.int .u64 D.id.version, .I D.id.index, .int .u64 D.id.epoch]) [(bp, .cells #[.slice a7 (xs ++ idE D.id).length c8, .I 0, .bool true, .bool false] 136 (0, 0)), (b3, .cells #[.int .u64 0, .I 0, .int .u64 0, .I 0, .I 0, .I 0, .int .u32 0] 84 (0, 0)), (b1, .cells (hdrV D).toArray 84 (0, 0))] H 2 rfl rfl ?_
 intro w10 H
 refine qF 0 [(0, .P bp 0), (3, .P b1 0), (4, .P b3 0)] ?_
 refine qR 1 [.c [2, 0], .c [3]] [(0, .P bp 0), (3, .P b1 0), (4, .P b3 0)] ?_
 refine qG (sq 0 6) ?_
 refine qP 2 (sq 2 6) [(0, .P bp 0), (3, .P b1 0), (4, .P b3 0), (10, .P bp 0), (11, .P b1 3)] ?_
 refine qL .seq 12 (sq 3 6) 3 b1 3 3 (.I D.kk) (H.cells 2 rfl) ?_
 refine RW.callS (d := some 13) (r := (sq 4 6)) (g := 70) (args := #[.P bp 0, .I D.kk]) (by as_aux_lemma => kernel_rfl) (int_spec (x := D.kk) (by omega) ((H.lend (M1 := [(bp, .cells #[.slice a7 (xs ++ idE D.id).length c8, .I 0, .bool true, .bool false] 136 (0, 0))]) (W1 := [⟨Sb, 5, .slice a7 (xs ++ idE D.id).length c8, (xs ++ idE D.id)⟩])).pick [] rfl) (by first | omega | (simp only [List.length_append, List.length_nil]; omega))) ?_
 rintro _ w11 ⟨a13, c14, rfl, H'⟩
 have H := H.back (M1 := [(bp, .cells #[.slice a7 (xs ++ idE D.id).length c8, .I 0, .bool true, .bool false] 136 (0, 0))]) (W1 := [⟨Sb, 5, .slice a7 (xs ++ idE D.id).length c8, (xs ++ idE D.id)⟩]) H'
 have H : Hp w S O [(bp, .cells #[.slice a13 (((xs ++ idE D.id) ++ intE D.kk).length) c14, .I 0, .bool true, .bool false] 136 (0, 0)), (b3, .cells #[.int .u64 0, .I 0, .int .u64 0, .I 0, .I 0, .I 0, .int .u32 0] 84 (0, 0)), (b1, .cells (hdrV D).toArray 84 (0, 0))] [⟨Sb, 5, .slice a13 (((xs ++ idE D.id) ++ intE D.kk).length) c14, ((xs ++ idE D.id) ++ intE D.kk)⟩] [] _ := H
 refine qP 1 (sq 5 6) [(0, .P bp 0), (3, .P b1 0), (4, .P b3 0), (13, .I D.kk), (14, .P b1 3)] ?_
 refine qW 3 b1 3 (sq 6 6) (.I D.kk) [(bp, .cells #[.slice a13 (((xs ++ idE D.id) ++ intE D.kk).length) c14, .I 0, .bool true, .bool false] 136 (0, 0)), (b3, .cells #[.int .u64 0, .I 0, .int .u64 0, .I 0, .I 0, .I 0, .int .u32 0] 84 (0, 0)), (b1, .cells (hdrV D).toArray 84 (0, 0))] H 2 rfl rfl ?_
 intro w16 H
 refine qF 0 [(0, .P bp 0), (3, .P b1 0), (4, .P b3 0)] ?_
 refine qR 1 [.c [3, 0], .c [4]] [(0, .P bp 0), (3, .P b1 0), (4, .P b3 0)] ?_
 refine qG (sq 0 6) ?_
 refine qP 2 (sq 2 6) [(0, .P bp 0), (3, .P b1 0), (4, .P b3 0), (15, .P bp 0), (16, .P b1 4)] ?_
 refine qL .seq 17 (sq 3 6) 3 b1 4 4 (.I D.nn) (H.cells 2 rfl) ?_
 refine RW.callS (d := some 18) (r := (sq 4 6)) (g := 70) (args := #[.P bp 0, .I D.nn]) (by as_aux_lemma => kernel_rfl) (int_spec (x := D.nn) (by omega) ((H.lend (M1 := [(bp, .cells #[.slice a13 (((xs ++ idE D.id) ++ intE D.kk).length) c14, .I 0, .bool true, .bool false] 136 (0, 0))]) (W1 := [⟨Sb, 5, .slice a13 (((xs ++ idE D.id) ++ intE D.kk).length) c14, ((xs ++ idE D.id) ++ intE D.kk)⟩])).pick [] rfl) (by first | omega | (simp only [List.length_append, List.length_nil]; omega))) ?_
 rintro _ w17 ⟨a19, c20, rfl, H'⟩
 have H := H.back (M1 := [(bp, .cells #[.slice a13 (((xs ++ idE D.id) ++ intE D.kk).length) c14, .I 0, .bool true, .bool false] 136 (0, 0))]) (W1 := [⟨Sb, 5, .slice a13 (((xs ++ idE D.id) ++ intE D.kk).length) c14, ((xs ++ idE D.id) ++ intE D.kk)⟩]) H'
 have H : Hp w S O [(bp, .cells #[.slice a19 ((((xs ++ idE D.id) ++ intE D.kk) ++ intE D.nn).length) c20, .I 0, .bool true, .bool false] 136 (0, 0)), (b3, .cells #[.int .u64 0, .I 0, .int .u64 0, .I 0, .I 0, .I 0, .int .u32 0] 84 (0, 0)), (b1, .cells (hdrV D).toArray 84 (0, 0))] [⟨Sb, 5, .slice a19 ((((xs ++ idE D.id) ++ intE D.kk) ++ intE D.nn).length) c20, (((xs ++ idE D.id) ++ intE D.kk) ++ intE D.nn)⟩] [] _ := H
 refine qP 1 (sq 5 6) [(0, .P bp 0), (3, .P b1 0), (4, .P b3 0), (18, .I D.nn), (19, .P b1 4)] ?_
 refine qW 3 b1 4 (sq 6 6) (.I D.nn) [(bp, .cells #[.slice a19 ((((xs ++ idE D.id) ++ intE D.kk) ++ intE D.nn).length) c20, .I 0, .bool true, .bool false] 136 (0, 0)), (b3, .cells #[.int .u64 0, .I 0, .int .u64 0, .I 0, .I 0, .I 0, .int .u32 0] 84 (0, 0)), (b1, .cells (hdrV D).toArray 84 (0, 0))] H 2 rfl rfl ?_
 intro w22 H
 refine qF 0 [(0, .P bp 0), (3, .P b1 0), (4, .P b3 0)] ?_
 refine qR 1 [.c [4, 0], .c [5]] [(0, .P bp 0), (3, .P b1 0), (4, .P b3 0)] ?_
 refine qG (sq 0 6) ?_
 refine qP 2 (sq 2 6) [(0, .P bp 0), (3, .P b1 0), (4, .P b3 0), (20, .P bp 0), (21, .P b1 5)] ?_
 refine qL .seq 22 (sq 3 6) 3 b1 5 5 (.I D.size) (H.cells 2 rfl) ?_
 refine RW.callS (d := some 23) (r := (sq 4 6)) (g := 70) (args := #[.P bp 0, .I D.size]) (by as_aux_lemma => kernel_rfl) (int_spec (x := D.size) (by omega) ((H.lend (M1 := [(bp, .cells #[.slice a19 ((((xs ++ idE D.id) ++ intE D.kk) ++ intE D.nn).length) c20, .I 0, .bool true, .bool false] 136 (0, 0))]) (W1 := [⟨Sb, 5, .slice a19 ((((xs ++ idE D.id) ++ intE D.kk) ++ intE D.nn).length) c20, (((xs ++ idE D.id) ++ intE D.kk) ++ intE D.nn)⟩])).pick [] rfl) (by first | omega | (simp only [List.length_append, List.length_nil]; omega))) ?_
 rintro _ w23 ⟨a25, c26, rfl, H'⟩
 have H := H.back (M1 := [(bp, .cells #[.slice a19 ((((xs ++ idE D.id) ++ intE D.kk) ++ intE D.nn).length) c20, .I 0, .bool true, .bool false] 136 (0, 0))]) (W1 := [⟨Sb, 5, .slice a19 ((((xs ++ idE D.id) ++ intE D.kk) ++ intE D.nn).length) c20, (((xs ++ idE D.id) ++ intE D.kk) ++ intE D.nn)⟩]) H'
 have H : Hp w S O [(bp, .cells #[.slice a25 (((((xs ++ idE D.id) ++ intE D.kk) ++ intE D.nn) ++ intE D.size).length) c26, .I 0, .bool true, .bool false] 136 (0, 0)), (b3, .cells #[.int .u64 0, .I 0, .int .u64 0, .I 0, .I 0, .I 0, .int .u32 0] 84 (0, 0)), (b1, .cells (hdrV D).toArray 84 (0, 0))] [⟨Sb, 5, .slice a25 (((((xs ++ idE D.id) ++ intE D.kk) ++ intE D.nn) ++ intE D.size).length) c26, ((((xs ++ idE D.id) ++ intE D.kk) ++ intE D.nn) ++ intE D.size)⟩] [] _ := H
 refine qP 1 (sq 5 6) [(0, .P bp 0), (3, .P b1 0), (4, .P b3 0), (23, .I D.size), (24, .P b1 5)] ?_
 refine qW 3 b1 5 (sq 6 6) (.I D.size) [(bp, .cells #[.slice a25 (((((xs ++ idE D.id) ++ intE D.kk) ++ intE D.nn) ++ intE D.size).length) c26, .I 0, .bool true, .bool false] 136 (0, 0)), (b3, .cells #[.int .u64 0, .I 0, .int .u64 0, .I 0, .I 0, .I 0, .int .u32 0] 84 (0, 0)), (b1, .cells (hdrV D).toArray 84 (0, 0))] H 2 rfl rfl ?_
 intro w28 H
 refine qF 0 [(0, .P bp 0), (3, .P b1 0), (4, .P b3 0)] ?_
 refine qR 1 [.c [5, 0], .c [6]] [(0, .P bp 0), (3, .P b1 0), (4, .P b3 0)] ?_
 refine qG (sq 0 6) ?_
 refine qP 2 (sq 2 6) [(3, .P b1 0), (4, .P b3 0), (25, .P bp 0), (26, .P b1 6)] ?_
 refine qL .seq 27 (sq 3 6) 23 b1 6 6 (.int .u32 ((D.sum.toNat : Nat) : Int)) (H.cells 2 rfl) ?_
 refine RW.callS (d := some 28) (r := (sq 4 6)) (g := 103) (args := #[.P bp 0, .int .u32 ((D.sum.toNat : Nat) : Int)]) (by as_aux_lemma => kernel_rfl) (pu32_spec (x := D.sum) ((H.lend (M1 := [(bp, .cells #[.slice a25 (((((xs ++ idE D.id) ++ intE D.kk) ++ intE D.nn) ++ intE D.size).length) c26, .I 0, .bool true, .bool false] 136 (0, 0))]) (W1 := [⟨Sb, 5, .slice a25 (((((xs ++ idE D.id) ++ intE D.kk) ++ intE D.nn) ++ intE D.size).length) c26, ((((xs ++ idE D.id) ++ intE D.kk) ++ intE D.nn) ++ intE D.size)⟩])).pick [] rfl) (by first | omega | (simp only [List.length_append, List.length_nil]; omega))) ?_
 rintro _ w29 ⟨a31, c32, rfl, H'⟩
 have H := H.back (M1 := [(bp, .cells #[.slice a25 (((((xs ++ idE D.id) ++ intE D.kk) ++ intE D.nn) ++ intE D.size).length) c26, .I 0, .bool true, .bool false] 136 (0, 0))]) (W1 := [⟨Sb, 5, .slice a25 (((((xs ++ idE D.id) ++ intE D.kk) ++ intE D.nn) ++ intE D.size).length) c26, ((((xs ++ idE D.id) ++ intE D.kk) ++ intE D.nn) ++ intE D.size)⟩]) H'
 have H : Hp w S O [(bp, .cells #[.slice a31 ((((((xs ++ idE D.id) ++ intE D.kk) ++ intE D.nn) ++ intE D.size) ++ num D.sum.toNat).length) c32, .I 0, .bool true, .bool false] 136 (0, 0)), (b3, .cells #[.int .u64 0, .I 0, .int .u64 0, .I 0, .I 0, .I 0, .int .u32 0] 84 (0, 0)), (b1, .cells (hdrV D).toArray 84 (0, 0))] [⟨Sb, 5, .slice a31 ((((((xs ++ idE D.id) ++ intE D.kk) ++ intE D.nn) ++ intE D.size) ++ num D.sum.toNat).length) c32, (((((xs ++ idE D.id) ++ intE D.kk) ++ intE D.nn) ++ intE D.size) ++ num D.sum.toNat)⟩] [] _ := H
 refine qP 1 (sq 5 6) [(3, .P b1 0), (4, .P b3 0), (28, .int .u32 ((D.sum.toNat : Nat) : Int)), (29, .P b1 6)] ?_
 refine qW 23 b1 6 (sq 6 6) (.int .u32 ((D.sum.toNat : Nat) : Int)) [(bp, .cells #[.slice a31 ((((((xs ++ idE D.id) ++ intE D.kk) ++ intE D.nn) ++ intE D.size) ++ num D.sum.toNat).length) c32, .I 0, .bool true, .bool false] 136 (0, 0)), (b3, .cells #[.int .u64 0, .I 0, .int .u64 0, .I 0, .I 0, .I 0, .int .u32 0] 84 (0, 0)), (b1, .cells (hdrV D).toArray 84 (0, 0))] H 2 rfl rfl ?_
 intro w34 H
 refine qF 0 [(3, .P b1 0), (4, .P b3 0)] ?_
 refine qR 1 [.c [6, 0], .c [7]] [(3, .P b1 0), (4, .P b3 0)] ?_
 refine qG (sq 0 2) ?_
 refine qL .seq 30 (sq 1 2) 84 b1 0 0 (.agg (hdrV D).toArray) (H.cells 2 rfl) ?_
 refine qW 84 b3 0 (sq 2 2) (.agg (hdrV D).toArray) [(bp, .cells #[.slice a31 ((((((xs ++ idE D.id) ++ intE D.kk) ++ intE D.nn) ++ intE D.size) ++ num D.sum.toNat).length) c32, .I 0, .bool true, .bool false] 136 (0, 0)), (b3, .cells (hdrV D).toArray 84 (0, 0)), (b1, .cells (hdrV D).toArray 84 (0, 0))] H 1 rfl rfl ?_
 intro w35 H
 refine qF 0 [(4, .P b3 0)] ?_
 refine qRB (.agg (hdrV D).toArray) Tryz.func81 (v1 (.cell 4 84) (vC (H.cells 1 rfl))) ?_
 have hcf : (((((xs ++ idE D.id) ++ intE D.kk) ++ intE D.nn) ++ intE D.size) ++ num D.sum.toNat) = xs ++ hdrE D := by simp [hdrE]
 rw [hcf] at H
 have H := H.drop (M' := [(bp, .cells #[.slice a31 (xs ++ hdrE D).length c32, .I 0, .bool true, .bool false] 136 (0, 0))]) (W' := [⟨Sb, 5, .slice a31 (xs ++ hdrE D).length c32, xs ++ hdrE D⟩]) (by repeat (first | exact List.Sublist.refl _ | apply List.Sublist.cons_cons | apply List.Sublist.cons)) (by repeat (first | exact List.Sublist.refl _ | apply List.Sublist.cons_cons | apply List.Sublist.cons))
 exact ⟨_, rfl, _, _, by first | rfl | trivial, H.pick [] rfl⟩
def textE (s : ByteArray) : List (BitVec 8) := bytesE (bytesOf s)
theorem text_spec {S : Nat → Prop} {w : World} {O : List Nat} {bp : Nat} {xs : List (BitVec 8)} {a : Option Addr} {c : Nat} {s : ByteArray} (hs : s.size ≤ maxLen) (H0 : Hp w S O [(bp, .cells #[.slice a xs.length c, .I 0, .bool true, .bool false] 136 (0, 0))] [⟨Sb, 5, .slice a xs.length c, xs⟩] [] w) (hby : xs.length + (s.size + 10) ≤ 1099511627776) :
 Calls Tryz.prog 83 #[.P bp 0, .string s] w (Ret fun v w' => ∃ (a' : Option Addr) (c' : Nat), (∃ t : ByteArray, v = .string t) ∧ Hp w S O [(bp, .cells #[.slice a' (xs ++ textE s).length c', .I 0, .bool true, .bool false] 136 (0, 0))] [⟨Sb, 5, .slice a' (xs ++ textE s).length c', (xs ++ textE s)⟩] [] w') := by
 have hbl := bytesOf_len s
 refine qS (fn := Tryz.f83) (n := 10) (σ := [(0, .P bp 0), (1, .string s)]) Tryz.func83 ?_
 have H := H0
 refine qR 3 [.c [1, 0], .c [2]] [(0, .P bp 0), (1, .string s)] ?_
 refine qG (sq 0 6) ?_
 refine qP 2 (sq 2 6) [(5, .P bp 0), (6, .string s)] ?_
 refine RW.ofStr (κ := .seq) (d := some 7) (r := (sq 3 6)) (Ts := 9) (Td := 62) 5 (s := s) (by as_aux_lemma => kernel_rfl) (nofun) (by as_aux_lemma => kernel_rfl) hs H ?_
 intro a1 c2 w3 H
 have H : Hp w S O [(bp, .cells #[.slice a xs.length c, .I 0, .bool true, .bool false] 136 (0, 0))] [⟨Sb, 5, .slice a xs.length c, xs⟩] [Rp SB [.slice a1 (bytesOf s).length c2] (bytesOf s)] _ := H
 refine RW.callS (d := some 8) (r := (sq 4 6)) (g := 82) (args := #[.P bp 0, .slice a1 (bytesOf s).length c2]) (by as_aux_lemma => kernel_rfl) (bytes_spec (ys := (bytesOf s)) ((H.lend (M1 := [(bp, .cells #[.slice a xs.length c, .I 0, .bool true, .bool false] 136 (0, 0))]) (W1 := [⟨Sb, 5, .slice a xs.length c, xs⟩])).pick [0] rfl) (by first | omega | (simp only [List.length_append, List.length_nil]; omega))) ?_
 rintro _ w4 ⟨a6, c7, rfl, H'⟩
 have H := H.back (M1 := [(bp, .cells #[.slice a xs.length c, .I 0, .bool true, .bool false] 136 (0, 0))]) (W1 := [⟨Sb, 5, .slice a xs.length c, xs⟩]) H'
 have H : Hp w S O [(bp, .cells #[.slice a6 ((xs ++ bytesE (bytesOf s)).length) c7, .I 0, .bool true, .bool false] 136 (0, 0))] [⟨Sb, 5, .slice a6 ((xs ++ bytesE (bytesOf s)).length) c7, (xs ++ bytesE (bytesOf s))⟩] [Rp SB [.slice a1 (bytesOf s).length c2] (bytesOf s)] _ := H
 refine RW.toStr (κ := .seq) (d := some 9) (r := (sq 5 6)) (Ts := 62) (Td := 9) 5 (a := a1) (len := (bytesOf s).length) (cap := c2) (xs := bytesOf s) (by as_aux_lemma => kernel_rfl) (by as_aux_lemma => kernel_rfl) (H.rp 0 rfl) ?_
 refine qF 1 [(4, .string (strOf (bytesOf s)))] ?_
 refine qT (.string (strOf (bytesOf s))) Tryz.func83 ?_
 exact ⟨_, rfl, _, _, ⟨_, rfl⟩, H.pick [] rfl⟩
end Go.Proofs.YtppcdmbkgficiaaGreat
