import Derived.Test.YtkjkmogipidkiaaGreatSBxA
import Derived.Test.YtkjkmogipidkiaaGreatSA0
namespace Go.Proofs.YtkjkmogipidkiaaGreat
open Go.BX
def num (n : Nat) : List (BitVec 8) := if n < 128 then [BitVec.ofNat 8 n] else (BitVec.ofInt 8 ((n : Int) % 128) ||| 128#8) :: num (n / 128)
termination_by n
decreasing_by omega
theorem num_lo {n : Nat} (h : n < 128) : num n = [BitVec.ofNat 8 n] := by
 rw [num, if_pos h]
theorem num_hi {n : Nat} (h : ¬ n < 128) : num n = (BitVec.ofInt 8 ((n : Int) % 128) ||| 128#8) :: num (n / 128) := by
 rw [num, if_neg h]
theorem num_pos (n : Nat) : 0 < (num n).length := by
 by_cases h : n < 128
 · rw [num_lo h]; simp
 · rw [num_hi h]; simp
theorem num_len : ∀ (k : Nat) {n : Nat}, n < 128 ^ (k + 1) → (num n).length ≤ k + 1
 | 0, n, h => by
  rw [num_lo (by omega)]; simp
 | k + 1, n, h => by
  by_cases h1 : n < 128
  · rw [num_lo h1]; simp
  · rw [num_hi h1, List.length_cons]
    have := num_len k (n := n / 128) (by rw [Nat.pow_succ] at h; omega)
    omega
theorem num_ten {n : Nat} (h : n ≤ 18446744073709551615) : (num n).length ≤ 10 := num_len 9 (by
 have : (128 : Nat) ^ 10 = 1180591620717411303424 := by decide
 omega)
def intE (x : Int) : List (BitVec 8) := if x ≥ 0 then num (2 * x).toNat else num (2 * (-1 - x) + 1).toNat
theorem intE_ten {x : Int} (h : -9223372036854775808 ≤ x ∧ x ≤ 9223372036854775807) : (intE x).length ≤ 10 := by
 unfold intE
 split <;> exact num_ten (by omega)
def intsE : List Int → List (BitVec 8)
 | [] => []
 | x :: r => intE x ++ intsE r
theorem intsE_app : ∀ (xs ys : List Int), intsE (xs ++ ys) = intsE xs ++ intsE ys
 | [], _ => rfl
 | x :: r, ys => by
  show intE x ++ intsE (r ++ ys) = intE x ++ intsE r ++ intsE ys
  rw [intsE_app r ys, List.append_assoc]
theorem intsE_take {xs : List Int} {k : Nat} (h : k < xs.length) : intsE (xs.take (k + 1)) = intsE (xs.take k) ++ intE xs[k] := by
 rw [List.take_succ_eq_append_getElem h, intsE_app]
 simp [intsE]
theorem intsE_len : ∀ {xs : List Int}, (∀ x ∈ xs, -9223372036854775808 ≤ x ∧ x ≤ 9223372036854775807) → (intsE xs).length ≤ 10 * xs.length
 | [], _ => Nat.zero_le _
 | x :: r, h => by
  have h1 := intE_ten (h x (by simp))
  have h2 := intsE_len (xs := r) fun y hy => h y (by simp [hy])
  show (intE x ++ intsE r).length ≤ _
  rw [List.length_append, List.length_cons]
  omega
theorem rep_ints {S : Nat → Prop} {w : World} {cs : List Value} {xs : List Int} (h : (Shape.slice (Shape.int .i64)).rep S w cs xs) : ∀ x ∈ xs, -9223372036854775808 ≤ x ∧ x ≤ 9223372036854775807 := by
 intro x hx
 obtain ⟨a, c, _, _, _, hE⟩ := h
 obtain ⟨i, hi⟩ := List.mem_iff_getElem?.1 hx
 obtain ⟨b, o, es, _, _, _, hr⟩ := hE i x hi
 exact Shape.i64_bd hr
theorem copied_spec {S : Nat → Prop} {w : World} {xs : List (BitVec 8)} {a : Option Addr} {c : Nat} (h : SB.rep S w [.slice a xs.length c] xs) (hby : xs.length ≤ 1099511627776) :
 Calls Tryz.prog 139 #[.slice a xs.length c] w (Ret fun v w' => Ext w w' ∧ Hp w S [] [] [⟨Sb, 5, v, xs⟩] [] w') := by
 refine uS1 Tryz.func139 ?_
 have H := Hp.startF (.rp h .nil)
 refine uR 3 [.c [1, 0], .c [2]] ?_
 refine qG (sq 0 4) ?_
 refine RW.new (κ := .seq) (d := some 3) (r := (sq 1 4)) (o := .cells #[] 5 (0, 0)) (v := fun b => .slice (some ⟨b, 0, none⟩) 0 0) (fun b => by as_aux_lemma => kernel_rfl) (nofun) H ?_
 intro g _ H
 refine uP 1 ?_
 have H := H.toOwn (sh := Sb) (xs := []) (cap := 0) (by rfl) (Nat.le_refl _) (Nat.zero_le _) (by simp) EsP.nil
 have H : Hp w S [] [] [⟨Sb, 5, .slice (some ⟨g, 0, none⟩) 0 0, []⟩] [_] _ := H
 refine uA 29 29 1 xs H 0 rfl 0 rfl (rfl) (by omega) ?_
 intro e f _ H _
 have H : Hp w S [] [] [⟨Sb, 5, .slice e xs.length f, xs⟩] [_] _ := H
 refine uF 1 ?_
 refine qT (.slice e xs.length f) Tryz.func139 ?_
 exact ⟨_, rfl, H.done, H.pick [] rfl⟩
theorem putnumN_spec {S : Nat → Prop} {w : World} {xs : List (BitVec 8)} {a : Option Addr} {c : Nat} (h : SB.rep S w [.slice a xs.length c] xs) (n : Nat) (hn : n ≤ 18446744073709551615) (hby : xs.length ≤ 1099511627776) :
 Calls Tryz.prog 123 #[.slice a xs.length c, .int .u64 (n : Int)] w (Ret fun v w' => Ext w w' ∧ Hp w S [] [] [⟨Sb, 5, v, xs ++ num n⟩] [] w') := by
 have hten := num_ten hn
 refine uS1 Tryz.func123 ?_
 have H := Hp.startF (.rp h .nil)
 refine uR 3 [.c [1, 0], .c [2]] ?_
 refine qG (sq 0 3) ?_
 refine uP 1 ?_
 refine uK (copied_spec (xs := xs) (H.rp 0 rfl) (by first | omega | simp)) ?_
 rintro _ _ - H'
 have H := H.back (M1 := []) (W1 := []) H'
 obtain ⟨x, y, rfl, _, _⟩ := H.ownForm 0 rfl
 have H : Hp w S [] [] [⟨Sb, 5, .slice x xs.length y, xs⟩] [_] _ := H
 refine uF 1 ?_
 refine uR 2 [.c [2, 0, 0], .b 0, .c [3]] ?_
 refine uL (α := Nat × List (BitVec 8) × Option Addr × Nat) (g := 123) (p := [2, 0, 0, 0]) (fun (m, rs, f, i) => [(1, .int .u64 (m : Int)), (5, .slice f rs.length i)]) (fun (m, rs, f, i) w' => Hp w S [] [] [⟨Sb, 5, .slice f rs.length i, rs⟩] [Rp SB [.slice a xs.length c] xs] w' ∧ m ≤ 18446744073709551615 ∧ rs ++ num m = xs ++ num n) (fun (m, rs, f, i) => m) (n, xs, x, y) ⟨H, hn, rfl⟩ ?_
 rintro ⟨m, rs, f, i⟩ _ ⟨H, e⟩ k
 have z := congrArg List.length e.2
 simp only [List.length_append] at z
 have D := num_pos m
 refine uR 3 [.c [2, 0, 0, 0, 0, 1], .c [2, 0, 0, 0, 1], .l [2, 0, 0, 0], .b 0, .c [3]] ?_
 refine qD (((m : Int) : Int) ≥ 128) (fun C => ?_) (fun C => ?_)
 ·
  refine uR 3 [.c [2, 0, 0, 0, 1, 0, 0], .c [2, 0, 0, 0, 1, 0, 1], .b 1, .l [2, 0, 0, 0], .b 0, .c [3]] ?_
  refine qG (sq 0 8) ?_
  refine uP 2 ?_
  refine RW.pv (κ := .seq) (d := some 12) (r := (sq 3 8)) (v := .int .u64 (IntKind.u64.wrap ((BitVec.ofInt 64 (m : Int) &&& BitVec.ofInt 64 127).toNat : Nat))) (v' := .int .u64 ((m : Int) % 128)) (by as_aux_lemma => kernel_rfl) (and_u64 (j := 7) (m := 127) (by decide) (by decide) (by omega)) ?_
  refine RW.pv (κ := .seq) (d := some 13) (r := (sq 4 8)) (v := .int .u8 (IntKind.u8.wrap ((m : Int) % 128))) (v' := .int .u8 (((BitVec.ofInt 8 ((m : Int) % 128)).toNat : Nat) : Int)) (by as_aux_lemma => kernel_rfl) (wrap_bv8 _) ?_
  refine RW.pv (κ := .seq) (d := some 14) (r := (sq 5 8)) (v := .int .u8 (IntKind.u8.wrap ((BitVec.ofInt 8 (((BitVec.ofInt 8 ((m : Int) % 128)).toNat : Nat) : Int) ||| BitVec.ofInt 8 128).toNat : Nat))) (v' := .int .u8 (((((BitVec.ofInt 8 ((m : Int) % 128)) ||| (128#8)).toNat : Nat) : Int))) (by as_aux_lemma => kernel_rfl) (bv_or8 (bvi _) (by decide)) ?_
  refine RW.new (κ := .seq) (d := some 15) (r := (sq 6 8)) (o := .cells #[.int .u8 ((((BitVec.ofInt 8 ((m : Int) % 128)) ||| (128#8)).toNat : Nat) : Int)] 5 (0, 0)) (v := fun b => .slice (some ⟨b, 0, none⟩) 1 1) (fun b => by as_aux_lemma => kernel_rfl) (nofun) H ?_
  intro A _ H
  have H := H.freeze 0 rfl Sb ([(BitVec.ofInt 8 ((m : Int) % 128)) ||| (128#8)] : List (BitVec 8)) 1 (by simp [maxLen]) (by first | exact Nat.le_refl _ | simp) (EsP.cons (c := [.int .u8 ((((BitVec.ofInt 8 ((m : Int) % 128)) ||| (128#8)).toNat : Nat) : Int)]) Shape.bv_mk EsP.nil)
  have H : Hp w S [] [] [_] [Rp SB [.slice (some ⟨A, 0, none⟩) 1 1] ([(BitVec.ofInt 8 ((m : Int) % 128)) ||| (128#8)] : List (BitVec 8)), _] _ := H
  refine uA 29 29 1 (rs ++ ([(BitVec.ofInt 8 ((m : Int) % 128)) ||| (128#8)] : List (BitVec 8))) H 0 rfl 0 rfl (rfl) (by simp; omega) ?_
  intro q s _ H _
  have H : Hp w S [] [] [⟨Sb, 5, .slice q ((rs ++ ([(BitVec.ofInt 8 ((m : Int) % 128)) ||| (128#8)] : List (BitVec 8))).length) s, rs ++ ([(BitVec.ofInt 8 ((m : Int) % 128)) ||| (128#8)] : List (BitVec 8))⟩] [_, _] _ := H
  refine uF 1 ?_
  refine qG (sq 0 3) ?_
  refine uP 1 ?_
  refine RW.pv (κ := .seq) (d := some 18) (r := (sq 2 3)) (v := .int .u64 ((m : Int).fdiv (2 ^ 7))) (v' := .int .u64 ((m : Int) / 128)) (by as_aux_lemma => kernel_rfl) (shr_id (by decide) (by omega)) ?_
  refine uF 1 ?_
  refine qR 1 [.l [2, 0, 0, 0], .b 0, .c [3]] [(1, .int .u64 ((m : Int) / 128)), (5, .slice q ((rs ++ ([(BitVec.ofInt 8 ((m : Int) % 128)) ||| (128#8)] : List (BitVec 8))).length) s)] ?_
  have H := H.pick [1] rfl
  exact WK.back (k (m / 128, rs ++ ([(BitVec.ofInt 8 ((m : Int) % 128)) ||| (128#8)] : List (BitVec 8)), q, s) _ ⟨H, by omega, by rw [← e.2, num_hi (n := m) (by omega)]; simp⟩ (by simp only []; omega)) (by rfl)
 ·
  refine uR 2 [.c [3, 0], .c [4]] ?_
  refine qG (sq 0 6) ?_
  refine uP 2 ?_
  refine RW.pv (κ := .seq) (d := some 21) (r := (sq 3 6)) (v := .int .u8 (IntKind.u8.wrap ((m : Int)))) (v' := .int .u8 (((BitVec.ofNat 8 m).toNat : Nat) : Int)) (by as_aux_lemma => kernel_rfl) ((wrap_bv8 _).trans (by rw [bv_nat])) ?_
  refine RW.new (κ := .seq) (d := some 22) (r := (sq 4 6)) (o := .cells #[.int .u8 (((BitVec.ofNat 8 m).toNat : Nat) : Int)] 5 (0, 0)) (v := fun b => .slice (some ⟨b, 0, none⟩) 1 1) (fun b => by as_aux_lemma => kernel_rfl) (nofun) H ?_
  intro B _ H
  have H := H.freeze 0 rfl Sb ([BitVec.ofNat 8 m] : List (BitVec 8)) 1 (by simp [maxLen]) (by first | exact Nat.le_refl _ | simp) (EsP.cons (c := [.int .u8 (((BitVec.ofNat 8 m).toNat : Nat) : Int)]) Shape.bv_mk EsP.nil)
  have H : Hp w S [] [] [_] [Rp SB [.slice (some ⟨B, 0, none⟩) 1 1] ([BitVec.ofNat 8 m] : List (BitVec 8)), _] _ := H
  refine uA 29 29 1 (rs ++ ([BitVec.ofNat 8 m] : List (BitVec 8))) H 0 rfl 0 rfl (rfl) (by simp; omega) ?_
  intro t u _ H _
  have H : Hp w S [] [] [⟨Sb, 5, .slice t ((rs ++ ([BitVec.ofNat 8 m] : List (BitVec 8))).length) u, rs ++ ([BitVec.ofNat 8 m] : List (BitVec 8))⟩] [_, _] _ := H
  refine uF 1 ?_
  refine qT (.slice t ((rs ++ ([BitVec.ofNat 8 m] : List (BitVec 8))).length) u) Tryz.func123 ?_
  exact ⟨_, rfl, H.done, (H.pick [] rfl).reW (by rw [← e.2, num_lo (n := m) (by omega)])⟩
theorem putnum_spec {S : Nat → Prop} {w : World} {xs : List (BitVec 8)} {a : Option Addr} {c : Nat} (h : SB.rep S w [.slice a xs.length c] xs) (x : Int) (hn : 0 ≤ x ∧ x ≤ 18446744073709551615) (hby : xs.length ≤ 1099511627776) :
 Calls Tryz.prog 123 #[.slice a xs.length c, .int .u64 x] w (Ret fun v w' => Ext w w' ∧ Hp w S [] [] [⟨Sb, 5, v, xs ++ num x.toNat⟩] [] w') := by
 obtain ⟨n, rfl⟩ := Int.eq_ofNat_of_zero_le hn.1
 rw [Int.toNat_natCast]
 exact putnumN_spec h n (by omega) hby
theorem putint_spec {S : Nat → Prop} {w : World} {xs : List (BitVec 8)} {a : Option Addr} {c : Nat} (h : SB.rep S w [.slice a xs.length c] xs) (x : Int) (hn : -9223372036854775808 ≤ x ∧ x ≤ 9223372036854775807) (hby : xs.length ≤ 1099511627776) :
 Calls Tryz.prog 121 #[.slice a xs.length c, .I x] w (Ret fun v w' => Ext w w' ∧ Hp w S [] [] [⟨Sb, 5, v, xs ++ intE x⟩] [] w') := by
 refine uS1 Tryz.func121 ?_
 have H := Hp.startF (.rp h .nil)
 refine uR 5 [.c [1, 0, 1], .c [2]] ?_
 refine qD ((x : Int) ≥ 0) (fun i => ?_) (fun i => ?_)
 ·
  refine uR 1 [.c [1, 0, 1, 0, 0], .c [1, 0, 1, 0, 1], .c [2]] ?_
  refine qG (sq 0 6) ?_
  refine uP 2 ?_
  refine RW.pv (κ := .seq) (d := some 9) (r := (sq 3 6)) (v := .int .u64 (IntKind.u64.wrap (x))) (v' := .int .u64 (x)) (by as_aux_lemma => kernel_rfl) (wr_u64 (by omega)) ?_
  refine RW.pv (κ := .seq) (d := some 10) (r := (sq 4 6)) (v := .int .u64 (IntKind.u64.wrap (2 * x))) (v' := .int .u64 (2 * x)) (by as_aux_lemma => kernel_rfl) (wr_u64 (by omega)) ?_
  refine uK (putnum_spec (xs := xs) (H.rp 0 rfl) (2 * x) (by omega) (by first | omega | simp)) ?_
  rintro _ _ - H'
  have H := H.back (M1 := []) (W1 := []) H'
  obtain ⟨f, g, rfl, _, _⟩ := H.ownForm 0 rfl
  have H : Hp w S [] [] [⟨Sb, 5, .slice f ((xs ++ num ((2 * x).toNat)).length) g, (xs ++ num ((2 * x).toNat))⟩] [_] _ := H
  refine uF 1 ?_
  refine qT (.slice f ((xs ++ num ((2 * x).toNat)).length) g) Tryz.func121 ?_
  exact ⟨_, rfl, H.done, (H.pick [] rfl).reW (by unfold intE; rw [if_pos (by omega)]) (by rfl)⟩
 ·
  refine uR 2 [.c [2, 0], .c [3]] ?_
  refine qG (sq 0 8) ?_
  refine uP 2 ?_
  refine uI ((-1) - x) ?_
  refine RW.pv (κ := .seq) (d := some 15) (r := (sq 4 8)) (v := .int .u64 (IntKind.u64.wrap ((-1) - x))) (v' := .int .u64 ((-1) - x)) (by as_aux_lemma => kernel_rfl) (wr_u64 (by omega)) ?_
  refine RW.pv (κ := .seq) (d := some 16) (r := (sq 5 8)) (v := .int .u64 (IntKind.u64.wrap (2 * ((-1) - x)))) (v' := .int .u64 (2 * ((-1) - x))) (by as_aux_lemma => kernel_rfl) (wr_u64 (by omega)) ?_
  refine RW.pv (κ := .seq) (d := some 17) (r := (sq 6 8)) (v := .int .u64 (IntKind.u64.wrap ((2 * ((-1) - x)) + 1))) (v' := .int .u64 ((2 * ((-1) - x)) + 1)) (by as_aux_lemma => kernel_rfl) (wr_u64 (by omega)) ?_
  refine uK (putnum_spec (xs := xs) (H.rp 0 rfl) ((2 * ((-1) - x)) + 1) (by omega) (by first | omega | simp)) ?_
  rintro _ _ - H'
  have H := H.back (M1 := []) (W1 := []) H'
  obtain ⟨b, e, rfl, _, _⟩ := H.ownForm 0 rfl
  have H : Hp w S [] [] [⟨Sb, 5, .slice b ((xs ++ num (((2 * ((-1) - x)) + 1).toNat)).length) e, (xs ++ num (((2 * ((-1) - x)) + 1).toNat))⟩] [_] _ := H
  refine uF 1 ?_
  refine qT (.slice b ((xs ++ num (((2 * ((-1) - x)) + 1).toNat)).length) e) Tryz.func121 ?_
  exact ⟨_, rfl, H.done, (H.pick [] rfl).reW (by unfold intE; rw [if_neg (by omega)]) (by rfl)⟩
theorem writer_spec {S : Nat → Prop} {w : World} {ys : List (BitVec 8)} {a0 : Option Addr} {c0 : Nat} (h : SB.rep S w [.slice a0 ys.length c0] ys) (hby : ys.length ≤ 1099511627776) :
 Calls Tryz.prog 59 #[.slice a0 ys.length c0] w (Ret fun v w' => Ext w w' ∧ ∃ (bp : Nat) (a' : Option Addr) (c' : Nat), v = .P bp 0 ∧ Hp w S [] [(bp, .cells #[.slice a' ys.length c', .I 0, .bool true, .bool false] 130 (0, 0))] [⟨Sb, 5, .slice a' ys.length c', ys⟩] [] w') := by
 refine uS1 Tryz.func59 ?_
 have H := Hp.startF (.rp h .nil)
 refine uR 3 [.c [1, 0], .c [2]] ?_
 refine qG (sq 0 6) ?_
 refine RW.new (κ := .seq) (d := some 3) (r := (sq 1 6)) (o := .cells #[] 5 (0, 0)) (v := fun b => .slice (some ⟨b, 0, none⟩) 0 0) (fun b => by as_aux_lemma => kernel_rfl) (nofun) H ?_
 intro f _ H
 refine uP 1 ?_
 have H := H.toOwn (sh := Sb) (xs := []) (cap := 0) (by rfl) (Nat.le_refl _) (Nat.zero_le _) (by simp) EsP.nil
 have H : Hp w S [] [] [⟨Sb, 5, .slice (some ⟨f, 0, none⟩) 0 0, []⟩] [_] _ := H
 refine uA 29 29 1 ys H 0 rfl 0 rfl (rfl) (by omega) ?_
 intro a e _ H _
 have H : Hp w S [] [] [⟨Sb, 5, .slice a ys.length e, ys⟩] [_] _ := H
 refine uP 1 ?_
 refine uC #[.slice a ys.length e, .I 0, .bool true, .bool false] 130 H ?_
 intro g _ H
 refine uF 1 ?_
 refine qT (.P g 0) Tryz.func59 ?_
 exact ⟨_, rfl, H.done, _, _, _, rfl, H.pick [] rfl⟩
theorem u64_spec {S : Nat → Prop} {w : World} {O : List Nat} {bp : Nat} {xs : List (BitVec 8)} {a : Option Addr} {c : Nat} {x : Int} (hn : 0 ≤ x ∧ x ≤ 18446744073709551615) (H0 : Hp w S O [(bp, .cells #[.slice a xs.length c, .I 0, .bool true, .bool false] 130 (0, 0))] [⟨Sb, 5, .slice a xs.length c, xs⟩] [] w) (hby : xs.length + 10 ≤ 1099511627776) :
 Calls Tryz.prog 95 #[.P bp 0, .int .u64 x] w (Ret fun v w' => ∃ (a' : Option Addr) (c' : Nat), (v = .int .u64 x) ∧ Hp w S O [(bp, .cells #[.slice a' (xs ++ num x.toNat).length c', .I 0, .bool true, .bool false] 130 (0, 0))] [⟨Sb, 5, .slice a' (xs ++ num x.toNat).length c', (xs ++ num x.toNat)⟩] [] w') := by
 have hten : (num x.toNat).length ≤ 10 := num_ten (by omega)
 refine uS1 Tryz.func95 ?_
 have H := H0
 refine uR 4 [.c [1, 0, 0], .c [1, 0, 1], .c [2]] ?_
 refine qG (sq 0 4) ?_
 refine uP 3 ?_
 refine uV 4 2 (H.cells 0 rfl) ?_
 refine uF 0 ?_
 refine qR 2 [.c [1, 0, 1, 0, 0], .c [1, 0, 1, 0, 1], .c [2]] [(0, .P bp 0), (1, .int .u64 x)] ?_
 refine WK.drawP1 7 [0, 1, 2, 3, 5] [(17, .int .u64 x), (15, .P bp 0), (14, .P bp 0), (13, .P bp 0), (12, .P bp 0), (0, .P bp 0), (1, .int .u64 x)] [(4, .qui), (6, .chn)] [(4, .qui), (6, .chn), (7, .seq), (8, .seq), (9, .seq), (10, .seq)] Tryz_mixed (by as_aux_lemma => kernel_rfl) (by as_aux_lemma => kernel_rfl) (by as_aux_lemma => kernel_rfl) (by as_aux_lemma => kernel_rfl) ?_
 have H := H.draw
 generalize ({ w with drawn := w.drawn + 1 } : World) = g at H ⊢
 refine uV 29 0 (H.cells 0 rfl) ?_
 have H := H.addRp SB [.slice none 0 0] [] Shape.slice_nil
 refine uK (putnum_spec (xs := ([] : List (BitVec 8))) (H.rp 0 rfl) x (by omega) (by first | omega | simp)) ?_
 rintro _ _ - H'
 have H := H.back (M1 := []) (W1 := []) H'
 obtain ⟨b, d, rfl, _, _⟩ := H.ownForm 0 rfl
 have H : Hp w S O [_] [⟨Sb, 5, .slice b (num x.toNat).length d, num x.toNat⟩, _] [_] _ := H
 have H : Hp w S O [_] [_] [Rp SB [.slice b (num x.toNat).length d] (num x.toNat), _] _ := H.freezeW 0 rfl
 refine uA 29 29 1 (xs ++ (num x.toNat)) H 0 rfl 0 rfl (rfl) (by simp; omega) ?_
 intro e f _ H _
 have H : Hp w S O [_] [⟨Sb, 5, .slice e ((xs ++ (num x.toNat)).length) f, xs ++ (num x.toNat)⟩] [_, _] _ := H
 refine uP 2 ?_
 refine uW 29 0 #[.slice e ((xs ++ (num x.toNat)).length) f, .I 0, .bool true, .bool false] H 0 rfl ?_
 intro _ H
 refine uF 0 ?_
 refine uR 2 [.c [1, 0, 1, 0, 2], .c [2]] ?_
 refine qT (.int .u64 x) Tryz.func95 ?_
 exact ⟨_, rfl, _, _, by first | rfl | trivial, H.pick [] rfl⟩
theorem int_spec {S : Nat → Prop} {w : World} {O : List Nat} {bp : Nat} {xs : List (BitVec 8)} {a : Option Addr} {c : Nat} {x : Int} (hn : -9223372036854775808 ≤ x ∧ x ≤ 9223372036854775807) (H0 : Hp w S O [(bp, .cells #[.slice a xs.length c, .I 0, .bool true, .bool false] 130 (0, 0))] [⟨Sb, 5, .slice a xs.length c, xs⟩] [] w) (hby : xs.length + 10 ≤ 1099511627776) :
 Calls Tryz.prog 94 #[.P bp 0, .I x] w (Ret fun v w' => ∃ (a' : Option Addr) (c' : Nat), (v = .I x) ∧ Hp w S O [(bp, .cells #[.slice a' (xs ++ intE x).length c', .I 0, .bool true, .bool false] 130 (0, 0))] [⟨Sb, 5, .slice a' (xs ++ intE x).length c', (xs ++ intE x)⟩] [] w') := by
 have hten := intE_ten hn
 refine uS1 Tryz.func94 ?_
 have H := H0
 refine uR 4 [.c [1, 0, 0], .c [1, 0, 1], .c [2]] ?_
 refine qG (sq 0 4) ?_
 refine uP 3 ?_
 refine uV 4 2 (H.cells 0 rfl) ?_
 refine uF 0 ?_
 refine qR 2 [.c [1, 0, 1, 0, 0], .c [1, 0, 1, 0, 1], .c [2]] [(0, .P bp 0), (1, .I x)] ?_
 refine WK.drawP1 7 [0, 1, 2, 3, 5] [(17, .I x), (15, .P bp 0), (14, .P bp 0), (13, .P bp 0), (12, .P bp 0), (0, .P bp 0), (1, .I x)] [(4, .qui), (6, .chn)] [(4, .qui), (6, .chn), (7, .seq), (8, .seq), (9, .seq), (10, .seq)] Tryz_mixed (by as_aux_lemma => kernel_rfl) (by as_aux_lemma => kernel_rfl) (by as_aux_lemma => kernel_rfl) (by as_aux_lemma => kernel_rfl) ?_
 have H := H.draw
 generalize ({ w with drawn := w.drawn + 1 } : World) = g at H ⊢
 refine uV 29 0 (H.cells 0 rfl) ?_
 have H := H.addRp SB [.slice none 0 0] [] Shape.slice_nil
 refine uK (putint_spec (xs := ([] : List (BitVec 8))) (H.rp 0 rfl) x (by omega) (by first | omega | simp)) ?_
 rintro _ _ - H'
 have H := H.back (M1 := []) (W1 := []) H'
 obtain ⟨b, d, rfl, _, _⟩ := H.ownForm 0 rfl
 have H : Hp w S O [_] [⟨Sb, 5, .slice b (intE x).length d, intE x⟩, _] [_] _ := H
 have H : Hp w S O [_] [_] [Rp SB [.slice b (intE x).length d] (intE x), _] _ := H.freezeW 0 rfl
 refine uA 29 29 1 (xs ++ (intE x)) H 0 rfl 0 rfl (rfl) (by simp; omega) ?_
 intro e f _ H _
 have H : Hp w S O [_] [⟨Sb, 5, .slice e ((xs ++ (intE x)).length) f, xs ++ (intE x)⟩] [_, _] _ := H
 refine uP 2 ?_
 refine uW 29 0 #[.slice e ((xs ++ (intE x)).length) f, .I 0, .bool true, .bool false] H 0 rfl ?_
 intro _ H
 refine uF 0 ?_
 refine uR 2 [.c [1, 0, 1, 0, 2], .c [2]] ?_
 refine qT (.I x) Tryz.func94 ?_
 exact ⟨_, rfl, _, _, by first | rfl | trivial, H.pick [] rfl⟩
theorem len_spec {S : Nat → Prop} {w : World} {O : List Nat} {bp : Nat} {xs : List (BitVec 8)} {a : Option Addr} {c : Nat} {k : Nat} (hn : k ≤ 9223372036854775807) (H0 : Hp w S O [(bp, .cells #[.slice a xs.length c, .I 0, .bool true, .bool false] 130 (0, 0))] [⟨Sb, 5, .slice a xs.length c, xs⟩] [] w) (hby : xs.length + 10 ≤ 1099511627776) :
 Calls Tryz.prog 128 #[.P bp 0, .I k] w (Ret fun v w' => ∃ (a' : Option Addr) (c' : Nat), (v = .I k) ∧ Hp w S O [(bp, .cells #[.slice a' (xs ++ num k).length c', .I 0, .bool true, .bool false] 130 (0, 0))] [⟨Sb, 5, .slice a' (xs ++ num k).length c', (xs ++ num k)⟩] [] w') := by
 have hten : (num k).length ≤ 10 := num_ten (by omega)
 refine uS1 Tryz.func128 ?_
 have H := H0
 refine uR 3 [.c [1, 0], .c [2]] ?_
 refine qG (sq 0 5) ?_
 refine uP 2 ?_
 refine RW.pv (κ := .seq) (d := some 8) (r := (sq 3 5)) (v := .int .u64 (IntKind.u64.wrap ((k : Int)))) (v' := .int .u64 ((k : Int))) (by as_aux_lemma => kernel_rfl) (wr_u64 (by omega)) ?_
 refine uKS (u64_spec (x := (k : Int)) (by omega) ((H.lend (M1 := [(bp, .cells #[.slice a xs.length c, .I 0, .bool true, .bool false] 130 (0, 0))]) (W1 := [⟨Sb, 5, .slice a xs.length c, xs⟩])).pick [] rfl) (by first | omega | (simp only [List.length_append, List.length_nil]; omega))) ?_
 rintro _ _ ⟨b, e, rfl, H'⟩
 have H := H.back (M1 := [(bp, .cells #[.slice a xs.length c, .I 0, .bool true, .bool false] 130 (0, 0))]) (W1 := [⟨Sb, 5, .slice a xs.length c, xs⟩]) H'
 have H : Hp w S O [(bp, .cells #[.slice b ((xs ++ num (k : Int).toNat).length) e, .I 0, .bool true, .bool false] 130 (0, 0))] [⟨Sb, 5, .slice b ((xs ++ num (k : Int).toNat).length) e, (xs ++ num (k : Int).toNat)⟩] [] _ := H
 refine uF 1 ?_
 refine uR 2 [.c [2, 0, 0], .c [2, 0, 1], .c [3]] ?_
 refine qG (sq 0 4) ?_
 refine uP 3 ?_
 refine uV 4 2 (H.cells 0 rfl) ?_
 refine uF 0 ?_
 refine uR 3 [.c [2, 0, 1, 0, 1], .c [3]] ?_
 refine qT (.I k) Tryz.func128 ?_
 exact ⟨_, rfl, _, _, by first | rfl | trivial, H.pick [] rfl⟩
theorem ints_spec {S : Nat → Prop} {w : World} {O : List Nat} {bp : Nat} {xs : List (BitVec 8)} {a : Option Addr} {c : Nat} {ls : List Int} {al : Option Addr} {cl : Nat} (H0 : Hp w S O [(bp, .cells #[.slice a xs.length c, .I 0, .bool true, .bool false] 130 (0, 0))] [⟨Sb, 5, .slice a xs.length c, xs⟩] [Rp (Shape.slice (Shape.int .i64)) [.slice al ls.length cl] ls] w) (hby : xs.length + 10 * (ls.length + 2) ≤ 1099511627776) :
 Calls Tryz.prog 104 #[.P bp 0, .slice al ls.length cl] w (Ret fun v w' => ∃ (a' : Option Addr) (c' : Nat), (∃ (ar : Option Addr) (cr : Nat), v = .slice ar ls.length cr) ∧ Hp w S O [(bp, .cells #[.slice a' ((xs ++ (num ls.length ++ intsE ls)).length) c', .I 0, .bool true, .bool false] 130 (0, 0))] [⟨Sb, 5, .slice a' ((xs ++ (num ls.length ++ intsE ls)).length) c', (xs ++ (num ls.length ++ intsE ls))⟩] [] w') := by
 have hlen := Shape.slice_len (H0.rp 0 rfl)
 have hten : (num ls.length).length ≤ 10 := num_ten (by omega)
 refine uS1 Tryz.func104 ?_
 have H := H0
 refine uR 3 [.c [1, 0], .c [2]] ?_
 refine qG (sq 0 5) ?_
 refine uP 3 ?_
 refine uKS (len_spec (k := ls.length) (by omega) ((H.lend (M1 := [(bp, .cells #[.slice a xs.length c, .I 0, .bool true, .bool false] 130 (0, 0))]) (W1 := [⟨Sb, 5, .slice a xs.length c, xs⟩])).pick [] rfl) (by first | omega | (simp only [List.length_append, List.length_nil]; omega))) ?_
 rintro _ _ ⟨y, z, rfl, H'⟩
 have H := H.back (M1 := [(bp, .cells #[.slice a xs.length c, .I 0, .bool true, .bool false] 130 (0, 0))]) (W1 := [⟨Sb, 5, .slice a xs.length c, xs⟩]) H'
 have H : Hp w S O [(bp, .cells #[.slice y (xs ++ num ls.length).length z, .I 0, .bool true, .bool false] 130 (0, 0))] [⟨Sb, 5, .slice y (xs ++ num ls.length).length z, (xs ++ num ls.length)⟩] [_] _ := H
 refine uF 1 ?_
 refine uR 6 [.c [3, 0, 1, 0], .b 0, .c [4]] ?_
 have H := H.ownNil (Shape.int .i64) 3
 refine uL (α := Nat × List (BitVec 8) × Option Addr × Nat × Option Addr × Nat) (g := 104) (p := [3, 0, 1, 0, 0]) (fun (i, ys, f, h, ao, co) => [(0, .P bp 0), (1, .slice al ls.length cl), (5, .I ((ls.length : Nat) : Int)), (6, .slice ao (ls.take i).length co), (7, .I i)]) (fun (i, ys, f, h, ao, co) w' => Hp w S O [(bp, .cells #[.slice f ys.length h, .I 0, .bool true, .bool false] 130 (0, 0))] [⟨Shape.int .i64, 3, .slice ao (ls.take i).length co, ls.take i⟩, ⟨Sb, 5, .slice f ys.length h, ys⟩] [Rp (Shape.slice (Shape.int .i64)) [.slice al ls.length cl] ls] w' ∧ i ≤ ls.length ∧ ys = xs ++ num ls.length ++ intsE (ls.take i) ∧ ys.length ≤ xs.length + 10 * (i + 1)) (fun (i, ys, f, h, ao, co) => ls.length - i) (0, (xs ++ num ls.length), y, z, none, 0) ⟨H, Nat.zero_le _, by simp [intsE], by simp only [List.length_append]; omega⟩ ?_
 rintro ⟨i, ys, f, h, ao, co⟩ _ ⟨H, e⟩ j
 have htl : (ls.take i).length = i := List.length_take_of_le e.1
 refine uR 2 [.c [3, 0, 1, 0, 0, 0, 0], .c [3, 0, 1, 0, 0, 0, 1], .c [3, 0, 1, 0, 0, 1], .l [3, 0, 1, 0, 0], .b 0, .c [4]] ?_
 refine qG (sq 0 10) ?_
 refine uP 4 ?_
 refine uD 16 (((i : Int) : Int) < ((ls.length : Nat) : Int)) (fun F => ?_) (fun F => ?_)
 ·
  refine uP 3 ?_
  refine uV 4 3 (H.cells 0 rfl) ?_
  refine uF 2 ?_
  refine uR 8 [.c [3, 0, 1, 0, 0, 1, 0, 0, 1, 0, 0], .c [3, 0, 1, 0, 0, 1, 0, 0, 1, 0, 1], .c [3, 0, 1, 0, 0, 1, 0, 0, 2], .b 1, .c [3, 0, 1, 0, 0, 2], .l [3, 0, 1, 0, 0], .b 0, .c [4]] ?_
  refine qG (sq 0 4) ?_
  refine uP 3 ?_
  refine uV 4 2 (H.cells 0 rfl) ?_
  refine uF 0 ?_
  refine uR 1 [.c [3, 0, 1, 0, 0, 1, 0, 0, 1, 0, 1, 0], .c [3, 0, 1, 0, 0, 1, 0, 0, 2], .b 1, .c [3, 0, 1, 0, 0, 2], .l [3, 0, 1, 0, 0], .b 0, .c [4]] ?_
  refine qG (sq 0 5) ?_
  refine uP 2 ?_
  have A : i < ls.length := by omega
  refine uX 26 (i : Int) H 0 rfl i (by omega) (List.getElem?_eq_getElem A) ?_
  intro B C _ m H
  have G := Shape.i64_bd m
  obtain ⟨rfl, -⟩ := m
  refine uV 3 0 (H.fc 0 rfl) ?_
  refine uF 1 ?_
  refine qG (sq 0 7) ?_
  refine qP 3 (sq 3 7) [(0, .P bp 0), (1, .slice al ls.length cl), (5, .I ((ls.length : Nat) : Int)), (6, .slice ao (ls.take i).length co), (7, .I i), (33, .slice ao (ls.take i).length co), (34, .P bp 0), (35, .I (ls[i]))] ?_
  have H := H.frontW 1 rfl
  refine uKS (int_spec (x := ls[i]) (by omega) ((H.lend (M1 := [(bp, .cells #[.slice f ys.length h, .I 0, .bool true, .bool false] 130 (0, 0))]) (W1 := [⟨Sb, 5, .slice f ys.length h, ys⟩])).pick [] rfl) (by first | omega | (simp only [List.length_append, List.length_nil]; omega))) ?_
  rintro _ _ ⟨n, q, rfl, H'⟩
  have H := H.back (M1 := [(bp, .cells #[.slice f ys.length h, .I 0, .bool true, .bool false] 130 (0, 0))]) (W1 := [⟨Sb, 5, .slice f ys.length h, ys⟩]) H'
  have H : Hp w S O [(bp, .cells #[.slice n ((ys ++ intE (ls[i])).length) q, .I 0, .bool true, .bool false] 130 (0, 0))] [⟨Sb, 5, .slice n ((ys ++ intE (ls[i])).length) q, (ys ++ intE (ls[i]))⟩, _] [Fc B C [.I (ls[i])], _] _ := H
  refine RW.new (κ := .seq) (d := some 37) (r := (sq 5 7)) (o := .cells #[.I (ls[i])] 3 (0, 0)) (v := fun b => .slice (some ⟨b, 0, none⟩) 1 1) (fun b => by as_aux_lemma => kernel_rfl) (nofun) H ?_
  intro D _ H
  have H := H.freeze 0 rfl (Shape.int .i64) ([ls[i]] : List Int) 1 (by simp [maxLen]) (by first | exact Nat.le_refl _ | simp) (EsP.cons (c := [.I (ls[i])]) i64a EsP.nil)
  have H : Hp w S O [_] [_, _] [Rp (Shape.slice (Shape.int .i64)) [.slice (some ⟨D, 0, none⟩) 1 1] ([ls[i]] : List Int), _, _] _ := H
  refine uA 26 26 8 (ls.take (i + 1)) H 1 rfl 0 rfl ((take_succ' (by omega)).symm) (by rw [List.length_take]; omega) ?_
  intro s t _ H _
  have H : Hp w S O [_] [_, ⟨Shape.int .i64, 3, .slice s ((ls.take (i + 1)).length) t, ls.take (i + 1)⟩] [_, _, _] _ := H
  refine uF 1 ?_
  refine uR 1 [.c [3, 0, 1, 0, 0, 2], .l [3, 0, 1, 0, 0], .b 0, .c [4]] ?_
  refine qG (sq 0 3) ?_
  refine uP 1 ?_
  refine uI ((i : Int) + 1) ?_
  refine qF 1 [(0, .P bp 0), (1, .slice al ls.length cl), (5, .I ((ls.length : Nat) : Int)), (6, .slice s ((ls.take (i + 1)).length) t), (7, .I ((i : Int) + 1))] ?_
  have H := H.pick [2] rfl
  have H := H.frontW 1 rfl
  exact WK.back (j (i + 1, (ys ++ intE (ls[i])), n, q, s, t) _ ⟨H, by omega, by rw [intsE_take (by omega), e.2.1]; simp, by simp only [List.length_append]; have := intE_ten (x := ls[i]) (by omega); omega⟩ (by first | omega | (simp only []; omega))) (by rfl)
 ·
  refine uF 6 ?_
  refine uR 4 [.c [5]] ?_
  refine qT (.slice ao (ls.take i).length co) Tryz.func104 ?_
  have H := H.frontW 1 rfl
  have E : i = ls.length := by omega
  subst E
  rw [List.take_length] at e
  obtain ⟨-, u, -⟩ := e
  rw [List.append_assoc] at u
  subst u
  have H := H.drop (M' := [_]) (W' := [_]) (List.Sublist.refl _) (List.Sublist.cons_cons _ (List.nil_sublist _))
  exact ⟨_, rfl, _, _, ⟨_, _, by rw [List.take_length]⟩, H.pick [] rfl⟩
def flagE (b : Bool) : List (BitVec 8) := if b = true then [1#8] else [0#8]
theorem flagE_len (b : Bool) : (flagE b).length = 1 := by cases b <;> rfl
def bytesE (x : List (BitVec 8)) : List (BitVec 8) := num x.length ++ x
theorem putflag_spec {S : Nat → Prop} {w : World} {xs : List (BitVec 8)} {a : Option Addr} {c : Nat} (h : SB.rep S w [.slice a xs.length c] xs) (b : Bool) (hby : xs.length ≤ 1099511627776) :
 Calls Tryz.prog 126 #[.slice a xs.length c, .bool b] w (Ret fun v w' => Ext w w' ∧ Hp w S [] [] [⟨Sb, 5, v, xs ++ flagE b⟩] [] w') := by
 refine uS1 Tryz.func126 ?_
 have H := Hp.startF (.rp h .nil)
 refine uR 5 [.c [1, 0, 1], .c [2]] ?_
 refine qC b (fun m => ?_) (fun m => ?_)
 ·
  refine uR 1 [.c [1, 0, 1, 0, 0], .c [1, 0, 1, 0, 1], .c [2]] ?_
  refine qG (sq 0 5) ?_
  refine uP 1 ?_
  refine uK (copied_spec (xs := xs) (H.rp 0 rfl) (by first | omega | simp)) ?_
  rintro _ _ - H'
  have H := H.back (M1 := []) (W1 := []) H'
  obtain ⟨n, p, rfl, _, _⟩ := H.ownForm 0 rfl
  have H : Hp w S [] [] [⟨Sb, 5, .slice n xs.length p, xs⟩] [_] _ := H
  refine RW.new (κ := .seq) (d := some 8) (r := (sq 3 5)) (o := .cells #[.int .u8 1] 5 (0, 0)) (v := fun b => .slice (some ⟨b, 0, none⟩) 1 1) (fun b => by as_aux_lemma => kernel_rfl) (nofun) H ?_
  intro q _ H
  have H := H.freeze 0 rfl Sb ([1#8] : List (BitVec 8)) 1 (by simp [maxLen]) (by first | exact Nat.le_refl _ | simp) (EsP.cons (c := [.int .u8 1]) (Shape.bv_lit (x := 1#8) (by decide)) EsP.nil)
  have H : Hp w S [] [] [_] [Rp SB [.slice (some ⟨q, 0, none⟩) 1 1] ([1#8] : List (BitVec 8)), _] _ := H
  refine uA 29 29 1 (xs ++ ([1#8] : List (BitVec 8))) H 0 rfl 0 rfl (rfl) (by simp; omega) ?_
  intro e f _ H _
  have H : Hp w S [] [] [⟨Sb, 5, .slice e ((xs ++ ([1#8] : List (BitVec 8))).length) f, xs ++ ([1#8] : List (BitVec 8))⟩] [_, _] _ := H
  refine uF 1 ?_
  refine qT (.slice e ((xs ++ ([1#8] : List (BitVec 8))).length) f) Tryz.func126 ?_
  have H := H.drop (M' := []) (W' := [⟨Sb, 5, .slice e ((xs ++ ([1#8] : List (BitVec 8))).length) f, xs ++ ([1#8] : List (BitVec 8))⟩]) (List.nil_sublist _) (List.Sublist.refl _)
  exact ⟨_, rfl, H.done, (H.pick [] rfl).reW (by unfold flagE; simp [*]) (by rfl)⟩
 ·
  refine uR 2 [.c [2, 0], .c [3]] ?_
  refine qG (sq 0 5) ?_
  refine uP 1 ?_
  refine uK (copied_spec (xs := xs) (H.rp 0 rfl) (by first | omega | simp)) ?_
  rintro _ _ - H'
  have H := H.back (M1 := []) (W1 := []) H'
  obtain ⟨j, k, rfl, _, _⟩ := H.ownForm 0 rfl
  have H : Hp w S [] [] [⟨Sb, 5, .slice j xs.length k, xs⟩] [_] _ := H
  refine RW.new (κ := .seq) (d := some 12) (r := (sq 3 5)) (o := .cells #[.int .u8 0] 5 (0, 0)) (v := fun b => .slice (some ⟨b, 0, none⟩) 1 1) (fun b => by as_aux_lemma => kernel_rfl) (nofun) H ?_
  intro l _ H
  have H := H.freeze 0 rfl Sb ([0#8] : List (BitVec 8)) 1 (by simp [maxLen]) (by first | exact Nat.le_refl _ | simp) (EsP.cons (c := [.int .u8 0]) (Shape.bv_lit (x := 0#8) (by decide)) EsP.nil)
  have H : Hp w S [] [] [_] [Rp SB [.slice (some ⟨l, 0, none⟩) 1 1] ([0#8] : List (BitVec 8)), _] _ := H
  refine uA 29 29 1 (xs ++ ([0#8] : List (BitVec 8))) H 0 rfl 0 rfl (rfl) (by simp; omega) ?_
  intro g i _ H _
  have H : Hp w S [] [] [⟨Sb, 5, .slice g ((xs ++ ([0#8] : List (BitVec 8))).length) i, xs ++ ([0#8] : List (BitVec 8))⟩] [_, _] _ := H
  refine uF 1 ?_
  refine qT (.slice g ((xs ++ ([0#8] : List (BitVec 8))).length) i) Tryz.func126 ?_
  have H := H.drop (M' := []) (W' := [⟨Sb, 5, .slice g ((xs ++ ([0#8] : List (BitVec 8))).length) i, xs ++ ([0#8] : List (BitVec 8))⟩]) (List.nil_sublist _) (List.Sublist.refl _)
  exact ⟨_, rfl, H.done, (H.pick [] rfl).reW (by unfold flagE; simp [*]) (by rfl)⟩
theorem putbytes_spec {S : Nat → Prop} {w : World} {xs : List (BitVec 8)} {a : Option Addr} {c : Nat} (h : SB.rep S w [.slice a xs.length c] xs) {ys : List (BitVec 8)} {b : Option Addr} {d : Nat} (h2 : SB.rep S w [.slice b ys.length d] ys) (hby : xs.length + ys.length + 10 ≤ 1099511627776) :
 Calls Tryz.prog 140 #[.slice a xs.length c, .slice b ys.length d] w (Ret fun v w' => Ext w w' ∧ Hp w S [] [] [⟨Sb, 5, v, xs ++ bytesE ys⟩] [] w') := by
 have hyl := Shape.slice_len h2
 have hten : (num ys.length).length ≤ 10 := num_ten (by omega)
 refine uS1 Tryz.func140 ?_
 have H := Hp.startF (.rp h (.rp h2 .nil))
 refine uR 3 [.c [1, 0], .c [2]] ?_
 refine qG (sq 0 8) ?_
 refine uP 3 ?_
 refine RW.pv (κ := .seq) (d := some 8) (r := (sq 4 8)) (v' := .int .u64 ((ys.length : Nat) : Int)) (v := .int .u64 (IntKind.u64.wrap (((ys.length : Nat) : Int)))) (by as_aux_lemma => kernel_rfl) (wr_u64 (by omega)) ?_
 refine uK (putnum_spec (xs := xs) (H.rp 0 rfl) ((ys.length : Nat) : Int) (by omega) (by first | omega | simp)) ?_
 rintro _ _ - H'
 have H := H.back (M1 := []) (W1 := []) H'
 obtain ⟨g, i, rfl, _, _⟩ := H.ownForm 0 rfl
 have H : Hp w S [] [] [⟨Sb, 5, .slice g ((xs ++ num (((ys.length : Nat) : Int).toNat)).length) i, (xs ++ num (((ys.length : Nat) : Int).toNat))⟩] [_, _] _ := H
 refine uP 1 ?_
 refine uA 29 29 1 ((xs ++ num (((ys.length : Nat) : Int).toNat)) ++ ys) H 0 rfl 1 rfl (rfl) (by simp; omega) ?_
 intro e f _ H _
 have H : Hp w S [] [] [⟨Sb, 5, .slice e (((xs ++ num (((ys.length : Nat) : Int).toNat)) ++ ys).length) f, (xs ++ num (((ys.length : Nat) : Int).toNat)) ++ ys⟩] [_, _] _ := H
 refine uF 1 ?_
 refine qT (.slice e (((xs ++ num (((ys.length : Nat) : Int).toNat)) ++ ys).length) f) Tryz.func140 ?_
 have H := H.drop (M' := []) (W' := [⟨Sb, 5, .slice e (((xs ++ num (((ys.length : Nat) : Int).toNat)) ++ ys).length) f, (xs ++ num (((ys.length : Nat) : Int).toNat)) ++ ys⟩]) (List.nil_sublist _) (List.Sublist.refl _)
 exact ⟨_, rfl, H.done, (H.pick [] rfl).reW (by unfold bytesE; simp) (by rfl)⟩
theorem flag_spec {S : Nat → Prop} {w : World} {O : List Nat} {bp : Nat} {xs : List (BitVec 8)} {a : Option Addr} {c : Nat} {b : Bool} (H0 : Hp w S O [(bp, .cells #[.slice a xs.length c, .I 0, .bool true, .bool false] 130 (0, 0))] [⟨Sb, 5, .slice a xs.length c, xs⟩] [] w) (hby : xs.length + 10 ≤ 1099511627776) :
 Calls Tryz.prog 98 #[.P bp 0, .bool b] w (Ret fun v w' => ∃ (a' : Option Addr) (c' : Nat), (v = .bool b) ∧ Hp w S O [(bp, .cells #[.slice a' (xs ++ flagE b).length c', .I 0, .bool true, .bool false] 130 (0, 0))] [⟨Sb, 5, .slice a' (xs ++ flagE b).length c', (xs ++ flagE b)⟩] [] w') := by
 have hten := flagE_len b
 refine uS1 Tryz.func98 ?_
 have H := H0
 refine uR 4 [.c [1, 0, 0], .c [1, 0, 1], .c [2]] ?_
 refine qG (sq 0 4) ?_
 refine uP 3 ?_
 refine uV 4 2 (H.cells 0 rfl) ?_
 refine uF 0 ?_
 refine qR 2 [.c [1, 0, 1, 0, 0], .c [1, 0, 1, 0, 1], .c [2]] [(0, .P bp 0), (1, .bool b)] ?_
 refine WK.drawP1 7 [0, 1, 2, 3, 5] [(17, .bool b), (15, .P bp 0), (14, .P bp 0), (13, .P bp 0), (12, .P bp 0), (0, .P bp 0), (1, .bool b)] [(4, .qui), (6, .chn)] [(4, .qui), (6, .chn), (7, .seq), (8, .seq), (9, .seq), (10, .seq)] Tryz_mixed (by as_aux_lemma => kernel_rfl) (by as_aux_lemma => kernel_rfl) (by as_aux_lemma => kernel_rfl) (by as_aux_lemma => kernel_rfl) ?_
 have H := H.draw
 generalize ({ w with drawn := w.drawn + 1 } : World) = h at H ⊢
 refine uV 29 0 (H.cells 0 rfl) ?_
 have H := H.addRp SB [.slice none 0 0] [] Shape.slice_nil
 refine uK (putflag_spec (xs := ([] : List (BitVec 8))) (H.rp 0 rfl) b (by first | omega | simp)) ?_
 rintro _ _ - H'
 have H := H.back (M1 := []) (W1 := []) H'
 obtain ⟨d, e, rfl, _, _⟩ := H.ownForm 0 rfl
 have H : Hp w S O [_] [⟨Sb, 5, .slice d (flagE b).length e, flagE b⟩, _] [_] _ := H
 have H : Hp w S O [_] [_] [Rp SB [.slice d (flagE b).length e] (flagE b), _] _ := H.freezeW 0 rfl
 refine uA 29 29 1 (xs ++ (flagE b)) H 0 rfl 0 rfl (rfl) (by simp; omega) ?_
 intro f g _ H _
 have H : Hp w S O [_] [⟨Sb, 5, .slice f ((xs ++ (flagE b)).length) g, xs ++ (flagE b)⟩] [_, _] _ := H
 refine uP 2 ?_
 refine uW 29 0 #[.slice f ((xs ++ (flagE b)).length) g, .I 0, .bool true, .bool false] H 0 rfl ?_
 intro _ H
 refine uF 0 ?_
 refine uR 2 [.c [1, 0, 1, 0, 2], .c [2]] ?_
 refine qT (.bool b) Tryz.func98 ?_
 exact ⟨_, rfl, _, _, by first | rfl | trivial, H.pick [] rfl⟩
theorem bytes_spec {S : Nat → Prop} {w : World} {O : List Nat} {bp : Nat} {xs : List (BitVec 8)} {a : Option Addr} {c : Nat} {ys : List (BitVec 8)} {b : Option Addr} {d : Nat} (H0 : Hp w S O [(bp, .cells #[.slice a xs.length c, .I 0, .bool true, .bool false] 130 (0, 0))] [⟨Sb, 5, .slice a xs.length c, xs⟩] [Rp SB [.slice b ys.length d] ys] w) (hby : xs.length + (ys.length + 10) ≤ 1099511627776) :
 Calls Tryz.prog 125 #[.P bp 0, .slice b ys.length d] w (Ret fun v w' => ∃ (a' : Option Addr) (c' : Nat), (v = .slice b ys.length d) ∧ Hp w S O [(bp, .cells #[.slice a' (xs ++ bytesE ys).length c', .I 0, .bool true, .bool false] 130 (0, 0))] [⟨Sb, 5, .slice a' (xs ++ bytesE ys).length c', (xs ++ bytesE ys)⟩] [] w') := by
 have hyl := Shape.slice_len (H0.rp 0 rfl)
 have hten : (num ys.length).length ≤ 10 := num_ten (by omega)
 have i : (bytesE ys).length ≤ ys.length + 10 := by unfold bytesE; rw [List.length_append]; omega
 refine uS1 Tryz.func125 ?_
 have H := H0
 refine uR 4 [.c [1, 0, 0], .c [1, 0, 1], .c [2]] ?_
 refine qG (sq 0 4) ?_
 refine uP 3 ?_
 refine uV 4 2 (H.cells 0 rfl) ?_
 refine uF 0 ?_
 refine qR 2 [.c [1, 0, 1, 0, 0], .c [1, 0, 1, 0, 1], .c [2]] [(0, .P bp 0), (1, .slice b ys.length d)] ?_
 refine WK.drawP1 7 [0, 1, 2, 3, 5] [(17, .slice b ys.length d), (15, .P bp 0), (14, .P bp 0), (13, .P bp 0), (12, .P bp 0), (0, .P bp 0), (1, .slice b ys.length d)] [(4, .qui), (6, .chn)] [(4, .qui), (6, .chn), (7, .seq), (8, .seq), (9, .seq), (10, .seq)] Tryz_mixed (by as_aux_lemma => kernel_rfl) (by as_aux_lemma => kernel_rfl) (by as_aux_lemma => kernel_rfl) (by as_aux_lemma => kernel_rfl) ?_
 have H := H.draw
 generalize ({ w with drawn := w.drawn + 1 } : World) = j at H ⊢
 refine uV 29 0 (H.cells 0 rfl) ?_
 have H := H.addRp SB [.slice none 0 0] [] Shape.slice_nil
 refine uK (putbytes_spec (xs := ([] : List (BitVec 8))) (ys := ys) (H.rp 0 rfl) (H.rp 1 rfl) (by first | omega | (simp only [List.length_nil]; omega))) ?_
 rintro _ _ - H'
 have H := H.back (M1 := []) (W1 := []) H'
 obtain ⟨e, f, rfl, _, _⟩ := H.ownForm 0 rfl
 have H : Hp w S O [_] [⟨Sb, 5, .slice e (bytesE ys).length f, bytesE ys⟩, _] [_, _] _ := H
 have H : Hp w S O [_] [_] [Rp SB [.slice e (bytesE ys).length f] (bytesE ys), _, _] _ := H.freezeW 0 rfl
 refine uA 29 29 1 (xs ++ (bytesE ys)) H 0 rfl 0 rfl (rfl) (by simp; omega) ?_
 intro g h _ H _
 have H : Hp w S O [_] [⟨Sb, 5, .slice g ((xs ++ (bytesE ys)).length) h, xs ++ (bytesE ys)⟩] [_, _, _] _ := H
 refine uP 2 ?_
 refine uW 29 0 #[.slice g ((xs ++ (bytesE ys)).length) h, .I 0, .bool true, .bool false] H 0 rfl ?_
 intro _ H
 refine uF 0 ?_
 refine uR 2 [.c [1, 0, 1, 0, 2], .c [2]] ?_
 refine qT (.slice b ys.length d) Tryz.func125 ?_
 exact ⟨_, rfl, _, _, by first | rfl | trivial, H.pick [] rfl⟩
end Go.Proofs.YtkjkmogipidkiaaGreat
