import Derived.Test.YtdnibpclkhenmaaGreatDoorSBxB
import Derived.Test.YtdnibpclkhenmaaGreatDoorSG7
import Derived.Test.YtdnibpclkhenmaaGreatDoorSBxA
namespace Go.Proofs.YtdnibpclkhenmaaGreatDoor
open Go.BX
def num (n : Nat) : List (BitVec 8) := if n < 128 then [BitVec.ofNat 8 n] else (BitVec.ofInt 8 ((n : Int) % 128) ||| 128#8) :: num (n / 128)
termination_by n
decreasing_by omega
theorem num_lo {n : Nat} (h : n < 128) : num n = [BitVec.ofNat 8 n] := by
 rw [num, if_pos h]
theorem num_hi {n : Nat} (h : ¬ n < 128) : num n = (BitVec.ofInt 8 ((n : Int) % 128) ||| 128#8) :: num (n / 128) := by
 rw [num, if_neg h]
theorem num_pos (n : Nat) : 0 < (num n).length := by
 by_cases h : n < 128
 · rw [num_lo h]; simp
 · rw [num_hi h]; simp
theorem num_len : ∀ (k : Nat) {n : Nat}, n < 128 ^ (k + 1) → (num n).length ≤ k + 1
 | 0, n, h => by
  rw [num_lo (by omega)]; simp
 | k + 1, n, h => by
  by_cases h1 : n < 128
  · rw [num_lo h1]; simp
  · rw [num_hi h1, List.length_cons]
    have := num_len k (n := n / 128) (by rw [Nat.pow_succ] at h; omega)
    omega
theorem num_ten {n : Nat} (h : n ≤ 18446744073709551615) : (num n).length ≤ 10 := num_len 9 (by
 have : (128 : Nat) ^ 10 = 1180591620717411303424 := by decide
 omega)
def intE (x : Int) : List (BitVec 8) := if x ≥ 0 then num (2 * x).toNat else num (2 * (-1 - x) + 1).toNat
theorem intE_ten {x : Int} (h : -9223372036854775808 ≤ x ∧ x ≤ 9223372036854775807) : (intE x).length ≤ 10 := by
 unfold intE
 split <;> exact num_ten (by omega)
theorem or128' : ∀ x : BitVec 8, (x ||| 128#8).toNat = x.toNat % 128 + 128 := by decide
theorem and127 : ∀ x : BitVec 8, (x &&& 127#8).toNat = x.toNat % 128 := by decide
theorem ofInt8 (n : Nat) : (BitVec.ofInt 8 (n : Int)).toNat = n % 256 := by
 rw [BitVec.toNat_ofInt]; omega
theorem num_head (m : Nat) : ∃ c t, num m = c :: t ∧ (m < 128 → c.toNat = m ∧ t = []) ∧ (¬ m < 128 → c.toNat = m % 128 + 128 ∧ t = num (m / 128)) := by
 by_cases h : m < 128
 · refine ⟨_, _, num_lo h, fun _ => ⟨?_, rfl⟩, fun a => absurd h a⟩
   rw [BitVec.toNat_ofNat]; omega
 · refine ⟨_, _, num_hi h, fun a => absurd a h, fun _ => ⟨?_, rfl⟩⟩
   have e : ((m : Int) % 128) = ((m % 128 : Nat) : Int) := by omega
   rw [or128', e, ofInt8]; omega
theorem byte_lo {n : Nat} (h : n < 128) : num n = [BitVec.ofNat 8 n] := num_lo h
theorem byte_hi {n : Nat} (h : ¬ n < 128) : num n = (BitVec.ofNat 8 n ||| 128#8) :: num (n / 128) := by
 rw [num_hi h]
 refine congrArg (· :: _) (BitVec.eq_of_toNat_eq ?_)
 have e : ((n : Int) % 128) = ((n % 128 : Nat) : Int) := by omega
 rw [or128', or128', e, ofInt8, BitVec.toNat_ofNat]; omega
theorem put_set {p : List (BitVec 8)} {k m : Nat} (hk : p.length = k) (hm : k < m) (c : BitVec 8) : (p ++ List.replicate (m - k) 0#8).set k c = p ++ [c] ++ List.replicate (m - (k + 1)) 0#8 := by
 subst hk
 rw [show m - p.length = (m - (p.length + 1)) + 1 by omega, List.replicate_succ, List.set_append_right _ _ (Nat.le_refl _), Nat.sub_self, List.set_cons_zero, List.append_assoc]
 rfl
theorem put_take {p : List (BitVec 8)} {c : BitVec 8} {k m : Nat} (hk : p.length = k) : (p ++ [c] ++ List.replicate m 0#8).take (k + 1) = p ++ [c] := by
 subst hk
 rw [List.take_append_of_le_length (by simp), List.take_of_length_le (by simp)]
theorem num_step {n0 n : Nat} {p : List (BitVec 8)} (h : num n0 = p ++ num n) (hn : ¬ n < 128) : num n0 = p ++ [BitVec.ofNat 8 n ||| 128#8] ++ num (n / 128) := by
 rw [h, byte_hi hn, List.append_assoc]; rfl
theorem num_last {n0 n : Nat} {p : List (BitVec 8)} (h : num n0 = p ++ num n) (hn : n < 128) : p ++ [BitVec.ofNat 8 n] = num n0 := by
 rw [h, byte_lo hn]
theorem num_room {n0 n : Nat} {p : List (BitVec 8)} (h : num n0 = p ++ num n) (h0 : n0 ≤ 18446744073709551615) : p.length ≤ 9 := by
 have a := num_ten h0
 have b := num_pos n
 rw [h, List.length_append] at a
 omega
noncomputable def zig (x : Int) : Nat := if x ≥ 0 then (2 * x).toNat else (2 * (-1 - x) + 1).toNat
theorem intE_zig (x : Int) : intE x = num (zig x) := by
 unfold intE zig
 split <;> rfl
theorem zig_le {x : Int} (h : -9223372036854775808 ≤ x ∧ x ≤ 9223372036854775807) : zig x ≤ 18446744073709551615 := by
 unfold zig
 split <;> omega
theorem u64w (x : Int) : IntKind.u64.wrap x = x % 18446744073709551616 := rfl
theorem i64w (x : Int) : IntKind.i64.wrap x = if x % 18446744073709551616 ≥ 9223372036854775808 then x % 18446744073709551616 - 18446744073709551616 else x % 18446744073709551616 := by
 show (if (true && decide (x % 18446744073709551616 ≥ 9223372036854775808)) = true then _ else _) = _
 simp only [Bool.true_and, decide_eq_true_eq]
 rfl
theorem ofInt64 (n : Nat) : (BitVec.ofInt 64 (n : Int)).toNat = n % 18446744073709551616 := by
 rw [BitVec.toNat_ofInt]; omega
theorem xor_ones {a : Nat} (h : a < 18446744073709551616) : (BitVec.ofNat 64 a ^^^ BitVec.allOnes 64).toNat = 18446744073709551615 - a := by
 rw [BitVec.xor_allOnes, BitVec.toNat_not, BitVec.toNat_ofNat, Nat.mod_eq_of_lt h]
theorem zig_eq {x : Int} (h : -9223372036854775808 ≤ x ∧ x ≤ 9223372036854775807) :
 IntKind.u64.wrap ((BitVec.ofInt 64 (IntKind.u64.wrap (IntKind.u64.wrap x * 2 ^ 1)) ^^^ BitVec.ofInt 64 (IntKind.u64.wrap (x.fdiv (2 ^ 63)))).toNat : Nat) = ((zig x : Nat) : Int) := by
 have c : (2 : Int) ^ 63 = 9223372036854775808 := by decide
 rw [u64w, u64w, u64w, u64w, c, Int.fdiv_eq_ediv_of_nonneg _ (by decide : (0 : Int) ≤ 9223372036854775808)]
 rcases Int.lt_or_le x 0 with hx | hx
 · have a : x / 9223372036854775808 = -1 := by omega
   have b : (x % 18446744073709551616 * 2 ^ 1) % 18446744073709551616 = ((18446744073709551616 + 2 * x).toNat : Int) := by omega
   rw [a, b, show ((-1 : Int) % 18446744073709551616) = 18446744073709551615 from rfl, show BitVec.ofInt 64 (18446744073709551615 : Int) = BitVec.allOnes 64 from by decide, bv_nat, xor_ones (by omega)]
   unfold zig
   rw [if_neg (by omega)]
   omega
 · have a : x / 9223372036854775808 = 0 := by omega
   have b : (x % 18446744073709551616 * 2 ^ 1) % 18446744073709551616 = ((2 * x).toNat : Int) := by omega
   rw [a, b, show ((0 : Int) % 18446744073709551616) = 0 from rfl, show BitVec.ofInt 64 (0 : Int) = 0#64 from by decide, BitVec.xor_zero, ofInt64]
   unfold zig
   rw [if_pos (by omega)]
   omega
theorem unzig {x : Int} (h : -9223372036854775808 ≤ x ∧ x ≤ 9223372036854775807) :
 IntKind.i64.wrap ((BitVec.ofInt 64 (IntKind.i64.wrap (((zig x : Nat) : Int).fdiv (2 ^ 1))) ^^^ BitVec.ofInt 64 (IntKind.i64.wrap (0 - IntKind.i64.wrap (((zig x : Nat) : Int) % 2)))).toNat : Nat) = x := by
 have c : (2 : Int) ^ 1 = 2 := by decide
 rw [c, Int.fdiv_eq_ediv_of_nonneg _ (by decide : (0 : Int) ≤ 2)]
 rcases Int.lt_or_le x 0 with hx | hx
 · have ez : ((zig x : Nat) : Int) = 2 * (-1 - x) + 1 := by unfold zig; rw [if_neg (by omega)]; omega
   have a : IntKind.i64.wrap (((zig x : Nat) : Int) / 2) = ((-1 - x).toNat : Int) := by rw [i64w, ez]; split <;> omega
   have b : IntKind.i64.wrap (((zig x : Nat) : Int) % 2) = 1 := by rw [show ((zig x : Nat) : Int) % 2 = 1 by omega]; rfl
   rw [a, b, show IntKind.i64.wrap (0 - 1) = -1 from rfl, show BitVec.ofInt 64 (-1 : Int) = BitVec.allOnes 64 from by decide, bv_nat, xor_ones (by omega), i64w]
   split <;> omega
 · have ez : ((zig x : Nat) : Int) = 2 * x := by unfold zig; rw [if_pos (by omega)]; omega
   have a : IntKind.i64.wrap (((zig x : Nat) : Int) / 2) = (x.toNat : Int) := by rw [i64w, ez]; split <;> omega
   have b : IntKind.i64.wrap (((zig x : Nat) : Int) % 2) = 0 := by rw [show ((zig x : Nat) : Int) % 2 = 0 by omega]; rfl
   rw [a, b, show IntKind.i64.wrap (0 - 0) = 0 from rfl, show BitVec.ofInt 64 (0 : Int) = 0#64 from by decide, BitVec.xor_zero, ofInt64, i64w]
   split <;> omega
theorem at_drop {α : Type} {l r : List α} {i : Nat} {c : α} (h : l.drop i = c :: r) : l[i]? = some c ∧ i < l.length := by
 have a : i < l.length := by
  rcases Nat.lt_or_ge i l.length with b | b
  · exact b
  · rw [List.drop_eq_nil_of_le b] at h; cases h
 rw [List.drop_eq_getElem_cons a] at h
 injection h with e1 _
 exact ⟨by rw [List.getElem?_eq_getElem a, e1], a⟩
theorem drop_next {α : Type} {l r : List α} {i : Nat} {c : α} (h : l.drop i = c :: r) : l.drop (i + 1) = r := by
 rw [← List.drop_drop, h]; rfl
theorem drop_app {α : Type} {l a r : List α} {k : Nat} (h : l.drop k = a ++ r) : l.drop (k + a.length) = r := by
 rw [← List.drop_drop, h, List.drop_left]
theorem drop_in {α : Type} {l a r : List α} {k : Nat} (h : l.drop k = a ++ r) (hk : k ≤ l.length) : k + a.length + r.length = l.length := by
 have := congrArg List.length h
 rw [List.length_drop, List.length_append] at this
 omega
theorem num_acc {n i d : Nat} (hn : n ≤ 18446744073709551615) (hd : d = n / 128 ^ i % 128) :
 IntKind.u64.wrap ((BitVec.ofInt 64 ((n % 128 ^ i : Nat) : Int) ||| BitVec.ofInt 64 (IntKind.u64.wrap ((d : Int) * 2 ^ (7 * i)))).toNat : Nat) = ((n % 128 ^ (i + 1) : Nat) : Int) := by
 have hp : (128 : Nat) ^ i = 2 ^ (7 * i) := by rw [Nat.pow_mul]
 have hlt : n % 128 ^ i < 128 ^ i := Nat.mod_lt _ (Nat.pow_pos (by decide))
 have hle : d * 128 ^ i ≤ n := by
  rw [hd]
  exact Nat.le_trans (Nat.mul_le_mul_right _ (Nat.mod_le _ _)) (Nat.div_mul_le_self _ _)
 have e : (d : Int) * 2 ^ (7 * i) = ((d * 128 ^ i : Nat) : Int) := by rw [hp]; simp
 have f : n % 128 ^ (i + 1) = n % 128 ^ i + d * 128 ^ i := by rw [Nat.pow_succ, Nat.mod_mul, ← hd, Nat.mul_comm]
 have hm : n % 128 ^ i ≤ n := Nat.mod_le _ _
 have g : n % 128 ^ (i + 1) ≤ n := Nat.mod_le _ _
 have h : n % 128 ^ i ||| d * 128 ^ i = n % 128 ^ (i + 1) := by
  rw [f, Nat.or_comm, hp, ← Nat.shiftLeft_eq, ← Nat.shiftLeft_add_eq_or_of_lt (by rw [← hp]; exact hlt), Nat.add_comm]
 rw [e, u64w, u64w, BitVec.toNat_or, ofInt64]
 generalize n % 128 ^ i = a at *
 generalize d * 128 ^ i = b at *
 generalize n % 128 ^ (i + 1) = c at *
 rw [show (b : Int) % 18446744073709551616 = (b : Int) by omega, ofInt64, Nat.mod_eq_of_lt (by omega), Nat.mod_eq_of_lt (by omega), h]
 omega
theorem num_fin {n i : Nat} (h : n / 128 ^ i < 128) : n % 128 ^ (i + 1) = n := by
 rw [Nat.pow_succ]
 exact Nat.mod_eq_of_lt ((Nat.div_lt_iff_lt_mul (Nat.pow_pos (by decide))).1 h |> fun h => by rw [Nat.mul_comm] at h; exact h)
theorem num_nine {n : Nat} (hn : n ≤ 18446744073709551615) : n / 128 ^ 9 ≤ 1 := by
 have : (128 : Nat) ^ 9 = 9223372036854775808 := by decide
 rw [this]; omega
theorem num_nxt (n i : Nat) : n / 128 ^ i / 128 = n / 128 ^ (i + 1) := by rw [Nat.div_div_eq_div_mul, Nat.pow_succ]
theorem sub_at {α : Type} {l a r : List α} {k : Nat} (h : l.drop k = a ++ r) : (l.take (k + a.length)).drop k = a := by
 rw [List.drop_take, h, Nat.add_sub_cancel_left, List.take_left]
theorem put_spec {S : Nat → Prop} {w : World} {xs : List (BitVec 8)} {a : Option Addr} {c : Nat} (h : SB.rep S w [.slice a xs.length c] xs) {ys : List (BitVec 8)} {b : Option Addr} {d : Nat} (h2 : SB.rep S w [.slice b ys.length d] ys) (hl : xs.length + ys.length ≤ 17592186044416)  :
 Calls Tryz.prog 149 #[.slice a xs.length c, .slice b ys.length d] w (Ret fun v w' => Ext w w' ∧ Hp w S [] [] [⟨Sb, 5, v, xs ++ ys⟩] [] w') := by
 refine uS1 Tryz.func149 ?_
 have H := Hp.startF (.rp h (.rp h2 .nil))
 refine uR 3 [.c [1, 0], .c [2]] ?_
 refine qG (sq 0 12) ?_
 refine uP 4 ?_
 refine uI (((xs.length : Nat) : Int) + ((ys.length : Nat) : Int)) ?_
 refine uI ((((xs.length : Nat) : Int) + ((ys.length : Nat) : Int)) + 8) ?_
 refine RW.makeW Sb (κ := .seq) (d := some 11) (r := (sq 7 12)) (T := 23) (e := 5) (by_ := 1) (v0 := .int .u8 0) (0#8 : BitVec 8) (kl := .i64) (kc := .i64) (lv := 0) (cv := (((xs.length : Nat) : Int) + ((ys.length : Nat) : Int)) + 8) (by as_aux_lemma => kernel_rfl) (nofun) (by as_aux_lemma => kernel_rfl) rfl H 0 (xs.length + ys.length + 8) (by omega) (by omega) (by omega) (by omega) (by omega) (fun _ _ => rfl) ?_
 intro i _ H
 have H : Hp w S [] [] [⟨Sb, 5, .slice (some ⟨i, 0, none⟩) 0 (xs.length + ys.length + 8), []⟩] [_, _] _ := H
 refine uP 1 ?_
 refine uA 23 23 1 xs H 0 rfl 0 rfl (rfl) (by omega) ?_
 intro j k _ H _
 have H : Hp w S [] [] [⟨Sb, 5, .slice j xs.length k, xs⟩] [_, _] _ := H
 refine uP 1 ?_
 refine uA 23 23 1 (xs ++ ys) H 0 rfl 1 rfl (rfl) (by rw [List.length_append]; omega) ?_
 intro f g _ H _
 have H : Hp w S [] [] [⟨Sb, 5, .slice f (xs ++ ys).length g, (xs ++ ys)⟩] [_, _] _ := H
 refine uF 1 ?_
 refine qT (.slice f (xs ++ ys).length g) Tryz.func149 ?_
 have H := H.pick [] rfl
 exact ⟨_, rfl, H.done, H⟩
theorem putN {S : Nat → Prop} {w : World} {xs ys : List (BitVec 8)} {a b : Option Addr} {c d n m : Nat} (h1 : SB.rep S w [.slice a n c] xs) (h2 : SB.rep S w [.slice b m d] ys) (hl : xs.length + ys.length ≤ 17592186044416) :
 Calls Tryz.prog 149 #[.slice a n c, .slice b m d] w (Ret fun v w' => Ext w w' ∧ Hp w S [] [] [⟨Sb, 5, v, xs ++ ys⟩] [] w') := by
 obtain ⟨e, -⟩ := Shape.elems_of h1
 obtain ⟨f, -⟩ := Shape.elems_of h2
 subst e
 subst f
 exact put_spec h1 h2 hl
theorem putnum_spec {S : Nat → Prop} {w : World} {xs : List (BitVec 8)} {a : Option Addr} {c : Nat} (h : SB.rep S w [.slice a xs.length c] xs) (n : Nat) (hn : n ≤ 18446744073709551615) (hl : xs.length ≤ 17592186044416 - 20)  :
 Calls Tryz.prog 94 #[.slice a xs.length c, .int .u64 (n : Int)] w (Ret fun v w' => Ext w w' ∧ Hp w S [] [] [⟨Sb, 5, v, xs ++ num n⟩] [] w') := by
 have hten := num_ten hn
 refine uS1 Tryz.func94 ?_
 have H := Hp.startF (.rp h .nil)
 refine uR 3 [.c [1, 0], .c [2]] ?_
 refine qG (sq 0 1) ?_
 refine uC (Array.replicate 10 (.int .u8 0)) 243 H ?_
 intro f _ H
 have H := H.toOwnN (sh := Sb) (x0 := 0#8) rfl (by simp [maxLen]) 10 (Nat.le_refl _) (fun _ _ => rfl)
 have H : Hp w S [] [] [⟨Sb, 243, .slice (some ⟨f, 0, none⟩) 10 10, (List.replicate 10 0#8)⟩] [_] _ := H
 refine uF 0 ?_
 refine uR 4 [.c [3, 0, 0], .b 0, .c [4]] ?_
 have H := H.take 0 1
 refine uL (α := Nat × Nat × List (BitVec 8)) (g := 94) (p := [3, 0, 0, 0]) (fun (k, m, p) => [(0, .slice a xs.length c), (1, .int .u64 (m : Int)), (5, .P f 0), (6, .I k)]) (fun (k, m, p) w' => Hp w S [] [] [⟨Sb, 243, .slice (some ⟨f, 0, none⟩) 10 10, p ++ List.replicate (10 - k) 0#8⟩] [Rp SB [.slice a xs.length c] xs] w' ∧ k ≤ 9 ∧ p.length = k ∧ num n = p ++ num m ∧ m ≤ 18446744073709551615) (fun (k, m, p) => m) (0, n, []) ⟨H, Nat.zero_le _, rfl, rfl, hn⟩ ?_
 rintro ⟨k, m, p⟩ _ ⟨H, ⟨hk, hp, hnum, hm⟩⟩ i
 refine uR 3 [.c [3, 0, 0, 0, 0, 1], .c [3, 0, 0, 0, 1], .l [3, 0, 0, 0], .b 0, .c [4]] ?_
 refine qD (((m : Int) : Int) > 127) (fun y => ?_) (fun y => ?_)
 ·
  refine uR 4 [.c [3, 0, 0, 0, 1, 0, 0, 0], .c [3, 0, 0, 0, 1, 0, 0, 1], .b 1, .c [3, 0, 0, 0, 2], .l [3, 0, 0, 0], .b 0, .c [4]] ?_
  refine qG (sq 0 6) ?_
  refine uP 2 ?_
  refine RW.pv (κ := .seq) (d := some 13) (r := (sq 3 6)) (v := .int .u8 (IntKind.u8.wrap ((m : Int)))) (v' := .int .u8 (((BitVec.ofNat 8 m).toNat : Nat) : Int)) (by as_aux_lemma => kernel_rfl) ((wrap_bv8 _).trans (by rw [bv_nat])) ?_
  refine RW.pv (κ := .seq) (d := some 14) (r := (sq 4 6)) (v := .int .u8 (IntKind.u8.wrap ((BitVec.ofInt 8 (((BitVec.ofNat 8 m).toNat : Nat) : Int) ||| BitVec.ofInt 8 128).toNat : Nat))) (v' := .int .u8 (((((BitVec.ofNat 8 m) ||| (128#8)).toNat : Nat) : Int))) (by as_aux_lemma => kernel_rfl) (bv_or8 (bvi _) (by decide)) ?_
  refine RW.indexP (κ := .seq) (d := some 15) (r := (sq 5 6)) (T := 243) (e := 5) (N := 10) (m := 1) (b := f) (o := 0) (o2 := k) (ik := .i64) (ix := (k : Int)) (by as_aux_lemma => kernel_rfl) (by as_aux_lemma => kernel_rfl) k (by omega) (by omega) (by omega) ?_
  have t : k < (p ++ List.replicate (10 - k) 0#8).length := by rw [List.length_append, List.length_replicate]; omega
  have u : 10 = (p ++ List.replicate (10 - k) 0#8).length := by rw [List.length_append, List.length_replicate]; omega
  refine RW.storeP (d := none) (r := (sq 6 6)) (e := 5) (m := 1) (b := f) (k := k) (v := .int .u8 ((((BitVec.ofNat 8 m) ||| (128#8)).toNat : Nat) : Int)) (by as_aux_lemma => kernel_rfl) (Nat.mul_one _).symm rfl (by as_aux_lemma => kernel_rfl) H t u ((BitVec.ofNat 8 m) ||| (128#8)) Shape.bv_mk ?_
  intro _ H
  have H := H.reW (ys := p ++ [BitVec.ofNat 8 m ||| 128#8] ++ List.replicate (10 - (k + 1)) 0#8) (put_set hp (by omega) _)
  have H : Hp w S [] [] [⟨Sb, 243, .slice (some ⟨f, 0, none⟩) 10 10, p ++ [BitVec.ofNat 8 m ||| 128#8] ++ List.replicate (10 - (k + 1)) 0#8⟩] [_] _ := H
  refine uF 0 ?_
  refine qG (sq 0 3) ?_
  refine uP 1 ?_
  refine uI ((k : Int) + 1) ?_
  refine uF 1 ?_
  refine uR 1 [.c [3, 0, 0, 0, 2], .l [3, 0, 0, 0], .b 0, .c [4]] ?_
  refine qG (sq 0 3) ?_
  refine uP 1 ?_
  refine RW.pv (κ := .seq) (d := some 10) (r := (sq 2 3)) (v := .int .u64 ((m : Int).fdiv (2 ^ 7))) (v' := .int .u64 ((m : Int) / 128)) (by as_aux_lemma => kernel_rfl) (shr_id (by decide) (by omega)) ?_
  refine uF 1 ?_
  exact uB (i (k + 1, m / 128, p ++ [BitVec.ofNat 8 m ||| 128#8]) _ ⟨H, by have := num_room (num_step hnum (by omega)) hn; rw [List.length_append] at this; simp only [List.length_cons, List.length_nil] at this; omega, by rw [List.length_append, hp]; rfl, num_step hnum (by omega), by omega⟩ (by first | omega | (simp only []; omega)))
 ·
  refine uR 2 [.c [4, 0], .c [5]] ?_
  refine qG (sq 0 5) ?_
  refine qP 2 (sq 2 5) [(0, .slice a xs.length c), (5, .P f 0), (6, .I k), (18, .I k), (19, .int .u64 (m : Int))] ?_
  refine RW.pv (κ := .seq) (d := some 20) (r := (sq 3 5)) (v := .int .u8 (IntKind.u8.wrap ((m : Int)))) (v' := .int .u8 (((BitVec.ofNat 8 m).toNat : Nat) : Int)) (by as_aux_lemma => kernel_rfl) ((wrap_bv8 _).trans (by rw [bv_nat])) ?_
  refine RW.indexP (κ := .seq) (d := some 21) (r := (sq 4 5)) (T := 243) (e := 5) (N := 10) (m := 1) (b := f) (o := 0) (o2 := k) (ik := .i64) (ix := (k : Int)) (by as_aux_lemma => kernel_rfl) (by as_aux_lemma => kernel_rfl) k (by omega) (by omega) (by omega) ?_
  have x : k < (p ++ List.replicate (10 - k) 0#8).length := by rw [List.length_append, List.length_replicate]; omega
  have s : 10 = (p ++ List.replicate (10 - k) 0#8).length := by rw [List.length_append, List.length_replicate]; omega
  refine RW.storeP (d := none) (r := (sq 5 5)) (e := 5) (m := 1) (b := f) (k := k) (v := .int .u8 (((BitVec.ofNat 8 m).toNat : Nat) : Int)) (by as_aux_lemma => kernel_rfl) (Nat.mul_one _).symm rfl (by as_aux_lemma => kernel_rfl) H x s (BitVec.ofNat 8 m) Shape.bv_mk ?_
  intro _ H
  have H := H.reW (ys := p ++ [BitVec.ofNat 8 m] ++ List.replicate (10 - (k + 1)) 0#8) (put_set hp (by omega) _)
  have H : Hp w S [] [] [⟨Sb, 243, .slice (some ⟨f, 0, none⟩) 10 10, p ++ [BitVec.ofNat 8 m] ++ List.replicate (10 - (k + 1)) 0#8⟩] [_] _ := H
  refine uF 0 ?_
  refine uR 1 [.c [5, 0], .c [6]] ?_
  refine qG (sq 0 6) ?_
  refine uP 2 ?_
  refine uI ((k : Int) + 1) ?_
  refine RW.sliceP (κ := .seq) (d := some 25) (r := (sq 4 6)) (T := 243) (e := 5) (N := 10) (m := 1) (b := f) (hv := (some (.I ((k : Int) + 1)))) (by as_aux_lemma => kernel_rfl) (by as_aux_lemma => kernel_rfl) H (k + 1) (.mk (by omega)) (by omega) (by simp only [List.length_append, List.length_replicate, List.length_cons, List.length_nil]; omega) rfl rfl (by decide) ?_
  intro H
  have H : Hp w S [] [] [⟨Sb, 243, .slice (some ⟨f, 0, none⟩) (k + 1) 10, ((p ++ [BitVec.ofNat 8 m] ++ List.replicate (10 - (k + 1)) 0#8).take (k + 1))⟩] [_] _ := H
  have H := H.reW (ys := num n) ((put_take hp).trans (num_last hnum (by omega)))
  have H : Hp w S [] [] [⟨Sb, 243, .slice (some ⟨f, 0, none⟩) (k + 1) 10, num n⟩] [_] _ := H
  have H : Hp w S [] [] [] [Rp SB [.slice (some ⟨f, 0, none⟩) (k + 1) 10] (num n), _] _ := H.freezeW 0 rfl
  refine uK (putN (xs := xs) (ys := (num n)) (H.rp 1 rfl) (H.rp 0 rfl) (by first | omega | simp only [List.length_append, List.length_nil, List.length_cons]; omega)) ?_
  rintro _ _ - H'
  have H := H.back (M1 := []) (W1 := []) H'
  obtain ⟨j, q, rfl, _, _⟩ := H.ownForm 0 rfl
  have H : Hp w S [] [] [⟨Sb, 5, .slice j ((xs ++ (num n)).length) q, (xs ++ (num n))⟩] [_, _] _ := H
  refine uF 1 ?_
  refine qT (.slice j ((xs ++ (num n)).length) q) Tryz.func94 ?_
  have H := H.pick [] rfl
  exact ⟨_, rfl, H.done, H⟩
def flagE (b : Bool) : List (BitVec 8) := if b = true then [1#8] else [0#8]
theorem flagE_len (b : Bool) : (flagE b).length = 1 := by cases b <;> rfl
def bytesE (x : List (BitVec 8)) : List (BitVec 8) := num x.length ++ x
theorem putflag_spec {S : Nat → Prop} {w : World} {xs : List (BitVec 8)} {a : Option Addr} {c : Nat} (h : SB.rep S w [.slice a xs.length c] xs) (b : Bool) (hl : xs.length ≤ 17592186044416 - 20)  :
 Calls Tryz.prog 146 #[.slice a xs.length c, .bool b] w (Ret fun v w' => Ext w w' ∧ Hp w S [] [] [⟨Sb, 5, v, xs ++ flagE b⟩] [] w') := by
 refine uS1 Tryz.func146 ?_
 have H := Hp.startF (.rp h .nil)
 refine uR 5 [.c [1, 0, 1], .c [2]] ?_
 refine qC b (fun l => ?_) (fun l => ?_)
 ·
  refine uR 1 [.c [1, 0, 1, 0, 0], .c [1, 0, 1, 0, 1], .c [2]] ?_
  refine qG (sq 0 4) ?_
  refine uP 1 ?_
  refine RW.new (κ := .seq) (d := some 7) (r := (sq 2 4)) (o := .cells #[.int .u8 1] 5 (0, 0)) (v := fun b => .slice (some ⟨b, 0, none⟩) 1 1) (fun b => by as_aux_lemma => kernel_rfl) (nofun) H ?_
  intro m _ H
  have H := H.freeze 0 rfl Sb ([1#8] : List (BitVec 8)) 1 (by simp [maxLen]) (by first | exact Nat.le_refl _ | simp) (EsP.cons (c := [.int .u8 1]) (Shape.bv_lit (x := 1#8) (by decide)) EsP.nil)
  have H : Hp w S [] [] [] [Rp SB [.slice (some ⟨m, 0, none⟩) 1 1] ([1#8] : List (BitVec 8)), _] _ := H
  refine uK (putN (xs := xs) (ys := ([1#8] : List (BitVec 8))) (H.rp 1 rfl) (H.rp 0 rfl) (by first | omega | simp only [List.length_append, List.length_nil, List.length_cons]; omega)) ?_
  rintro _ _ - H'
  have H := H.back (M1 := []) (W1 := []) H'
  obtain ⟨i, j, rfl, _, _⟩ := H.ownForm 0 rfl
  have H : Hp w S [] [] [⟨Sb, 5, .slice i ((xs ++ ([1#8] : List (BitVec 8))).length) j, (xs ++ ([1#8] : List (BitVec 8)))⟩] [_, _] _ := H
  refine uF 1 ?_
  refine qT (.slice i ((xs ++ ([1#8] : List (BitVec 8))).length) j) Tryz.func146 ?_
  have e : b = true := by assumption
  subst e
  have H := H.pick [] rfl
  exact ⟨_, rfl, H.done, H⟩
 ·
  refine uR 2 [.c [2, 0], .c [3]] ?_
  refine qG (sq 0 4) ?_
  refine uP 1 ?_
  refine RW.new (κ := .seq) (d := some 10) (r := (sq 2 4)) (o := .cells #[.int .u8 0] 5 (0, 0)) (v := fun b => .slice (some ⟨b, 0, none⟩) 1 1) (fun b => by as_aux_lemma => kernel_rfl) (nofun) H ?_
  intro k _ H
  have H := H.freeze 0 rfl Sb ([0#8] : List (BitVec 8)) 1 (by simp [maxLen]) (by first | exact Nat.le_refl _ | simp) (EsP.cons (c := [.int .u8 0]) (Shape.bv_lit (x := 0#8) (by decide)) EsP.nil)
  have H : Hp w S [] [] [] [Rp SB [.slice (some ⟨k, 0, none⟩) 1 1] ([0#8] : List (BitVec 8)), _] _ := H
  refine uK (putN (xs := xs) (ys := ([0#8] : List (BitVec 8))) (H.rp 1 rfl) (H.rp 0 rfl) (by first | omega | simp only [List.length_append, List.length_nil, List.length_cons]; omega)) ?_
  rintro _ _ - H'
  have H := H.back (M1 := []) (W1 := []) H'
  obtain ⟨f, g, rfl, _, _⟩ := H.ownForm 0 rfl
  have H : Hp w S [] [] [⟨Sb, 5, .slice f ((xs ++ ([0#8] : List (BitVec 8))).length) g, (xs ++ ([0#8] : List (BitVec 8)))⟩] [_, _] _ := H
  refine uF 1 ?_
  refine qT (.slice f ((xs ++ ([0#8] : List (BitVec 8))).length) g) Tryz.func146 ?_
  have e : b = false := by assumption
  subst e
  have H := H.pick [] rfl
  exact ⟨_, rfl, H.done, H⟩
theorem putbytes_spec {S : Nat → Prop} {w : World} {xs : List (BitVec 8)} {a : Option Addr} {c : Nat} (h : SB.rep S w [.slice a xs.length c] xs) {ys : List (BitVec 8)} {b : Option Addr} {d : Nat} (h2 : SB.rep S w [.slice b ys.length d] ys) (hl : xs.length + ys.length ≤ 17592186044416 - 20)  :
 Calls Tryz.prog 147 #[.slice a xs.length c, .slice b ys.length d] w (Ret fun v w' => Ext w w' ∧ Hp w S [] [] [⟨Sb, 5, v, xs ++ bytesE ys⟩] [] w') := by
 have hten : (num ys.length).length ≤ 10 := num_ten (by omega)
 refine uS1 Tryz.func147 ?_
 have H := Hp.startF (.rp h (.rp h2 .nil))
 refine uR 3 [.c [1, 0], .c [2]] ?_
 refine qG (sq 0 8) ?_
 refine uP 3 ?_
 refine RW.pv (κ := .seq) (d := some 8) (r := (sq 4 8)) (v' := .int .u64 ((ys.length : Nat) : Int)) (v := .int .u64 (IntKind.u64.wrap (((ys.length : Nat) : Int)))) (by as_aux_lemma => kernel_rfl) (wr_u64 (by omega)) ?_
 refine uK (putnum_spec (xs := xs) (H.rp 0 rfl) ys.length (by omega) (by first | omega | simp only [List.length_append, List.length_nil, List.length_cons]; omega)) ?_
 rintro _ _ - H'
 have H := H.back (M1 := []) (W1 := []) H'
 obtain ⟨g, i, rfl, _, _⟩ := H.ownForm 0 rfl
 have H : Hp w S [] [] [⟨Sb, 5, .slice g (xs ++ num ys.length).length i, (xs ++ num ys.length)⟩] [_, _] _ := H
 refine uP 1 ?_
 refine uA 23 23 1 (xs ++ num ys.length ++ ys) H 0 rfl 1 rfl (rfl) (by simp only [List.length_append]; omega) ?_
 intro e f _ H _
 have H : Hp w S [] [] [⟨Sb, 5, .slice e (xs ++ num ys.length ++ ys).length f, (xs ++ num ys.length ++ ys)⟩] [_, _] _ := H
 refine uF 1 ?_
 refine qT (.slice e (xs ++ num ys.length ++ ys).length f) Tryz.func147 ?_
 rw [show xs ++ num ys.length ++ ys = xs ++ bytesE ys from List.append_assoc ..] at H ⊢
 have H := H.pick [] rfl
 exact ⟨_, rfl, H.done, H⟩
end Go.Proofs.YtdnibpclkhenmaaGreatDoor

namespace Go.Proofs.YtdnibpclkhenmaaGreatDoor
open Go.BX
theorem number_spec {S : Nat → Prop} {w : World} {xs r : List (BitVec 8)} {a : Option Addr} {c k : Nat} (h : SB.rep S w [.slice a xs.length c] xs) (hk : k ≤ xs.length) {n : Nat} (hn : n ≤ 18446744073709551615) (hd : xs.drop k = num n ++ r)  :
 Calls Tryz.prog 142 #[.slice a xs.length c, .I k] w (Ret fun v w' => Ext w w' ∧ v = .tuple #[.int .u64 (n : Int), .I ((k + (num n).length : Nat) : Int), .I 0]) := by
 have hal := Shape.slice_len h
 refine uS1 Tryz.func142 ?_
 have H := Hp.startF (.rp h .nil)
 refine uR 4 [.c [1, 0, 0], .c [1, 0, 1], .c [2]] ?_
 refine qG (sq 0 8) ?_
 refine uP 3 ?_
 refine uD 12 (((k : Int) : Int) < 0) (fun Q => ?_) (fun Q => ?_)
 ·
  omega
 ·
  refine uF 5 ?_
  refine qD (((k : Int) : Int) > ((xs.length : Nat) : Int)) (fun R => ?_) (fun R => ?_)
  ·
   omega
  ·
   refine uR 5 [.c [3, 0, 0], .c [3, 0, 1], .c [4]] ?_
   refine qG (sq 0 5) ?_
   refine uP 2 ?_
   refine RW.slice (κ := .seq) (d := some 20) (r := (sq 3 5)) (T := 23) (e := 5) (sh := Sb) (a := a) (len := xs.length) (cap := c) (zs := (xs.drop k)) (lv := (some (.I k))) (hv := none) (by as_aux_lemma => kernel_rfl) (by as_aux_lemma => kernel_rfl) H 0 rfl k xs.length (.mk (by omega)) .nil (by omega) (by omega) (by rw [List.take_of_length_le (Nat.le_refl _)]) ?_
   intro B H
   refine uF 2 ?_
   refine uR 1 [.c [3, 0, 1, 0], .b 0, .c [4]] ?_
   refine uL (α := Nat × Nat) (g := 142) (p := [3, 0, 1, 0, 0]) (fun (i, acc) => [(1, .I k), (7, .int .u64 (acc : Int)), (20, .slice B (xs.drop k).length (c - k)), (21, .I (((xs.drop k).length : Nat) : Int)), (22, .I i)]) (fun (i, acc) w' => Hp w S [] [] [] [Rp SB [.slice B (xs.drop k).length (c - k)] (xs.drop k), Rp SB [.slice a xs.length c] xs] w' ∧ i ≤ 9 ∧ acc = n % 128 ^ i ∧ (xs.drop k).drop i = num (n / 128 ^ i) ++ r ∧ (num n).length = i + (num (n / 128 ^ i)).length ∧ (0 < i → 0 < n / 128 ^ i)) (fun (i, acc) => xs.length - i) (0, 0) ⟨H, by omega, by rw [Nat.pow_zero, Nat.mod_one], by rw [List.drop_zero, Nat.pow_zero, Nat.div_one]; exact hd, by rw [Nat.pow_zero, Nat.div_one, Nat.zero_add], fun h => absurd h (Nat.lt_irrefl 0)⟩ ?_
   rintro ⟨i, acc⟩ _ ⟨H, ⟨hi, hacc, hdr, hln, hpos⟩⟩ t
   refine uR 3 [.c [3, 0, 1, 0, 0, 1, 0], .c [3, 0, 1, 0, 0, 2], .l [3, 0, 1, 0, 0], .b 0, .c [4]] ?_
   refine qD (((i : Int) : Int) < (((xs.drop k).length : Nat) : Int)) (fun U => ?_) (fun U => ?_)
   ·
    obtain ⟨f, _, u, hlo, hhi⟩ := num_head (n / 128 ^ i)
    have x := hdr
    rw [u, List.cons_append] at x
    obtain ⟨hat, hlt⟩ := at_drop x
    have V : k + i < xs.length := by have o := hlt; rw [List.length_drop] at o; omega
    have hnine : i = 9 → n / 128 ^ i ≤ 1 := fun e => by subst e; exact num_nine hn
    have hdg : (f &&& 127#8).toNat = n / 128 ^ i % 128 := by
     rw [and127]
     rcases Nat.lt_or_ge (n / 128 ^ i) 128 with o | o
     · rw [(hlo o).1]
     · rw [(hhi (by omega)).1]; omega
    refine uR 4 [.c [3, 0, 1, 0, 0, 2, 0, 0, 0], .c [3, 0, 1, 0, 0, 2, 0, 0, 1], .b 1, .c [3, 0, 1, 0, 0, 3], .l [3, 0, 1, 0, 0], .b 0, .c [4]] ?_
    refine qG (sq 0 5) ?_
    refine uP 1 ?_
    have W : i < (xs.drop k).length := hlt
    refine uX 23 (i : Int) H 0 rfl i (by omega) (hat) ?_
    intro _ _ _ D H
    obtain rfl := D
    refine uV 5 0 (H.fc 0 rfl) ?_
    refine uF 2 ?_
    refine uR 4 [.c [3, 0, 1, 0, 0, 2, 0, 0, 1, 0, 0, 0, 0], .c [3, 0, 1, 0, 0, 2, 0, 0, 1, 0, 0, 0, 1], .c [3, 0, 1, 0, 0, 2, 0, 0, 1, 0, 0, 1], .b 2, .c [3, 0, 1, 0, 0, 2, 0, 0, 2], .b 1, .c [3, 0, 1, 0, 0, 3], .l [3, 0, 1, 0, 0], .b 0, .c [4]] ?_
    refine qG (sq 0 7) ?_
    refine uP 3 ?_
    refine uE 30 (i : Int) 9 (fun E => ?_) (fun E => ?_)
    ·
     refine uF 4 ?_
     refine qD ((((f.toNat : Nat) : Int) : Int) > 1) (fun F => ?_) (fun F => ?_)
     ·
      omega
     ·
      refine qG (sq 0 7) ?_
      refine uP 3 ?_
      refine uD 36 (((i : Int) : Int) > 0) (fun G => ?_) (fun G => ?_)
      ·
       refine uF 4 ?_
       refine qE ((f.toNat : Nat) : Int) 0 (fun J => ?_) (fun J => ?_)
       ·
        omega
       ·
        refine uR 3 [.c [3, 0, 1, 0, 0, 2, 0, 0, 2, 0], .c [3, 0, 1, 0, 0, 2, 0, 0, 3], .b 1, .c [3, 0, 1, 0, 0, 3], .l [3, 0, 1, 0, 0], .b 0, .c [4]] ?_
        refine qG (sq 0 10) ?_
        refine qP 2 (sq 2 10) [(1, .I k), (7, .int .u64 (acc : Int)), (8, .I i), (9, .int .u8 ((f.toNat : Nat) : Int)), (20, .slice B (xs.drop k).length (c - k)), (21, .I (((xs.drop k).length : Nat) : Int)), (22, .I i), (40, .int .u64 (acc : Int)), (41, .int .u8 ((f.toNat : Nat) : Int))] ?_
        refine RW.pv (κ := .seq) (d := some 42) (r := (sq 3 10)) (v := .int .u8 (IntKind.u8.wrap ((BitVec.ofInt 8 ((f.toNat : Nat) : Int) &&& BitVec.ofInt 8 127).toNat : Nat))) (v' := .int .u8 ((((f &&& (127#8)).toNat : Nat) : Int))) (by as_aux_lemma => kernel_rfl) (bv_and8 (bvi _) (by decide)) ?_
        refine RW.pv (κ := .seq) (d := some 43) (r := (sq 4 10)) (v := .int .u64 (IntKind.u64.wrap ((((f &&& (127#8)).toNat : Nat) : Int)))) (v' := .int .u64 ((((f &&& (127#8)).setWidth 64).toNat : Nat) : Int)) (by as_aux_lemma => kernel_rfl) (bv_cv8_64 _) ?_
        refine uP 1 ?_
        refine RW.pv (κ := .seq) (d := some 45) (r := (sq 6 10)) (v := .int .u64 (IntKind.u64.wrap ((i : Int)))) (v' := .int .u64 ((i : Int))) (by as_aux_lemma => kernel_rfl) (wr_u64 (by omega)) ?_
        refine RW.pv (κ := .seq) (d := some 46) (r := (sq 7 10)) (v := .int .u64 (IntKind.u64.wrap (7 * (i : Int)))) (v' := .int .u64 (7 * (i : Int))) (by as_aux_lemma => kernel_rfl) (wr_u64 (by omega)) ?_
        refine RW.readS (κ := .seq) (d := some 47) (r := (sq 8 10)) (s := semV (Op.shift .shl .u64 ((((f &&& (127#8)).setWidth 64).toNat : Nat) : Int) .u64 (7 * (i : Int)))) (v := .int .u64 (IntKind.u64.wrap ((((f &&& 127#8).toNat : Nat) : Int) * 2 ^ (7 * i)))) (by as_aux_lemma => kernel_rfl) (fun w' _ => semV_run (shift_run (k := .u64) (j := 7 * i) (by omega) (by show 7 * i ≤ 64; omega)).1) ?_
        refine RW.pv (κ := .seq) (d := some 48) (r := (sq 9 10)) (v := .int .u64 (IntKind.u64.wrap ((BitVec.ofInt 64 (acc : Int) ||| BitVec.ofInt 64 (IntKind.u64.wrap ((((f &&& 127#8).toNat : Nat) : Int) * 2 ^ (7 * i)))).toNat : Nat))) (v' := .int .u64 ((n % 128 ^ (i + 1) : Nat) : Int)) (by as_aux_lemma => kernel_rfl) (congrArg (Value.int .u64) (by rw [hacc]; exact num_acc hn hdg)) ?_
        refine uF 1 ?_
        refine uR 2 [.c [3, 0, 1, 0, 0, 2, 0, 0, 4], .b 1, .c [3, 0, 1, 0, 0, 3], .l [3, 0, 1, 0, 0], .b 0, .c [4]] ?_
        refine qD ((((f.toNat : Nat) : Int) : Int) < 128) (fun K => ?_) (fun K => ?_)
        ·
         refine uR 1 [.c [3, 0, 1, 0, 0, 2, 0, 0, 4, 0, 0], .c [3, 0, 1, 0, 0, 2, 0, 0, 4, 0, 1], .b 1, .c [3, 0, 1, 0, 0, 3], .l [3, 0, 1, 0, 0], .b 0, .c [4]] ?_
         refine qG (sq 0 8) ?_
         refine uP 3 ?_
         refine uI ((k : Int) + (i : Int)) ?_
         refine uI (((k : Int) + (i : Int)) + 1) ?_
         refine uF 3 ?_
         refine qT (.tuple #[.int .u64 ((n % 128 ^ (i + 1) : Nat) : Int), .I (((k : Int) + (i : Int)) + 1), .I 0]) Tryz.func142 ?_
         have hsm : n / 128 ^ i < 128 := by
          rcases Nat.lt_or_ge (n / 128 ^ i) 128 with o | o
          · exact o
          · have y := (hhi (by omega)).1; omega
         have z := num_fin hsm
         have m := congrArg List.length u
         rw [(hlo hsm).2] at m
         have A : (k : Int) + (i : Int) + 1 = ((k + (num n).length : Nat) : Int) := by rw [hln, m]; simp only [List.length_cons, List.length_nil]; omega
         exact ⟨_, rfl, H.done, by rw [z, A]⟩
        ·
         refine uR 2 [.c [3, 0, 1, 0, 0, 3], .l [3, 0, 1, 0, 0], .b 0, .c [4]] ?_
         refine qG (sq 0 2) ?_
         refine uI ((i : Int) + 1) ?_
         refine uF 1 ?_
         have hbig : ¬ n / 128 ^ i < 128 := by intro o; have y := (hlo o).1; omega
         obtain ⟨C, q⟩ := hhi hbig
         have hdn := drop_next x
         rw [q, num_nxt] at hdn
         have hnn := num_nxt n i
         have m := congrArg List.length u
         rw [List.length_cons, q, num_nxt] at m
         have hpp := num_pos (n / 128 ^ (i + 1))
         have H := H.pick [1, 2] rfl
         exact uB (t (i + 1, n % 128 ^ (i + 1)) _ ⟨H, by omega, rfl, hdn, by omega, fun _ => by omega⟩ (by first | omega | (simp only []; omega)))
      ·
       refine uF 4 ?_
       refine qR 4 [.c [3, 0, 1, 0, 0, 2, 0, 0, 2, 0], .c [3, 0, 1, 0, 0, 2, 0, 0, 3], .b 1, .c [3, 0, 1, 0, 0, 3], .l [3, 0, 1, 0, 0], .b 0, .c [4]] [(1, .I k), (7, .int .u64 (acc : Int)), (8, .I i), (9, .int .u8 ((f.toNat : Nat) : Int)), (20, .slice B (xs.drop k).length (c - k)), (21, .I (((xs.drop k).length : Nat) : Int)), (22, .I i)] ?_
       refine qG (sq 0 10) ?_
       refine uP 2 ?_
       refine RW.pv (κ := .seq) (d := some 42) (r := (sq 3 10)) (v := .int .u8 (IntKind.u8.wrap ((BitVec.ofInt 8 ((f.toNat : Nat) : Int) &&& BitVec.ofInt 8 127).toNat : Nat))) (v' := .int .u8 ((((f &&& (127#8)).toNat : Nat) : Int))) (by as_aux_lemma => kernel_rfl) (bv_and8 (bvi _) (by decide)) ?_
       refine RW.pv (κ := .seq) (d := some 43) (r := (sq 4 10)) (v := .int .u64 (IntKind.u64.wrap ((((f &&& (127#8)).toNat : Nat) : Int)))) (v' := .int .u64 ((((f &&& (127#8)).setWidth 64).toNat : Nat) : Int)) (by as_aux_lemma => kernel_rfl) (bv_cv8_64 _) ?_
       refine uP 1 ?_
       refine RW.pv (κ := .seq) (d := some 45) (r := (sq 6 10)) (v := .int .u64 (IntKind.u64.wrap ((i : Int)))) (v' := .int .u64 ((i : Int))) (by as_aux_lemma => kernel_rfl) (wr_u64 (by omega)) ?_
       refine RW.pv (κ := .seq) (d := some 46) (r := (sq 7 10)) (v := .int .u64 (IntKind.u64.wrap (7 * (i : Int)))) (v' := .int .u64 (7 * (i : Int))) (by as_aux_lemma => kernel_rfl) (wr_u64 (by omega)) ?_
       refine RW.readS (κ := .seq) (d := some 47) (r := (sq 8 10)) (s := semV (Op.shift .shl .u64 ((((f &&& (127#8)).setWidth 64).toNat : Nat) : Int) .u64 (7 * (i : Int)))) (v := .int .u64 (IntKind.u64.wrap ((((f &&& 127#8).toNat : Nat) : Int) * 2 ^ (7 * i)))) (by as_aux_lemma => kernel_rfl) (fun w' _ => semV_run (shift_run (k := .u64) (j := 7 * i) (by omega) (by show 7 * i ≤ 64; omega)).1) ?_
       refine RW.pv (κ := .seq) (d := some 48) (r := (sq 9 10)) (v := .int .u64 (IntKind.u64.wrap ((BitVec.ofInt 64 (acc : Int) ||| BitVec.ofInt 64 (IntKind.u64.wrap ((((f &&& 127#8).toNat : Nat) : Int) * 2 ^ (7 * i)))).toNat : Nat))) (v' := .int .u64 ((n % 128 ^ (i + 1) : Nat) : Int)) (by as_aux_lemma => kernel_rfl) (congrArg (Value.int .u64) (by rw [hacc]; exact num_acc hn hdg)) ?_
       refine uF 1 ?_
       refine uR 2 [.c [3, 0, 1, 0, 0, 2, 0, 0, 4], .b 1, .c [3, 0, 1, 0, 0, 3], .l [3, 0, 1, 0, 0], .b 0, .c [4]] ?_
       refine qD ((((f.toNat : Nat) : Int) : Int) < 128) (fun L => ?_) (fun L => ?_)
       ·
        refine uR 1 [.c [3, 0, 1, 0, 0, 2, 0, 0, 4, 0, 0], .c [3, 0, 1, 0, 0, 2, 0, 0, 4, 0, 1], .b 1, .c [3, 0, 1, 0, 0, 3], .l [3, 0, 1, 0, 0], .b 0, .c [4]] ?_
        refine qG (sq 0 8) ?_
        refine uP 3 ?_
        refine uI ((k : Int) + (i : Int)) ?_
        refine uI (((k : Int) + (i : Int)) + 1) ?_
        refine uF 3 ?_
        refine qT (.tuple #[.int .u64 ((n % 128 ^ (i + 1) : Nat) : Int), .I (((k : Int) + (i : Int)) + 1), .I 0]) Tryz.func142 ?_
        have hsm : n / 128 ^ i < 128 := by
         rcases Nat.lt_or_ge (n / 128 ^ i) 128 with o | o
         · exact o
         · have y := (hhi (by omega)).1; omega
        have z := num_fin hsm
        have m := congrArg List.length u
        rw [(hlo hsm).2] at m
        have A : (k : Int) + (i : Int) + 1 = ((k + (num n).length : Nat) : Int) := by rw [hln, m]; simp only [List.length_cons, List.length_nil]; omega
        exact ⟨_, rfl, H.done, by rw [z, A]⟩
       ·
        refine uR 2 [.c [3, 0, 1, 0, 0, 3], .l [3, 0, 1, 0, 0], .b 0, .c [4]] ?_
        refine qG (sq 0 2) ?_
        refine uI ((i : Int) + 1) ?_
        refine uF 1 ?_
        have hbig : ¬ n / 128 ^ i < 128 := by intro o; have y := (hlo o).1; omega
        obtain ⟨C, q⟩ := hhi hbig
        have hdn := drop_next x
        rw [q, num_nxt] at hdn
        have hnn := num_nxt n i
        have m := congrArg List.length u
        rw [List.length_cons, q, num_nxt] at m
        have hpp := num_pos (n / 128 ^ (i + 1))
        have H := H.pick [1, 2] rfl
        exact uB (t (i + 1, n % 128 ^ (i + 1)) _ ⟨H, by omega, rfl, hdn, by omega, fun _ => by omega⟩ (by first | omega | (simp only []; omega)))
    ·
     refine uF 4 ?_
     refine uR 1 [.c [3, 0, 1, 0, 0, 2, 0, 0, 1, 0, 0, 0, 1, 1], .c [3, 0, 1, 0, 0, 2, 0, 0, 1, 0, 0, 1], .b 2, .c [3, 0, 1, 0, 0, 2, 0, 0, 2], .b 1, .c [3, 0, 1, 0, 0, 3], .l [3, 0, 1, 0, 0], .b 0, .c [4]] ?_
     refine qG (sq 0 7) ?_
     refine uP 3 ?_
     refine uD 36 (((i : Int) : Int) > 0) (fun M => ?_) (fun M => ?_)
     ·
      refine qF 4 [(1, .I k), (7, .int .u64 (acc : Int)), (8, .I i), (9, .int .u8 ((f.toNat : Nat) : Int)), (20, .slice B (xs.drop k).length (c - k)), (21, .I (((xs.drop k).length : Nat) : Int)), (22, .I i), (27, .bool (((f.toNat : Nat) : Int) == 0))] ?_
      refine qE ((f.toNat : Nat) : Int) 0 (fun N => ?_) (fun N => ?_)
      ·
       omega
      ·
       refine uR 3 [.c [3, 0, 1, 0, 0, 2, 0, 0, 2, 0], .c [3, 0, 1, 0, 0, 2, 0, 0, 3], .b 1, .c [3, 0, 1, 0, 0, 3], .l [3, 0, 1, 0, 0], .b 0, .c [4]] ?_
       refine qG (sq 0 10) ?_
       refine uP 2 ?_
       refine RW.pv (κ := .seq) (d := some 42) (r := (sq 3 10)) (v := .int .u8 (IntKind.u8.wrap ((BitVec.ofInt 8 ((f.toNat : Nat) : Int) &&& BitVec.ofInt 8 127).toNat : Nat))) (v' := .int .u8 ((((f &&& (127#8)).toNat : Nat) : Int))) (by as_aux_lemma => kernel_rfl) (bv_and8 (bvi _) (by decide)) ?_
       refine RW.pv (κ := .seq) (d := some 43) (r := (sq 4 10)) (v := .int .u64 (IntKind.u64.wrap ((((f &&& (127#8)).toNat : Nat) : Int)))) (v' := .int .u64 ((((f &&& (127#8)).setWidth 64).toNat : Nat) : Int)) (by as_aux_lemma => kernel_rfl) (bv_cv8_64 _) ?_
       refine uP 1 ?_
       refine RW.pv (κ := .seq) (d := some 45) (r := (sq 6 10)) (v := .int .u64 (IntKind.u64.wrap ((i : Int)))) (v' := .int .u64 ((i : Int))) (by as_aux_lemma => kernel_rfl) (wr_u64 (by omega)) ?_
       refine RW.pv (κ := .seq) (d := some 46) (r := (sq 7 10)) (v := .int .u64 (IntKind.u64.wrap (7 * (i : Int)))) (v' := .int .u64 (7 * (i : Int))) (by as_aux_lemma => kernel_rfl) (wr_u64 (by omega)) ?_
       refine RW.readS (κ := .seq) (d := some 47) (r := (sq 8 10)) (s := semV (Op.shift .shl .u64 ((((f &&& (127#8)).setWidth 64).toNat : Nat) : Int) .u64 (7 * (i : Int)))) (v := .int .u64 (IntKind.u64.wrap ((((f &&& 127#8).toNat : Nat) : Int) * 2 ^ (7 * i)))) (by as_aux_lemma => kernel_rfl) (fun w' _ => semV_run (shift_run (k := .u64) (j := 7 * i) (by omega) (by show 7 * i ≤ 64; omega)).1) ?_
       refine RW.pv (κ := .seq) (d := some 48) (r := (sq 9 10)) (v := .int .u64 (IntKind.u64.wrap ((BitVec.ofInt 64 (acc : Int) ||| BitVec.ofInt 64 (IntKind.u64.wrap ((((f &&& 127#8).toNat : Nat) : Int) * 2 ^ (7 * i)))).toNat : Nat))) (v' := .int .u64 ((n % 128 ^ (i + 1) : Nat) : Int)) (by as_aux_lemma => kernel_rfl) (congrArg (Value.int .u64) (by rw [hacc]; exact num_acc hn hdg)) ?_
       refine uF 1 ?_
       refine uR 2 [.c [3, 0, 1, 0, 0, 2, 0, 0, 4], .b 1, .c [3, 0, 1, 0, 0, 3], .l [3, 0, 1, 0, 0], .b 0, .c [4]] ?_
       refine qD ((((f.toNat : Nat) : Int) : Int) < 128) (fun O => ?_) (fun O => ?_)
       ·
        refine uR 1 [.c [3, 0, 1, 0, 0, 2, 0, 0, 4, 0, 0], .c [3, 0, 1, 0, 0, 2, 0, 0, 4, 0, 1], .b 1, .c [3, 0, 1, 0, 0, 3], .l [3, 0, 1, 0, 0], .b 0, .c [4]] ?_
        refine qG (sq 0 8) ?_
        refine uP 3 ?_
        refine uI ((k : Int) + (i : Int)) ?_
        refine uI (((k : Int) + (i : Int)) + 1) ?_
        refine uF 3 ?_
        refine qT (.tuple #[.int .u64 ((n % 128 ^ (i + 1) : Nat) : Int), .I (((k : Int) + (i : Int)) + 1), .I 0]) Tryz.func142 ?_
        have hsm : n / 128 ^ i < 128 := by
         rcases Nat.lt_or_ge (n / 128 ^ i) 128 with o | o
         · exact o
         · have y := (hhi (by omega)).1; omega
        have z := num_fin hsm
        have m := congrArg List.length u
        rw [(hlo hsm).2] at m
        have A : (k : Int) + (i : Int) + 1 = ((k + (num n).length : Nat) : Int) := by rw [hln, m]; simp only [List.length_cons, List.length_nil]; omega
        exact ⟨_, rfl, H.done, by rw [z, A]⟩
       ·
        refine uR 2 [.c [3, 0, 1, 0, 0, 3], .l [3, 0, 1, 0, 0], .b 0, .c [4]] ?_
        refine qG (sq 0 2) ?_
        refine uI ((i : Int) + 1) ?_
        refine uF 1 ?_
        have hbig : ¬ n / 128 ^ i < 128 := by intro o; have y := (hlo o).1; omega
        obtain ⟨C, q⟩ := hhi hbig
        have hdn := drop_next x
        rw [q, num_nxt] at hdn
        have hnn := num_nxt n i
        have m := congrArg List.length u
        rw [List.length_cons, q, num_nxt] at m
        have hpp := num_pos (n / 128 ^ (i + 1))
        have H := H.pick [1, 2] rfl
        exact uB (t (i + 1, n % 128 ^ (i + 1)) _ ⟨H, by omega, rfl, hdn, by omega, fun _ => by omega⟩ (by first | omega | (simp only []; omega)))
     ·
      refine uF 4 ?_
      refine uR 4 [.c [3, 0, 1, 0, 0, 2, 0, 0, 2, 0], .c [3, 0, 1, 0, 0, 2, 0, 0, 3], .b 1, .c [3, 0, 1, 0, 0, 3], .l [3, 0, 1, 0, 0], .b 0, .c [4]] ?_
      refine qG (sq 0 10) ?_
      refine uP 2 ?_
      refine RW.pv (κ := .seq) (d := some 42) (r := (sq 3 10)) (v := .int .u8 (IntKind.u8.wrap ((BitVec.ofInt 8 ((f.toNat : Nat) : Int) &&& BitVec.ofInt 8 127).toNat : Nat))) (v' := .int .u8 ((((f &&& (127#8)).toNat : Nat) : Int))) (by as_aux_lemma => kernel_rfl) (bv_and8 (bvi _) (by decide)) ?_
      refine RW.pv (κ := .seq) (d := some 43) (r := (sq 4 10)) (v := .int .u64 (IntKind.u64.wrap ((((f &&& (127#8)).toNat : Nat) : Int)))) (v' := .int .u64 ((((f &&& (127#8)).setWidth 64).toNat : Nat) : Int)) (by as_aux_lemma => kernel_rfl) (bv_cv8_64 _) ?_
      refine uP 1 ?_
      refine RW.pv (κ := .seq) (d := some 45) (r := (sq 6 10)) (v := .int .u64 (IntKind.u64.wrap ((i : Int)))) (v' := .int .u64 ((i : Int))) (by as_aux_lemma => kernel_rfl) (wr_u64 (by omega)) ?_
      refine RW.pv (κ := .seq) (d := some 46) (r := (sq 7 10)) (v := .int .u64 (IntKind.u64.wrap (7 * (i : Int)))) (v' := .int .u64 (7 * (i : Int))) (by as_aux_lemma => kernel_rfl) (wr_u64 (by omega)) ?_
      refine RW.readS (κ := .seq) (d := some 47) (r := (sq 8 10)) (s := semV (Op.shift .shl .u64 ((((f &&& (127#8)).setWidth 64).toNat : Nat) : Int) .u64 (7 * (i : Int)))) (v := .int .u64 (IntKind.u64.wrap ((((f &&& 127#8).toNat : Nat) : Int) * 2 ^ (7 * i)))) (by as_aux_lemma => kernel_rfl) (fun w' _ => semV_run (shift_run (k := .u64) (j := 7 * i) (by omega) (by show 7 * i ≤ 64; omega)).1) ?_
      refine RW.pv (κ := .seq) (d := some 48) (r := (sq 9 10)) (v := .int .u64 (IntKind.u64.wrap ((BitVec.ofInt 64 (acc : Int) ||| BitVec.ofInt 64 (IntKind.u64.wrap ((((f &&& 127#8).toNat : Nat) : Int) * 2 ^ (7 * i)))).toNat : Nat))) (v' := .int .u64 ((n % 128 ^ (i + 1) : Nat) : Int)) (by as_aux_lemma => kernel_rfl) (congrArg (Value.int .u64) (by rw [hacc]; exact num_acc hn hdg)) ?_
      refine uF 1 ?_
      refine uR 2 [.c [3, 0, 1, 0, 0, 2, 0, 0, 4], .b 1, .c [3, 0, 1, 0, 0, 3], .l [3, 0, 1, 0, 0], .b 0, .c [4]] ?_
      refine qD ((((f.toNat : Nat) : Int) : Int) < 128) (fun P => ?_) (fun P => ?_)
      ·
       refine uR 1 [.c [3, 0, 1, 0, 0, 2, 0, 0, 4, 0, 0], .c [3, 0, 1, 0, 0, 2, 0, 0, 4, 0, 1], .b 1, .c [3, 0, 1, 0, 0, 3], .l [3, 0, 1, 0, 0], .b 0, .c [4]] ?_
       refine qG (sq 0 8) ?_
       refine uP 3 ?_
       refine uI ((k : Int) + (i : Int)) ?_
       refine uI (((k : Int) + (i : Int)) + 1) ?_
       refine uF 3 ?_
       refine qT (.tuple #[.int .u64 ((n % 128 ^ (i + 1) : Nat) : Int), .I (((k : Int) + (i : Int)) + 1), .I 0]) Tryz.func142 ?_
       have hsm : n / 128 ^ i < 128 := by
        rcases Nat.lt_or_ge (n / 128 ^ i) 128 with o | o
        · exact o
        · have y := (hhi (by omega)).1; omega
       have z := num_fin hsm
       have m := congrArg List.length u
       rw [(hlo hsm).2] at m
       have A : (k : Int) + (i : Int) + 1 = ((k + (num n).length : Nat) : Int) := by rw [hln, m]; simp only [List.length_cons, List.length_nil]; omega
       exact ⟨_, rfl, H.done, by rw [z, A]⟩
      ·
       refine uR 2 [.c [3, 0, 1, 0, 0, 3], .l [3, 0, 1, 0, 0], .b 0, .c [4]] ?_
       refine qG (sq 0 2) ?_
       refine uI ((i : Int) + 1) ?_
       refine qF 1 [(1, .I k), (7, .int .u64 ((n % 128 ^ (i + 1) : Nat) : Int)), (20, .slice B (xs.drop k).length (c - k)), (21, .I (((xs.drop k).length : Nat) : Int)), (22, .I ((i : Int) + 1))] ?_
       have hbig : ¬ n / 128 ^ i < 128 := by intro o; have y := (hlo o).1; omega
       obtain ⟨C, q⟩ := hhi hbig
       have hdn := drop_next x
       rw [q, num_nxt] at hdn
       have hnn := num_nxt n i
       have m := congrArg List.length u
       rw [List.length_cons, q, num_nxt] at m
       have hpp := num_pos (n / 128 ^ (i + 1))
       have H := H.pick [1, 2] rfl
       exact uB (t (i + 1, n % 128 ^ (i + 1)) _ ⟨H, by omega, rfl, hdn, by omega, fun _ => by omega⟩ (by first | omega | (simp only []; omega)))
   ·
    (have hq1 := congrArg List.length hdr; rw [List.length_append, List.length_drop] at hq1; have hq2 := num_pos (n / 128 ^ i); rw [List.length_drop] at *; omega)
theorem int_spec {S : Nat → Prop} {w : World} {xs r : List (BitVec 8)} {a : Option Addr} {c k : Nat} (h : SB.rep S w [.slice a xs.length c] xs) (hk : k ≤ xs.length) {x : Int} (hx : -9223372036854775808 ≤ x ∧ x ≤ 9223372036854775807) (hd : xs.drop k = intE x ++ r)  :
 Calls Tryz.prog 171 #[.slice a xs.length c, .I k] w (Ret fun v w' => Ext w w' ∧ v = .tuple #[.I x, .I ((k + (intE x).length : Nat) : Int), .I 0]) := by
 have hz := zig_le hx
 rw [intE_zig] at hd ⊢
 refine uS1 Tryz.func171 ?_
 have H := Hp.startF (.rp h .nil)
 refine uR 3 [.c [1, 0], .c [2]] ?_
 refine qG (sq 0 10) ?_
 refine uP 2 ?_
 refine uK (number_spec (S := fun _ => True) (n := zig x) (H.viewR 0 rfl) hk hz hd) ?_
 rintro _ _ b rfl
 have H := H.ext b
 have e := drop_app hd
 have f : (k + (num (zig x)).length) ≤ xs.length := by have h9 := drop_in hd hk; omega
 refine uF 7 ?_
 refine uR 1 [.c [2, 0], .c [3]] ?_
 refine qG (sq 0 13) ?_
 refine uP 1 ?_
 refine RW.pv (κ := .seq) (d := some 18) (r := (sq 2 13)) (v := .int .u64 (((zig x : Nat) : Int).fdiv (2 ^ 1))) (v' := .int .u64 (((zig x : Nat) : Int).fdiv (2 ^ 1))) (by as_aux_lemma => kernel_rfl) rfl ?_
 refine RW.pv (κ := .seq) (d := some 19) (r := (sq 3 13)) (v := .I (IntKind.i64.wrap (((zig x : Nat) : Int).fdiv (2 ^ 1)))) (v' := .I (IntKind.i64.wrap (((zig x : Nat) : Int).fdiv (2 ^ 1)))) (by as_aux_lemma => kernel_rfl) rfl ?_
 refine uP 1 ?_
 refine RW.pv (κ := .seq) (d := some 21) (r := (sq 5 13)) (v := .int .u64 (IntKind.u64.wrap ((BitVec.ofInt 64 ((zig x : Nat) : Int) &&& BitVec.ofInt 64 1).toNat : Nat))) (v' := .int .u64 (((zig x : Nat) : Int) % 2)) (by as_aux_lemma => kernel_rfl) (and_u64 (j := 1) (m := 1) (by decide) (by decide) (by omega)) ?_
 refine RW.pv (κ := .seq) (d := some 22) (r := (sq 6 13)) (v := .I (IntKind.i64.wrap (((zig x : Nat) : Int) % 2))) (v' := .I (IntKind.i64.wrap (((zig x : Nat) : Int) % 2))) (by as_aux_lemma => kernel_rfl) rfl ?_
 refine RW.pv (κ := .seq) (d := some 23) (r := (sq 7 13)) (v := .I (IntKind.i64.wrap (0 - (IntKind.i64.wrap (((zig x : Nat) : Int) % 2))))) (v' := .I (IntKind.i64.wrap (0 - (IntKind.i64.wrap (((zig x : Nat) : Int) % 2))))) (by as_aux_lemma => kernel_rfl) rfl ?_
 refine RW.pv (κ := .seq) (d := some 24) (r := (sq 8 13)) (v := .I (IntKind.i64.wrap ((BitVec.ofInt 64 (IntKind.i64.wrap (((zig x : Nat) : Int).fdiv (2 ^ 1))) ^^^ BitVec.ofInt 64 (IntKind.i64.wrap (0 - (IntKind.i64.wrap (((zig x : Nat) : Int) % 2))))).toNat : Nat))) (v' := .I x) (by as_aux_lemma => kernel_rfl) (congrArg (Value.int .i64) (unzig hx)) ?_
 refine uF 5 ?_
 refine qT (.tuple #[.I x, .I ((k + (num (zig x)).length : Nat) : Int), .I 0]) Tryz.func171 ?_
 exact ⟨_, rfl, H.done, rfl⟩
theorem flag_spec {S : Nat → Prop} {w : World} {xs r : List (BitVec 8)} {a : Option Addr} {c k : Nat} (h : SB.rep S w [.slice a xs.length c] xs) (hk : k ≤ xs.length) {b : Bool} (hd : xs.drop k = flagE b ++ r)  :
 Calls Tryz.prog 141 #[.slice a xs.length c, .I k] w (Ret fun v w' => Ext w w' ∧ v = .tuple #[.bool b, .I ((k + (flagE b).length : Nat) : Int), .I 0]) := by
 have hal := Shape.slice_len h
 obtain ⟨d, g, hcv⟩ : ∃ c : BitVec 8, flagE b = [c] ∧ c.toNat = (if b = true then 1 else 0) := by
  cases b
  · exact ⟨0#8, rfl, rfl⟩
  · exact ⟨1#8, rfl, rfl⟩
 have e := hd
 rw [g, List.cons_append] at e
 obtain ⟨hat, hlt⟩ := at_drop e
 have q : d.toNat ≤ 1 := by rw [hcv]; split <;> omega
 refine uS1 Tryz.func141 ?_
 have H := Hp.startF (.rp h .nil)
 refine uR 5 [.c [1, 0, 0, 0], .c [1, 0, 0, 1], .b 0, .c [2]] ?_
 refine qG (sq 0 9) ?_
 refine uP 3 ?_
 refine uD 10 (((k : Int) : Int) < 0) (fun l => ?_) (fun l => ?_)
 ·
  omega
 ·
  refine uF 6 ?_
  refine qD (((k : Int) : Int) > ((xs.length : Nat) : Int)) (fun m => ?_) (fun m => ?_)
  ·
   omega
  ·
   refine uR 2 [.c [1, 0, 0, 1, 1, 1], .b 0, .c [2]] ?_
   refine qE (k : Int) ((xs.length : Nat) : Int) (fun n => ?_) (fun n => ?_)
   ·
    omega
   ·
    refine uR 1 [.c [1, 0, 0, 1, 1, 1, 1, 0], .c [1, 0, 0, 1, 1, 1, 1, 1], .b 0, .c [2]] ?_
    refine qG (sq 0 6) ?_
    refine uP 2 ?_
    have s : k < xs.length := hlt
    refine uX 23 (k : Int) H 0 rfl k (by omega) (hat) ?_
    intro _ _ _ i H
    obtain rfl := i
    refine uV 5 0 (H.fc 0 rfl) ?_
    refine uF 2 ?_
    refine qD ((((d.toNat : Nat) : Int) : Int) > 1) (fun o => ?_) (fun o => ?_)
    ·
     omega
    ·
     refine uR 3 [.c [2, 0], .c [3]] ?_
     refine qG (sq 0 10) ?_
     refine uP 2 ?_
     have p : k < xs.length := hlt
     refine uX 23 (k : Int) H 1 rfl k (by omega) (hat) ?_
     intro _ _ _ f H
     obtain rfl := f
     refine uV 5 0 (H.fc 0 rfl) ?_
     refine uP 2 ?_
     refine uI ((k : Int) + 1) ?_
     refine qF 3 [(4, .bool (decide ((((d.toNat : Nat) : Int) : Int) > 0))), (5, .I ((k : Int) + 1)), (6, .I 0)] ?_
     refine qT (.tuple #[.bool (decide ((((d.toNat : Nat) : Int) : Int) > 0)), .I ((k : Int) + 1), .I 0]) Tryz.func141 ?_
     have j : decide (((d.toNat : Nat) : Int) > 0) = b := by rw [hcv]; cases b <;> rfl
     exact ⟨_, rfl, H.done, by rw [flagE_len, j]; rfl⟩
theorem bytes_spec {S : Nat → Prop} {w : World} {xs r : List (BitVec 8)} {a : Option Addr} {c k : Nat} (h : SB.rep S w [.slice a xs.length c] xs) (hk : k ≤ xs.length) {ys : List (BitVec 8)} {m : Nat} (hm : ys.length ≤ m) (hm2 : m ≤ 9223372036854775807) (hyl : ys.length ≤ 17592186044416) (hd : xs.drop k = bytesE ys ++ r)  :
 Calls Tryz.prog 140 #[.slice a xs.length c, .I k, .I m] w (Ret fun v w' => Ext w w' ∧ ∃ (a' : Option Addr) (c' : Nat), v = .tuple #[.slice a' ys.length c', .I ((k + (bytesE ys).length : Nat) : Int), .I 0] ∧ Hp w S [] [] [⟨Sb, 5, .slice a' ys.length c', ys⟩] [] w') := by
 have hal := Shape.slice_len h
 have hkl : k + (bytesE ys).length = k + (num ys.length).length + ys.length := by unfold bytesE; rw [List.length_append]; omega
 have o := drop_in hd hk
 have f := hd
 unfold bytesE at f
 rw [List.append_assoc] at f
 have j := drop_app f
 refine uS1 Tryz.func140 ?_
 have H := Hp.startF (.rp h .nil)
 refine uR 3 [.c [1, 0], .c [2]] ?_
 refine qG (sq 0 10) ?_
 refine uP 2 ?_
 refine uK (number_spec (S := fun _ => True) (n := ys.length) (H.viewR 0 rfl) hk (by omega) f) ?_
 rintro _ _ l rfl
 have H := H.ext l
 have u := drop_app f
 have x : (k + (num ys.length).length) ≤ xs.length := by have h9 := drop_in f hk; omega
 refine uF 7 ?_
 refine uR 6 [.c [2, 0, 0, 1, 1, 0], .c [2, 0, 0, 1, 1, 1], .b 0, .c [3]] ?_
 refine qG (sq 0 18) ?_
 refine uP 3 ?_
 refine uD 27 (((m : Int) : Int) < 0) (fun p => ?_) (fun p => ?_)
 ·
  omega
 ·
  refine uP 2 ?_
  refine RW.pv (κ := .seq) (d := some 30) (r := (sq 6 18)) (v := .int .u64 (IntKind.u64.wrap ((m : Int)))) (v' := .int .u64 ((m : Int))) (by as_aux_lemma => kernel_rfl) (wr_u64 (by omega)) ?_
  refine uP 3 ?_
  refine uD 33 ((((ys.length : Nat) : Int) : Int) > (m : Int)) (fun q => ?_) (fun q => ?_)
  ·
   omega
  ·
   refine uP 4 ?_
   refine uI (((xs.length : Nat) : Int) - ((k + (num ys.length).length : Nat) : Int)) ?_
   refine RW.pv (κ := .seq) (d := some 39) (r := (sq 15 18)) (v := .int .u64 (IntKind.u64.wrap (((xs.length : Nat) : Int) - ((k + (num ys.length).length : Nat) : Int)))) (v' := .int .u64 (((xs.length : Nat) : Int) - ((k + (num ys.length).length : Nat) : Int))) (by as_aux_lemma => kernel_rfl) (wr_u64 (by omega)) ?_
   refine uF 3 ?_
   refine qD ((((ys.length : Nat) : Int) : Int) > ((xs.length : Nat) : Int) - ((k + (num ys.length).length : Nat) : Int)) (fun s => ?_) (fun s => ?_)
   ·
    omega
   ·
    refine uR 3 [.c [3, 0], .c [4]] ?_
    refine qG (sq 0 5) ?_
    refine qP 2 (sq 2 5) [(0, .slice a xs.length c), (10, .I ((k + (num ys.length).length : Nat) : Int)), (42, .I ((k + (num ys.length).length : Nat) : Int)), (43, .int .u64 ((ys.length : Nat) : Int))] ?_
    refine RW.pv (κ := .seq) (d := some 44) (r := (sq 3 5)) (v := .I (IntKind.i64.wrap (((ys.length : Nat) : Int)))) (v' := .I (((ys.length : Nat) : Int))) (by as_aux_lemma => kernel_rfl) (wr_i64 (by omega)) ?_
    refine uI (((k + (num ys.length).length : Nat) : Int) + ((ys.length : Nat) : Int)) ?_
    refine uF 1 ?_
    refine uR 1 [.c [4, 0], .c [5]] ?_
    refine qG (sq 0 9) ?_
    refine uP 3 ?_
    refine RW.slice (κ := .seq) (d := some 49) (r := (sq 4 9)) (T := 23) (e := 5) (sh := Sb) (a := a) (len := xs.length) (cap := c) (zs := ys) (lv := (some (.I ((k + (num ys.length).length : Nat) : Int)))) (hv := (some (.I (((k + (num ys.length).length : Nat) : Int) + ((ys.length : Nat) : Int))))) (by as_aux_lemma => kernel_rfl) (by as_aux_lemma => kernel_rfl) H 0 rfl (k + (num ys.length).length) (k + (num ys.length).length + ys.length) (.mk (by omega)) (.mk (by omega)) (by omega) (by omega) (sub_at j) ?_
    intro t H
    have H := H.add (F := Rp SB [.slice none 0 0] ([] : List (BitVec 8))) Shape.slice_nil
    refine uK (putN (xs := ys) (ys := ([] : List (BitVec 8))) (H.rp 1 rfl) (H.rp 0 rfl) (by first | omega | simp only [List.length_append, List.length_nil, List.length_cons]; omega)) ?_
    rintro _ _ - H'
    have H := H.back (M1 := []) (W1 := []) H'
    obtain ⟨g, i, rfl, _, _⟩ := H.ownForm 0 rfl
    have H : Hp w S [] [] [⟨Sb, 5, .slice g ((ys ++ ([] : List (BitVec 8))).length) i, (ys ++ ([] : List (BitVec 8)))⟩] [_, Rp SB [.slice t ys.length (c - (k + (num ys.length).length))] ys, _] _ := H
    refine uF 4 ?_
    refine qT (.tuple #[.slice g ((ys ++ ([] : List (BitVec 8))).length) i, .I (((k + (num ys.length).length : Nat) : Int) + ((ys.length : Nat) : Int)), .I 0]) Tryz.func140 ?_
    rw [List.append_nil] at H ⊢
    have H := H.pick [] rfl
    exact ⟨_, rfl, H.done, _, _, by rw [hkl]; rfl, H⟩
end Go.Proofs.YtdnibpclkhenmaaGreatDoor

namespace Go.Proofs.YtdnibpclkhenmaaGreatDoor
open Go.BX
structure CID where
 version : Int
 index : Int
 epoch : Int
 deriving DecidableEq
def cidS : Shape CID := (Shape.pair (Shape.int .u64) (Shape.pair (Shape.int .i64) (Shape.int .u64))).map fun x => (x.version, x.index, x.epoch)
theorem cid_open {S : Nat → Prop} {w : World} {cs : List Value} {x : CID} (h : cidS.rep S w cs x) : cs = [.int .u64 x.version, .I x.index, .int .u64 x.epoch] ∧ (0 ≤ x.version ∧ x.version ≤ 18446744073709551615) ∧ ((-9223372036854775808) ≤ x.index ∧ x.index ≤ 9223372036854775807) ∧ (0 ≤ x.epoch ∧ x.epoch ≤ 18446744073709551615) := by
 obtain ⟨_, _, rfl, a, h⟩ := h
 obtain ⟨_, _, rfl, b, h⟩ := h
 have c := h
 obtain ⟨d, e⟩ := a
 obtain ⟨f, g⟩ := b
 obtain ⟨i, j⟩ := c
 exact ⟨(by simp [d, f, i]), e, g, j⟩
theorem cid_mk {S : Nat → Prop} {w : World} {y0 : Int} {l0 : List Value} (h0 : (Shape.int .u64).rep S w l0 y0) {y1 : Int} {l1 : List Value} (h1 : (Shape.int .i64).rep S w l1 y1) {y2 : Int} {l2 : List Value} (h2 : (Shape.int .u64).rep S w l2 y2) : cidS.rep S w (l0 ++ (l1 ++ (l2))) ⟨y0, y1, y2⟩ := ⟨_, _, rfl, h0, ⟨_, _, rfl, h1, h2⟩⟩
structure Hdr where
 id : CID
 kk : Int
 nn : Int
 size : Int
 sum : BitVec 32
 deriving DecidableEq
def hdrS : Shape Hdr := (Shape.pair cidS (Shape.pair (Shape.int .i64) (Shape.pair (Shape.int .i64) (Shape.pair (Shape.int .i64) (Shape.bv .u32 32))))).map fun x => (x.id, x.kk, x.nn, x.size, x.sum)
theorem hdr_open {S : Nat → Prop} {w : World} {cs : List Value} {x : Hdr} (h : hdrS.rep S w cs x) : ∃ cs0 : List Value, cs = cs0 ++ [.I x.kk, .I x.nn, .I x.size, .int .u32 ((x.sum.toNat : Nat) : Int)] ∧ (cidS).rep S w cs0 x.id ∧ ((-9223372036854775808) ≤ x.kk ∧ x.kk ≤ 9223372036854775807) ∧ ((-9223372036854775808) ≤ x.nn ∧ x.nn ≤ 9223372036854775807) ∧ ((-9223372036854775808) ≤ x.size ∧ x.size ≤ 9223372036854775807) := by
 obtain ⟨a, _, rfl, b, h⟩ := h
 obtain ⟨_, _, rfl, c, h⟩ := h
 obtain ⟨_, _, rfl, d, h⟩ := h
 obtain ⟨_, e, rfl, f, h⟩ := h
 have g := h
 obtain ⟨i, j⟩ := c
 obtain ⟨k, l⟩ := d
 obtain ⟨m, n⟩ := f
 have o : e = [.int .u32 ((x.sum.toNat : Nat) : Int)] := g
 exact ⟨a, (by simp [i, k, m, o]), b, j, l, n⟩
theorem hdr_mk {S : Nat → Prop} {w : World} {y0 : CID} {l0 : List Value} (h0 : (cidS).rep S w l0 y0) {y1 : Int} {l1 : List Value} (h1 : (Shape.int .i64).rep S w l1 y1) {y2 : Int} {l2 : List Value} (h2 : (Shape.int .i64).rep S w l2 y2) {y3 : Int} {l3 : List Value} (h3 : (Shape.int .i64).rep S w l3 y3) {y4 : BitVec 32} {l4 : List Value} (h4 : (Shape.bv .u32 32).rep S w l4 y4) : hdrS.rep S w (l0 ++ (l1 ++ (l2 ++ (l3 ++ (l4))))) ⟨y0, y1, y2, y3, y4⟩ := ⟨_, _, rfl, h0, ⟨_, _, rfl, h1, ⟨_, _, rfl, h2, ⟨_, _, rfl, h3, h4⟩⟩⟩⟩
structure Chk where
 head : Hdr
 data : List (BitVec 8)
 done_ : Bool
def chkS : Shape Chk := (Shape.pair hdrS (Shape.pair SB Shape.bool)).map fun x => (x.head, x.data, x.done_)
theorem chk_open {S : Nat → Prop} {w : World} {cs : List Value} {x : Chk} (h : chkS.rep S w cs x) : ∃ cs0 : List Value, ∃ a1 : Option Addr, ∃ k1 : Nat, cs = cs0 ++ [.slice a1 x.data.length k1, .bool x.done_] ∧ (hdrS).rep S w cs0 x.head ∧ SB.rep S w [.slice a1 x.data.length k1] x.data := by
 obtain ⟨c, _, rfl, d, h⟩ := h
 obtain ⟨_, e, rfl, a, h⟩ := h
 have f := h
 obtain ⟨a1, k1, b⟩ := Shape.slice_form' a
 have g : e = [.bool x.done_] := f
 exact ⟨c, a1, k1, (by simp [b, g]), d, (b ▸ a)⟩
theorem chk_mk {S : Nat → Prop} {w : World} {y0 : Hdr} {l0 : List Value} (h0 : (hdrS).rep S w l0 y0) {y1 : List (BitVec 8)} {l1 : List Value} (h1 : SB.rep S w l1 y1) {y2 : Bool} {l2 : List Value} (h2 : (Shape.bool).rep S w l2 y2) : chkS.rep S w (l0 ++ (l1 ++ (l2))) ⟨y0, y1, y2⟩ := ⟨_, _, rfl, h0, ⟨_, _, rfl, h1, h2⟩⟩
theorem snum_spec {S : Nat → Prop} {w : World} {O : List Nat} {sp : Nat} {xs : List (BitVec 8)} {a : Option Addr} {c : Nat} (n : Nat) (hn : n ≤ 18446744073709551615) (hl : xs.length + (num n).length ≤ 17592186044416) (H0 : Hp w S O [(sp, .cells #[.slice a xs.length c] 359 (0, 0))] [⟨Sb, 5, .slice a xs.length c, xs⟩] [] w) :
 Calls Tryz.prog 231 #[.P sp 0, .int .u64 (n : Int)] w (Ret fun v w' => v = .tuple #[] ∧ ∃ (a' : Option Addr) (c' : Nat), Hp w S O [(sp, .cells #[.slice a' ((xs ++ (num n)).length) c'] 359 (0, 0))] [⟨Sb, 5, .slice a' ((xs ++ (num n)).length) c', xs ++ (num n)⟩] [] w') := by
 refine uS1 Tryz.func231 ?_
 have H := H0
 refine uR 2 [.c [0, 0], .b 0, .c [1]] ?_
 rw [show xs = xs ++ [] from (List.append_nil xs).symm] at H
 have H := H.take 1 1
 refine uL (α := Nat × List (BitVec 8) × Option Addr × Nat) (g := 231) (p := [0, 0, 0]) (fun (m, p, ax, cx) => [(0, .P sp 0), (1, .int .u64 (m : Int))]) (fun (m, p, ax, cx) w' => Hp w S O [(sp, .cells #[.slice ax (xs ++ p).length cx] 359 (0, 0))] [⟨Sb, 5, .slice ax (xs ++ p).length cx, xs ++ p⟩] [] w' ∧ num n = p ++ num m ∧ m ≤ 18446744073709551615) (fun (m, p, ax, cx) => m) (n, ([] : List (BitVec 8)), a, c) ⟨H, rfl, hn⟩ ?_
 rintro ⟨m, p, ax, cx⟩ _ ⟨H, ⟨hnum, hm⟩⟩ e
 refine uR 3 [.c [0, 0, 0, 0, 1], .c [0, 0, 0, 1], .l [0, 0, 0], .b 0, .c [1]] ?_
 refine qD (((m : Int) : Int) > 127) (fun q => ?_) (fun q => ?_)
 ·
  refine uR 3 [.c [0, 0, 0, 1, 0, 0], .b 1, .c [0, 0, 0, 2], .l [0, 0, 0], .b 0, .c [1]] ?_
  refine qG (sq 0 13) ?_
  refine uP 4 ?_
  refine uV 23 0 (H.cells 0 rfl) ?_
  refine uP 1 ?_
  refine RW.pv (κ := .seq) (d := some 14) (r := (sq 7 13)) (v := .int .u8 (IntKind.u8.wrap ((m : Int)))) (v' := .int .u8 (((BitVec.ofNat 8 m).toNat : Nat) : Int)) (by as_aux_lemma => kernel_rfl) ((wrap_bv8 _).trans (by rw [bv_nat])) ?_
  refine RW.pv (κ := .seq) (d := some 15) (r := (sq 8 13)) (v := .int .u8 (IntKind.u8.wrap ((BitVec.ofInt 8 (((BitVec.ofNat 8 m).toNat : Nat) : Int) ||| BitVec.ofInt 8 128).toNat : Nat))) (v' := .int .u8 (((((BitVec.ofNat 8 m) ||| (128#8)).toNat : Nat) : Int))) (by as_aux_lemma => kernel_rfl) (bv_or8 (bvi _) (by decide)) ?_
  refine RW.new (κ := .seq) (d := some 16) (r := (sq 9 13)) (o := .cells #[.int .u8 ((((BitVec.ofNat 8 m) ||| (128#8)).toNat : Nat) : Int)] 5 (0, 0)) (v := fun b => .slice (some ⟨b, 0, none⟩) 1 1) (fun b => by as_aux_lemma => kernel_rfl) (nofun) H ?_
  intro s _ H
  have H := H.freeze 0 rfl Sb ([(BitVec.ofNat 8 m) ||| (128#8)] : List (BitVec 8)) 1 (by simp [maxLen]) (by first | exact Nat.le_refl _ | simp) (EsP.cons (c := [.int .u8 ((((BitVec.ofNat 8 m) ||| (128#8)).toNat : Nat) : Int)]) Shape.bv_mk EsP.nil)
  have H : Hp w S O [_] [_] [Rp SB [.slice (some ⟨s, 0, none⟩) 1 1] ([(BitVec.ofNat 8 m) ||| (128#8)] : List (BitVec 8))] _ := H
  refine uA 23 23 1 (xs ++ (p ++ [BitVec.ofNat 8 m ||| 128#8])) H 0 rfl 0 rfl (List.append_assoc ..) (by have h8 := congrArg List.length hnum; have h9 := num_pos m; simp only [List.length_append, List.length_cons, List.length_nil] at *; omega) ?_
  intro i j _ H _
  have H : Hp w S O [_] [⟨Sb, 5, .slice i ((xs ++ (p ++ [BitVec.ofNat 8 m ||| 128#8])).length) j, (xs ++ (p ++ [BitVec.ofNat 8 m ||| 128#8]))⟩] [_] _ := H
  refine uP 2 ?_
  refine uW 23 0 #[.slice i ((xs ++ (p ++ [BitVec.ofNat 8 m ||| 128#8])).length) j] H 0 rfl ?_
  intro _ H
  refine uF 0 ?_
  refine uR 1 [.c [0, 0, 0, 2], .l [0, 0, 0], .b 0, .c [1]] ?_
  refine qG (sq 0 3) ?_
  refine uP 1 ?_
  refine RW.pv (κ := .seq) (d := some 7) (r := (sq 2 3)) (v := .int .u64 ((m : Int).fdiv (2 ^ 7))) (v' := .int .u64 ((m : Int) / 128)) (by as_aux_lemma => kernel_rfl) (shr_id (by decide) (by omega)) ?_
  refine uF 1 ?_
  have H := H.pick [] rfl
  exact uB (e (m / 128, p ++ [BitVec.ofNat 8 m ||| 128#8], i, j) _ ⟨H, num_step hnum (by omega), by omega⟩ (by first | omega | (simp only []; omega)))
 ·
  refine uR 1 [.c [1]] ?_
  refine qG (sq 0 12) ?_
  refine qP 4 (sq 4 12) [(1, .int .u64 (m : Int)), (20, .P sp 0), (23, .P sp 0)] ?_
  refine uV 23 0 (H.cells 0 rfl) ?_
  refine uP 1 ?_
  refine RW.pv (κ := .seq) (d := some 26) (r := (sq 7 12)) (v := .int .u8 (IntKind.u8.wrap ((m : Int)))) (v' := .int .u8 (((BitVec.ofNat 8 m).toNat : Nat) : Int)) (by as_aux_lemma => kernel_rfl) ((wrap_bv8 _).trans (by rw [bv_nat])) ?_
  refine RW.new (κ := .seq) (d := some 27) (r := (sq 8 12)) (o := .cells #[.int .u8 (((BitVec.ofNat 8 m).toNat : Nat) : Int)] 5 (0, 0)) (v := fun b => .slice (some ⟨b, 0, none⟩) 1 1) (fun b => by as_aux_lemma => kernel_rfl) (nofun) H ?_
  intro k _ H
  have H := H.freeze 0 rfl Sb ([BitVec.ofNat 8 m] : List (BitVec 8)) 1 (by simp [maxLen]) (by first | exact Nat.le_refl _ | simp) (EsP.cons (c := [.int .u8 (((BitVec.ofNat 8 m).toNat : Nat) : Int)]) Shape.bv_mk EsP.nil)
  have H : Hp w S O [_] [_] [Rp SB [.slice (some ⟨k, 0, none⟩) 1 1] ([BitVec.ofNat 8 m] : List (BitVec 8))] _ := H
  refine uA 23 23 1 (xs ++ num n) H 0 rfl 0 rfl (by rw [List.append_assoc, num_last hnum (by omega)]) (by have h8 := congrArg List.length hnum; have h9 := num_pos m; simp only [List.length_append, List.length_cons, List.length_nil] at *; omega) ?_
  intro f h _ H _
  have H : Hp w S O [_] [⟨Sb, 5, .slice f (xs ++ num n).length h, (xs ++ num n)⟩] [_] _ := H
  refine uP 2 ?_
  refine uW 23 0 #[.slice f (xs ++ num n).length h] H 0 rfl ?_
  intro _ H
  refine uF 0 ?_
  refine WK.fin (v := .tuple #[]) Tryz.func231 (by as_aux_lemma => kernel_rfl) ?_
  have H := H.pick [] rfl
  exact ⟨_, rfl, rfl, _, _, H⟩
theorem snumI {S : Nat → Prop} {w : World} {O : List Nat} {sp : Nat} {xs : List (BitVec 8)} {a : Option Addr} {c : Nat} (x : Int) (hx : 0 ≤ x ∧ x ≤ 18446744073709551615) (hl : xs.length + (num x.toNat).length ≤ 17592186044416) (H0 : Hp w S O [(sp, .cells #[.slice a xs.length c] 359 (0, 0))] [⟨Sb, 5, .slice a xs.length c, xs⟩] [] w) :
 Calls Tryz.prog 231 #[.P sp 0, .int .u64 x] w (Ret fun v w' => v = .tuple #[] ∧ ∃ (a' : Option Addr) (c' : Nat), Hp w S O [(sp, .cells #[.slice a' (xs ++ num x.toNat).length c'] 359 (0, 0))] [⟨Sb, 5, .slice a' (xs ++ num x.toNat).length c', xs ++ num x.toNat⟩] [] w') := by
 obtain ⟨n, rfl⟩ := Int.eq_ofNat_of_zero_le hx.1
 exact snum_spec n (by omega) hl H0
theorem sint_spec {S : Nat → Prop} {w : World} {O : List Nat} {sp : Nat} {xs : List (BitVec 8)} {a : Option Addr} {c : Nat} (x : Int) (hx : -9223372036854775808 ≤ x ∧ x ≤ 9223372036854775807) (hl : xs.length + (intE x).length ≤ 17592186044416) (H0 : Hp w S O [(sp, .cells #[.slice a xs.length c] 359 (0, 0))] [⟨Sb, 5, .slice a xs.length c, xs⟩] [] w) :
 Calls Tryz.prog 230 #[.P sp 0, .I x] w (Ret fun v w' => v = .tuple #[] ∧ ∃ (a' : Option Addr) (c' : Nat), Hp w S O [(sp, .cells #[.slice a' ((xs ++ (intE x)).length) c'] 359 (0, 0))] [⟨Sb, 5, .slice a' ((xs ++ (intE x)).length) c', xs ++ (intE x)⟩] [] w') := by
 have hz := zig_le hx
 refine uS1 Tryz.func230 ?_
 have H := H0
 refine qG (sq 0 9) ?_
 refine uP 2 ?_
 refine RW.pv (κ := .seq) (d := some 6) (r := (sq 3 9)) (v := .int .u64 (IntKind.u64.wrap (x))) (v' := .int .u64 (IntKind.u64.wrap (x))) (by as_aux_lemma => kernel_rfl) rfl ?_
 refine RW.pv (κ := .seq) (d := some 7) (r := (sq 4 9)) (v := .int .u64 (IntKind.u64.wrap ((IntKind.u64.wrap (x)) * 2 ^ 1))) (v' := .int .u64 (IntKind.u64.wrap ((IntKind.u64.wrap (x)) * 2 ^ 1))) (by as_aux_lemma => kernel_rfl) rfl ?_
 refine uP 1 ?_
 refine RW.pv (κ := .seq) (d := some 9) (r := (sq 6 9)) (v := .I (x.fdiv (2 ^ 63))) (v' := .I (x.fdiv (2 ^ 63))) (by as_aux_lemma => kernel_rfl) rfl ?_
 refine RW.pv (κ := .seq) (d := some 10) (r := (sq 7 9)) (v := .int .u64 (IntKind.u64.wrap ((x.fdiv (2 ^ 63))))) (v' := .int .u64 (IntKind.u64.wrap ((x.fdiv (2 ^ 63))))) (by as_aux_lemma => kernel_rfl) rfl ?_
 refine RW.pv (κ := .seq) (d := some 11) (r := (sq 8 9)) (v := .int .u64 (IntKind.u64.wrap ((BitVec.ofInt 64 (IntKind.u64.wrap ((IntKind.u64.wrap (x)) * 2 ^ 1)) ^^^ BitVec.ofInt 64 (IntKind.u64.wrap ((x.fdiv (2 ^ 63))))).toNat : Nat))) (v' := .int .u64 ((zig x : Nat) : Int)) (by as_aux_lemma => kernel_rfl) (congrArg (Value.int .u64) (zig_eq hx)) ?_
 refine uKS (snum_spec (zig x) (by omega) (by rw [← intE_zig]; exact hl) ((H.lend (M1 := [_]) (W1 := [_])).pick [] rfl)) ?_
 rintro _ _ ⟨rfl, b, e, H'⟩
 have H := H.back (M1 := [_]) (W1 := [_]) H'
 have H : Hp w S O [(sp, .cells #[.slice b ((xs ++ (num (zig x))).length) e] 359 (0, 0))] [⟨Sb, 5, .slice b ((xs ++ (num (zig x))).length) e, (xs ++ (num (zig x)))⟩] [] _ := H
 refine uF 0 ?_
 refine WK.fin (v := .tuple #[]) Tryz.func230 (by as_aux_lemma => kernel_rfl) ?_
 have hcf : (xs ++ (num (zig x))) = xs ++ (intE x) := by rw [← intE_zig]
 rw [hcf] at H
 exact ⟨_, rfl, rfl, _, _, H⟩
def idE (D : CID) : List (BitVec 8) := num D.version.toNat ++ (intE D.index ++ num D.epoch.toNat)
def hdrE (D : Hdr) : List (BitVec 8) := idE D.id ++ (intE D.kk ++ (intE D.nn ++ (intE D.size ++ num D.sum.toNat)))
def CidOk (D : CID) : Prop := (0 ≤ D.version ∧ D.version ≤ 18446744073709551615) ∧ (-9223372036854775808 ≤ D.index ∧ D.index ≤ 9223372036854775807) ∧ (0 ≤ D.epoch ∧ D.epoch ≤ 18446744073709551615)
def HdrOk (D : Hdr) : Prop := CidOk D.id ∧ (-9223372036854775808 ≤ D.kk ∧ D.kk ≤ 9223372036854775807) ∧ (-9223372036854775808 ≤ D.nn ∧ D.nn ≤ 9223372036854775807) ∧ (-9223372036854775808 ≤ D.size ∧ D.size ≤ 9223372036854775807)
theorem idE_len {D : CID} (h : CidOk D) : (idE D).length ≤ 30 := by
 obtain ⟨_, a, _⟩ := h
 unfold idE
 rw [List.length_append, List.length_append]
 have b : (num D.version.toNat).length ≤ 10 := num_ten (by omega)
 have c := intE_ten a
 have d : (num D.epoch.toNat).length ≤ 10 := num_ten (by omega)
 omega
theorem hdrE_len {D : Hdr} (h : HdrOk D) : (hdrE D).length ≤ 70 := by
 obtain ⟨a, b, c, d⟩ := h
 unfold hdrE
 rw [List.length_append, List.length_append, List.length_append, List.length_append]
 have e := idE_len a
 have f := intE_ten b
 have g := intE_ten c
 have i := intE_ten d
 have j : (num D.sum.toNat).length ≤ 10 := num_ten (by have := D.sum.isLt; omega)
 omega
theorem sid_spec {S : Nat → Prop} {w : World} {O : List Nat} {sp : Nat} {xs : List (BitVec 8)} {a : Option Addr} {c : Nat} {D : CID} (hD : CidOk D) (hl : xs.length + (idE D).length ≤ 17592186044416) (H0 : Hp w S O [(sp, .cells #[.slice a xs.length c] 359 (0, 0))] [⟨Sb, 5, .slice a xs.length c, xs⟩] [] w) :
 Calls Tryz.prog 229 #[.P sp 0, .agg #[.int .u64 D.version, .I D.index, .int .u64 D.epoch]] w (Ret fun v w' => v = .tuple #[] ∧ ∃ (a' : Option Addr) (c' : Nat), Hp w S O [(sp, .cells #[.slice a' ((xs ++ (idE D)).length) c'] 359 (0, 0))] [⟨Sb, 5, .slice a' ((xs ++ (idE D)).length) c', xs ++ (idE D)⟩] [] w') := by
 obtain ⟨_, _, _⟩ := hD
 have b := hl
 unfold idE at b
 simp only [List.length_append] at b
 refine uS1 Tryz.func229 ?_
 have H := H0
 refine uR 1 [.c [0], .c [1]] ?_
 refine qG (sq 0 1) ?_
 refine uC #[.int .u64 D.version, .I D.index, .int .u64 D.epoch] 82 H ?_
 intro _ _ H
 refine uF 0 ?_
 refine uR 1 [.c [1, 0], .c [2]] ?_
 refine qG (sq 0 4) ?_
 refine uP 2 ?_
 refine uV 58 0 (H.cells 0 rfl) ?_
 have H := H.frontM 1 rfl
 refine uKS (snumI D.version (by omega) (by first | omega | (simp only [List.length_append]; omega)) ((H.lend (M1 := [_]) (W1 := [_])).pick [] rfl)) ?_
 rintro _ _ ⟨rfl, f, g, H'⟩
 have H := H.back (M1 := [_]) (W1 := [_]) H'
 have H : Hp w S O [(sp, .cells #[.slice f ((xs ++ (num D.version.toNat)).length) g] 359 (0, 0)), _] [⟨Sb, 5, .slice f ((xs ++ (num D.version.toNat)).length) g, (xs ++ (num D.version.toNat))⟩] [] _ := H
 refine uF 0 ?_
 refine uR 1 [.c [2, 0], .c [3]] ?_
 refine qG (sq 0 4) ?_
 refine uP 2 ?_
 refine uV 3 1 (H.cells 1 rfl) ?_
 refine uKS (sint_spec D.index (by omega) (by first | omega | (simp only [List.length_append]; omega)) ((H.lend (M1 := [_]) (W1 := [_])).pick [] rfl)) ?_
 rintro _ _ ⟨rfl, h, i, H'⟩
 have H := H.back (M1 := [_]) (W1 := [_]) H'
 have H : Hp w S O [(sp, .cells #[.slice h (((xs ++ (num D.version.toNat)) ++ (intE D.index)).length) i] 359 (0, 0)), _] [⟨Sb, 5, .slice h (((xs ++ (num D.version.toNat)) ++ (intE D.index)).length) i, ((xs ++ (num D.version.toNat)) ++ (intE D.index))⟩] [] _ := H
 refine uF 0 ?_
 refine qG (sq 0 4) ?_
 refine uP 2 ?_
 refine uV 58 2 (H.cells 1 rfl) ?_
 refine uKS (snumI D.epoch (by omega) (by first | omega | (simp only [List.length_append]; omega)) ((H.lend (M1 := [_]) (W1 := [_])).pick [] rfl)) ?_
 rintro _ _ ⟨rfl, d, e, H'⟩
 have H := H.back (M1 := [_]) (W1 := [_]) H'
 have H : Hp w S O [(sp, .cells #[.slice d ((((xs ++ (num D.version.toNat)) ++ (intE D.index)) ++ (num D.epoch.toNat)).length) e] 359 (0, 0)), _] [⟨Sb, 5, .slice d ((((xs ++ (num D.version.toNat)) ++ (intE D.index)) ++ (num D.epoch.toNat)).length) e, (((xs ++ (num D.version.toNat)) ++ (intE D.index)) ++ (num D.epoch.toNat))⟩] [] _ := H
 refine uF 0 ?_
 refine WK.fin (v := .tuple #[]) Tryz.func229 (by as_aux_lemma => kernel_rfl) ?_
 have hcf : (((xs ++ (num D.version.toNat)) ++ (intE D.index)) ++ (num D.epoch.toNat)) = xs ++ (idE D) := by unfold idE; simp only [List.append_assoc]
 rw [hcf] at H
 have H := H.dropM 1
 exact ⟨_, rfl, rfl, _, _, H⟩
theorem shdr_spec {S : Nat → Prop} {w : World} {O : List Nat} {sp : Nat} {xs : List (BitVec 8)} {a : Option Addr} {c : Nat} {D : Hdr} (hD : HdrOk D) (hl : xs.length + (hdrE D).length ≤ 17592186044416) (H0 : Hp w S O [(sp, .cells #[.slice a xs.length c] 359 (0, 0))] [⟨Sb, 5, .slice a xs.length c, xs⟩] [] w) :
 Calls Tryz.prog 191 #[.P sp 0, .agg #[.int .u64 D.id.version, .I D.id.index, .int .u64 D.id.epoch, .I D.kk, .I D.nn, .I D.size, .int .u32 ((D.sum.toNat : Nat) : Int)]] w (Ret fun v w' => v = .tuple #[] ∧ ∃ (a' : Option Addr) (c' : Nat), Hp w S O [(sp, .cells #[.slice a' ((xs ++ (hdrE D)).length) c'] 359 (0, 0))] [⟨Sb, 5, .slice a' ((xs ++ (hdrE D)).length) c', xs ++ (hdrE D)⟩] [] w') := by
 obtain ⟨_, _, _, _⟩ := hD
 have hsl := D.sum.isLt
 have b := hl
 unfold hdrE at b
 simp only [List.length_append] at b
 refine uS1 Tryz.func191 ?_
 have H := H0
 refine uR 1 [.c [0], .c [1]] ?_
 refine qG (sq 0 1) ?_
 refine uC #[.int .u64 D.id.version, .I D.id.index, .int .u64 D.id.epoch, .I D.kk, .I D.nn, .I D.size, .int .u32 ((D.sum.toNat : Nat) : Int)] 100 H ?_
 intro o _ H
 refine uF 0 ?_
 refine uR 1 [.c [1, 0], .c [2]] ?_
 refine qG (sq 0 4) ?_
 refine uP 2 ?_
 refine uV 82 0 (H.cells 0 rfl) ?_
 have H := H.frontM 1 rfl
 refine uKS (sid_spec (D := D.id) (by assumption) (by first | omega | (simp only [List.length_append]; omega)) ((H.lend (M1 := [_]) (W1 := [_])).pick [] rfl)) ?_
 rintro _ _ ⟨rfl, k, l, H'⟩
 have H := H.back (M1 := [_]) (W1 := [_]) H'
 have H : Hp w S O [(sp, .cells #[.slice k ((xs ++ (idE D.id)).length) l] 359 (0, 0)), _] [⟨Sb, 5, .slice k ((xs ++ (idE D.id)).length) l, (xs ++ (idE D.id))⟩] [] _ := H
 refine uF 0 ?_
 refine uR 1 [.c [2, 0], .c [3]] ?_
 refine qG (sq 0 4) ?_
 refine uP 2 ?_
 refine uV 3 3 (H.cells 1 rfl) ?_
 refine uKS (sint_spec D.kk (by omega) (by first | omega | (simp only [List.length_append]; omega)) ((H.lend (M1 := [_]) (W1 := [_])).pick [] rfl)) ?_
 rintro _ _ ⟨rfl, m, n, H'⟩
 have H := H.back (M1 := [_]) (W1 := [_]) H'
 have H : Hp w S O [(sp, .cells #[.slice m (((xs ++ (idE D.id)) ++ (intE D.kk)).length) n] 359 (0, 0)), _] [⟨Sb, 5, .slice m (((xs ++ (idE D.id)) ++ (intE D.kk)).length) n, ((xs ++ (idE D.id)) ++ (intE D.kk))⟩] [] _ := H
 refine uF 0 ?_
 refine uR 1 [.c [3, 0], .c [4]] ?_
 refine qG (sq 0 4) ?_
 refine uP 2 ?_
 refine uV 3 4 (H.cells 1 rfl) ?_
 refine uKS (sint_spec D.nn (by omega) (by first | omega | (simp only [List.length_append]; omega)) ((H.lend (M1 := [_]) (W1 := [_])).pick [] rfl)) ?_
 rintro _ _ ⟨rfl, e, f, H'⟩
 have H := H.back (M1 := [_]) (W1 := [_]) H'
 have H : Hp w S O [(sp, .cells #[.slice e ((((xs ++ (idE D.id)) ++ (intE D.kk)) ++ (intE D.nn)).length) f] 359 (0, 0)), _] [⟨Sb, 5, .slice e ((((xs ++ (idE D.id)) ++ (intE D.kk)) ++ (intE D.nn)).length) f, (((xs ++ (idE D.id)) ++ (intE D.kk)) ++ (intE D.nn))⟩] [] _ := H
 refine qF 0 [(0, .P sp 0), (3, .P o 0)] ?_
 refine uR 1 [.c [4, 0], .c [5]] ?_
 refine qG (sq 0 4) ?_
 refine uP 2 ?_
 refine uV 3 5 (H.cells 1 rfl) ?_
 refine uKS (sint_spec D.size (by omega) (by first | omega | (simp only [List.length_append]; omega)) ((H.lend (M1 := [_]) (W1 := [_])).pick [] rfl)) ?_
 rintro _ _ ⟨rfl, g, h, H'⟩
 have H := H.back (M1 := [_]) (W1 := [_]) H'
 have H : Hp w S O [(sp, .cells #[.slice g (((((xs ++ (idE D.id)) ++ (intE D.kk)) ++ (intE D.nn)) ++ (intE D.size)).length) h] 359 (0, 0)), _] [⟨Sb, 5, .slice g (((((xs ++ (idE D.id)) ++ (intE D.kk)) ++ (intE D.nn)) ++ (intE D.size)).length) h, ((((xs ++ (idE D.id)) ++ (intE D.kk)) ++ (intE D.nn)) ++ (intE D.size))⟩] [] _ := H
 refine uF 0 ?_
 refine qG (sq 0 5) ?_
 refine uP 2 ?_
 refine uV 80 6 (H.cells 1 rfl) ?_
 refine RW.pv (κ := .seq) (d := some 23) (r := (sq 4 5)) (v' := .int .u64 ((D.sum.toNat : Nat) : Int)) (v := .int .u64 (IntKind.u64.wrap (((D.sum.toNat : Nat) : Int)))) (by as_aux_lemma => kernel_rfl) (wr_u64 (by omega)) ?_
 refine uKS (snum_spec D.sum.toNat (by omega) (by first | omega | (simp only [List.length_append]; omega)) ((H.lend (M1 := [_]) (W1 := [_])).pick [] rfl)) ?_
 rintro _ _ ⟨rfl, i, j, H'⟩
 have H := H.back (M1 := [_]) (W1 := [_]) H'
 have H : Hp w S O [(sp, .cells #[.slice i ((((((xs ++ (idE D.id)) ++ (intE D.kk)) ++ (intE D.nn)) ++ (intE D.size)) ++ (num D.sum.toNat)).length) j] 359 (0, 0)), _] [⟨Sb, 5, .slice i ((((((xs ++ (idE D.id)) ++ (intE D.kk)) ++ (intE D.nn)) ++ (intE D.size)) ++ (num D.sum.toNat)).length) j, (((((xs ++ (idE D.id)) ++ (intE D.kk)) ++ (intE D.nn)) ++ (intE D.size)) ++ (num D.sum.toNat))⟩] [] _ := H
 refine uF 0 ?_
 refine WK.fin (v := .tuple #[]) Tryz.func191 (by as_aux_lemma => kernel_rfl) ?_
 have hcf : (((((xs ++ (idE D.id)) ++ (intE D.kk)) ++ (intE D.nn)) ++ (intE D.size)) ++ (num D.sum.toNat)) = xs ++ (hdrE D) := by unfold hdrE; simp only [List.append_assoc]
 rw [hcf] at H
 have H := H.dropM 1
 exact ⟨_, rfl, rfl, _, _, H⟩
theorem written_hdr {S : Nat → Prop} {w : World} {xs : List (BitVec 8)} {a : Option Addr} {c : Nat} (h : SB.rep S w [.slice a xs.length c] xs) {D : Hdr} (hD : HdrOk D) (hl : xs.length ≤ 17592186044416 - 100)  :
 Calls Tryz.prog 190 #[.slice a xs.length c, .agg #[.int .u64 D.id.version, .I D.id.index, .int .u64 D.id.epoch, .I D.kk, .I D.nn, .I D.size, .int .u32 ((D.sum.toNat : Nat) : Int)], .func (.func 191) #[] #[]] w (Ret fun v w' => Ext w w' ∧ Hp w S [] [] [⟨Sb, 5, v, xs ++ hdrE D⟩] [] w') := by
 have hhl := hdrE_len hD
 refine uS1 Tryz.func190 ?_
 have H := Hp.startF (.rp h .nil)
 refine uR 1 [.c [0], .c [1]] ?_
 refine qG (sq 0 2) ?_
 refine uC #[.int .u64 D.id.version, .I D.id.index, .int .u64 D.id.epoch, .I D.kk, .I D.nn, .I D.size, .int .u32 ((D.sum.toNat : Nat) : Int)] 100 H ?_
 intro k _ H
 refine uF 1 ?_
 refine uR 1 [.c [1, 0], .c [2]] ?_
 refine qG (sq 0 9) ?_
 refine uP 2 ?_
 refine uI (((xs.length : Nat) : Int) + 64) ?_
 refine RW.makeW Sb (κ := .seq) (d := some 11) (r := (sq 4 9)) (T := 23) (e := 5) (by_ := 1) (v0 := .int .u8 0) (0#8 : BitVec 8) (kl := .i64) (kc := .i64) (lv := 0) (cv := ((xs.length : Nat) : Int) + 64) (by as_aux_lemma => kernel_rfl) (nofun) (by as_aux_lemma => kernel_rfl) rfl H 0 (xs.length + 64) (by omega) (by omega) (by omega) (by omega) (by omega) (fun _ _ => rfl) ?_
 intro l _ H
 have H : Hp w S [] [(k, .cells #[.int .u64 D.id.version, .I D.id.index, .int .u64 D.id.epoch, .I D.kk, .I D.nn, .I D.size, .int .u32 ((D.sum.toNat : Nat) : Int)] 100 (0, 0))] [⟨Sb, 5, .slice (some ⟨l, 0, none⟩) 0 (xs.length + 64), []⟩] [_] _ := H
 refine uP 1 ?_
 refine uA 23 23 1 xs H 0 rfl 0 rfl (rfl) (by omega) ?_
 intro g i _ H _
 have H : Hp w S [] [_] [⟨Sb, 5, .slice g xs.length i, xs⟩] [_] _ := H
 refine uP 1 ?_
 refine uC #[.slice g xs.length i] 359 H ?_
 intro j _ H
 refine uF 1 ?_
 refine uR 1 [.c [2, 0], .c [3]] ?_
 refine qG (sq 0 4) ?_
 refine uP 2 ?_
 refine uV 100 0 (H.cells 1 rfl) ?_
 refine uKS (shdr_spec (D := D) (by assumption) (by omega) ((H.lend (M1 := [_]) (W1 := [_])).pick [] rfl)) ?_
 rintro _ _ ⟨rfl, b, f, H'⟩
 have H := H.back (M1 := [_]) (W1 := [_]) H'
 have H : Hp w S [] [(j, .cells #[.slice b ((xs ++ (hdrE D)).length) f] 359 (0, 0)), _] [⟨Sb, 5, .slice b ((xs ++ (hdrE D)).length) f, (xs ++ (hdrE D))⟩] [_] _ := H
 refine uF 0 ?_
 refine qR 1 [.c [3, 0], .c [4]] [(7, .P j 0)] ?_
 refine qG (sq 0 5) ?_
 refine uP 3 ?_
 refine uV 23 0 (H.cells 0 rfl) ?_
 refine uF 1 ?_
 refine qT (.slice b ((xs ++ (hdrE D)).length) f) Tryz.func190 ?_
 have H := H.pick [] rfl
 have H := H.take 0 1
 exact ⟨_, rfl, H.done, H⟩
theorem puthdr_spec {S : Nat → Prop} {w : World} {xs : List (BitVec 8)} {a : Option Addr} {c : Nat} (h : SB.rep S w [.slice a xs.length c] xs) {D : Hdr} (hD : HdrOk D) (hl : xs.length ≤ 17592186044416 - 100)  :
 Calls Tryz.prog 148 #[.slice a xs.length c, .agg #[.int .u64 D.id.version, .I D.id.index, .int .u64 D.id.epoch, .I D.kk, .I D.nn, .I D.size, .int .u32 ((D.sum.toNat : Nat) : Int)]] w (Ret fun v w' => Ext w w' ∧ Hp w S [] [] [⟨Sb, 5, v, xs ++ hdrE D⟩] [] w') := by
 refine uS1 Tryz.func148 ?_
 have H := Hp.startF (.rp h .nil)
 refine uR 1 [.c [0], .c [1]] ?_
 refine qG (sq 0 2) ?_
 refine uC #[.int .u64 D.id.version, .I D.id.index, .int .u64 D.id.epoch, .I D.kk, .I D.nn, .I D.size, .int .u32 ((D.sum.toNat : Nat) : Int)] 100 H ?_
 intro e _ H
 refine uF 1 ?_
 refine uR 1 [.c [1, 0], .c [2]] ?_
 refine qG (sq 0 4) ?_
 refine uP 1 ?_
 refine uV 100 0 (H.cells 0 rfl) ?_
 refine uK (written_hdr (xs := xs) (H.rp 0 rfl) (D := D) (by assumption) (by first | omega | simp only [List.length_append, List.length_nil, List.length_cons]; omega)) ?_
 rintro _ _ - H'
 have H := H.back (M1 := []) (W1 := []) H'
 obtain ⟨b, d, rfl, _, _⟩ := H.ownForm 0 rfl
 have H : Hp w S [] [(e, .cells #[.int .u64 D.id.version, .I D.id.index, .int .u64 D.id.epoch, .I D.kk, .I D.nn, .I D.size, .int .u32 ((D.sum.toNat : Nat) : Int)] 100 (0, 0))] [⟨Sb, 5, .slice b (xs ++ hdrE D).length d, (xs ++ hdrE D)⟩] [_] _ := H
 refine uF 1 ?_
 refine qT (.slice b (xs ++ hdrE D).length d) Tryz.func148 ?_
 have H := H.pick [] rfl
 have H := H.dropM 0
 exact ⟨_, rfl, H.done, H⟩
end Go.Proofs.YtdnibpclkhenmaaGreatDoor
