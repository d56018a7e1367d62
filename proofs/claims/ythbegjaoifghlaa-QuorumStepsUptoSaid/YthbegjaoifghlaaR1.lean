import Derived.Test.YthbegjaoifghlaaQ9
import Derived.Test.YthbegjaoifghlaaBxStr
import Derived.Test.YthbegjaoifghlaaBxDraw
import Derived.Test.YthbegjaoifghlaaBxBits
namespace Go.Proofs.Ythbegjaoifghlaa
open Go.BX

def num (n : Nat) : List (BitVec 8) := if n < 128 then [BitVec.ofNat 8 n] else (BitVec.ofInt 8 ((n : Int) % 128) ||| 128#8) :: num (n / 128)
termination_by n
decreasing_by omega
theorem num_lo {n : Nat} (h : n < 128) : num n = [BitVec.ofNat 8 n] := by
  rw [num, if_pos h]
theorem num_hi {n : Nat} (h : ¬ n < 128) : num n = (BitVec.ofInt 8 ((n : Int) % 128) ||| 128#8) :: num (n / 128) := by
  rw [num, if_neg h]
theorem num_pos (n : Nat) : 0 < (num n).length := by
  by_cases h : n < 128
  · rw [num_lo h]; simp
  · rw [num_hi h]; simp
theorem num_len : ∀ (k : Nat) {n : Nat}, n < 128 ^ (k + 1) → (num n).length ≤ k + 1
  | 0, n, h => by
    rw [num_lo (by omega)]; simp
  | k + 1, n, h => by
    by_cases h1 : n < 128
    · rw [num_lo h1]; simp
    · rw [num_hi h1, List.length_cons]
      have := num_len k (n := n / 128) (by rw [Nat.pow_succ] at h; omega)
      omega
theorem num_ten {n : Nat} (h : n ≤ 18446744073709551615) : (num n).length ≤ 10 := num_len 9 (by
  have : (128 : Nat) ^ 10 = 1180591620717411303424 := by decide
  omega)
def intE (x : Int) : List (BitVec 8) := if x ≥ 0 then num (2 * x).toNat else num (2 * (-1 - x) + 1).toNat
theorem intE_ten {x : Int} (h : -9223372036854775808 ≤ x ∧ x ≤ 9223372036854775807) : (intE x).length ≤ 10 := by
  unfold intE
  split <;> exact num_ten (by omega)
def intsE : List Int → List (BitVec 8)
  | [] => []
  | x :: r => intE x ++ intsE r
theorem intsE_app : ∀ (xs ys : List Int), intsE (xs ++ ys) = intsE xs ++ intsE ys
  | [], _ => rfl
  | x :: r, ys => by
    show intE x ++ intsE (r ++ ys) = intE x ++ intsE r ++ intsE ys
    rw [intsE_app r ys, List.append_assoc]
theorem intsE_take {xs : List Int} {k : Nat} (h : k < xs.length) : intsE (xs.take (k + 1)) = intsE (xs.take k) ++ intE xs[k] := by
  rw [List.take_succ_eq_append_getElem h, intsE_app]
  simp [intsE]
theorem intsE_len : ∀ {xs : List Int}, (∀ x ∈ xs, -9223372036854775808 ≤ x ∧ x ≤ 9223372036854775807) → (intsE xs).length ≤ 10 * xs.length
  | [], _ => Nat.zero_le _
  | x :: r, h => by
    have h1 := intE_ten (h x (by simp))
    have h2 := intsE_len (xs := r) fun y hy => h y (by simp [hy])
    show (intE x ++ intsE r).length ≤ _
    rw [List.length_append, List.length_cons]
    omega
theorem rep_ints {S : Nat → Prop} {w : World} {cs : List Value} {xs : List Int} (h : (Shape.slice (Shape.int .i64)).rep S w cs xs) : ∀ x ∈ xs, -9223372036854775808 ≤ x ∧ x ≤ 9223372036854775807 := by
  intro x hx
  obtain ⟨a, c, _, _, _, hE⟩ := h
  obtain ⟨i, hi⟩ := List.mem_iff_getElem?.1 hx
  obtain ⟨b, o, es, _, _, _, hr⟩ := hE i x hi
  exact Shape.i64_bd hr

theorem copied_spec {S : Nat → Prop} {w : World} {xs : List (BitVec 8)} {a : Option Addr} {c : Nat} (h : (Shape.slice (Shape.bv .u8 8)).rep S w [.slice a xs.length c] xs) (hby : xs.length ≤ 1099511627776) :
    Calls Try.prog 77 #[.slice a xs.length c] w (Ret fun v w' => Ext w w' ∧ Hp w S [] [] [⟨Shape.bv .u8 8, 5, v, xs⟩] [] w') := by
  refine WK.calls1 (fn := Try.f77) (n := 6) (σ := [(0, .slice a xs.length c)]) Try.func77 rfl (by as_aux_lemma => kernel_rfl) (by as_aux_lemma => kernel_rfl) (by as_aux_lemma => kernel_rfl) ?_
  have H := Hp.startF (w := w) (S := S) (G := [Rp (Shape.slice (Shape.bv .u8 8)) [.slice a xs.length c] xs]) (.rp h .nil)
  refine WK.run 3 [0] [.code (cd Try.prog 77 [1, 0]), .code (cd Try.prog 77 [2])] [(0, .slice a xs.length c)] (by as_aux_lemma => kernel_rfl) ?_
  refine WK.reg1 (l := sq 0 4) (by as_aux_lemma => kernel_rfl) (by as_aux_lemma => kernel_rfl) ?_
  refine RW.new (κ := .seq) (d := some 3) (r := (sq 1 4)) (o := .cells #[] 5 (0, 0)) (v := fun b => .slice (some ⟨b, 0, none⟩) 0 0) (fun b => by as_aux_lemma => kernel_rfl) (nofun) H ?_
  intro b1 w2 H
  refine RW.runP 1 [3, 4] (sq 2 4) [(3, .slice (some ⟨b1, 0, none⟩) 0 0), (4, .slice a xs.length c)] (by as_aux_lemma => kernel_rfl) (by as_aux_lemma => kernel_rfl) ?_
  have H := H.toOwn (sh := Shape.bv .u8 8) (xs := []) (cap := 0) (by rfl) (Nat.le_refl _) (Nat.zero_le _) (by simp) EsP.nil
  have H : Hp w S [] [] [⟨Shape.bv .u8 8, 5, .slice (some ⟨b1, 0, none⟩) 0 0, []⟩] [Rp (Shape.slice (Shape.bv .u8 8)) [.slice a xs.length c] xs] _ := H
  refine RW.appendW (d := some 5) (r := (sq 3 4)) (T := 55) (ty := 55) (e := 5) (m := 1) (by_ := 1) (v := .slice (some ⟨b1, 0, none⟩) 0 0) (a2 := a) (l2 := xs.length) (c2 := c) (zs := xs) (by as_aux_lemma => kernel_rfl) (by as_aux_lemma => kernel_rfl) rfl H 0 rfl 0 rfl (rfl) (by omega) ?_
  intro a3 c4 w6 H hc5
  have H : Hp w S [] [] [⟨Shape.bv .u8 8, 5, .slice a3 xs.length c4, xs⟩] [Rp (Shape.slice (Shape.bv .u8 8)) [.slice a xs.length c] xs] _ := H
  refine RW.fin 1 [2] [(2, .slice a3 xs.length c4)] (by as_aux_lemma => kernel_rfl) ?_
  refine WK.ret (v := .slice a3 xs.length c4) Try.func77 (by as_aux_lemma => kernel_rfl) (by as_aux_lemma => kernel_rfl) ?_
  exact ⟨_, rfl, H.done, H.pick [] rfl⟩

theorem putnumN_spec {S : Nat → Prop} {w : World} {xs : List (BitVec 8)} {a : Option Addr} {c : Nat} (h : (Shape.slice (Shape.bv .u8 8)).rep S w [.slice a xs.length c] xs) (n : Nat) (hn : n ≤ 18446744073709551615) (hby : xs.length ≤ 1099511627776) :
    Calls Try.prog 75 #[.slice a xs.length c, .int .u64 (n : Int)] w (Ret fun v w' => Ext w w' ∧ Hp w S [] [] [⟨Shape.bv .u8 8, 5, v, xs ++ num n⟩] [] w') := by
  have hten := num_ten hn
  refine WK.calls1 (fn := Try.f75) (n := 24) (σ := [(0, .slice a xs.length c), (1, .int .u64 (n : Int))]) Try.func75 rfl (by as_aux_lemma => kernel_rfl) (by as_aux_lemma => kernel_rfl) (by as_aux_lemma => kernel_rfl) ?_
  have H := Hp.startF (w := w) (S := S) (G := [Rp (Shape.slice (Shape.bv .u8 8)) [.slice a xs.length c] xs]) (.rp h .nil)
  refine WK.run 3 [0, 1] [.code (cd Try.prog 75 [1, 0]), .code (cd Try.prog 75 [2])] [(0, .slice a xs.length c), (1, .int .u64 (n : Int))] (by as_aux_lemma => kernel_rfl) ?_
  refine WK.reg1 (l := sq 0 3) (by as_aux_lemma => kernel_rfl) (by as_aux_lemma => kernel_rfl) ?_
  refine RW.runP 1 [1, 6] (sq 1 3) [(1, .int .u64 (n : Int)), (6, .slice a xs.length c)] (by as_aux_lemma => kernel_rfl) (by as_aux_lemma => kernel_rfl) ?_
  refine RW.call (κ := .seq) (d := some 7) (r := (sq 2 3)) (g := 77) (args := #[.slice a xs.length c]) (by as_aux_lemma => kernel_rfl) (nofun) (copied_spec (xs := xs) (H.rp 0 rfl) (by first | omega | simp)) ?_
  rintro v2 w1 - H'
  have H := H.back (M1 := []) (W1 := []) H'
  obtain ⟨a3, c4, rfl, hc5, hm6⟩ := H.ownForm 0 rfl
  have H : Hp w S [] [] [⟨Shape.bv .u8 8, 5, .slice a3 xs.length c4, xs⟩] [Rp (Shape.slice (Shape.bv .u8 8)) [.slice a xs.length c] xs] _ := H
  refine RW.fin 1 [1, 5] [(1, .int .u64 (n : Int)), (5, .slice a3 xs.length c4)] (by as_aux_lemma => kernel_rfl) ?_
  refine WK.run 2 [1, 5] [.code (cd Try.prog 75 [2, 0, 0]), .inBlock 0, .code (cd Try.prog 75 [3])] [(1, .int .u64 (n : Int)), (5, .slice a3 xs.length c4)] (by as_aux_lemma => kernel_rfl) ?_
  refine WK.loop (α := Nat × List (BitVec 8) × Option Addr × Nat) (b := cd Try.prog 75 [2, 0, 0, 0]) (by as_aux_lemma => kernel_rfl) (fun st_ => match st_ with | (m, rs, a9, c9) => [(1, .int .u64 (m : Int)), (5, .slice a9 rs.length c9)]) (fun st_ w' => match st_ with | (m, rs, a9, c9) => Hp w S [] [] [⟨Shape.bv .u8 8, 5, .slice a9 rs.length c9, rs⟩] [Rp (Shape.slice (Shape.bv .u8 8)) [.slice a xs.length c] xs] w' ∧ m ≤ 18446744073709551615 ∧ rs ++ num m = xs ++ num n) (fun st_ => match st_ with | (m, rs, a9, c9) => m) (n, xs, a3, c4) ⟨H, hn, rfl⟩ rfl ?_
  rintro ⟨m, rs, a9, c9⟩ w8 ⟨H, hinv0⟩ hback7
  have hl9 := congrArg List.length hinv0.2
  simp only [List.length_append] at hl9
  have hp9 := num_pos m
  refine WK.run 3 [1, 5, 9] [.code (cd Try.prog 75 [2, 0, 0, 0, 0, 1]), .code (cd Try.prog 75 [2, 0, 0, 0, 1]), .inLoop (cd Try.prog 75 [2, 0, 0, 0]), .inBlock 0, .code (cd Try.prog 75 [3])] [(1, .int .u64 (m : Int)), (5, .slice a9 rs.length c9), (9, .bool (decide (((m : Int) : Int) ≥ 128)))] (by as_aux_lemma => kernel_rfl) ?_
  refine WK.cond1 (decide (((m : Int) : Int) ≥ 128)) (by as_aux_lemma => kernel_rfl) (by as_aux_lemma => kernel_rfl) (fun h9 => ?_) (fun h9 => ?_)
  · skip
    replace h9 := of_decide_eq_true h9
    refine WK.run 3 [1, 5] [.code (cd Try.prog 75 [2, 0, 0, 0, 1, 0, 0]), .code (cd Try.prog 75 [2, 0, 0, 0, 1, 0, 1]), .inBlock 1, .inLoop (cd Try.prog 75 [2, 0, 0, 0]), .inBlock 0, .code (cd Try.prog 75 [3])] [(1, .int .u64 (m : Int)), (5, .slice a9 rs.length c9)] (by as_aux_lemma => kernel_rfl) ?_
    refine WK.reg1 (l := sq 0 8) (by as_aux_lemma => kernel_rfl) (by as_aux_lemma => kernel_rfl) ?_
    refine RW.runP 2 [1, 5, 10, 11] (sq 2 8) [(1, .int .u64 (m : Int)), (5, .slice a9 rs.length c9), (10, .slice a9 rs.length c9), (11, .int .u64 (m : Int))] (by as_aux_lemma => kernel_rfl) (by as_aux_lemma => kernel_rfl) ?_
    refine RW.pv (κ := .seq) (d := some 12) (r := (sq 3 8)) (v := .int .u64 (IntKind.u64.wrap ((BitVec.ofInt 64 (m : Int) &&& BitVec.ofInt 64 127).toNat : Nat))) (v' := .int .u64 ((m : Int) % 128)) (by as_aux_lemma => kernel_rfl) (and_u64 (j := 7) (m := 127) (by decide) (by decide) (by omega)) ?_
    refine RW.pv (κ := .seq) (d := some 13) (r := (sq 4 8)) (v := .int .u8 (IntKind.u8.wrap ((m : Int) % 128))) (v' := .int .u8 (((BitVec.ofInt 8 ((m : Int) % 128)).toNat : Nat) : Int)) (by as_aux_lemma => kernel_rfl) (wrap_bv8 _) ?_
    refine RW.pv (κ := .seq) (d := some 14) (r := (sq 5 8)) (v := .int .u8 (IntKind.u8.wrap ((BitVec.ofInt 8 (((BitVec.ofInt 8 ((m : Int) % 128)).toNat : Nat) : Int) ||| BitVec.ofInt 8 128).toNat : Nat))) (v' := .int .u8 (((((BitVec.ofInt 8 ((m : Int) % 128)) ||| (128#8)).toNat : Nat) : Int))) (by as_aux_lemma => kernel_rfl) (bv_or8 (bvi _) (by decide)) ?_
    refine RW.new (κ := .seq) (d := some 15) (r := (sq 6 8)) (o := .cells #[.int .u8 ((((BitVec.ofInt 8 ((m : Int) % 128)) ||| (128#8)).toNat : Nat) : Int)] 5 (0, 0)) (v := fun b => .slice (some ⟨b, 0, none⟩) 1 1) (fun b => by as_aux_lemma => kernel_rfl) (nofun) H ?_
    intro b10 w11 H
    have H := H.freeze 0 rfl (Shape.bv .u8 8) ([(BitVec.ofInt 8 ((m : Int) % 128)) ||| (128#8)] : List (BitVec 8)) 1 (by simp [maxLen]) (by first | exact Nat.le_refl _ | simp) (EsP.cons (c := [.int .u8 ((((BitVec.ofInt 8 ((m : Int) % 128)) ||| (128#8)).toNat : Nat) : Int)]) Shape.bv_mk EsP.nil)
    have H : Hp w S [] [] [⟨Shape.bv .u8 8, 5, .slice a9 rs.length c9, rs⟩] [Rp (Shape.slice (Shape.bv .u8 8)) [.slice (some ⟨b10, 0, none⟩) 1 1] ([(BitVec.ofInt 8 ((m : Int) % 128)) ||| (128#8)] : List (BitVec 8)), Rp (Shape.slice (Shape.bv .u8 8)) [.slice a xs.length c] xs] _ := H
    refine RW.appendW (d := some 16) (r := (sq 7 8)) (T := 55) (ty := 55) (e := 5) (m := 1) (by_ := 1) (v := .slice a9 rs.length c9) (a2 := (some ⟨b10, 0, none⟩)) (l2 := 1) (c2 := 1) (zs := rs ++ ([(BitVec.ofInt 8 ((m : Int) % 128)) ||| (128#8)] : List (BitVec 8))) (by as_aux_lemma => kernel_rfl) (by as_aux_lemma => kernel_rfl) rfl H 0 rfl 0 rfl (rfl) (by simp; omega) ?_
    intro a12 c13 w15 H hc14
    have H : Hp w S [] [] [⟨Shape.bv .u8 8, 5, .slice a12 ((rs ++ ([(BitVec.ofInt 8 ((m : Int) % 128)) ||| (128#8)] : List (BitVec 8))).length) c13, rs ++ ([(BitVec.ofInt 8 ((m : Int) % 128)) ||| (128#8)] : List (BitVec 8))⟩] [Rp (Shape.slice (Shape.bv .u8 8)) [.slice (some ⟨b10, 0, none⟩) 1 1] ([(BitVec.ofInt 8 ((m : Int) % 128)) ||| (128#8)] : List (BitVec 8)), Rp (Shape.slice (Shape.bv .u8 8)) [.slice a xs.length c] xs] _ := H
    refine RW.fin 1 [1, 5] [(1, .int .u64 (m : Int)), (5, .slice a12 ((rs ++ ([(BitVec.ofInt 8 ((m : Int) % 128)) ||| (128#8)] : List (BitVec 8))).length) c13)] (by as_aux_lemma => kernel_rfl) ?_
    refine WK.reg1 (l := sq 0 3) (by as_aux_lemma => kernel_rfl) (by as_aux_lemma => kernel_rfl) ?_
    refine RW.runP 1 [1, 5, 17] (sq 1 3) [(1, .int .u64 (m : Int)), (5, .slice a12 ((rs ++ ([(BitVec.ofInt 8 ((m : Int) % 128)) ||| (128#8)] : List (BitVec 8))).length) c13), (17, .int .u64 (m : Int))] (by as_aux_lemma => kernel_rfl) (by as_aux_lemma => kernel_rfl) ?_
    refine RW.pv (κ := .seq) (d := some 18) (r := (sq 2 3)) (v := .int .u64 ((m : Int).fdiv (2 ^ 7))) (v' := .int .u64 ((m : Int) / 128)) (by as_aux_lemma => kernel_rfl) (shr_id (by decide) (by omega)) ?_
    refine RW.fin 1 [1, 5] [(1, .int .u64 ((m : Int) / 128)), (5, .slice a12 ((rs ++ ([(BitVec.ofInt 8 ((m : Int) % 128)) ||| (128#8)] : List (BitVec 8))).length) c13)] (by as_aux_lemma => kernel_rfl) ?_
    refine WK.run 1 [1, 5] [.inLoop (cd Try.prog 75 [2, 0, 0, 0]), .inBlock 0, .code (cd Try.prog 75 [3])] [(1, .int .u64 ((m : Int) / 128)), (5, .slice a12 ((rs ++ ([(BitVec.ofInt 8 ((m : Int) % 128)) ||| (128#8)] : List (BitVec 8))).length) c13)] (by as_aux_lemma => kernel_rfl) ?_
    have H := H.pick [1] (G' := [Rp (Shape.slice (Shape.bv .u8 8)) [.slice a xs.length c] xs]) rfl
    exact WK.back (hback7 (m / 128, rs ++ ([(BitVec.ofInt 8 ((m : Int) % 128)) ||| (128#8)] : List (BitVec 8)), a12, c13) _ ⟨H, by omega, by rw [← hinv0.2, num_hi (n := m) (by omega)]; simp⟩ (by simp only []; omega)) (by rfl)
  · skip
    replace h9 := of_decide_eq_false h9
    refine WK.run 2 [1, 5] [.code (cd Try.prog 75 [3, 0]), .code (cd Try.prog 75 [4])] [(1, .int .u64 (m : Int)), (5, .slice a9 rs.length c9)] (by as_aux_lemma => kernel_rfl) ?_
    refine WK.reg1 (l := sq 0 6) (by as_aux_lemma => kernel_rfl) (by as_aux_lemma => kernel_rfl) ?_
    refine RW.runP 2 [19, 20] (sq 2 6) [(19, .slice a9 rs.length c9), (20, .int .u64 (m : Int))] (by as_aux_lemma => kernel_rfl) (by as_aux_lemma => kernel_rfl) ?_
    refine RW.pv (κ := .seq) (d := some 21) (r := (sq 3 6)) (v := .int .u8 (IntKind.u8.wrap ((m : Int)))) (v' := .int .u8 (((BitVec.ofNat 8 m).toNat : Nat) : Int)) (by as_aux_lemma => kernel_rfl) ((wrap_bv8 _).trans (by rw [bv_nat])) ?_
    refine RW.new (κ := .seq) (d := some 22) (r := (sq 4 6)) (o := .cells #[.int .u8 (((BitVec.ofNat 8 m).toNat : Nat) : Int)] 5 (0, 0)) (v := fun b => .slice (some ⟨b, 0, none⟩) 1 1) (fun b => by as_aux_lemma => kernel_rfl) (nofun) H ?_
    intro b16 w17 H
    have H := H.freeze 0 rfl (Shape.bv .u8 8) ([BitVec.ofNat 8 m] : List (BitVec 8)) 1 (by simp [maxLen]) (by first | exact Nat.le_refl _ | simp) (EsP.cons (c := [.int .u8 (((BitVec.ofNat 8 m).toNat : Nat) : Int)]) Shape.bv_mk EsP.nil)
    have H : Hp w S [] [] [⟨Shape.bv .u8 8, 5, .slice a9 rs.length c9, rs⟩] [Rp (Shape.slice (Shape.bv .u8 8)) [.slice (some ⟨b16, 0, none⟩) 1 1] ([BitVec.ofNat 8 m] : List (BitVec 8)), Rp (Shape.slice (Shape.bv .u8 8)) [.slice a xs.length c] xs] _ := H
    refine RW.appendW (d := some 23) (r := (sq 5 6)) (T := 55) (ty := 55) (e := 5) (m := 1) (by_ := 1) (v := .slice a9 rs.length c9) (a2 := (some ⟨b16, 0, none⟩)) (l2 := 1) (c2 := 1) (zs := rs ++ ([BitVec.ofNat 8 m] : List (BitVec 8))) (by as_aux_lemma => kernel_rfl) (by as_aux_lemma => kernel_rfl) rfl H 0 rfl 0 rfl (rfl) (by simp; omega) ?_
    intro a18 c19 w21 H hc20
    have H : Hp w S [] [] [⟨Shape.bv .u8 8, 5, .slice a18 ((rs ++ ([BitVec.ofNat 8 m] : List (BitVec 8))).length) c19, rs ++ ([BitVec.ofNat 8 m] : List (BitVec 8))⟩] [Rp (Shape.slice (Shape.bv .u8 8)) [.slice (some ⟨b16, 0, none⟩) 1 1] ([BitVec.ofNat 8 m] : List (BitVec 8)), Rp (Shape.slice (Shape.bv .u8 8)) [.slice a xs.length c] xs] _ := H
    refine RW.fin 1 [4] [(4, .slice a18 ((rs ++ ([BitVec.ofNat 8 m] : List (BitVec 8))).length) c19)] (by as_aux_lemma => kernel_rfl) ?_
    refine WK.ret (v := .slice a18 ((rs ++ ([BitVec.ofNat 8 m] : List (BitVec 8))).length) c19) Try.func75 (by as_aux_lemma => kernel_rfl) (by as_aux_lemma => kernel_rfl) ?_
    exact ⟨_, rfl, H.done, (H.pick [] rfl).reW (by rw [← hinv0.2, num_lo (n := m) (by omega)])⟩

theorem putnum_spec {S : Nat → Prop} {w : World} {xs : List (BitVec 8)} {a : Option Addr} {c : Nat} (h : (Shape.slice (Shape.bv .u8 8)).rep S w [.slice a xs.length c] xs) (x : Int) (hn : 0 ≤ x ∧ x ≤ 18446744073709551615) (hby : xs.length ≤ 1099511627776) :
    Calls Try.prog 75 #[.slice a xs.length c, .int .u64 x] w (Ret fun v w' => Ext w w' ∧ Hp w S [] [] [⟨Shape.bv .u8 8, 5, v, xs ++ num x.toNat⟩] [] w') := by
  obtain ⟨n, rfl⟩ := Int.eq_ofNat_of_zero_le hn.1
  rw [Int.toNat_natCast]
  exact putnumN_spec h n (by omega) hby

theorem putint_spec {S : Nat → Prop} {w : World} {xs : List (BitVec 8)} {a : Option Addr} {c : Nat} (h : (Shape.slice (Shape.bv .u8 8)).rep S w [.slice a xs.length c] xs) (x : Int) (hn : -9223372036854775808 ≤ x ∧ x ≤ 9223372036854775807) (hby : xs.length ≤ 1099511627776) :
    Calls Try.prog 72 #[.slice a xs.length c, .int .i64 x] w (Ret fun v w' => Ext w w' ∧ Hp w S [] [] [⟨Shape.bv .u8 8, 5, v, xs ++ intE x⟩] [] w') := by
  refine WK.calls1 (fn := Try.f72) (n := 19) (σ := [(0, .slice a xs.length c), (1, .int .i64 x)]) Try.func72 rfl (by as_aux_lemma => kernel_rfl) (by as_aux_lemma => kernel_rfl) (by as_aux_lemma => kernel_rfl) ?_
  have H := Hp.startF (w := w) (S := S) (G := [Rp (Shape.slice (Shape.bv .u8 8)) [.slice a xs.length c] xs]) (.rp h .nil)
  refine WK.run 5 [0, 1, 6] [.code (cd Try.prog 72 [1, 0, 1]), .code (cd Try.prog 72 [2])] [(0, .slice a xs.length c), (1, .int .i64 x), (6, .bool (decide ((x : Int) ≥ 0)))] (by as_aux_lemma => kernel_rfl) ?_
  refine WK.cond1 (decide ((x : Int) ≥ 0)) (by as_aux_lemma => kernel_rfl) (by as_aux_lemma => kernel_rfl) (fun h1 => ?_) (fun h1 => ?_)
  · skip
    replace h1 := of_decide_eq_true h1
    refine WK.run 1 [0, 1] [.code (cd Try.prog 72 [1, 0, 1, 0, 0]), .code (cd Try.prog 72 [1, 0, 1, 0, 1]), .code (cd Try.prog 72 [2])] [(0, .slice a xs.length c), (1, .int .i64 x)] (by as_aux_lemma => kernel_rfl) ?_
    refine WK.reg1 (l := sq 0 6) (by as_aux_lemma => kernel_rfl) (by as_aux_lemma => kernel_rfl) ?_
    refine RW.runP 2 [7, 8] (sq 2 6) [(7, .slice a xs.length c), (8, .int .i64 x)] (by as_aux_lemma => kernel_rfl) (by as_aux_lemma => kernel_rfl) ?_
    refine RW.pv (κ := .seq) (d := some 9) (r := (sq 3 6)) (v := .int .u64 (IntKind.u64.wrap (x))) (v' := .int .u64 (x)) (by as_aux_lemma => kernel_rfl) (wr_u64 (by omega)) ?_
    refine RW.pv (κ := .seq) (d := some 10) (r := (sq 4 6)) (v := .int .u64 (IntKind.u64.wrap (2 * x))) (v' := .int .u64 (2 * x)) (by as_aux_lemma => kernel_rfl) (wr_u64 (by omega)) ?_
    refine RW.call (κ := .seq) (d := some 11) (r := (sq 5 6)) (g := 75) (args := #[.slice a xs.length c, .int .u64 (2 * x)]) (by as_aux_lemma => kernel_rfl) (nofun) (putnum_spec (xs := xs) (H.rp 0 rfl) (2 * x) (by omega) (by first | omega | simp)) ?_
    rintro v3 w2 - H'
    have H := H.back (M1 := []) (W1 := []) H'
    obtain ⟨a4, c5, rfl, hc6, hm7⟩ := H.ownForm 0 rfl
    have H : Hp w S [] [] [⟨Shape.bv .u8 8, 5, .slice a4 ((xs ++ num ((2 * x).toNat)).length) c5, (xs ++ num ((2 * x).toNat))⟩] [Rp (Shape.slice (Shape.bv .u8 8)) [.slice a xs.length c] xs] _ := H
    refine RW.fin 1 [4] [(4, .slice a4 ((xs ++ num ((2 * x).toNat)).length) c5)] (by as_aux_lemma => kernel_rfl) ?_
    refine WK.ret (v := .slice a4 ((xs ++ num ((2 * x).toNat)).length) c5) Try.func72 (by as_aux_lemma => kernel_rfl) (by as_aux_lemma => kernel_rfl) ?_
    exact ⟨_, rfl, H.done, (H.pick [] rfl).reW (by unfold intE; rw [if_pos (by omega)]) (by rfl)⟩
  · skip
    replace h1 := of_decide_eq_false h1
    refine WK.run 2 [0, 1] [.code (cd Try.prog 72 [2, 0]), .code (cd Try.prog 72 [3])] [(0, .slice a xs.length c), (1, .int .i64 x)] (by as_aux_lemma => kernel_rfl) ?_
    refine WK.reg1 (l := sq 0 8) (by as_aux_lemma => kernel_rfl) (by as_aux_lemma => kernel_rfl) ?_
    refine RW.runP 2 [12, 13] (sq 2 8) [(12, .slice a xs.length c), (13, .int .i64 x)] (by as_aux_lemma => kernel_rfl) (by as_aux_lemma => kernel_rfl) ?_
    refine RW.wr64 (κ := .seq) (d := some 14) (r := (sq 3 8)) (t := (-1) - x) (by as_aux_lemma => kernel_rfl) (by omega) ?_
    refine RW.pv (κ := .seq) (d := some 15) (r := (sq 4 8)) (v := .int .u64 (IntKind.u64.wrap ((-1) - x))) (v' := .int .u64 ((-1) - x)) (by as_aux_lemma => kernel_rfl) (wr_u64 (by omega)) ?_
    refine RW.pv (κ := .seq) (d := some 16) (r := (sq 5 8)) (v := .int .u64 (IntKind.u64.wrap (2 * ((-1) - x)))) (v' := .int .u64 (2 * ((-1) - x))) (by as_aux_lemma => kernel_rfl) (wr_u64 (by omega)) ?_
    refine RW.pv (κ := .seq) (d := some 17) (r := (sq 6 8)) (v := .int .u64 (IntKind.u64.wrap ((2 * ((-1) - x)) + 1))) (v' := .int .u64 ((2 * ((-1) - x)) + 1)) (by as_aux_lemma => kernel_rfl) (wr_u64 (by omega)) ?_
    refine RW.call (κ := .seq) (d := some 18) (r := (sq 7 8)) (g := 75) (args := #[.slice a xs.length c, .int .u64 ((2 * ((-1) - x)) + 1)]) (by as_aux_lemma => kernel_rfl) (nofun) (putnum_spec (xs := xs) (H.rp 0 rfl) ((2 * ((-1) - x)) + 1) (by omega) (by first | omega | simp)) ?_
    rintro v9 w8 - H'
    have H := H.back (M1 := []) (W1 := []) H'
    obtain ⟨a10, c11, rfl, hc12, hm13⟩ := H.ownForm 0 rfl
    have H : Hp w S [] [] [⟨Shape.bv .u8 8, 5, .slice a10 ((xs ++ num (((2 * ((-1) - x)) + 1).toNat)).length) c11, (xs ++ num (((2 * ((-1) - x)) + 1).toNat))⟩] [Rp (Shape.slice (Shape.bv .u8 8)) [.slice a xs.length c] xs] _ := H
    refine RW.fin 1 [4] [(4, .slice a10 ((xs ++ num (((2 * ((-1) - x)) + 1).toNat)).length) c11)] (by as_aux_lemma => kernel_rfl) ?_
    refine WK.ret (v := .slice a10 ((xs ++ num (((2 * ((-1) - x)) + 1).toNat)).length) c11) Try.func72 (by as_aux_lemma => kernel_rfl) (by as_aux_lemma => kernel_rfl) ?_
    exact ⟨_, rfl, H.done, (H.pick [] rfl).reW (by unfold intE; rw [if_neg (by omega)]) (by rfl)⟩


end Go.Proofs.Ythbegjaoifghlaa
