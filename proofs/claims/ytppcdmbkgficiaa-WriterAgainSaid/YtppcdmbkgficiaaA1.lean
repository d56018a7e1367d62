import Derived.Test.YtppcdmbkgficiaaW7
import Derived.Test.YtppcdmbkgficiaaBxHeld
namespace Go.Proofs.Ytppcdmbkgficiaa
open Go.BX

def num (n : Nat) : List (BitVec 8) := if n < 128 then [BitVec.ofNat 8 n] else (BitVec.ofInt 8 ((n : Int) % 128) ||| 128#8) :: num (n / 128)
termination_by n
decreasing_by omega
theorem num_lo {n : Nat} (h : n < 128) : num n = [BitVec.ofNat 8 n] := by
  rw [num, if_pos h]
theorem num_hi {n : Nat} (h : ¬ n < 128) : num n = (BitVec.ofInt 8 ((n : Int) % 128) ||| 128#8) :: num (n / 128) := by
  rw [num, if_neg h]
theorem num_pos (n : Nat) : 0 < (num n).length := by
  by_cases h : n < 128
  · rw [num_lo h]; simp
  · rw [num_hi h]; simp
theorem num_len : ∀ (k : Nat) {n : Nat}, n < 128 ^ (k + 1) → (num n).length ≤ k + 1
  | 0, n, h => by
    rw [num_lo (by omega)]; simp
  | k + 1, n, h => by
    by_cases h1 : n < 128
    · rw [num_lo h1]; simp
    · rw [num_hi h1, List.length_cons]
      have := num_len k (n := n / 128) (by rw [Nat.pow_succ] at h; omega)
      omega
theorem num_ten {n : Nat} (h : n ≤ 18446744073709551615) : (num n).length ≤ 10 := num_len 9 (by
  have : (128 : Nat) ^ 10 = 1180591620717411303424 := by decide
  omega)
def intE (x : Int) : List (BitVec 8) := if x ≥ 0 then num (2 * x).toNat else num (2 * (-1 - x) + 1).toNat
theorem intE_ten {x : Int} (h : -9223372036854775808 ≤ x ∧ x ≤ 9223372036854775807) : (intE x).length ≤ 10 := by
  unfold intE
  split <;> exact num_ten (by omega)
def intsE : List Int → List (BitVec 8)
  | [] => []
  | x :: r => intE x ++ intsE r
theorem intsE_app : ∀ (xs ys : List Int), intsE (xs ++ ys) = intsE xs ++ intsE ys
  | [], _ => rfl
  | x :: r, ys => by
    show intE x ++ intsE (r ++ ys) = intE x ++ intsE r ++ intsE ys
    rw [intsE_app r ys, List.append_assoc]
theorem intsE_take {xs : List Int} {k : Nat} (h : k < xs.length) : intsE (xs.take (k + 1)) = intsE (xs.take k) ++ intE xs[k] := by
  rw [List.take_succ_eq_append_getElem h, intsE_app]
  simp [intsE]
theorem intsE_len : ∀ {xs : List Int}, (∀ x ∈ xs, -9223372036854775808 ≤ x ∧ x ≤ 9223372036854775807) → (intsE xs).length ≤ 10 * xs.length
  | [], _ => Nat.zero_le _
  | x :: r, h => by
    have h1 := intE_ten (h x (by simp))
    have h2 := intsE_len (xs := r) fun y hy => h y (by simp [hy])
    show (intE x ++ intsE r).length ≤ _
    rw [List.length_append, List.length_cons]
    omega
theorem rep_ints {S : Nat → Prop} {w : World} {cs : List Value} {xs : List Int} (h : (Shape.slice (Shape.int .i64)).rep S w cs xs) : ∀ x ∈ xs, -9223372036854775808 ≤ x ∧ x ≤ 9223372036854775807 := by
  intro x hx
  obtain ⟨a, c, _, _, _, hE⟩ := h
  obtain ⟨i, hi⟩ := List.mem_iff_getElem?.1 hx
  obtain ⟨b, o, es, _, _, _, hr⟩ := hE i x hi
  exact Shape.i64_bd hr

theorem copied_spec {S : Nat → Prop} {w : World} {xs : List (BitVec 8)} {a : Option Addr} {c : Nat} (h : (Shape.slice (Shape.bv .u8 8)).rep S w [.slice a xs.length c] xs) (hby : xs.length ≤ 1099511627776) :
    Calls Try.prog 155 #[.slice a xs.length c] w (Ret fun v w' => Ext w w' ∧ Hp w S [] [] [⟨Shape.bv .u8 8, 5, v, xs⟩] [] w') := by
  refine WK.calls1 (fn := Try.f155) (n := 6) (σ := [(0, .slice a xs.length c)]) Try.func155 rfl (by as_aux_lemma => kernel_rfl) (by as_aux_lemma => kernel_rfl) (by as_aux_lemma => kernel_rfl) ?_
  have H := Hp.startF (w := w) (S := S) (G := [Rp (Shape.slice (Shape.bv .u8 8)) [.slice a xs.length c] xs]) (.rp h .nil)
  refine WK.run 3 [0] [.code (cd Try.prog 155 [1, 0]), .code (cd Try.prog 155 [2])] [(0, .slice a xs.length c)] (by as_aux_lemma => kernel_rfl) ?_
  refine WK.reg1 (l := sq 0 4) (by as_aux_lemma => kernel_rfl) (by as_aux_lemma => kernel_rfl) ?_
  refine RW.new (κ := .seq) (d := some 3) (r := (sq 1 4)) (o := .cells #[] 5 (0, 0)) (v := fun b => .slice (some ⟨b, 0, none⟩) 0 0) (fun b => by as_aux_lemma => kernel_rfl) (nofun) H ?_
  intro b1 w2 H
  refine RW.runP 1 [3, 4] (sq 2 4) [(3, .slice (some ⟨b1, 0, none⟩) 0 0), (4, .slice a xs.length c)] (by as_aux_lemma => kernel_rfl) (by as_aux_lemma => kernel_rfl) ?_
  have H := H.toOwn (sh := Shape.bv .u8 8) (xs := []) (cap := 0) (by rfl) (Nat.le_refl _) (Nat.zero_le _) (by simp) EsP.nil
  have H : Hp w S [] [] [⟨Shape.bv .u8 8, 5, .slice (some ⟨b1, 0, none⟩) 0 0, []⟩] [Rp (Shape.slice (Shape.bv .u8 8)) [.slice a xs.length c] xs] _ := H
  refine RW.appendW (d := some 5) (r := (sq 3 4)) (T := 23) (ty := 23) (e := 5) (m := 1) (by_ := 1) (v := .slice (some ⟨b1, 0, none⟩) 0 0) (a2 := a) (l2 := xs.length) (c2 := c) (zs := xs) (by as_aux_lemma => kernel_rfl) (by as_aux_lemma => kernel_rfl) rfl H 0 rfl 0 rfl (rfl) (by omega) ?_
  intro a3 c4 w6 H hc5
  have H : Hp w S [] [] [⟨Shape.bv .u8 8, 5, .slice a3 xs.length c4, xs⟩] [Rp (Shape.slice (Shape.bv .u8 8)) [.slice a xs.length c] xs] _ := H
  refine RW.fin 1 [2] [(2, .slice a3 xs.length c4)] (by as_aux_lemma => kernel_rfl) ?_
  refine WK.ret (v := .slice a3 xs.length c4) Try.func155 (by as_aux_lemma => kernel_rfl) (by as_aux_lemma => kernel_rfl) ?_
  exact ⟨_, rfl, H.done, H.pick [] rfl⟩

theorem putnumN_spec {S : Nat → Prop} {w : World} {xs : List (BitVec 8)} {a : Option Addr} {c : Nat} (h : (Shape.slice (Shape.bv .u8 8)).rep S w [.slice a xs.length c] xs) (n : Nat) (hn : n ≤ 18446744073709551615) (hby : xs.length ≤ 1099511627776) :
    Calls Try.prog 137 #[.slice a xs.length c, .int .u64 (n : Int)] w (Ret fun v w' => Ext w w' ∧ Hp w S [] [] [⟨Shape.bv .u8 8, 5, v, xs ++ num n⟩] [] w') := by
  have hten := num_ten hn
  refine WK.calls1 (fn := Try.f137) (n := 24) (σ := [(0, .slice a xs.length c), (1, .int .u64 (n : Int))]) Try.func137 rfl (by as_aux_lemma => kernel_rfl) (by as_aux_lemma => kernel_rfl) (by as_aux_lemma => kernel_rfl) ?_
  have H := Hp.startF (w := w) (S := S) (G := [Rp (Shape.slice (Shape.bv .u8 8)) [.slice a xs.length c] xs]) (.rp h .nil)
  refine WK.run 3 [0, 1] [.code (cd Try.prog 137 [1, 0]), .code (cd Try.prog 137 [2])] [(0, .slice a xs.length c), (1, .int .u64 (n : Int))] (by as_aux_lemma => kernel_rfl) ?_
  refine WK.reg1 (l := sq 0 3) (by as_aux_lemma => kernel_rfl) (by as_aux_lemma => kernel_rfl) ?_
  refine RW.runP 1 [1, 6] (sq 1 3) [(1, .int .u64 (n : Int)), (6, .slice a xs.length c)] (by as_aux_lemma => kernel_rfl) (by as_aux_lemma => kernel_rfl) ?_
  refine RW.call (κ := .seq) (d := some 7) (r := (sq 2 3)) (g := 155) (args := #[.slice a xs.length c]) (by as_aux_lemma => kernel_rfl) (nofun) (copied_spec (xs := xs) (H.rp 0 rfl) (by first | omega | simp)) ?_
  rintro v2 w1 - H'
  have H := H.back (M1 := []) (W1 := []) H'
  obtain ⟨a3, c4, rfl, hc5, hm6⟩ := H.ownForm 0 rfl
  have H : Hp w S [] [] [⟨Shape.bv .u8 8, 5, .slice a3 xs.length c4, xs⟩] [Rp (Shape.slice (Shape.bv .u8 8)) [.slice a xs.length c] xs] _ := H
  refine RW.fin 1 [1, 5] [(1, .int .u64 (n : Int)), (5, .slice a3 xs.length c4)] (by as_aux_lemma => kernel_rfl) ?_
  refine WK.run 2 [1, 5] [.code (cd Try.prog 137 [2, 0, 0]), .inBlock 0, .code (cd Try.prog 137 [3])] [(1, .int .u64 (n : Int)), (5, .slice a3 xs.length c4)] (by as_aux_lemma => kernel_rfl) ?_
  refine WK.loop (α := Nat × List (BitVec 8) × Option Addr × Nat) (b := cd Try.prog 137 [2, 0, 0, 0]) (by as_aux_lemma => kernel_rfl) (fun st_ => match st_ with | (m, rs, a9, c9) => [(1, .int .u64 (m : Int)), (5, .slice a9 rs.length c9)]) (fun st_ w' => match st_ with | (m, rs, a9, c9) => Hp w S [] [] [⟨Shape.bv .u8 8, 5, .slice a9 rs.length c9, rs⟩] [Rp (Shape.slice (Shape.bv .u8 8)) [.slice a xs.length c] xs] w' ∧ m ≤ 18446744073709551615 ∧ rs ++ num m = xs ++ num n) (fun st_ => match st_ with | (m, rs, a9, c9) => m) (n, xs, a3, c4) ⟨H, hn, rfl⟩ (rfl) ?_
  rintro ⟨m, rs, a9, c9⟩ w8 ⟨H, hinv0⟩ hback7
  have hl9 := congrArg List.length hinv0.2
  simp only [List.length_append] at hl9
  have hp9 := num_pos m
  refine WK.run 3 [1, 5, 9] [.code (cd Try.prog 137 [2, 0, 0, 0, 0, 1]), .code (cd Try.prog 137 [2, 0, 0, 0, 1]), .inLoop (cd Try.prog 137 [2, 0, 0, 0]), .inBlock 0, .code (cd Try.prog 137 [3])] [(1, .int .u64 (m : Int)), (5, .slice a9 rs.length c9), (9, .bool (decide (((m : Int) : Int) ≥ 128)))] (by as_aux_lemma => kernel_rfl) ?_
  refine WK.cond1 (decide (((m : Int) : Int) ≥ 128)) (by as_aux_lemma => kernel_rfl) (by as_aux_lemma => kernel_rfl) (fun h9 => ?_) (fun h9 => ?_)
  · skip
    replace h9 := of_decide_eq_true h9
    refine WK.run 3 [1, 5] [.code (cd Try.prog 137 [2, 0, 0, 0, 1, 0, 0]), .code (cd Try.prog 137 [2, 0, 0, 0, 1, 0, 1]), .inBlock 1, .inLoop (cd Try.prog 137 [2, 0, 0, 0]), .inBlock 0, .code (cd Try.prog 137 [3])] [(1, .int .u64 (m : Int)), (5, .slice a9 rs.length c9)] (by as_aux_lemma => kernel_rfl) ?_
    refine WK.reg1 (l := sq 0 8) (by as_aux_lemma => kernel_rfl) (by as_aux_lemma => kernel_rfl) ?_
    refine RW.runP 2 [1, 5, 10, 11] (sq 2 8) [(1, .int .u64 (m : Int)), (5, .slice a9 rs.length c9), (10, .slice a9 rs.length c9), (11, .int .u64 (m : Int))] (by as_aux_lemma => kernel_rfl) (by as_aux_lemma => kernel_rfl) ?_
    refine RW.pv (κ := .seq) (d := some 12) (r := (sq 3 8)) (v := .int .u64 (IntKind.u64.wrap ((BitVec.ofInt 64 (m : Int) &&& BitVec.ofInt 64 127).toNat : Nat))) (v' := .int .u64 ((m : Int) % 128)) (by as_aux_lemma => kernel_rfl) (and_u64 (j := 7) (m := 127) (by decide) (by decide) (by omega)) ?_
    refine RW.pv (κ := .seq) (d := some 13) (r := (sq 4 8)) (v := .int .u8 (IntKind.u8.wrap ((m : Int) % 128))) (v' := .int .u8 (((BitVec.ofInt 8 ((m : Int) % 128)).toNat : Nat) : Int)) (by as_aux_lemma => kernel_rfl) (wrap_bv8 _) ?_
    refine RW.pv (κ := .seq) (d := some 14) (r := (sq 5 8)) (v := .int .u8 (IntKind.u8.wrap ((BitVec.ofInt 8 (((BitVec.ofInt 8 ((m : Int) % 128)).toNat : Nat) : Int) ||| BitVec.ofInt 8 128).toNat : Nat))) (v' := .int .u8 (((((BitVec.ofInt 8 ((m : Int) % 128)) ||| (128#8)).toNat : Nat) : Int))) (by as_aux_lemma => kernel_rfl) (bv_or8 (bvi _) (by decide)) ?_
    refine RW.new (κ := .seq) (d := some 15) (r := (sq 6 8)) (o := .cells #[.int .u8 ((((BitVec.ofInt 8 ((m : Int) % 128)) ||| (128#8)).toNat : Nat) : Int)] 5 (0, 0)) (v := fun b => .slice (some ⟨b, 0, none⟩) 1 1) (fun b => by as_aux_lemma => kernel_rfl) (nofun) H ?_
    intro b10 w11 H
    have H := H.freeze 0 rfl (Shape.bv .u8 8) ([(BitVec.ofInt 8 ((m : Int) % 128)) ||| (128#8)] : List (BitVec 8)) 1 (by simp [maxLen]) (by first | exact Nat.le_refl _ | simp) (EsP.cons (c := [.int .u8 ((((BitVec.ofInt 8 ((m : Int) % 128)) ||| (128#8)).toNat : Nat) : Int)]) Shape.bv_mk EsP.nil)
    have H : Hp w S [] [] [⟨Shape.bv .u8 8, 5, .slice a9 rs.length c9, rs⟩] [Rp (Shape.slice (Shape.bv .u8 8)) [.slice (some ⟨b10, 0, none⟩) 1 1] ([(BitVec.ofInt 8 ((m : Int) % 128)) ||| (128#8)] : List (BitVec 8)), Rp (Shape.slice (Shape.bv .u8 8)) [.slice a xs.length c] xs] _ := H
    refine RW.appendW (d := some 16) (r := (sq 7 8)) (T := 23) (ty := 23) (e := 5) (m := 1) (by_ := 1) (v := .slice a9 rs.length c9) (a2 := (some ⟨b10, 0, none⟩)) (l2 := 1) (c2 := 1) (zs := rs ++ ([(BitVec.ofInt 8 ((m : Int) % 128)) ||| (128#8)] : List (BitVec 8))) (by as_aux_lemma => kernel_rfl) (by as_aux_lemma => kernel_rfl) rfl H 0 rfl 0 rfl (rfl) (by simp; omega) ?_
    intro a12 c13 w15 H hc14
    have H : Hp w S [] [] [⟨Shape.bv .u8 8, 5, .slice a12 ((rs ++ ([(BitVec.ofInt 8 ((m : Int) % 128)) ||| (128#8)] : List (BitVec 8))).length) c13, rs ++ ([(BitVec.ofInt 8 ((m : Int) % 128)) ||| (128#8)] : List (BitVec 8))⟩] [Rp (Shape.slice (Shape.bv .u8 8)) [.slice (some ⟨b10, 0, none⟩) 1 1] ([(BitVec.ofInt 8 ((m : Int) % 128)) ||| (128#8)] : List (BitVec 8)), Rp (Shape.slice (Shape.bv .u8 8)) [.slice a xs.length c] xs] _ := H
    refine RW.fin 1 [1, 5] [(1, .int .u64 (m : Int)), (5, .slice a12 ((rs ++ ([(BitVec.ofInt 8 ((m : Int) % 128)) ||| (128#8)] : List (BitVec 8))).length) c13)] (by as_aux_lemma => kernel_rfl) ?_
    refine WK.reg1 (l := sq 0 3) (by as_aux_lemma => kernel_rfl) (by as_aux_lemma => kernel_rfl) ?_
    refine RW.runP 1 [1, 5, 17] (sq 1 3) [(1, .int .u64 (m : Int)), (5, .slice a12 ((rs ++ ([(BitVec.ofInt 8 ((m : Int) % 128)) ||| (128#8)] : List (BitVec 8))).length) c13), (17, .int .u64 (m : Int))] (by as_aux_lemma => kernel_rfl) (by as_aux_lemma => kernel_rfl) ?_
    refine RW.pv (κ := .seq) (d := some 18) (r := (sq 2 3)) (v := .int .u64 ((m : Int).fdiv (2 ^ 7))) (v' := .int .u64 ((m : Int) / 128)) (by as_aux_lemma => kernel_rfl) (shr_id (by decide) (by omega)) ?_
    refine RW.fin 1 [1, 5] [(1, .int .u64 ((m : Int) / 128)), (5, .slice a12 ((rs ++ ([(BitVec.ofInt 8 ((m : Int) % 128)) ||| (128#8)] : List (BitVec 8))).length) c13)] (by as_aux_lemma => kernel_rfl) ?_
    refine WK.run 1 [1, 5] [.inLoop (cd Try.prog 137 [2, 0, 0, 0]), .inBlock 0, .code (cd Try.prog 137 [3])] [(1, .int .u64 ((m : Int) / 128)), (5, .slice a12 ((rs ++ ([(BitVec.ofInt 8 ((m : Int) % 128)) ||| (128#8)] : List (BitVec 8))).length) c13)] (by as_aux_lemma => kernel_rfl) ?_
    have H := H.pick [1] (G' := [Rp (Shape.slice (Shape.bv .u8 8)) [.slice a xs.length c] xs]) rfl
    exact WK.back (hback7 (m / 128, rs ++ ([(BitVec.ofInt 8 ((m : Int) % 128)) ||| (128#8)] : List (BitVec 8)), a12, c13) _ ⟨H, by omega, by rw [← hinv0.2, num_hi (n := m) (by omega)]; simp⟩ (by simp only []; omega)) (by rfl)
  · skip
    replace h9 := of_decide_eq_false h9
    refine WK.run 2 [1, 5] [.code (cd Try.prog 137 [3, 0]), .code (cd Try.prog 137 [4])] [(1, .int .u64 (m : Int)), (5, .slice a9 rs.length c9)] (by as_aux_lemma => kernel_rfl) ?_
    refine WK.reg1 (l := sq 0 6) (by as_aux_lemma => kernel_rfl) (by as_aux_lemma => kernel_rfl) ?_
    refine RW.runP 2 [19, 20] (sq 2 6) [(19, .slice a9 rs.length c9), (20, .int .u64 (m : Int))] (by as_aux_lemma => kernel_rfl) (by as_aux_lemma => kernel_rfl) ?_
    refine RW.pv (κ := .seq) (d := some 21) (r := (sq 3 6)) (v := .int .u8 (IntKind.u8.wrap ((m : Int)))) (v' := .int .u8 (((BitVec.ofNat 8 m).toNat : Nat) : Int)) (by as_aux_lemma => kernel_rfl) ((wrap_bv8 _).trans (by rw [bv_nat])) ?_
    refine RW.new (κ := .seq) (d := some 22) (r := (sq 4 6)) (o := .cells #[.int .u8 (((BitVec.ofNat 8 m).toNat : Nat) : Int)] 5 (0, 0)) (v := fun b => .slice (some ⟨b, 0, none⟩) 1 1) (fun b => by as_aux_lemma => kernel_rfl) (nofun) H ?_
    intro b16 w17 H
    have H := H.freeze 0 rfl (Shape.bv .u8 8) ([BitVec.ofNat 8 m] : List (BitVec 8)) 1 (by simp [maxLen]) (by first | exact Nat.le_refl _ | simp) (EsP.cons (c := [.int .u8 (((BitVec.ofNat 8 m).toNat : Nat) : Int)]) Shape.bv_mk EsP.nil)
    have H : Hp w S [] [] [⟨Shape.bv .u8 8, 5, .slice a9 rs.length c9, rs⟩] [Rp (Shape.slice (Shape.bv .u8 8)) [.slice (some ⟨b16, 0, none⟩) 1 1] ([BitVec.ofNat 8 m] : List (BitVec 8)), Rp (Shape.slice (Shape.bv .u8 8)) [.slice a xs.length c] xs] _ := H
    refine RW.appendW (d := some 23) (r := (sq 5 6)) (T := 23) (ty := 23) (e := 5) (m := 1) (by_ := 1) (v := .slice a9 rs.length c9) (a2 := (some ⟨b16, 0, none⟩)) (l2 := 1) (c2 := 1) (zs := rs ++ ([BitVec.ofNat 8 m] : List (BitVec 8))) (by as_aux_lemma => kernel_rfl) (by as_aux_lemma => kernel_rfl) rfl H 0 rfl 0 rfl (rfl) (by simp; omega) ?_
    intro a18 c19 w21 H hc20
    have H : Hp w S [] [] [⟨Shape.bv .u8 8, 5, .slice a18 ((rs ++ ([BitVec.ofNat 8 m] : List (BitVec 8))).length) c19, rs ++ ([BitVec.ofNat 8 m] : List (BitVec 8))⟩] [Rp (Shape.slice (Shape.bv .u8 8)) [.slice (some ⟨b16, 0, none⟩) 1 1] ([BitVec.ofNat 8 m] : List (BitVec 8)), Rp (Shape.slice (Shape.bv .u8 8)) [.slice a xs.length c] xs] _ := H
    refine RW.fin 1 [4] [(4, .slice a18 ((rs ++ ([BitVec.ofNat 8 m] : List (BitVec 8))).length) c19)] (by as_aux_lemma => kernel_rfl) ?_
    refine WK.ret (v := .slice a18 ((rs ++ ([BitVec.ofNat 8 m] : List (BitVec 8))).length) c19) Try.func137 (by as_aux_lemma => kernel_rfl) (by as_aux_lemma => kernel_rfl) ?_
    exact ⟨_, rfl, H.done, (H.pick [] rfl).reW (by rw [← hinv0.2, num_lo (n := m) (by omega)])⟩

theorem putnum_spec {S : Nat → Prop} {w : World} {xs : List (BitVec 8)} {a : Option Addr} {c : Nat} (h : (Shape.slice (Shape.bv .u8 8)).rep S w [.slice a xs.length c] xs) (x : Int) (hn : 0 ≤ x ∧ x ≤ 18446744073709551615) (hby : xs.length ≤ 1099511627776) :
    Calls Try.prog 137 #[.slice a xs.length c, .int .u64 x] w (Ret fun v w' => Ext w w' ∧ Hp w S [] [] [⟨Shape.bv .u8 8, 5, v, xs ++ num x.toNat⟩] [] w') := by
  obtain ⟨n, rfl⟩ := Int.eq_ofNat_of_zero_le hn.1
  rw [Int.toNat_natCast]
  exact putnumN_spec h n (by omega) hby

theorem putint_spec {S : Nat → Prop} {w : World} {xs : List (BitVec 8)} {a : Option Addr} {c : Nat} (h : (Shape.slice (Shape.bv .u8 8)).rep S w [.slice a xs.length c] xs) (x : Int) (hn : -9223372036854775808 ≤ x ∧ x ≤ 9223372036854775807) (hby : xs.length ≤ 1099511627776) :
    Calls Try.prog 135 #[.slice a xs.length c, .int .i64 x] w (Ret fun v w' => Ext w w' ∧ Hp w S [] [] [⟨Shape.bv .u8 8, 5, v, xs ++ intE x⟩] [] w') := by
  refine WK.calls1 (fn := Try.f135) (n := 19) (σ := [(0, .slice a xs.length c), (1, .int .i64 x)]) Try.func135 rfl (by as_aux_lemma => kernel_rfl) (by as_aux_lemma => kernel_rfl) (by as_aux_lemma => kernel_rfl) ?_
  have H := Hp.startF (w := w) (S := S) (G := [Rp (Shape.slice (Shape.bv .u8 8)) [.slice a xs.length c] xs]) (.rp h .nil)
  refine WK.run 5 [0, 1, 6] [.code (cd Try.prog 135 [1, 0, 1]), .code (cd Try.prog 135 [2])] [(0, .slice a xs.length c), (1, .int .i64 x), (6, .bool (decide ((x : Int) ≥ 0)))] (by as_aux_lemma => kernel_rfl) ?_
  refine WK.cond1 (decide ((x : Int) ≥ 0)) (by as_aux_lemma => kernel_rfl) (by as_aux_lemma => kernel_rfl) (fun h1 => ?_) (fun h1 => ?_)
  · skip
    replace h1 := of_decide_eq_true h1
    refine WK.run 1 [0, 1] [.code (cd Try.prog 135 [1, 0, 1, 0, 0]), .code (cd Try.prog 135 [1, 0, 1, 0, 1]), .code (cd Try.prog 135 [2])] [(0, .slice a xs.length c), (1, .int .i64 x)] (by as_aux_lemma => kernel_rfl) ?_
    refine WK.reg1 (l := sq 0 6) (by as_aux_lemma => kernel_rfl) (by as_aux_lemma => kernel_rfl) ?_
    refine RW.runP 2 [7, 8] (sq 2 6) [(7, .slice a xs.length c), (8, .int .i64 x)] (by as_aux_lemma => kernel_rfl) (by as_aux_lemma => kernel_rfl) ?_
    refine RW.pv (κ := .seq) (d := some 9) (r := (sq 3 6)) (v := .int .u64 (IntKind.u64.wrap (x))) (v' := .int .u64 (x)) (by as_aux_lemma => kernel_rfl) (wr_u64 (by omega)) ?_
    refine RW.pv (κ := .seq) (d := some 10) (r := (sq 4 6)) (v := .int .u64 (IntKind.u64.wrap (2 * x))) (v' := .int .u64 (2 * x)) (by as_aux_lemma => kernel_rfl) (wr_u64 (by omega)) ?_
    refine RW.call (κ := .seq) (d := some 11) (r := (sq 5 6)) (g := 137) (args := #[.slice a xs.length c, .int .u64 (2 * x)]) (by as_aux_lemma => kernel_rfl) (nofun) (putnum_spec (xs := xs) (H.rp 0 rfl) (2 * x) (by omega) (by first | omega | simp)) ?_
    rintro v3 w2 - H'
    have H := H.back (M1 := []) (W1 := []) H'
    obtain ⟨a4, c5, rfl, hc6, hm7⟩ := H.ownForm 0 rfl
    have H : Hp w S [] [] [⟨Shape.bv .u8 8, 5, .slice a4 ((xs ++ num ((2 * x).toNat)).length) c5, (xs ++ num ((2 * x).toNat))⟩] [Rp (Shape.slice (Shape.bv .u8 8)) [.slice a xs.length c] xs] _ := H
    refine RW.fin 1 [4] [(4, .slice a4 ((xs ++ num ((2 * x).toNat)).length) c5)] (by as_aux_lemma => kernel_rfl) ?_
    refine WK.ret (v := .slice a4 ((xs ++ num ((2 * x).toNat)).length) c5) Try.func135 (by as_aux_lemma => kernel_rfl) (by as_aux_lemma => kernel_rfl) ?_
    exact ⟨_, rfl, H.done, (H.pick [] rfl).reW (by unfold intE; rw [if_pos (by omega)]) (by rfl)⟩
  · skip
    replace h1 := of_decide_eq_false h1
    refine WK.run 2 [0, 1] [.code (cd Try.prog 135 [2, 0]), .code (cd Try.prog 135 [3])] [(0, .slice a xs.length c), (1, .int .i64 x)] (by as_aux_lemma => kernel_rfl) ?_
    refine WK.reg1 (l := sq 0 8) (by as_aux_lemma => kernel_rfl) (by as_aux_lemma => kernel_rfl) ?_
    refine RW.runP 2 [12, 13] (sq 2 8) [(12, .slice a xs.length c), (13, .int .i64 x)] (by as_aux_lemma => kernel_rfl) (by as_aux_lemma => kernel_rfl) ?_
    refine RW.wr64 (κ := .seq) (d := some 14) (r := (sq 3 8)) (t := (-1) - x) (by as_aux_lemma => kernel_rfl) (by omega) ?_
    refine RW.pv (κ := .seq) (d := some 15) (r := (sq 4 8)) (v := .int .u64 (IntKind.u64.wrap ((-1) - x))) (v' := .int .u64 ((-1) - x)) (by as_aux_lemma => kernel_rfl) (wr_u64 (by omega)) ?_
    refine RW.pv (κ := .seq) (d := some 16) (r := (sq 5 8)) (v := .int .u64 (IntKind.u64.wrap (2 * ((-1) - x)))) (v' := .int .u64 (2 * ((-1) - x))) (by as_aux_lemma => kernel_rfl) (wr_u64 (by omega)) ?_
    refine RW.pv (κ := .seq) (d := some 17) (r := (sq 6 8)) (v := .int .u64 (IntKind.u64.wrap ((2 * ((-1) - x)) + 1))) (v' := .int .u64 ((2 * ((-1) - x)) + 1)) (by as_aux_lemma => kernel_rfl) (wr_u64 (by omega)) ?_
    refine RW.call (κ := .seq) (d := some 18) (r := (sq 7 8)) (g := 137) (args := #[.slice a xs.length c, .int .u64 ((2 * ((-1) - x)) + 1)]) (by as_aux_lemma => kernel_rfl) (nofun) (putnum_spec (xs := xs) (H.rp 0 rfl) ((2 * ((-1) - x)) + 1) (by omega) (by first | omega | simp)) ?_
    rintro v9 w8 - H'
    have H := H.back (M1 := []) (W1 := []) H'
    obtain ⟨a10, c11, rfl, hc12, hm13⟩ := H.ownForm 0 rfl
    have H : Hp w S [] [] [⟨Shape.bv .u8 8, 5, .slice a10 ((xs ++ num (((2 * ((-1) - x)) + 1).toNat)).length) c11, (xs ++ num (((2 * ((-1) - x)) + 1).toNat))⟩] [Rp (Shape.slice (Shape.bv .u8 8)) [.slice a xs.length c] xs] _ := H
    refine RW.fin 1 [4] [(4, .slice a10 ((xs ++ num (((2 * ((-1) - x)) + 1).toNat)).length) c11)] (by as_aux_lemma => kernel_rfl) ?_
    refine WK.ret (v := .slice a10 ((xs ++ num (((2 * ((-1) - x)) + 1).toNat)).length) c11) Try.func135 (by as_aux_lemma => kernel_rfl) (by as_aux_lemma => kernel_rfl) ?_
    exact ⟨_, rfl, H.done, (H.pick [] rfl).reW (by unfold intE; rw [if_neg (by omega)]) (by rfl)⟩

theorem writer_spec {S : Nat → Prop} {w : World} {ys : List (BitVec 8)} {a0 : Option Addr} {c0 : Nat} (h : (Shape.slice (Shape.bv .u8 8)).rep S w [.slice a0 ys.length c0] ys) (hby : ys.length ≤ 1099511627776) :
    Calls Try.prog 92 #[.slice a0 ys.length c0] w (Ret fun v w' => Ext w w' ∧ ∃ (bp : Nat) (a' : Option Addr) (c' : Nat), v = .pointer (some ⟨bp, 0, none⟩) ∧ Hp w S [] [(bp, .cells #[.slice a' ys.length c', .int .i64 0, .bool true, .bool false] 183 (0, 0))] [⟨Shape.bv .u8 8, 5, .slice a' ys.length c', ys⟩] [] w') := by
  refine WK.calls1 (fn := Try.f92) (n := 8) (σ := [(0, .slice a0 ys.length c0)]) Try.func92 rfl (by as_aux_lemma => kernel_rfl) (by as_aux_lemma => kernel_rfl) (by as_aux_lemma => kernel_rfl) ?_
  have H := Hp.startF (w := w) (S := S) (G := [Rp (Shape.slice (Shape.bv .u8 8)) [.slice a0 ys.length c0] ys]) (.rp h .nil)
  refine WK.run 3 [0] [.code (cd Try.prog 92 [1, 0]), .code (cd Try.prog 92 [2])] [(0, .slice a0 ys.length c0)] (by as_aux_lemma => kernel_rfl) ?_
  refine WK.reg1 (l := sq 0 6) (by as_aux_lemma => kernel_rfl) (by as_aux_lemma => kernel_rfl) ?_
  refine RW.new (κ := .seq) (d := some 3) (r := (sq 1 6)) (o := .cells #[] 5 (0, 0)) (v := fun b => .slice (some ⟨b, 0, none⟩) 0 0) (fun b => by as_aux_lemma => kernel_rfl) (nofun) H ?_
  intro b1 w2 H
  refine RW.runP 1 [3, 4] (sq 2 6) [(3, .slice (some ⟨b1, 0, none⟩) 0 0), (4, .slice a0 ys.length c0)] (by as_aux_lemma => kernel_rfl) (by as_aux_lemma => kernel_rfl) ?_
  have H := H.toOwn (sh := Shape.bv .u8 8) (xs := []) (cap := 0) (by rfl) (Nat.le_refl _) (Nat.zero_le _) (by simp) EsP.nil
  have H : Hp w S [] [] [⟨Shape.bv .u8 8, 5, .slice (some ⟨b1, 0, none⟩) 0 0, []⟩] [Rp (Shape.slice (Shape.bv .u8 8)) [.slice a0 ys.length c0] ys] _ := H
  refine RW.appendW (d := some 5) (r := (sq 3 6)) (T := 23) (ty := 23) (e := 5) (m := 1) (by_ := 1) (v := .slice (some ⟨b1, 0, none⟩) 0 0) (a2 := a0) (l2 := ys.length) (c2 := c0) (zs := ys) (by as_aux_lemma => kernel_rfl) (by as_aux_lemma => kernel_rfl) rfl H 0 rfl 0 rfl (rfl) (by omega) ?_
  intro a3 c4 w6 H hc5
  have H : Hp w S [] [] [⟨Shape.bv .u8 8, 5, .slice a3 ys.length c4, ys⟩] [Rp (Shape.slice (Shape.bv .u8 8)) [.slice a0 ys.length c0] ys] _ := H
  refine RW.runP 1 [6] (sq 4 6) [(6, .agg #[.slice a3 ys.length c4, .int .i64 0, .bool true, .bool false])] (by as_aux_lemma => kernel_rfl) (by as_aux_lemma => kernel_rfl) ?_
  refine RW.new (κ := .seq) (d := some 7) (r := (sq 5 6)) (o := .cells #[.slice a3 ys.length c4, .int .i64 0, .bool true, .bool false] 183 (0, 0)) (v := fun b => .pointer (some ⟨b, 0, none⟩)) (fun b => by as_aux_lemma => kernel_rfl) (nofun) H ?_
  intro b7 w8 H
  refine RW.fin 1 [2] [(2, .pointer (some ⟨b7, 0, none⟩))] (by as_aux_lemma => kernel_rfl) ?_
  refine WK.ret (v := .pointer (some ⟨b7, 0, none⟩)) Try.func92 (by as_aux_lemma => kernel_rfl) (by as_aux_lemma => kernel_rfl) ?_
  exact ⟨_, rfl, H.done, _, _, _, rfl, H.pick [] rfl⟩

theorem u64_spec {S : Nat → Prop} {w : World} {O : List Nat} {bp : Nat} {xs : List (BitVec 8)} {a : Option Addr} {c : Nat} {x : Int} (hn : 0 ≤ x ∧ x ≤ 18446744073709551615) (H0 : Hp w S O [(bp, .cells #[.slice a xs.length c, .int .i64 0, .bool true, .bool false] 183 (0, 0))] [⟨Shape.bv .u8 8, 5, .slice a xs.length c, xs⟩] [] w) (hby : xs.length + 10 ≤ 1099511627776) :
    Calls Try.prog 112 #[.pointer (some ⟨bp, 0, none⟩), .int .u64 x] w (Ret fun v w' => ∃ (a' : Option Addr) (c' : Nat), (v = .int .u64 x) ∧ Hp w S O [(bp, .cells #[.slice a' ((xs ++ num x.toNat).length) c', .int .i64 0, .bool true, .bool false] 183 (0, 0))] [⟨Shape.bv .u8 8, 5, .slice a' ((xs ++ num x.toNat).length) c', (xs ++ num x.toNat)⟩] [] w') := by
  have hten : (num x.toNat).length ≤ 10 := num_ten (by omega)
  refine WK.calls1 (fn := Try.f112) (n := 52) (σ := [(0, .pointer (some ⟨bp, 0, none⟩)), (1, .int .u64 x)]) Try.func112 rfl (by as_aux_lemma => kernel_rfl) (by as_aux_lemma => kernel_rfl) (by as_aux_lemma => kernel_rfl) ?_
  have H := H0
  refine WK.run 4 [0, 1] [.code (cd Try.prog 112 [1, 0, 0]), .code (cd Try.prog 112 [1, 0, 1]), .code (cd Try.prog 112 [2])] [(0, .pointer (some ⟨bp, 0, none⟩)), (1, .int .u64 x)] (by as_aux_lemma => kernel_rfl) ?_
  refine WK.reg1 (l := sq 0 4) (by as_aux_lemma => kernel_rfl) (by as_aux_lemma => kernel_rfl) ?_
  refine RW.runP 3 [0, 1, 10] (sq 3 4) [(0, .pointer (some ⟨bp, 0, none⟩)), (1, .int .u64 x), (10, .pointer (some ⟨bp, 2, none⟩))] (by as_aux_lemma => kernel_rfl) (by as_aux_lemma => kernel_rfl) ?_
  refine RW.load (κ := .seq) (d := some 11) (r := (sq 4 4)) (T := 4) (b := bp) (o' := 2) (k := 2) (v := .bool true) (by as_aux_lemma => kernel_rfl) (H.cells 0 rfl) rfl (by as_aux_lemma => kernel_rfl) ?_
  refine RW.fin 0 [0, 1, 11] [(0, .pointer (some ⟨bp, 0, none⟩)), (1, .int .u64 x), (11, .bool true)] (by as_aux_lemma => kernel_rfl) ?_
  refine WK.run 2 [0, 1] [.code (cd Try.prog 112 [1, 0, 1, 0, 0]), .code (cd Try.prog 112 [1, 0, 1, 0, 1]), .code (cd Try.prog 112 [2])] [(0, .pointer (some ⟨bp, 0, none⟩)), (1, .int .u64 x)] (by as_aux_lemma => kernel_rfl) ?_
  refine WK.drawP1 7 [0, 1, 2, 3, 5] [(17, .int .u64 x), (15, .pointer (some ⟨bp, 0, none⟩)), (14, .pointer (some ⟨bp, 0, none⟩)), (13, .pointer (some ⟨bp, 0, none⟩)), (12, .pointer (some ⟨bp, 0, none⟩)), (0, .pointer (some ⟨bp, 0, none⟩)), (1, .int .u64 x)] [(4, .qui), (6, .chn)] [(4, .qui), (6, .chn), (7, .seq), (8, .seq), (9, .seq), (10, .seq)] Try_mixed (by as_aux_lemma => kernel_rfl) (by as_aux_lemma => kernel_rfl) (by as_aux_lemma => kernel_rfl) (by as_aux_lemma => kernel_rfl) ?_
  have H := H.draw
  generalize ({ w with drawn := w.drawn + 1 } : World) = w1 at H ⊢
  refine RW.load (κ := .qui) (d := some 16) (r := [(6, .chn), (7, .seq), (8, .seq), (9, .seq), (10, .seq)]) (T := 23) (b := bp) (o' := 0) (k := 0) (v := .slice a xs.length c) (by as_aux_lemma => kernel_rfl) (H.cells 0 rfl) rfl (by as_aux_lemma => kernel_rfl) ?_
  have H := H.addRp (Shape.slice (Shape.bv .u8 8)) [.slice none 0 0] [] Shape.slice_nil
  refine RW.call (κ := .chn) (d := some 18) (r := [(7, .seq), (8, .seq), (9, .seq), (10, .seq)]) (g := 137) (args := #[.slice none 0 0, .int .u64 x]) (by as_aux_lemma => kernel_rfl) (nofun) (putnum_spec (xs := ([] : List (BitVec 8))) (H.rp 0 rfl) x (by omega) (by first | omega | simp)) ?_
  rintro v3 w2 - H'
  have H := H.back (M1 := []) (W1 := []) H'
  obtain ⟨a4, c5, rfl, hc6, hm7⟩ := H.ownForm 0 rfl
  have H : Hp w S O [(bp, .cells #[.slice a xs.length c, .int .i64 0, .bool true, .bool false] 183 (0, 0))] [⟨Shape.bv .u8 8, 5, .slice a4 ((num x.toNat).length) c5, num x.toNat⟩, ⟨Shape.bv .u8 8, 5, .slice a xs.length c, xs⟩] [Rp (Shape.slice (Shape.bv .u8 8)) [.slice none 0 0] []] _ := H
  have H : Hp w S O [(bp, .cells #[.slice a xs.length c, .int .i64 0, .bool true, .bool false] 183 (0, 0))] [⟨Shape.bv .u8 8, 5, .slice a xs.length c, xs⟩] [Rp (Shape.slice (Shape.bv .u8 8)) [.slice a4 ((num x.toNat).length) c5] (num x.toNat), Rp (Shape.slice (Shape.bv .u8 8)) [.slice none 0 0] []] _ := H.freezeW 0 rfl
  refine RW.appendW (d := some 19) (r := [(8, .seq), (9, .seq), (10, .seq)]) (T := 23) (ty := 23) (e := 5) (m := 1) (by_ := 1) (v := .slice a xs.length c) (a2 := a4) (l2 := ((num x.toNat).length)) (c2 := c5) (zs := xs ++ (num x.toNat)) (by as_aux_lemma => kernel_rfl) (by as_aux_lemma => kernel_rfl) rfl H 0 rfl 0 rfl (rfl) (by simp; omega) ?_
  intro a8 c9 w11 H hc10
  have H : Hp w S O [(bp, .cells #[.slice a xs.length c, .int .i64 0, .bool true, .bool false] 183 (0, 0))] [⟨Shape.bv .u8 8, 5, .slice a8 ((xs ++ (num x.toNat)).length) c9, xs ++ (num x.toNat)⟩] [Rp (Shape.slice (Shape.bv .u8 8)) [.slice a4 ((num x.toNat).length) c5] (num x.toNat), Rp (Shape.slice (Shape.bv .u8 8)) [.slice none 0 0] []] _ := H
  refine RW.runP 2 [1, 19, 21] [(10, .seq)] [(1, .int .u64 x), (19, .slice a8 ((xs ++ (num x.toNat)).length) c9), (21, .pointer (some ⟨bp, 0, none⟩))] (by as_aux_lemma => kernel_rfl) (by as_aux_lemma => kernel_rfl) ?_
  refine RW.store (d := none) (r := []) (T := 23) (b := bp) (k := 0) (v := .slice a8 ((xs ++ (num x.toNat)).length) c9) (c' := #[.slice a8 ((xs ++ (num x.toNat)).length) c9, .int .i64 0, .bool true, .bool false]) (M' := [(bp, .cells #[.slice a8 ((xs ++ (num x.toNat)).length) c9, .int .i64 0, .bool true, .bool false] 183 (0, 0))]) (by as_aux_lemma => kernel_rfl) H 0 rfl (by as_aux_lemma => kernel_rfl) (by as_aux_lemma => kernel_rfl) ?_
  intro w12 H
  refine RW.fin 0 [1] [(1, .int .u64 x)] (by as_aux_lemma => kernel_rfl) ?_
  refine WK.run 2 [4] [.code (cd Try.prog 112 [1, 0, 1, 0, 2]), .code (cd Try.prog 112 [2])] [(4, .int .u64 x)] (by as_aux_lemma => kernel_rfl) ?_
  refine WK.ret (v := .int .u64 x) Try.func112 (by as_aux_lemma => kernel_rfl) (by as_aux_lemma => kernel_rfl) ?_
  exact ⟨_, rfl, _, _, by first | rfl | trivial, H.pick [] rfl⟩

theorem int_spec {S : Nat → Prop} {w : World} {O : List Nat} {bp : Nat} {xs : List (BitVec 8)} {a : Option Addr} {c : Nat} {x : Int} (hn : -9223372036854775808 ≤ x ∧ x ≤ 9223372036854775807) (H0 : Hp w S O [(bp, .cells #[.slice a xs.length c, .int .i64 0, .bool true, .bool false] 183 (0, 0))] [⟨Shape.bv .u8 8, 5, .slice a xs.length c, xs⟩] [] w) (hby : xs.length + 10 ≤ 1099511627776) :
    Calls Try.prog 111 #[.pointer (some ⟨bp, 0, none⟩), .int .i64 x] w (Ret fun v w' => ∃ (a' : Option Addr) (c' : Nat), (v = .int .i64 x) ∧ Hp w S O [(bp, .cells #[.slice a' ((xs ++ intE x).length) c', .int .i64 0, .bool true, .bool false] 183 (0, 0))] [⟨Shape.bv .u8 8, 5, .slice a' ((xs ++ intE x).length) c', (xs ++ intE x)⟩] [] w') := by
  have hten := intE_ten hn
  refine WK.calls1 (fn := Try.f111) (n := 52) (σ := [(0, .pointer (some ⟨bp, 0, none⟩)), (1, .int .i64 x)]) Try.func111 rfl (by as_aux_lemma => kernel_rfl) (by as_aux_lemma => kernel_rfl) (by as_aux_lemma => kernel_rfl) ?_
  have H := H0
  refine WK.run 4 [0, 1] [.code (cd Try.prog 111 [1, 0, 0]), .code (cd Try.prog 111 [1, 0, 1]), .code (cd Try.prog 111 [2])] [(0, .pointer (some ⟨bp, 0, none⟩)), (1, .int .i64 x)] (by as_aux_lemma => kernel_rfl) ?_
  refine WK.reg1 (l := sq 0 4) (by as_aux_lemma => kernel_rfl) (by as_aux_lemma => kernel_rfl) ?_
  refine RW.runP 3 [0, 1, 10] (sq 3 4) [(0, .pointer (some ⟨bp, 0, none⟩)), (1, .int .i64 x), (10, .pointer (some ⟨bp, 2, none⟩))] (by as_aux_lemma => kernel_rfl) (by as_aux_lemma => kernel_rfl) ?_
  refine RW.load (κ := .seq) (d := some 11) (r := (sq 4 4)) (T := 4) (b := bp) (o' := 2) (k := 2) (v := .bool true) (by as_aux_lemma => kernel_rfl) (H.cells 0 rfl) rfl (by as_aux_lemma => kernel_rfl) ?_
  refine RW.fin 0 [0, 1, 11] [(0, .pointer (some ⟨bp, 0, none⟩)), (1, .int .i64 x), (11, .bool true)] (by as_aux_lemma => kernel_rfl) ?_
  refine WK.run 2 [0, 1] [.code (cd Try.prog 111 [1, 0, 1, 0, 0]), .code (cd Try.prog 111 [1, 0, 1, 0, 1]), .code (cd Try.prog 111 [2])] [(0, .pointer (some ⟨bp, 0, none⟩)), (1, .int .i64 x)] (by as_aux_lemma => kernel_rfl) ?_
  refine WK.drawP1 7 [0, 1, 2, 3, 5] [(17, .int .i64 x), (15, .pointer (some ⟨bp, 0, none⟩)), (14, .pointer (some ⟨bp, 0, none⟩)), (13, .pointer (some ⟨bp, 0, none⟩)), (12, .pointer (some ⟨bp, 0, none⟩)), (0, .pointer (some ⟨bp, 0, none⟩)), (1, .int .i64 x)] [(4, .qui), (6, .chn)] [(4, .qui), (6, .chn), (7, .seq), (8, .seq), (9, .seq), (10, .seq)] Try_mixed (by as_aux_lemma => kernel_rfl) (by as_aux_lemma => kernel_rfl) (by as_aux_lemma => kernel_rfl) (by as_aux_lemma => kernel_rfl) ?_
  have H := H.draw
  generalize ({ w with drawn := w.drawn + 1 } : World) = w1 at H ⊢
  refine RW.load (κ := .qui) (d := some 16) (r := [(6, .chn), (7, .seq), (8, .seq), (9, .seq), (10, .seq)]) (T := 23) (b := bp) (o' := 0) (k := 0) (v := .slice a xs.length c) (by as_aux_lemma => kernel_rfl) (H.cells 0 rfl) rfl (by as_aux_lemma => kernel_rfl) ?_
  have H := H.addRp (Shape.slice (Shape.bv .u8 8)) [.slice none 0 0] [] Shape.slice_nil
  refine RW.call (κ := .chn) (d := some 18) (r := [(7, .seq), (8, .seq), (9, .seq), (10, .seq)]) (g := 135) (args := #[.slice none 0 0, .int .i64 x]) (by as_aux_lemma => kernel_rfl) (nofun) (putint_spec (xs := ([] : List (BitVec 8))) (H.rp 0 rfl) x (by omega) (by first | omega | simp)) ?_
  rintro v3 w2 - H'
  have H := H.back (M1 := []) (W1 := []) H'
  obtain ⟨a4, c5, rfl, hc6, hm7⟩ := H.ownForm 0 rfl
  have H : Hp w S O [(bp, .cells #[.slice a xs.length c, .int .i64 0, .bool true, .bool false] 183 (0, 0))] [⟨Shape.bv .u8 8, 5, .slice a4 ((intE x).length) c5, intE x⟩, ⟨Shape.bv .u8 8, 5, .slice a xs.length c, xs⟩] [Rp (Shape.slice (Shape.bv .u8 8)) [.slice none 0 0] []] _ := H
  have H : Hp w S O [(bp, .cells #[.slice a xs.length c, .int .i64 0, .bool true, .bool false] 183 (0, 0))] [⟨Shape.bv .u8 8, 5, .slice a xs.length c, xs⟩] [Rp (Shape.slice (Shape.bv .u8 8)) [.slice a4 ((intE x).length) c5] (intE x), Rp (Shape.slice (Shape.bv .u8 8)) [.slice none 0 0] []] _ := H.freezeW 0 rfl
  refine RW.appendW (d := some 19) (r := [(8, .seq), (9, .seq), (10, .seq)]) (T := 23) (ty := 23) (e := 5) (m := 1) (by_ := 1) (v := .slice a xs.length c) (a2 := a4) (l2 := ((intE x).length)) (c2 := c5) (zs := xs ++ (intE x)) (by as_aux_lemma => kernel_rfl) (by as_aux_lemma => kernel_rfl) rfl H 0 rfl 0 rfl (rfl) (by simp; omega) ?_
  intro a8 c9 w11 H hc10
  have H : Hp w S O [(bp, .cells #[.slice a xs.length c, .int .i64 0, .bool true, .bool false] 183 (0, 0))] [⟨Shape.bv .u8 8, 5, .slice a8 ((xs ++ (intE x)).length) c9, xs ++ (intE x)⟩] [Rp (Shape.slice (Shape.bv .u8 8)) [.slice a4 ((intE x).length) c5] (intE x), Rp (Shape.slice (Shape.bv .u8 8)) [.slice none 0 0] []] _ := H
  refine RW.runP 2 [1, 19, 21] [(10, .seq)] [(1, .int .i64 x), (19, .slice a8 ((xs ++ (intE x)).length) c9), (21, .pointer (some ⟨bp, 0, none⟩))] (by as_aux_lemma => kernel_rfl) (by as_aux_lemma => kernel_rfl) ?_
  refine RW.store (d := none) (r := []) (T := 23) (b := bp) (k := 0) (v := .slice a8 ((xs ++ (intE x)).length) c9) (c' := #[.slice a8 ((xs ++ (intE x)).length) c9, .int .i64 0, .bool true, .bool false]) (M' := [(bp, .cells #[.slice a8 ((xs ++ (intE x)).length) c9, .int .i64 0, .bool true, .bool false] 183 (0, 0))]) (by as_aux_lemma => kernel_rfl) H 0 rfl (by as_aux_lemma => kernel_rfl) (by as_aux_lemma => kernel_rfl) ?_
  intro w12 H
  refine RW.fin 0 [1] [(1, .int .i64 x)] (by as_aux_lemma => kernel_rfl) ?_
  refine WK.run 2 [4] [.code (cd Try.prog 111 [1, 0, 1, 0, 2]), .code (cd Try.prog 111 [2])] [(4, .int .i64 x)] (by as_aux_lemma => kernel_rfl) ?_
  refine WK.ret (v := .int .i64 x) Try.func111 (by as_aux_lemma => kernel_rfl) (by as_aux_lemma => kernel_rfl) ?_
  exact ⟨_, rfl, _, _, by first | rfl | trivial, H.pick [] rfl⟩

theorem len_spec {S : Nat → Prop} {w : World} {O : List Nat} {bp : Nat} {xs : List (BitVec 8)} {a : Option Addr} {c : Nat} {k : Nat} (hn : k ≤ 9223372036854775807) (H0 : Hp w S O [(bp, .cells #[.slice a xs.length c, .int .i64 0, .bool true, .bool false] 183 (0, 0))] [⟨Shape.bv .u8 8, 5, .slice a xs.length c, xs⟩] [] w) (hby : xs.length + 10 ≤ 1099511627776) :
    Calls Try.prog 119 #[.pointer (some ⟨bp, 0, none⟩), .int .i64 (k : Int)] w (Ret fun v w' => ∃ (a' : Option Addr) (c' : Nat), (v = .int .i64 (k : Int)) ∧ Hp w S O [(bp, .cells #[.slice a' ((xs ++ num k).length) c', .int .i64 0, .bool true, .bool false] 183 (0, 0))] [⟨Shape.bv .u8 8, 5, .slice a' ((xs ++ num k).length) c', (xs ++ num k)⟩] [] w') := by
  have hten : (num k).length ≤ 10 := num_ten (by omega)
  refine WK.calls1 (fn := Try.f119) (n := 37) (σ := [(0, .pointer (some ⟨bp, 0, none⟩)), (1, .int .i64 (k : Int))]) Try.func119 rfl (by as_aux_lemma => kernel_rfl) (by as_aux_lemma => kernel_rfl) (by as_aux_lemma => kernel_rfl) ?_
  have H := H0
  refine WK.run 3 [0, 1] [.code (cd Try.prog 119 [1, 0]), .code (cd Try.prog 119 [2])] [(0, .pointer (some ⟨bp, 0, none⟩)), (1, .int .i64 (k : Int))] (by as_aux_lemma => kernel_rfl) ?_
  refine WK.reg1 (l := sq 0 5) (by as_aux_lemma => kernel_rfl) (by as_aux_lemma => kernel_rfl) ?_
  refine RW.runP 2 [0, 1, 6, 7] (sq 2 5) [(0, .pointer (some ⟨bp, 0, none⟩)), (1, .int .i64 (k : Int)), (6, .pointer (some ⟨bp, 0, none⟩)), (7, .int .i64 (k : Int))] (by as_aux_lemma => kernel_rfl) (by as_aux_lemma => kernel_rfl) ?_
  refine RW.pv (κ := .seq) (d := some 8) (r := (sq 3 5)) (v := .int .u64 (IntKind.u64.wrap ((k : Int)))) (v' := .int .u64 ((k : Int))) (by as_aux_lemma => kernel_rfl) (wr_u64 (by omega)) ?_
  refine RW.callS (d := some 9) (r := (sq 4 5)) (g := 112) (args := #[.pointer (some ⟨bp, 0, none⟩), .int .u64 (k : Int)]) (by as_aux_lemma => kernel_rfl) (u64_spec (x := (k : Int)) (by omega) ((H.lend (M1 := [(bp, .cells #[.slice a xs.length c, .int .i64 0, .bool true, .bool false] 183 (0, 0))]) (W1 := [⟨Shape.bv .u8 8, 5, .slice a xs.length c, xs⟩])).pick [] rfl) (by first | omega | (simp only [List.length_append, List.length_nil]; omega))) ?_
  rintro _ w1 ⟨a3, c4, rfl, H'⟩
  have H := H.back (M1 := [(bp, .cells #[.slice a xs.length c, .int .i64 0, .bool true, .bool false] 183 (0, 0))]) (W1 := [⟨Shape.bv .u8 8, 5, .slice a xs.length c, xs⟩]) H'
  have H : Hp w S O [(bp, .cells #[.slice a3 ((xs ++ num (k : Int).toNat).length) c4, .int .i64 0, .bool true, .bool false] 183 (0, 0))] [⟨Shape.bv .u8 8, 5, .slice a3 ((xs ++ num (k : Int).toNat).length) c4, (xs ++ num (k : Int).toNat)⟩] [] _ := H
  refine RW.fin 1 [0, 1, 5] [(0, .pointer (some ⟨bp, 0, none⟩)), (1, .int .i64 (k : Int)), (5, .int .u64 (k : Int))] (by as_aux_lemma => kernel_rfl) ?_
  refine WK.run 2 [0, 1, 5] [.code (cd Try.prog 119 [2, 0, 0]), .code (cd Try.prog 119 [2, 0, 1]), .code (cd Try.prog 119 [3])] [(0, .pointer (some ⟨bp, 0, none⟩)), (1, .int .i64 (k : Int)), (5, .int .u64 (k : Int))] (by as_aux_lemma => kernel_rfl) ?_
  refine WK.reg1 (l := sq 0 4) (by as_aux_lemma => kernel_rfl) (by as_aux_lemma => kernel_rfl) ?_
  refine RW.runP 3 [0, 1, 5, 12] (sq 3 4) [(0, .pointer (some ⟨bp, 0, none⟩)), (1, .int .i64 (k : Int)), (5, .int .u64 (k : Int)), (12, .pointer (some ⟨bp, 2, none⟩))] (by as_aux_lemma => kernel_rfl) (by as_aux_lemma => kernel_rfl) ?_
  refine RW.load (κ := .seq) (d := some 13) (r := (sq 4 4)) (T := 4) (b := bp) (o' := 2) (k := 2) (v := .bool true) (by as_aux_lemma => kernel_rfl) (H.cells 0 rfl) rfl (by as_aux_lemma => kernel_rfl) ?_
  refine RW.fin 0 [0, 1, 5, 13] [(0, .pointer (some ⟨bp, 0, none⟩)), (1, .int .i64 (k : Int)), (5, .int .u64 (k : Int)), (13, .bool true)] (by as_aux_lemma => kernel_rfl) ?_
  refine WK.run 3 [4] [.code (cd Try.prog 119 [2, 0, 1, 0, 1]), .code (cd Try.prog 119 [3])] [(4, .int .i64 (k : Int))] (by as_aux_lemma => kernel_rfl) ?_
  refine WK.ret (v := .int .i64 (k : Int)) Try.func119 (by as_aux_lemma => kernel_rfl) (by as_aux_lemma => kernel_rfl) ?_
  exact ⟨_, rfl, _, _, by first | rfl | trivial, H.pick [] rfl⟩

theorem ints_spec {S : Nat → Prop} {w : World} {O : List Nat} {bp : Nat} {xs : List (BitVec 8)} {a : Option Addr} {c : Nat} {ls : List Int} {al : Option Addr} {cl : Nat} (H0 : Hp w S O [(bp, .cells #[.slice a xs.length c, .int .i64 0, .bool true, .bool false] 183 (0, 0))] [⟨Shape.bv .u8 8, 5, .slice a xs.length c, xs⟩] [Rp (Shape.slice (Shape.int .i64)) [.slice al ls.length cl] ls] w) (hby : xs.length + 10 * (ls.length + 2) ≤ 1099511627776) :
    Calls Try.prog 142 #[.pointer (some ⟨bp, 0, none⟩), .slice al ls.length cl] w (Ret fun v w' => ∃ (a' : Option Addr) (c' : Nat), (∃ (ar : Option Addr) (cr : Nat), v = .slice ar ls.length cr) ∧ Hp w S O [(bp, .cells #[.slice a' ((xs ++ (num ls.length ++ intsE ls)).length) c', .int .i64 0, .bool true, .bool false] 183 (0, 0))] [⟨Shape.bv .u8 8, 5, .slice a' ((xs ++ (num ls.length ++ intsE ls)).length) c', (xs ++ (num ls.length ++ intsE ls))⟩] [] w') := by
  have hlen := Shape.slice_len (H0.rp 0 rfl)
  have hten : (num ls.length).length ≤ 10 := num_ten (by omega)
  refine WK.calls1 (fn := Try.f142) (n := 40) (σ := [(0, .pointer (some ⟨bp, 0, none⟩)), (1, .slice al ls.length cl)]) Try.func142 rfl (by as_aux_lemma => kernel_rfl) (by as_aux_lemma => kernel_rfl) (by as_aux_lemma => kernel_rfl) ?_
  have H := H0
  refine WK.run 3 [0, 1] [.code (cd Try.prog 142 [1, 0]), .code (cd Try.prog 142 [2])] [(0, .pointer (some ⟨bp, 0, none⟩)), (1, .slice al ls.length cl)] (by as_aux_lemma => kernel_rfl) ?_
  refine WK.reg1 (l := sq 0 5) (by as_aux_lemma => kernel_rfl) (by as_aux_lemma => kernel_rfl) ?_
  refine RW.runP 3 [0, 1, 9, 11] (sq 3 5) [(0, .pointer (some ⟨bp, 0, none⟩)), (1, .slice al ls.length cl), (9, .pointer (some ⟨bp, 0, none⟩)), (11, .int .i64 ((ls.length : Nat) : Int))] (by as_aux_lemma => kernel_rfl) (by as_aux_lemma => kernel_rfl) ?_
  refine RW.callS (d := some 12) (r := (sq 4 5)) (g := 119) (args := #[.pointer (some ⟨bp, 0, none⟩), .int .i64 ((ls.length : Nat) : Int)]) (by as_aux_lemma => kernel_rfl) (len_spec (k := ls.length) (by omega) ((H.lend (M1 := [(bp, .cells #[.slice a xs.length c, .int .i64 0, .bool true, .bool false] 183 (0, 0))]) (W1 := [⟨Shape.bv .u8 8, 5, .slice a xs.length c, xs⟩])).pick [] rfl) (by first | omega | (simp only [List.length_append, List.length_nil]; omega))) ?_
  rintro _ w1 ⟨a3, c4, rfl, H'⟩
  have H := H.back (M1 := [(bp, .cells #[.slice a xs.length c, .int .i64 0, .bool true, .bool false] 183 (0, 0))]) (W1 := [⟨Shape.bv .u8 8, 5, .slice a xs.length c, xs⟩]) H'
  have H : Hp w S O [(bp, .cells #[.slice a3 ((xs ++ num ls.length).length) c4, .int .i64 0, .bool true, .bool false] 183 (0, 0))] [⟨Shape.bv .u8 8, 5, .slice a3 ((xs ++ num ls.length).length) c4, (xs ++ num ls.length)⟩] [Rp (Shape.slice (Shape.int .i64)) [.slice al ls.length cl] ls] _ := H
  refine RW.fin 1 [0, 1, 5] [(0, .pointer (some ⟨bp, 0, none⟩)), (1, .slice al ls.length cl), (5, .int .i64 ((ls.length : Nat) : Int))] (by as_aux_lemma => kernel_rfl) ?_
  refine WK.run 6 [0, 1, 5, 6, 7] [.code (cd Try.prog 142 [3, 0, 1, 0]), .inBlock 0, .code (cd Try.prog 142 [4])] [(0, .pointer (some ⟨bp, 0, none⟩)), (1, .slice al ls.length cl), (5, .int .i64 ((ls.length : Nat) : Int)), (6, .slice none 0 0), (7, .int .i64 0)] (by as_aux_lemma => kernel_rfl) ?_
  have H := H.ownNil (Shape.int .i64) 3
  refine WK.loop (α := Nat × List (BitVec 8) × Option Addr × Nat × Option Addr × Nat) (b := cd Try.prog 142 [3, 0, 1, 0, 0]) (by as_aux_lemma => kernel_rfl) (fun st_ => match st_ with | (i, ys, a9, c9, ao, co) => [(0, .pointer (some ⟨bp, 0, none⟩)), (1, .slice al ls.length cl), (5, .int .i64 ((ls.length : Nat) : Int)), (6, .slice ao ((ls.take i).length) co), (7, .int .i64 (i : Int))]) (fun st_ w' => match st_ with | (i, ys, a9, c9, ao, co) => Hp w S O [(bp, .cells #[.slice a9 ys.length c9, .int .i64 0, .bool true, .bool false] 183 (0, 0))] [⟨Shape.int .i64, 3, .slice ao ((ls.take i).length) co, ls.take i⟩, ⟨Shape.bv .u8 8, 5, .slice a9 ys.length c9, ys⟩] [Rp (Shape.slice (Shape.int .i64)) [.slice al ls.length cl] ls] w' ∧ i ≤ ls.length ∧ ys = xs ++ num ls.length ++ intsE (ls.take i) ∧ ys.length ≤ xs.length + 10 * (i + 1)) (fun st_ => match st_ with | (i, ys, a9, c9, ao, co) => ls.length - i) (0, (xs ++ num ls.length), a3, c4, none, 0) ⟨H, Nat.zero_le _, by simp [intsE], by simp only [List.length_append]; omega⟩ (rfl) ?_
  rintro ⟨i, ys, a9, c9, ao, co⟩ w7 ⟨H, hinv0⟩ hback6
  have htl : (ls.take i).length = i := List.length_take_of_le hinv0.1
  refine WK.run 2 [0, 1, 5, 6, 7] [.code (cd Try.prog 142 [3, 0, 1, 0, 0, 0, 0]), .code (cd Try.prog 142 [3, 0, 1, 0, 0, 0, 1]), .code (cd Try.prog 142 [3, 0, 1, 0, 0, 1]), .inLoop (cd Try.prog 142 [3, 0, 1, 0, 0]), .inBlock 0, .code (cd Try.prog 142 [4])] [(0, .pointer (some ⟨bp, 0, none⟩)), (1, .slice al ls.length cl), (5, .int .i64 ((ls.length : Nat) : Int)), (6, .slice ao ((ls.take i).length) co), (7, .int .i64 (i : Int))] (by as_aux_lemma => kernel_rfl) ?_
  refine WK.reg1 (l := sq 0 10) (by as_aux_lemma => kernel_rfl) (by as_aux_lemma => kernel_rfl) ?_
  refine RW.runP 4 [0, 1, 5, 6, 7, 16] (sq 4 10) [(0, .pointer (some ⟨bp, 0, none⟩)), (1, .slice al ls.length cl), (5, .int .i64 ((ls.length : Nat) : Int)), (6, .slice ao ((ls.take i).length) co), (7, .int .i64 (i : Int)), (16, .bool (decide (((i : Int) : Int) < ((ls.length : Nat) : Int))))] (by as_aux_lemma => kernel_rfl) (by as_aux_lemma => kernel_rfl) ?_
  refine RW.test (fun b_ => [(0, .pointer (some ⟨bp, 0, none⟩)), (1, .slice al ls.length cl), (5, .int .i64 ((ls.length : Nat) : Int)), (6, .slice ao ((ls.take i).length) co), (7, .int .i64 (i : Int)), (16, .bool b_)]) (decide (((i : Int) : Int) < ((ls.length : Nat) : Int))) (fun h8 => ?_) (fun h8 => ?_)
  · skip
    replace h8 := of_decide_eq_true h8
    refine RW.runP 3 [0, 1, 5, 6, 7, 16, 19] (sq 7 10) [(0, .pointer (some ⟨bp, 0, none⟩)), (1, .slice al ls.length cl), (5, .int .i64 ((ls.length : Nat) : Int)), (6, .slice ao ((ls.take i).length) co), (7, .int .i64 (i : Int)), (16, .bool true), (19, .pointer (some ⟨bp, 3, none⟩))] (by as_aux_lemma => kernel_rfl) (by as_aux_lemma => kernel_rfl) ?_
    refine RW.load (κ := .seq) (d := some 20) (r := (sq 8 10)) (T := 4) (b := bp) (o' := 3) (k := 3) (v := .bool false) (by as_aux_lemma => kernel_rfl) (H.cells 0 rfl) rfl (by as_aux_lemma => kernel_rfl) ?_
    refine RW.fin 2 [0, 1, 5, 6, 7, 22] [(0, .pointer (some ⟨bp, 0, none⟩)), (1, .slice al ls.length cl), (5, .int .i64 ((ls.length : Nat) : Int)), (6, .slice ao ((ls.take i).length) co), (7, .int .i64 (i : Int)), (22, .bool true)] (by as_aux_lemma => kernel_rfl) ?_
    refine WK.run 8 [0, 1, 5, 6, 7, 8] [.code (cd Try.prog 142 [3, 0, 1, 0, 0, 1, 0, 0, 1, 0, 0]), .code (cd Try.prog 142 [3, 0, 1, 0, 0, 1, 0, 0, 1, 0, 1]), .code (cd Try.prog 142 [3, 0, 1, 0, 0, 1, 0, 0, 2]), .inBlock 1, .code (cd Try.prog 142 [3, 0, 1, 0, 0, 2]), .inLoop (cd Try.prog 142 [3, 0, 1, 0, 0]), .inBlock 0, .code (cd Try.prog 142 [4])] [(0, .pointer (some ⟨bp, 0, none⟩)), (1, .slice al ls.length cl), (5, .int .i64 ((ls.length : Nat) : Int)), (6, .slice ao ((ls.take i).length) co), (7, .int .i64 (i : Int)), (8, .int .i64 0)] (by as_aux_lemma => kernel_rfl) ?_
    refine WK.reg1 (l := sq 0 4) (by as_aux_lemma => kernel_rfl) (by as_aux_lemma => kernel_rfl) ?_
    refine RW.runP 3 [0, 1, 5, 6, 7, 8, 27] (sq 3 4) [(0, .pointer (some ⟨bp, 0, none⟩)), (1, .slice al ls.length cl), (5, .int .i64 ((ls.length : Nat) : Int)), (6, .slice ao ((ls.take i).length) co), (7, .int .i64 (i : Int)), (8, .int .i64 0), (27, .pointer (some ⟨bp, 2, none⟩))] (by as_aux_lemma => kernel_rfl) (by as_aux_lemma => kernel_rfl) ?_
    refine RW.load (κ := .seq) (d := some 28) (r := (sq 4 4)) (T := 4) (b := bp) (o' := 2) (k := 2) (v := .bool true) (by as_aux_lemma => kernel_rfl) (H.cells 0 rfl) rfl (by as_aux_lemma => kernel_rfl) ?_
    refine RW.fin 0 [0, 1, 5, 6, 7, 8, 28] [(0, .pointer (some ⟨bp, 0, none⟩)), (1, .slice al ls.length cl), (5, .int .i64 ((ls.length : Nat) : Int)), (6, .slice ao ((ls.take i).length) co), (7, .int .i64 (i : Int)), (8, .int .i64 0), (28, .bool true)] (by as_aux_lemma => kernel_rfl) ?_
    refine WK.run 1 [0, 1, 5, 6, 7] [.code (cd Try.prog 142 [3, 0, 1, 0, 0, 1, 0, 0, 1, 0, 1, 0]), .code (cd Try.prog 142 [3, 0, 1, 0, 0, 1, 0, 0, 2]), .inBlock 1, .code (cd Try.prog 142 [3, 0, 1, 0, 0, 2]), .inLoop (cd Try.prog 142 [3, 0, 1, 0, 0]), .inBlock 0, .code (cd Try.prog 142 [4])] [(0, .pointer (some ⟨bp, 0, none⟩)), (1, .slice al ls.length cl), (5, .int .i64 ((ls.length : Nat) : Int)), (6, .slice ao ((ls.take i).length) co), (7, .int .i64 (i : Int))] (by as_aux_lemma => kernel_rfl) ?_
    refine WK.reg1 (l := sq 0 5) (by as_aux_lemma => kernel_rfl) (by as_aux_lemma => kernel_rfl) ?_
    refine RW.runP 2 [0, 1, 5, 6, 7, 29, 30] (sq 2 5) [(0, .pointer (some ⟨bp, 0, none⟩)), (1, .slice al ls.length cl), (5, .int .i64 ((ls.length : Nat) : Int)), (6, .slice ao ((ls.take i).length) co), (7, .int .i64 (i : Int)), (29, .slice al ls.length cl), (30, .int .i64 (i : Int))] (by as_aux_lemma => kernel_rfl) (by as_aux_lemma => kernel_rfl) ?_
    have hx9 : i < ls.length := by omega
    refine RW.index (κ := .seq) (d := some 31) (r := (sq 3 5)) (T := 25) (e := 3) (ik := .i64) (ix := (i : Int)) (sh := (Shape.int .i64)) (x := ls[i]) (by as_aux_lemma => kernel_rfl) (by as_aux_lemma => kernel_rfl) H 0 rfl i (by omega) (List.getElem?_eq_getElem hx9) ?_
    intro b10 o11 es12 hr13 H
    have hb14 := Shape.i64_bd hr13
    obtain ⟨rfl, -⟩ := hr13
    refine RW.load (κ := .seq) (d := some 32) (r := (sq 4 5)) (T := 3) (b := b10) (o' := o11) (k := 0) (v := .int .i64 (ls[i])) (by as_aux_lemma => kernel_rfl) (H.fc 0 rfl) rfl (by as_aux_lemma => kernel_rfl) ?_
    refine RW.fin 1 [0, 1, 5, 6, 7, 8] [(0, .pointer (some ⟨bp, 0, none⟩)), (1, .slice al ls.length cl), (5, .int .i64 ((ls.length : Nat) : Int)), (6, .slice ao ((ls.take i).length) co), (7, .int .i64 (i : Int)), (8, .int .i64 (ls[i]))] (by as_aux_lemma => kernel_rfl) ?_
    refine WK.reg1 (l := sq 0 7) (by as_aux_lemma => kernel_rfl) (by as_aux_lemma => kernel_rfl) ?_
    refine RW.runP 3 [0, 1, 5, 6, 7, 33, 34, 35] (sq 3 7) [(0, .pointer (some ⟨bp, 0, none⟩)), (1, .slice al ls.length cl), (5, .int .i64 ((ls.length : Nat) : Int)), (6, .slice ao ((ls.take i).length) co), (7, .int .i64 (i : Int)), (33, .slice ao ((ls.take i).length) co), (34, .pointer (some ⟨bp, 0, none⟩)), (35, .int .i64 (ls[i]))] (by as_aux_lemma => kernel_rfl) (by as_aux_lemma => kernel_rfl) ?_
    have H := H.perms (M' := [(bp, .cells #[.slice a9 ys.length c9, .int .i64 0, .bool true, .bool false] 183 (0, 0))]) (W' := [⟨Shape.bv .u8 8, 5, .slice a9 ys.length c9, ys⟩, ⟨Shape.int .i64, 3, .slice ao ((ls.take i).length) co, ls.take i⟩]) (List.Perm.refl _) (List.perm_middle (l₁ := ([⟨Shape.int .i64, 3, .slice ao ((ls.take i).length) co, ls.take i⟩] : List OwnS))).symm
    refine RW.callS (d := some 36) (r := (sq 4 7)) (g := 111) (args := #[.pointer (some ⟨bp, 0, none⟩), .int .i64 (ls[i])]) (by as_aux_lemma => kernel_rfl) (int_spec (x := ls[i]) (by omega) ((H.lend (M1 := [(bp, .cells #[.slice a9 ys.length c9, .int .i64 0, .bool true, .bool false] 183 (0, 0))]) (W1 := [⟨Shape.bv .u8 8, 5, .slice a9 ys.length c9, ys⟩])).pick [] rfl) (by first | omega | (simp only [List.length_append, List.length_nil]; omega))) ?_
    rintro _ w15 ⟨a17, c18, rfl, H'⟩
    have H := H.back (M1 := [(bp, .cells #[.slice a9 ys.length c9, .int .i64 0, .bool true, .bool false] 183 (0, 0))]) (W1 := [⟨Shape.bv .u8 8, 5, .slice a9 ys.length c9, ys⟩]) H'
    have H : Hp w S O [(bp, .cells #[.slice a17 ((ys ++ intE (ls[i])).length) c18, .int .i64 0, .bool true, .bool false] 183 (0, 0))] [⟨Shape.bv .u8 8, 5, .slice a17 ((ys ++ intE (ls[i])).length) c18, (ys ++ intE (ls[i]))⟩, ⟨Shape.int .i64, 3, .slice ao ((ls.take i).length) co, ls.take i⟩] [Fc b10 o11 [.int .i64 (ls[i])], Rp (Shape.slice (Shape.int .i64)) [.slice al ls.length cl] ls] _ := H
    refine RW.new (κ := .seq) (d := some 37) (r := (sq 5 7)) (o := .cells #[.int .i64 (ls[i])] 3 (0, 0)) (v := fun b => .slice (some ⟨b, 0, none⟩) 1 1) (fun b => by as_aux_lemma => kernel_rfl) (nofun) H ?_
    intro b20 w21 H
    have H := H.freeze 0 rfl (Shape.int .i64) ([ls[i]] : List Int) 1 (by simp [maxLen]) (by first | exact Nat.le_refl _ | simp) (EsP.cons (c := [.int .i64 (ls[i])]) (Shape.i64_in (by first | omega | (simp <;> omega)) (by first | omega | (simp <;> omega))) EsP.nil)
    have H : Hp w S O [(bp, .cells #[.slice a17 ((ys ++ intE (ls[i])).length) c18, .int .i64 0, .bool true, .bool false] 183 (0, 0))] [⟨Shape.bv .u8 8, 5, .slice a17 ((ys ++ intE (ls[i])).length) c18, (ys ++ intE (ls[i]))⟩, ⟨Shape.int .i64, 3, .slice ao ((ls.take i).length) co, ls.take i⟩] [Rp (Shape.slice (Shape.int .i64)) [.slice (some ⟨b20, 0, none⟩) 1 1] ([ls[i]] : List Int), Fc b10 o11 [.int .i64 (ls[i])], Rp (Shape.slice (Shape.int .i64)) [.slice al ls.length cl] ls] _ := H
    refine RW.appendW (d := some 38) (r := (sq 6 7)) (T := 25) (ty := 25) (e := 3) (m := 1) (by_ := 8) (v := .slice ao ((ls.take i).length) co) (a2 := (some ⟨b20, 0, none⟩)) (l2 := 1) (c2 := 1) (zs := ls.take (i + 1)) (by as_aux_lemma => kernel_rfl) (by as_aux_lemma => kernel_rfl) rfl H 1 rfl 0 rfl ((take_succ' (by omega)).symm) (by rw [List.length_take]; omega) ?_
    intro a22 c23 w25 H hc24
    have H : Hp w S O [(bp, .cells #[.slice a17 ((ys ++ intE (ls[i])).length) c18, .int .i64 0, .bool true, .bool false] 183 (0, 0))] [⟨Shape.bv .u8 8, 5, .slice a17 ((ys ++ intE (ls[i])).length) c18, (ys ++ intE (ls[i]))⟩, ⟨Shape.int .i64, 3, .slice a22 ((ls.take (i + 1)).length) c23, ls.take (i + 1)⟩] [Rp (Shape.slice (Shape.int .i64)) [.slice (some ⟨b20, 0, none⟩) 1 1] ([ls[i]] : List Int), Fc b10 o11 [.int .i64 (ls[i])], Rp (Shape.slice (Shape.int .i64)) [.slice al ls.length cl] ls] _ := H
    refine RW.fin 1 [0, 1, 5, 6, 7] [(0, .pointer (some ⟨bp, 0, none⟩)), (1, .slice al ls.length cl), (5, .int .i64 ((ls.length : Nat) : Int)), (6, .slice a22 ((ls.take (i + 1)).length) c23), (7, .int .i64 (i : Int))] (by as_aux_lemma => kernel_rfl) ?_
    refine WK.run 1 [0, 1, 5, 6, 7] [.code (cd Try.prog 142 [3, 0, 1, 0, 0, 2]), .inLoop (cd Try.prog 142 [3, 0, 1, 0, 0]), .inBlock 0, .code (cd Try.prog 142 [4])] [(0, .pointer (some ⟨bp, 0, none⟩)), (1, .slice al ls.length cl), (5, .int .i64 ((ls.length : Nat) : Int)), (6, .slice a22 ((ls.take (i + 1)).length) c23), (7, .int .i64 (i : Int))] (by as_aux_lemma => kernel_rfl) ?_
    refine WK.reg1 (l := sq 0 3) (by as_aux_lemma => kernel_rfl) (by as_aux_lemma => kernel_rfl) ?_
    refine RW.runP 1 [0, 1, 5, 6, 7, 23] (sq 1 3) [(0, .pointer (some ⟨bp, 0, none⟩)), (1, .slice al ls.length cl), (5, .int .i64 ((ls.length : Nat) : Int)), (6, .slice a22 ((ls.take (i + 1)).length) c23), (7, .int .i64 (i : Int)), (23, .int .i64 (i : Int))] (by as_aux_lemma => kernel_rfl) (by as_aux_lemma => kernel_rfl) ?_
    refine RW.wr64 (κ := .seq) (d := some 24) (r := (sq 2 3)) (t := (i : Int) + 1) (by as_aux_lemma => kernel_rfl) (by omega) ?_
    refine RW.fin 1 [0, 1, 5, 6, 7] [(0, .pointer (some ⟨bp, 0, none⟩)), (1, .slice al ls.length cl), (5, .int .i64 ((ls.length : Nat) : Int)), (6, .slice a22 ((ls.take (i + 1)).length) c23), (7, .int .i64 ((i : Int) + 1))] (by as_aux_lemma => kernel_rfl) ?_
    have H := H.pick [2] (G' := [Rp (Shape.slice (Shape.int .i64)) [.slice al ls.length cl] ls]) rfl
    have H := H.perms (M' := [(bp, .cells #[.slice a17 ((ys ++ intE (ls[i])).length) c18, .int .i64 0, .bool true, .bool false] 183 (0, 0))]) (W' := [⟨Shape.int .i64, 3, .slice a22 ((ls.take (i + 1)).length) c23, ls.take (i + 1)⟩, ⟨Shape.bv .u8 8, 5, .slice a17 ((ys ++ intE (ls[i])).length) c18, (ys ++ intE (ls[i]))⟩]) (List.Perm.refl _) (List.perm_middle (l₁ := ([⟨Shape.bv .u8 8, 5, .slice a17 ((ys ++ intE (ls[i])).length) c18, (ys ++ intE (ls[i]))⟩] : List OwnS))).symm
    exact WK.back (hback6 (i + 1, (ys ++ intE (ls[i])), a17, c18, a22, c23) _ ⟨H, by omega, by rw [intsE_take (by omega), hinv0.2.1]; simp, by simp only [List.length_append]; have := intE_ten (x := ls[i]) (by omega); omega⟩ (by first | omega | (simp only []; omega))) (by rfl)
  · skip
    replace h8 := of_decide_eq_false h8
    refine RW.fin 6 [0, 1, 5, 6, 7, 22] [(0, .pointer (some ⟨bp, 0, none⟩)), (1, .slice al ls.length cl), (5, .int .i64 ((ls.length : Nat) : Int)), (6, .slice ao ((ls.take i).length) co), (7, .int .i64 (i : Int)), (22, .bool false)] (by as_aux_lemma => kernel_rfl) ?_
    refine WK.run 4 [4] [.code (cd Try.prog 142 [5])] [(4, .slice ao ((ls.take i).length) co)] (by as_aux_lemma => kernel_rfl) ?_
    refine WK.ret (v := .slice ao ((ls.take i).length) co) Try.func142 (by as_aux_lemma => kernel_rfl) (by as_aux_lemma => kernel_rfl) ?_
    have H := H.perms (M' := [(bp, .cells #[.slice a9 ys.length c9, .int .i64 0, .bool true, .bool false] 183 (0, 0))]) (W' := [⟨Shape.bv .u8 8, 5, .slice a9 ys.length c9, ys⟩, ⟨Shape.int .i64, 3, .slice ao ((ls.take i).length) co, ls.take i⟩]) (List.Perm.refl _) (List.perm_middle (l₁ := ([⟨Shape.int .i64, 3, .slice ao ((ls.take i).length) co, ls.take i⟩] : List OwnS))).symm
    have hi9 : i = ls.length := by omega
    subst hi9
    rw [List.take_length] at hinv0
    obtain ⟨-, hy9, -⟩ := hinv0
    rw [List.append_assoc] at hy9
    subst hy9
    have H := H.drop (M' := [_]) (W' := [_]) (List.Sublist.refl _) (List.Sublist.cons_cons _ (List.nil_sublist _))
    exact ⟨_, rfl, _, _, ⟨_, _, by rw [List.take_length]⟩, H.pick [] rfl⟩

def flagE (b : Bool) : List (BitVec 8) := if b = true then [1#8] else [0#8]
theorem flagE_len (b : Bool) : (flagE b).length = 1 := by cases b <;> rfl
def bytesE (x : List (BitVec 8)) : List (BitVec 8) := num x.length ++ x

theorem putflag_spec {S : Nat → Prop} {w : World} {xs : List (BitVec 8)} {a : Option Addr} {c : Nat} (h : (Shape.slice (Shape.bv .u8 8)).rep S w [.slice a xs.length c] xs) (b : Bool) (hby : xs.length ≤ 1099511627776) :
    Calls Try.prog 139 #[.slice a xs.length c, .bool b] w (Ret fun v w' => Ext w w' ∧ Hp w S [] [] [⟨Shape.bv .u8 8, 5, v, xs ++ flagE b⟩] [] w') := by
  refine WK.calls1 (fn := Try.f139) (n := 14) (σ := [(0, .slice a xs.length c), (1, .bool b)]) Try.func139 rfl (by as_aux_lemma => kernel_rfl) (by as_aux_lemma => kernel_rfl) (by as_aux_lemma => kernel_rfl) ?_
  have H := Hp.startF (w := w) (S := S) (G := [Rp (Shape.slice (Shape.bv .u8 8)) [.slice a xs.length c] xs]) (.rp h .nil)
  refine WK.run 5 [0, 5] [.code (cd Try.prog 139 [1, 0, 1]), .code (cd Try.prog 139 [2])] [(0, .slice a xs.length c), (5, .bool b)] (by as_aux_lemma => kernel_rfl) ?_
  refine WK.cond1 b (by as_aux_lemma => kernel_rfl) (by as_aux_lemma => kernel_rfl) (fun h1 => ?_) (fun h1 => ?_)
  · skip
    refine WK.run 1 [0] [.code (cd Try.prog 139 [1, 0, 1, 0, 0]), .code (cd Try.prog 139 [1, 0, 1, 0, 1]), .code (cd Try.prog 139 [2])] [(0, .slice a xs.length c)] (by as_aux_lemma => kernel_rfl) ?_
    refine WK.reg1 (l := sq 0 5) (by as_aux_lemma => kernel_rfl) (by as_aux_lemma => kernel_rfl) ?_
    refine RW.runP 1 [6] (sq 1 5) [(6, .slice a xs.length c)] (by as_aux_lemma => kernel_rfl) (by as_aux_lemma => kernel_rfl) ?_
    refine RW.call (κ := .seq) (d := some 7) (r := (sq 2 5)) (g := 155) (args := #[.slice a xs.length c]) (by as_aux_lemma => kernel_rfl) (nofun) (copied_spec (xs := xs) (H.rp 0 rfl) (by first | omega | simp)) ?_
    rintro v3 w2 - H'
    have H := H.back (M1 := []) (W1 := []) H'
    obtain ⟨a4, c5, rfl, hc6, hm7⟩ := H.ownForm 0 rfl
    have H : Hp w S [] [] [⟨Shape.bv .u8 8, 5, .slice a4 xs.length c5, xs⟩] [Rp (Shape.slice (Shape.bv .u8 8)) [.slice a xs.length c] xs] _ := H
    refine RW.new (κ := .seq) (d := some 8) (r := (sq 3 5)) (o := .cells #[.int .u8 1] 5 (0, 0)) (v := fun b => .slice (some ⟨b, 0, none⟩) 1 1) (fun b => by as_aux_lemma => kernel_rfl) (nofun) H ?_
    intro b8 w9 H
    have H := H.freeze 0 rfl (Shape.bv .u8 8) ([1#8] : List (BitVec 8)) 1 (by simp [maxLen]) (by first | exact Nat.le_refl _ | simp) (EsP.cons (c := [.int .u8 1]) (Shape.bv_lit (x := 1#8) (by decide)) EsP.nil)
    have H : Hp w S [] [] [⟨Shape.bv .u8 8, 5, .slice a4 xs.length c5, xs⟩] [Rp (Shape.slice (Shape.bv .u8 8)) [.slice (some ⟨b8, 0, none⟩) 1 1] ([1#8] : List (BitVec 8)), Rp (Shape.slice (Shape.bv .u8 8)) [.slice a xs.length c] xs] _ := H
    refine RW.appendW (d := some 9) (r := (sq 4 5)) (T := 23) (ty := 23) (e := 5) (m := 1) (by_ := 1) (v := .slice a4 xs.length c5) (a2 := (some ⟨b8, 0, none⟩)) (l2 := 1) (c2 := 1) (zs := xs ++ ([1#8] : List (BitVec 8))) (by as_aux_lemma => kernel_rfl) (by as_aux_lemma => kernel_rfl) rfl H 0 rfl 0 rfl (rfl) (by simp; omega) ?_
    intro a10 c11 w13 H hc12
    have H : Hp w S [] [] [⟨Shape.bv .u8 8, 5, .slice a10 ((xs ++ ([1#8] : List (BitVec 8))).length) c11, xs ++ ([1#8] : List (BitVec 8))⟩] [Rp (Shape.slice (Shape.bv .u8 8)) [.slice (some ⟨b8, 0, none⟩) 1 1] ([1#8] : List (BitVec 8)), Rp (Shape.slice (Shape.bv .u8 8)) [.slice a xs.length c] xs] _ := H
    refine RW.fin 1 [4] [(4, .slice a10 ((xs ++ ([1#8] : List (BitVec 8))).length) c11)] (by as_aux_lemma => kernel_rfl) ?_
    refine WK.ret (v := .slice a10 ((xs ++ ([1#8] : List (BitVec 8))).length) c11) Try.func139 (by as_aux_lemma => kernel_rfl) (by as_aux_lemma => kernel_rfl) ?_
    have H := H.drop (M' := []) (W' := [⟨Shape.bv .u8 8, 5, .slice a10 ((xs ++ ([1#8] : List (BitVec 8))).length) c11, xs ++ ([1#8] : List (BitVec 8))⟩]) (List.nil_sublist _) (List.Sublist.refl _)
    exact ⟨_, rfl, H.done, (H.pick [] rfl).reW (by unfold flagE; simp [*]) (by rfl)⟩
  · skip
    refine WK.run 2 [0] [.code (cd Try.prog 139 [2, 0]), .code (cd Try.prog 139 [3])] [(0, .slice a xs.length c)] (by as_aux_lemma => kernel_rfl) ?_
    refine WK.reg1 (l := sq 0 5) (by as_aux_lemma => kernel_rfl) (by as_aux_lemma => kernel_rfl) ?_
    refine RW.runP 1 [10] (sq 1 5) [(10, .slice a xs.length c)] (by as_aux_lemma => kernel_rfl) (by as_aux_lemma => kernel_rfl) ?_
    refine RW.call (κ := .seq) (d := some 11) (r := (sq 2 5)) (g := 155) (args := #[.slice a xs.length c]) (by as_aux_lemma => kernel_rfl) (nofun) (copied_spec (xs := xs) (H.rp 0 rfl) (by first | omega | simp)) ?_
    rintro v15 w14 - H'
    have H := H.back (M1 := []) (W1 := []) H'
    obtain ⟨a16, c17, rfl, hc18, hm19⟩ := H.ownForm 0 rfl
    have H : Hp w S [] [] [⟨Shape.bv .u8 8, 5, .slice a16 xs.length c17, xs⟩] [Rp (Shape.slice (Shape.bv .u8 8)) [.slice a xs.length c] xs] _ := H
    refine RW.new (κ := .seq) (d := some 12) (r := (sq 3 5)) (o := .cells #[.int .u8 0] 5 (0, 0)) (v := fun b => .slice (some ⟨b, 0, none⟩) 1 1) (fun b => by as_aux_lemma => kernel_rfl) (nofun) H ?_
    intro b20 w21 H
    have H := H.freeze 0 rfl (Shape.bv .u8 8) ([0#8] : List (BitVec 8)) 1 (by simp [maxLen]) (by first | exact Nat.le_refl _ | simp) (EsP.cons (c := [.int .u8 0]) (Shape.bv_lit (x := 0#8) (by decide)) EsP.nil)
    have H : Hp w S [] [] [⟨Shape.bv .u8 8, 5, .slice a16 xs.length c17, xs⟩] [Rp (Shape.slice (Shape.bv .u8 8)) [.slice (some ⟨b20, 0, none⟩) 1 1] ([0#8] : List (BitVec 8)), Rp (Shape.slice (Shape.bv .u8 8)) [.slice a xs.length c] xs] _ := H
    refine RW.appendW (d := some 13) (r := (sq 4 5)) (T := 23) (ty := 23) (e := 5) (m := 1) (by_ := 1) (v := .slice a16 xs.length c17) (a2 := (some ⟨b20, 0, none⟩)) (l2 := 1) (c2 := 1) (zs := xs ++ ([0#8] : List (BitVec 8))) (by as_aux_lemma => kernel_rfl) (by as_aux_lemma => kernel_rfl) rfl H 0 rfl 0 rfl (rfl) (by simp; omega) ?_
    intro a22 c23 w25 H hc24
    have H : Hp w S [] [] [⟨Shape.bv .u8 8, 5, .slice a22 ((xs ++ ([0#8] : List (BitVec 8))).length) c23, xs ++ ([0#8] : List (BitVec 8))⟩] [Rp (Shape.slice (Shape.bv .u8 8)) [.slice (some ⟨b20, 0, none⟩) 1 1] ([0#8] : List (BitVec 8)), Rp (Shape.slice (Shape.bv .u8 8)) [.slice a xs.length c] xs] _ := H
    refine RW.fin 1 [4] [(4, .slice a22 ((xs ++ ([0#8] : List (BitVec 8))).length) c23)] (by as_aux_lemma => kernel_rfl) ?_
    refine WK.ret (v := .slice a22 ((xs ++ ([0#8] : List (BitVec 8))).length) c23) Try.func139 (by as_aux_lemma => kernel_rfl) (by as_aux_lemma => kernel_rfl) ?_
    have H := H.drop (M' := []) (W' := [⟨Shape.bv .u8 8, 5, .slice a22 ((xs ++ ([0#8] : List (BitVec 8))).length) c23, xs ++ ([0#8] : List (BitVec 8))⟩]) (List.nil_sublist _) (List.Sublist.refl _)
    exact ⟨_, rfl, H.done, (H.pick [] rfl).reW (by unfold flagE; simp [*]) (by rfl)⟩

theorem putbytes_spec {S : Nat → Prop} {w : World} {xs : List (BitVec 8)} {a : Option Addr} {c : Nat} (h : (Shape.slice (Shape.bv .u8 8)).rep S w [.slice a xs.length c] xs) {ys : List (BitVec 8)} {b : Option Addr} {d : Nat} (h2 : (Shape.slice (Shape.bv .u8 8)).rep S w [.slice b ys.length d] ys) (hby : xs.length + ys.length + 10 ≤ 1099511627776) :
    Calls Try.prog 145 #[.slice a xs.length c, .slice b ys.length d] w (Ret fun v w' => Ext w w' ∧ Hp w S [] [] [⟨Shape.bv .u8 8, 5, v, xs ++ bytesE ys⟩] [] w') := by
  have hyl := Shape.slice_len h2
  have hten : (num ys.length).length ≤ 10 := num_ten (by omega)
  refine WK.calls1 (fn := Try.f145) (n := 12) (σ := [(0, .slice a xs.length c), (1, .slice b ys.length d)]) Try.func145 rfl (by as_aux_lemma => kernel_rfl) (by as_aux_lemma => kernel_rfl) (by as_aux_lemma => kernel_rfl) ?_
  have H := Hp.startF (w := w) (S := S) (G := [Rp (Shape.slice (Shape.bv .u8 8)) [.slice a xs.length c] xs, Rp (Shape.slice (Shape.bv .u8 8)) [.slice b ys.length d] ys]) (.rp h (.rp h2 .nil))
  refine WK.run 3 [0, 1] [.code (cd Try.prog 145 [1, 0]), .code (cd Try.prog 145 [2])] [(0, .slice a xs.length c), (1, .slice b ys.length d)] (by as_aux_lemma => kernel_rfl) ?_
  refine WK.reg1 (l := sq 0 8) (by as_aux_lemma => kernel_rfl) (by as_aux_lemma => kernel_rfl) ?_
  refine RW.runP 3 [1, 5, 7] (sq 3 8) [(1, .slice b ys.length d), (5, .slice a xs.length c), (7, .int .i64 ((ys.length : Nat) : Int))] (by as_aux_lemma => kernel_rfl) (by as_aux_lemma => kernel_rfl) ?_
  refine RW.pv (κ := .seq) (d := some 8) (r := (sq 4 8)) (v' := .int .u64 ((ys.length : Nat) : Int)) (v := .int .u64 (IntKind.u64.wrap (((ys.length : Nat) : Int)))) (by as_aux_lemma => kernel_rfl) (wr_u64 (by omega)) ?_
  refine RW.call (κ := .seq) (d := some 9) (r := (sq 5 8)) (g := 137) (args := #[.slice a xs.length c, .int .u64 ((ys.length : Nat) : Int)]) (by as_aux_lemma => kernel_rfl) (nofun) (putnum_spec (xs := xs) (H.rp 0 rfl) ((ys.length : Nat) : Int) (by omega) (by first | omega | simp)) ?_
  rintro v2 w1 - H'
  have H := H.back (M1 := []) (W1 := []) H'
  obtain ⟨a3, c4, rfl, hc5, hm6⟩ := H.ownForm 0 rfl
  have H : Hp w S [] [] [⟨Shape.bv .u8 8, 5, .slice a3 ((xs ++ num (((ys.length : Nat) : Int).toNat)).length) c4, (xs ++ num (((ys.length : Nat) : Int).toNat))⟩] [Rp (Shape.slice (Shape.bv .u8 8)) [.slice a xs.length c] xs, Rp (Shape.slice (Shape.bv .u8 8)) [.slice b ys.length d] ys] _ := H
  refine RW.runP 1 [9, 10] (sq 6 8) [(9, .slice a3 ((xs ++ num (((ys.length : Nat) : Int).toNat)).length) c4), (10, .slice b ys.length d)] (by as_aux_lemma => kernel_rfl) (by as_aux_lemma => kernel_rfl) ?_
  refine RW.appendW (d := some 11) (r := (sq 7 8)) (T := 23) (ty := 23) (e := 5) (m := 1) (by_ := 1) (v := .slice a3 ((xs ++ num (((ys.length : Nat) : Int).toNat)).length) c4) (a2 := b) (l2 := ys.length) (c2 := d) (zs := (xs ++ num (((ys.length : Nat) : Int).toNat)) ++ ys) (by as_aux_lemma => kernel_rfl) (by as_aux_lemma => kernel_rfl) rfl H 0 rfl 1 rfl (rfl) (by simp; omega) ?_
  intro a7 c8 w10 H hc9
  have H : Hp w S [] [] [⟨Shape.bv .u8 8, 5, .slice a7 (((xs ++ num (((ys.length : Nat) : Int).toNat)) ++ ys).length) c8, (xs ++ num (((ys.length : Nat) : Int).toNat)) ++ ys⟩] [Rp (Shape.slice (Shape.bv .u8 8)) [.slice a xs.length c] xs, Rp (Shape.slice (Shape.bv .u8 8)) [.slice b ys.length d] ys] _ := H
  refine RW.fin 1 [4] [(4, .slice a7 (((xs ++ num (((ys.length : Nat) : Int).toNat)) ++ ys).length) c8)] (by as_aux_lemma => kernel_rfl) ?_
  refine WK.ret (v := .slice a7 (((xs ++ num (((ys.length : Nat) : Int).toNat)) ++ ys).length) c8) Try.func145 (by as_aux_lemma => kernel_rfl) (by as_aux_lemma => kernel_rfl) ?_
  have H := H.drop (M' := []) (W' := [⟨Shape.bv .u8 8, 5, .slice a7 (((xs ++ num (((ys.length : Nat) : Int).toNat)) ++ ys).length) c8, (xs ++ num (((ys.length : Nat) : Int).toNat)) ++ ys⟩]) (List.nil_sublist _) (List.Sublist.refl _)
  exact ⟨_, rfl, H.done, (H.pick [] rfl).reW (by unfold bytesE; simp) (by rfl)⟩

theorem flag_spec {S : Nat → Prop} {w : World} {O : List Nat} {bp : Nat} {xs : List (BitVec 8)} {a : Option Addr} {c : Nat} {b : Bool} (H0 : Hp w S O [(bp, .cells #[.slice a xs.length c, .int .i64 0, .bool true, .bool false] 183 (0, 0))] [⟨Shape.bv .u8 8, 5, .slice a xs.length c, xs⟩] [] w) (hby : xs.length + 10 ≤ 1099511627776) :
    Calls Try.prog 113 #[.pointer (some ⟨bp, 0, none⟩), .bool b] w (Ret fun v w' => ∃ (a' : Option Addr) (c' : Nat), (v = .bool b) ∧ Hp w S O [(bp, .cells #[.slice a' ((xs ++ flagE b).length) c', .int .i64 0, .bool true, .bool false] 183 (0, 0))] [⟨Shape.bv .u8 8, 5, .slice a' ((xs ++ flagE b).length) c', (xs ++ flagE b)⟩] [] w') := by
  have hten := flagE_len b
  refine WK.calls1 (fn := Try.f113) (n := 52) (σ := [(0, .pointer (some ⟨bp, 0, none⟩)), (1, .bool b)]) Try.func113 rfl (by as_aux_lemma => kernel_rfl) (by as_aux_lemma => kernel_rfl) (by as_aux_lemma => kernel_rfl) ?_
  have H := H0
  refine WK.run 4 [0, 1] [.code (cd Try.prog 113 [1, 0, 0]), .code (cd Try.prog 113 [1, 0, 1]), .code (cd Try.prog 113 [2])] [(0, .pointer (some ⟨bp, 0, none⟩)), (1, .bool b)] (by as_aux_lemma => kernel_rfl) ?_
  refine WK.reg1 (l := sq 0 4) (by as_aux_lemma => kernel_rfl) (by as_aux_lemma => kernel_rfl) ?_
  refine RW.runP 3 [0, 1, 10] (sq 3 4) [(0, .pointer (some ⟨bp, 0, none⟩)), (1, .bool b), (10, .pointer (some ⟨bp, 2, none⟩))] (by as_aux_lemma => kernel_rfl) (by as_aux_lemma => kernel_rfl) ?_
  refine RW.load (κ := .seq) (d := some 11) (r := (sq 4 4)) (T := 4) (b := bp) (o' := 2) (k := 2) (v := .bool true) (by as_aux_lemma => kernel_rfl) (H.cells 0 rfl) rfl (by as_aux_lemma => kernel_rfl) ?_
  refine RW.fin 0 [0, 1, 11] [(0, .pointer (some ⟨bp, 0, none⟩)), (1, .bool b), (11, .bool true)] (by as_aux_lemma => kernel_rfl) ?_
  refine WK.run 2 [0, 1] [.code (cd Try.prog 113 [1, 0, 1, 0, 0]), .code (cd Try.prog 113 [1, 0, 1, 0, 1]), .code (cd Try.prog 113 [2])] [(0, .pointer (some ⟨bp, 0, none⟩)), (1, .bool b)] (by as_aux_lemma => kernel_rfl) ?_
  refine WK.drawP1 7 [0, 1, 2, 3, 5] [(17, .bool b), (15, .pointer (some ⟨bp, 0, none⟩)), (14, .pointer (some ⟨bp, 0, none⟩)), (13, .pointer (some ⟨bp, 0, none⟩)), (12, .pointer (some ⟨bp, 0, none⟩)), (0, .pointer (some ⟨bp, 0, none⟩)), (1, .bool b)] [(4, .qui), (6, .chn)] [(4, .qui), (6, .chn), (7, .seq), (8, .seq), (9, .seq), (10, .seq)] Try_mixed (by as_aux_lemma => kernel_rfl) (by as_aux_lemma => kernel_rfl) (by as_aux_lemma => kernel_rfl) (by as_aux_lemma => kernel_rfl) ?_
  have H := H.draw
  generalize ({ w with drawn := w.drawn + 1 } : World) = w1 at H ⊢
  refine RW.load (κ := .qui) (d := some 16) (r := [(6, .chn), (7, .seq), (8, .seq), (9, .seq), (10, .seq)]) (T := 23) (b := bp) (o' := 0) (k := 0) (v := .slice a xs.length c) (by as_aux_lemma => kernel_rfl) (H.cells 0 rfl) rfl (by as_aux_lemma => kernel_rfl) ?_
  have H := H.addRp (Shape.slice (Shape.bv .u8 8)) [.slice none 0 0] [] Shape.slice_nil
  refine RW.call (κ := .chn) (d := some 18) (r := [(7, .seq), (8, .seq), (9, .seq), (10, .seq)]) (g := 139) (args := #[.slice none 0 0, .bool b]) (by as_aux_lemma => kernel_rfl) (nofun) (putflag_spec (xs := ([] : List (BitVec 8))) (H.rp 0 rfl) b (by first | omega | simp)) ?_
  rintro v3 w2 - H'
  have H := H.back (M1 := []) (W1 := []) H'
  obtain ⟨a4, c5, rfl, hc6, hm7⟩ := H.ownForm 0 rfl
  have H : Hp w S O [(bp, .cells #[.slice a xs.length c, .int .i64 0, .bool true, .bool false] 183 (0, 0))] [⟨Shape.bv .u8 8, 5, .slice a4 ((flagE b).length) c5, flagE b⟩, ⟨Shape.bv .u8 8, 5, .slice a xs.length c, xs⟩] [Rp (Shape.slice (Shape.bv .u8 8)) [.slice none 0 0] []] _ := H
  have H : Hp w S O [(bp, .cells #[.slice a xs.length c, .int .i64 0, .bool true, .bool false] 183 (0, 0))] [⟨Shape.bv .u8 8, 5, .slice a xs.length c, xs⟩] [Rp (Shape.slice (Shape.bv .u8 8)) [.slice a4 ((flagE b).length) c5] (flagE b), Rp (Shape.slice (Shape.bv .u8 8)) [.slice none 0 0] []] _ := H.freezeW 0 rfl
  refine RW.appendW (d := some 19) (r := [(8, .seq), (9, .seq), (10, .seq)]) (T := 23) (ty := 23) (e := 5) (m := 1) (by_ := 1) (v := .slice a xs.length c) (a2 := a4) (l2 := ((flagE b).length)) (c2 := c5) (zs := xs ++ (flagE b)) (by as_aux_lemma => kernel_rfl) (by as_aux_lemma => kernel_rfl) rfl H 0 rfl 0 rfl (rfl) (by simp; omega) ?_
  intro a8 c9 w11 H hc10
  have H : Hp w S O [(bp, .cells #[.slice a xs.length c, .int .i64 0, .bool true, .bool false] 183 (0, 0))] [⟨Shape.bv .u8 8, 5, .slice a8 ((xs ++ (flagE b)).length) c9, xs ++ (flagE b)⟩] [Rp (Shape.slice (Shape.bv .u8 8)) [.slice a4 ((flagE b).length) c5] (flagE b), Rp (Shape.slice (Shape.bv .u8 8)) [.slice none 0 0] []] _ := H
  refine RW.runP 2 [1, 19, 21] [(10, .seq)] [(1, .bool b), (19, .slice a8 ((xs ++ (flagE b)).length) c9), (21, .pointer (some ⟨bp, 0, none⟩))] (by as_aux_lemma => kernel_rfl) (by as_aux_lemma => kernel_rfl) ?_
  refine RW.store (d := none) (r := []) (T := 23) (b := bp) (k := 0) (v := .slice a8 ((xs ++ (flagE b)).length) c9) (c' := #[.slice a8 ((xs ++ (flagE b)).length) c9, .int .i64 0, .bool true, .bool false]) (M' := [(bp, .cells #[.slice a8 ((xs ++ (flagE b)).length) c9, .int .i64 0, .bool true, .bool false] 183 (0, 0))]) (by as_aux_lemma => kernel_rfl) H 0 rfl (by as_aux_lemma => kernel_rfl) (by as_aux_lemma => kernel_rfl) ?_
  intro w12 H
  refine RW.fin 0 [1] [(1, .bool b)] (by as_aux_lemma => kernel_rfl) ?_
  refine WK.run 2 [4] [.code (cd Try.prog 113 [1, 0, 1, 0, 2]), .code (cd Try.prog 113 [2])] [(4, .bool b)] (by as_aux_lemma => kernel_rfl) ?_
  refine WK.ret (v := .bool b) Try.func113 (by as_aux_lemma => kernel_rfl) (by as_aux_lemma => kernel_rfl) ?_
  exact ⟨_, rfl, _, _, by first | rfl | trivial, H.pick [] rfl⟩

theorem bytes_spec {S : Nat → Prop} {w : World} {O : List Nat} {bp : Nat} {xs : List (BitVec 8)} {a : Option Addr} {c : Nat} {ys : List (BitVec 8)} {b : Option Addr} {d : Nat} (H0 : Hp w S O [(bp, .cells #[.slice a xs.length c, .int .i64 0, .bool true, .bool false] 183 (0, 0))] [⟨Shape.bv .u8 8, 5, .slice a xs.length c, xs⟩] [Rp (Shape.slice (Shape.bv .u8 8)) [.slice b ys.length d] ys] w) (hby : xs.length + (ys.length + 10) ≤ 1099511627776) :
    Calls Try.prog 117 #[.pointer (some ⟨bp, 0, none⟩), .slice b ys.length d] w (Ret fun v w' => ∃ (a' : Option Addr) (c' : Nat), (v = .slice b ys.length d) ∧ Hp w S O [(bp, .cells #[.slice a' ((xs ++ bytesE ys).length) c', .int .i64 0, .bool true, .bool false] 183 (0, 0))] [⟨Shape.bv .u8 8, 5, .slice a' ((xs ++ bytesE ys).length) c', (xs ++ bytesE ys)⟩] [] w') := by
  have hyl := Shape.slice_len (H0.rp 0 rfl)
  have hten : (num ys.length).length ≤ 10 := num_ten (by omega)
  have hten2 : (bytesE ys).length ≤ ys.length + 10 := by unfold bytesE; rw [List.length_append]; omega
  refine WK.calls1 (fn := Try.f117) (n := 52) (σ := [(0, .pointer (some ⟨bp, 0, none⟩)), (1, .slice b ys.length d)]) Try.func117 rfl (by as_aux_lemma => kernel_rfl) (by as_aux_lemma => kernel_rfl) (by as_aux_lemma => kernel_rfl) ?_
  have H := H0
  refine WK.run 4 [0, 1] [.code (cd Try.prog 117 [1, 0, 0]), .code (cd Try.prog 117 [1, 0, 1]), .code (cd Try.prog 117 [2])] [(0, .pointer (some ⟨bp, 0, none⟩)), (1, .slice b ys.length d)] (by as_aux_lemma => kernel_rfl) ?_
  refine WK.reg1 (l := sq 0 4) (by as_aux_lemma => kernel_rfl) (by as_aux_lemma => kernel_rfl) ?_
  refine RW.runP 3 [0, 1, 10] (sq 3 4) [(0, .pointer (some ⟨bp, 0, none⟩)), (1, .slice b ys.length d), (10, .pointer (some ⟨bp, 2, none⟩))] (by as_aux_lemma => kernel_rfl) (by as_aux_lemma => kernel_rfl) ?_
  refine RW.load (κ := .seq) (d := some 11) (r := (sq 4 4)) (T := 4) (b := bp) (o' := 2) (k := 2) (v := .bool true) (by as_aux_lemma => kernel_rfl) (H.cells 0 rfl) rfl (by as_aux_lemma => kernel_rfl) ?_
  refine RW.fin 0 [0, 1, 11] [(0, .pointer (some ⟨bp, 0, none⟩)), (1, .slice b ys.length d), (11, .bool true)] (by as_aux_lemma => kernel_rfl) ?_
  refine WK.run 2 [0, 1] [.code (cd Try.prog 117 [1, 0, 1, 0, 0]), .code (cd Try.prog 117 [1, 0, 1, 0, 1]), .code (cd Try.prog 117 [2])] [(0, .pointer (some ⟨bp, 0, none⟩)), (1, .slice b ys.length d)] (by as_aux_lemma => kernel_rfl) ?_
  refine WK.drawP1 7 [0, 1, 2, 3, 5] [(17, .slice b ys.length d), (15, .pointer (some ⟨bp, 0, none⟩)), (14, .pointer (some ⟨bp, 0, none⟩)), (13, .pointer (some ⟨bp, 0, none⟩)), (12, .pointer (some ⟨bp, 0, none⟩)), (0, .pointer (some ⟨bp, 0, none⟩)), (1, .slice b ys.length d)] [(4, .qui), (6, .chn)] [(4, .qui), (6, .chn), (7, .seq), (8, .seq), (9, .seq), (10, .seq)] Try_mixed (by as_aux_lemma => kernel_rfl) (by as_aux_lemma => kernel_rfl) (by as_aux_lemma => kernel_rfl) (by as_aux_lemma => kernel_rfl) ?_
  have H := H.draw
  generalize ({ w with drawn := w.drawn + 1 } : World) = w1 at H ⊢
  refine RW.load (κ := .qui) (d := some 16) (r := [(6, .chn), (7, .seq), (8, .seq), (9, .seq), (10, .seq)]) (T := 23) (b := bp) (o' := 0) (k := 0) (v := .slice a xs.length c) (by as_aux_lemma => kernel_rfl) (H.cells 0 rfl) rfl (by as_aux_lemma => kernel_rfl) ?_
  have H := H.addRp (Shape.slice (Shape.bv .u8 8)) [.slice none 0 0] [] Shape.slice_nil
  refine RW.call (κ := .chn) (d := some 18) (r := [(7, .seq), (8, .seq), (9, .seq), (10, .seq)]) (g := 145) (args := #[.slice none 0 0, .slice b ys.length d]) (by as_aux_lemma => kernel_rfl) (nofun) (putbytes_spec (xs := ([] : List (BitVec 8))) (ys := ys) (H.rp 0 rfl) (H.rp 1 rfl) (by first | omega | (simp only [List.length_nil]; omega))) ?_
  rintro v3 w2 - H'
  have H := H.back (M1 := []) (W1 := []) H'
  obtain ⟨a4, c5, rfl, hc6, hm7⟩ := H.ownForm 0 rfl
  have H : Hp w S O [(bp, .cells #[.slice a xs.length c, .int .i64 0, .bool true, .bool false] 183 (0, 0))] [⟨Shape.bv .u8 8, 5, .slice a4 ((bytesE ys).length) c5, bytesE ys⟩, ⟨Shape.bv .u8 8, 5, .slice a xs.length c, xs⟩] [Rp (Shape.slice (Shape.bv .u8 8)) [.slice none 0 0] [], Rp (Shape.slice (Shape.bv .u8 8)) [.slice b ys.length d] ys] _ := H
  have H : Hp w S O [(bp, .cells #[.slice a xs.length c, .int .i64 0, .bool true, .bool false] 183 (0, 0))] [⟨Shape.bv .u8 8, 5, .slice a xs.length c, xs⟩] [Rp (Shape.slice (Shape.bv .u8 8)) [.slice a4 ((bytesE ys).length) c5] (bytesE ys), Rp (Shape.slice (Shape.bv .u8 8)) [.slice none 0 0] [], Rp (Shape.slice (Shape.bv .u8 8)) [.slice b ys.length d] ys] _ := H.freezeW 0 rfl
  refine RW.appendW (d := some 19) (r := [(8, .seq), (9, .seq), (10, .seq)]) (T := 23) (ty := 23) (e := 5) (m := 1) (by_ := 1) (v := .slice a xs.length c) (a2 := a4) (l2 := ((bytesE ys).length)) (c2 := c5) (zs := xs ++ (bytesE ys)) (by as_aux_lemma => kernel_rfl) (by as_aux_lemma => kernel_rfl) rfl H 0 rfl 0 rfl (rfl) (by simp; omega) ?_
  intro a8 c9 w11 H hc10
  have H : Hp w S O [(bp, .cells #[.slice a xs.length c, .int .i64 0, .bool true, .bool false] 183 (0, 0))] [⟨Shape.bv .u8 8, 5, .slice a8 ((xs ++ (bytesE ys)).length) c9, xs ++ (bytesE ys)⟩] [Rp (Shape.slice (Shape.bv .u8 8)) [.slice a4 ((bytesE ys).length) c5] (bytesE ys), Rp (Shape.slice (Shape.bv .u8 8)) [.slice none 0 0] [], Rp (Shape.slice (Shape.bv .u8 8)) [.slice b ys.length d] ys] _ := H
  refine RW.runP 2 [1, 19, 21] [(10, .seq)] [(1, .slice b ys.length d), (19, .slice a8 ((xs ++ (bytesE ys)).length) c9), (21, .pointer (some ⟨bp, 0, none⟩))] (by as_aux_lemma => kernel_rfl) (by as_aux_lemma => kernel_rfl) ?_
  refine RW.store (d := none) (r := []) (T := 23) (b := bp) (k := 0) (v := .slice a8 ((xs ++ (bytesE ys)).length) c9) (c' := #[.slice a8 ((xs ++ (bytesE ys)).length) c9, .int .i64 0, .bool true, .bool false]) (M' := [(bp, .cells #[.slice a8 ((xs ++ (bytesE ys)).length) c9, .int .i64 0, .bool true, .bool false] 183 (0, 0))]) (by as_aux_lemma => kernel_rfl) H 0 rfl (by as_aux_lemma => kernel_rfl) (by as_aux_lemma => kernel_rfl) ?_
  intro w12 H
  refine RW.fin 0 [1] [(1, .slice b ys.length d)] (by as_aux_lemma => kernel_rfl) ?_
  refine WK.run 2 [4] [.code (cd Try.prog 117 [1, 0, 1, 0, 2]), .code (cd Try.prog 117 [2])] [(4, .slice b ys.length d)] (by as_aux_lemma => kernel_rfl) ?_
  refine WK.ret (v := .slice b ys.length d) Try.func117 (by as_aux_lemma => kernel_rfl) (by as_aux_lemma => kernel_rfl) ?_
  exact ⟨_, rfl, _, _, by first | rfl | trivial, H.pick [] rfl⟩


end Go.Proofs.Ytppcdmbkgficiaa
