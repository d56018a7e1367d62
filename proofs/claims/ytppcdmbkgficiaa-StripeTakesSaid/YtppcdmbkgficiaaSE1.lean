import Derived.Test.YtppcdmbkgficiaaSBxA
import Derived.Test.YtppcdmbkgficiaaST1
import Derived.Test.YtppcdmbkgficiaaSBxB
namespace Go.Proofs.Ytppcdmbkgficiaa
open Go.BX
theorem xor_i64 {m n : Nat} (hm : m < 2 ^ 32) (hn : n < 2 ^ 32) : Value.int .i64 (IntKind.i64.wrap (((BitVec.ofInt 64 ((m : Nat) : Int) ^^^ BitVec.ofInt 64 ((n : Nat) : Int)).toNat : Nat) : Int)) = .I (((m ^^^ n : Nat)) : Int) := by
 have hx := Nat.xor_lt_two_pow hm hn
 rw [BitVec.ofInt_natCast, BitVec.ofInt_natCast, BitVec.toNat_xor, BitVec.toNat_ofNat, BitVec.toNat_ofNat, Nat.mod_eq_of_lt (a := m) (by omega), Nat.mod_eq_of_lt (a := n) (by omega)]
 exact wr_i64 (by omega)
theorem xor_bv {p q : BitVec 8} : Value.int .i64 (IntKind.i64.wrap (((BitVec.ofInt 64 ((p.toNat : Nat) : Int) ^^^ BitVec.ofInt 64 ((q.toNat : Nat) : Int)).toNat : Nat) : Int)) = .I (((p ^^^ q).toNat : Nat) : Int) := by
 have a := p.isLt
 have b := q.isLt
 rw [xor_i64 (by omega) (by omega), BitVec.toNat_xor]
theorem xt_hi' : ∀ i < 256, i * 2 ≥ 256 → (i * 2) ^^^ 285 = (xt (BitVec.ofNat 8 i)).toNat := by decide +kernel
theorem xt_lo' : ∀ i < 256, ¬ i * 2 ≥ 256 → i * 2 = (xt (BitVec.ofNat 8 i)).toNat := by decide +kernel
theorem xt_hi {p : BitVec 8} (h : ((p.toNat : Nat) : Int) * 2 ≥ 256) : Value.int .i64 (IntKind.i64.wrap (((BitVec.ofInt 64 (((p.toNat : Nat) : Int) * 2) ^^^ BitVec.ofInt 64 285).toNat : Nat) : Int)) = .I (((xt p).toNat : Nat) : Int) := by
 have b := p.isLt
 have e : (((p.toNat : Nat) : Int) * 2) = ((p.toNat * 2 : Nat) : Int) := by omega
 have a := xt_hi' p.toNat b (by omega)
 rw [← bv_of p] at a
 rw [e, show (285 : Int) = ((285 : Nat) : Int) from rfl, xor_i64 (by omega) (by omega), a]
theorem xt_lo {p : BitVec 8} (h : ¬ ((p.toNat : Nat) : Int) * 2 ≥ 256) : ((p.toNat : Nat) : Int) * 2 = (((xt p).toNat : Nat) : Int) := by
 have a := xt_lo' p.toNat p.isLt (by omega)
 rw [← bv_of p] at a
 omega
theorem odd1' : ∀ i < 256, i % 2 = 1 ↔ (((BitVec.ofNat 8 i &&& 1#8).toNat : Nat) : Int) > 0 := by decide +kernel
theorem odd1 {q : BitVec 8} : ((q.toNat : Nat) : Int) % 2 = 1 ↔ (((q &&& 1#8).toNat : Nat) : Int) > 0 := by
 have h := odd1' q.toNat q.isLt
 rw [← bv_of q] at h
 omega
theorem shr1 {q : BitVec 8} : Value.int .i64 (((q.toNat : Nat) : Int).fdiv (2 ^ 1)) = .I (((q >>> 1).toNat : Nat) : Int) := by
 rw [Int.fdiv_eq_ediv_of_nonneg _ (by decide), BitVec.toNat_ushiftRight, Nat.shiftRight_eq_div_pow]
 rfl
def gpow (a : BitVec 8) : Nat → BitVec 8
 | 0 => 1#8
 | n + 1 => gmul (gpow a n) a
theorem gpow_gexp (i : Nat) : ∀ n : Nat, gpow (gexp i) n = gexp (i * n)
 | 0 => by rw [Nat.mul_zero, gexp_zero]; rfl
 | n + 1 => by
  show gmul (gpow (gexp i) n) (gexp i) = _
  rw [gpow_gexp i n, gmul_gexp, Nat.mul_succ]
theorem gpow_inv {a : BitVec 8} (h : a ≠ 0#8) : gpow a 254 = ginv a := by
 have hl := gexp_log h
 have c : (glog a).toNat < 255 := (glog_nat (b := a) (fun e => h (by apply BitVec.eq_of_toNat_eq; have : (0#8).toNat = 0 := rfl; omega))).2
 rw [← hl, gpow_gexp, hl]
 unfold ginv
 rw [← gexp_mod, ← gexp_mod (255 - (glog a).toNat)]
 congr 1
 generalize (glog a).toNat = x at c
 omega
theorem r1mul_spec {S : Nat → Prop} {w : World} (x y : BitVec 8) :
 Calls Try.prog 105 #[.int .u8 ((x.toNat : Nat) : Int), .int .u8 ((y.toNat : Nat) : Int)] w (Ret fun v w' => Ext w w' ∧ v = .int .u8 (((gmul x y).toNat : Nat) : Int)) := by
 refine uS1 Try.func105 ?_
 have H := Hp.startF (w := w) (S := S) (G := []) .nil
 refine uR 3 [.c [1, 0], .c [2]] ?_
 refine qG (sq 0 3) ?_
 refine uP 1 ?_
 refine RW.pv (κ := .seq) (d := some 9) (r := (sq 2 3)) (v := .I (IntKind.i64.wrap (((x.toNat : Nat) : Int)))) (v' := .I ((x.toNat : Nat) : Int)) (by as_aux_lemma => kernel_rfl) (bv_i648 _ (by have := (x).isLt; omega)) ?_
 refine uF 1 ?_
 refine uR 1 [.c [2, 0], .c [3]] ?_
 refine qG (sq 0 3) ?_
 refine uP 1 ?_
 refine RW.pv (κ := .seq) (d := some 11) (r := (sq 2 3)) (v := .I (IntKind.i64.wrap (((y.toNat : Nat) : Int)))) (v' := .I ((y.toNat : Nat) : Int)) (by as_aux_lemma => kernel_rfl) (bv_i648 _ (by have := (y).isLt; omega)) ?_
 refine uF 1 ?_
 refine qR 4 [.c [4, 0, 0], .b 0, .c [5]] [(5, .I ((x.toNat : Nat) : Int)), (6, .I ((y.toNat : Nat) : Int)), (7, .I 0)] ?_
 refine WK.loop (α := Nat × BitVec 8 × BitVec 8 × BitVec 8) (b := cd Try.prog 105 [4, 0, 0, 0]) (by as_aux_lemma => kernel_rfl) (fun (n, p, q, r) => [(5, .I ((p.toNat : Nat) : Int)), (6, .I ((q.toNat : Nat) : Int)), (7, .I ((r.toNat : Nat) : Int))]) (fun (n, p, q, r) w' => Hp w S [] [] [] [] w' ∧ q.toNat < 2 ^ n ∧ r ^^^ gm n p q = gmul x y) (fun (n, p, q, r) => n) (8, x, y, 0#8) ⟨H, y.isLt, BitVec.zero_xor⟩ (by rfl) ?_
 rintro ⟨n, p, q, r⟩ _ ⟨H, a⟩ e
 have o := p.isLt
 have f := q.isLt
 have s := r.isLt
 refine uR 3 [.c [4, 0, 0, 0, 0, 1], .c [4, 0, 0, 0, 1], .l [4, 0, 0, 0], .b 0, .c [5]] ?_
 refine qD ((((q.toNat : Nat) : Int) : Int) > 0) (fun i => ?_) (fun i => ?_)
 ·
  refine uR 4 [.c [4, 0, 0, 0, 1, 0, 0, 0], .c [4, 0, 0, 0, 1, 0, 0, 1], .c [4, 0, 0, 0, 1, 0, 1], .b 1, .l [4, 0, 0, 0], .b 0, .c [5]] ?_
  refine qG (sq 0 3) ?_
  refine uP 1 ?_
  refine RW.pv (κ := .seq) (d := some 15) (r := (sq 2 3)) (v := .I (IntKind.i64.wrap ((BitVec.ofInt 64 ((q.toNat : Nat) : Int) &&& BitVec.ofInt 64 1).toNat : Nat))) (v' := .I (((q.toNat : Nat) : Int) % 2)) (by as_aux_lemma => kernel_rfl) (and_i64 (j := 1) (m := 1) (by decide) (by decide)) ?_
  refine uF 1 ?_
  refine qE (((q.toNat : Nat) : Int) % 2) 1 (fun k => ?_) (fun k => ?_)
  ·
   refine qG (sq 0 4) ?_
   refine uP 2 ?_
   refine RW.pv (κ := .seq) (d := some 19) (r := (sq 3 4)) (v := .I (IntKind.i64.wrap (((BitVec.ofInt 64 ((r.toNat : Nat) : Int) ^^^ BitVec.ofInt 64 ((p.toNat : Nat) : Int)).toNat : Nat) : Int))) (v' := .I (((r ^^^ p).toNat : Nat) : Int)) (by as_aux_lemma => kernel_rfl) (xor_bv) ?_
   refine uF 1 ?_
   refine uR 1 [.c [4, 0, 0, 0, 1, 0, 1, 0], .c [4, 0, 0, 0, 1, 0, 2], .b 1, .l [4, 0, 0, 0], .b 0, .c [5]] ?_
   refine qG (sq 0 3) ?_
   refine uP 1 ?_
   refine RW.pv (κ := .seq) (d := some 21) (r := (sq 2 3)) (v := .I (IntKind.i64.wrap (((p.toNat : Nat) : Int) * 2 ^ 1))) (v' := .I (((p.toNat : Nat) : Int) * 2)) (by as_aux_lemma => kernel_rfl) (shl_i64 (by decide) (by omega)) ?_
   refine uF 1 ?_
   refine uR 3 [.c [4, 0, 0, 0, 1, 0, 2, 0, 1], .c [4, 0, 0, 0, 1, 0, 3], .b 1, .l [4, 0, 0, 0], .b 0, .c [5]] ?_
   refine qD ((((p.toNat : Nat) : Int) * 2 : Int) ≥ 256) (fun g => ?_) (fun g => ?_)
   ·
    refine qG (sq 0 3) ?_
    refine qP 1 (sq 1 3) [(5, .I (((p.toNat : Nat) : Int) * 2)), (6, .I ((q.toNat : Nat) : Int)), (7, .I (((r ^^^ p).toNat : Nat) : Int)), (24, .I (((p.toNat : Nat) : Int) * 2))] ?_
    refine RW.pv (κ := .seq) (d := some 25) (r := (sq 2 3)) (v := .I (IntKind.i64.wrap (((BitVec.ofInt 64 (((p.toNat : Nat) : Int) * 2) ^^^ BitVec.ofInt 64 285).toNat : Nat) : Int))) (v' := .I (((xt p).toNat : Nat) : Int)) (by as_aux_lemma => kernel_rfl) (xt_hi (by assumption)) ?_
    refine uF 1 ?_
    refine qG (sq 0 3) ?_
    refine uP 1 ?_
    refine RW.pv (κ := .seq) (d := some 27) (r := (sq 2 3)) (v := .I (((q.toNat : Nat) : Int).fdiv (2 ^ 1))) (v' := .I (((q >>> 1).toNat : Nat) : Int)) (by as_aux_lemma => kernel_rfl) (shr1) ?_
    refine uF 1 ?_
    refine qR 1 [.l [4, 0, 0, 0], .b 0, .c [5]] [(5, .I (((xt p).toNat : Nat) : Int)), (6, .I (((q >>> 1).toNat : Nat) : Int)), (7, .I (((r ^^^ p).toNat : Nat) : Int))] ?_
    exact WK.back (e (n - 1, (xt p), (q >>> 1), (r ^^^ p)) _ ⟨H, shr_lt a.1 (pow_pos_of a.1 (by assumption)), by rw [← a.2, gm_step (n := n) (pow_pos_of a.1 (by assumption))]; first | rw [if_pos (odd1.1 (by assumption))] | (rw [if_neg (mt odd1.2 (by assumption)), BitVec.xor_zero])⟩ (by have := pow_pos_of a.1 (by assumption); simp only []; omega)) (by first | rfl | rw [hlo])
   ·
    have hlo := xt_lo g
    refine uR 1 [.c [4, 0, 0, 0, 1, 0, 3], .b 1, .l [4, 0, 0, 0], .b 0, .c [5]] ?_
    refine qG (sq 0 3) ?_
    refine uP 1 ?_
    refine RW.pv (κ := .seq) (d := some 27) (r := (sq 2 3)) (v := .I (((q.toNat : Nat) : Int).fdiv (2 ^ 1))) (v' := .I (((q >>> 1).toNat : Nat) : Int)) (by as_aux_lemma => kernel_rfl) (shr1) ?_
    refine uF 1 ?_
    refine qR 1 [.l [4, 0, 0, 0], .b 0, .c [5]] [(5, .I (((p.toNat : Nat) : Int) * 2)), (6, .I (((q >>> 1).toNat : Nat) : Int)), (7, .I (((r ^^^ p).toNat : Nat) : Int))] ?_
    exact WK.back (e (n - 1, (xt p), (q >>> 1), (r ^^^ p)) _ ⟨H, shr_lt a.1 (pow_pos_of a.1 (by assumption)), by rw [← a.2, gm_step (n := n) (pow_pos_of a.1 (by assumption))]; first | rw [if_pos (odd1.1 (by assumption))] | (rw [if_neg (mt odd1.2 (by assumption)), BitVec.xor_zero])⟩ (by have := pow_pos_of a.1 (by assumption); simp only []; omega)) (by first | rfl | rw [hlo])
  ·
   refine qR 2 [.c [4, 0, 0, 0, 1, 0, 1, 0], .c [4, 0, 0, 0, 1, 0, 2], .b 1, .l [4, 0, 0, 0], .b 0, .c [5]] [(5, .I ((p.toNat : Nat) : Int)), (6, .I ((q.toNat : Nat) : Int)), (7, .I ((r.toNat : Nat) : Int))] ?_
   refine qG (sq 0 3) ?_
   refine uP 1 ?_
   refine RW.pv (κ := .seq) (d := some 21) (r := (sq 2 3)) (v := .I (IntKind.i64.wrap (((p.toNat : Nat) : Int) * 2 ^ 1))) (v' := .I (((p.toNat : Nat) : Int) * 2)) (by as_aux_lemma => kernel_rfl) (shl_i64 (by decide) (by omega)) ?_
   refine uF 1 ?_
   refine uR 3 [.c [4, 0, 0, 0, 1, 0, 2, 0, 1], .c [4, 0, 0, 0, 1, 0, 3], .b 1, .l [4, 0, 0, 0], .b 0, .c [5]] ?_
   refine qD ((((p.toNat : Nat) : Int) * 2 : Int) ≥ 256) (fun h => ?_) (fun h => ?_)
   ·
    refine qG (sq 0 3) ?_
    refine uP 1 ?_
    refine RW.pv (κ := .seq) (d := some 25) (r := (sq 2 3)) (v := .I (IntKind.i64.wrap (((BitVec.ofInt 64 (((p.toNat : Nat) : Int) * 2) ^^^ BitVec.ofInt 64 285).toNat : Nat) : Int))) (v' := .I (((xt p).toNat : Nat) : Int)) (by as_aux_lemma => kernel_rfl) (xt_hi (by assumption)) ?_
    refine uF 1 ?_
    refine qG (sq 0 3) ?_
    refine uP 1 ?_
    refine RW.pv (κ := .seq) (d := some 27) (r := (sq 2 3)) (v := .I (((q.toNat : Nat) : Int).fdiv (2 ^ 1))) (v' := .I (((q >>> 1).toNat : Nat) : Int)) (by as_aux_lemma => kernel_rfl) (shr1) ?_
    refine uF 1 ?_
    refine qR 1 [.l [4, 0, 0, 0], .b 0, .c [5]] [(5, .I (((xt p).toNat : Nat) : Int)), (6, .I (((q >>> 1).toNat : Nat) : Int)), (7, .I ((r.toNat : Nat) : Int))] ?_
    exact WK.back (e (n - 1, (xt p), (q >>> 1), r) _ ⟨H, shr_lt a.1 (pow_pos_of a.1 (by assumption)), by rw [← a.2, gm_step (n := n) (pow_pos_of a.1 (by assumption))]; first | rw [if_pos (odd1.1 (by assumption))] | (rw [if_neg (mt odd1.2 (by assumption)), BitVec.xor_zero])⟩ (by have := pow_pos_of a.1 (by assumption); simp only []; omega)) (by first | rfl | rw [hlo])
   ·
    have hlo := xt_lo h
    refine uR 1 [.c [4, 0, 0, 0, 1, 0, 3], .b 1, .l [4, 0, 0, 0], .b 0, .c [5]] ?_
    refine qG (sq 0 3) ?_
    refine uP 1 ?_
    refine RW.pv (κ := .seq) (d := some 27) (r := (sq 2 3)) (v := .I (((q.toNat : Nat) : Int).fdiv (2 ^ 1))) (v' := .I (((q >>> 1).toNat : Nat) : Int)) (by as_aux_lemma => kernel_rfl) (shr1) ?_
    refine uF 1 ?_
    refine qR 1 [.l [4, 0, 0, 0], .b 0, .c [5]] [(5, .I (((p.toNat : Nat) : Int) * 2)), (6, .I (((q >>> 1).toNat : Nat) : Int)), (7, .I ((r.toNat : Nat) : Int))] ?_
    exact WK.back (e (n - 1, (xt p), (q >>> 1), r) _ ⟨H, shr_lt a.1 (pow_pos_of a.1 (by assumption)), by rw [← a.2, gm_step (n := n) (pow_pos_of a.1 (by assumption))]; first | rw [if_pos (odd1.1 (by assumption))] | (rw [if_neg (mt odd1.2 (by assumption)), BitVec.xor_zero])⟩ (by have := pow_pos_of a.1 (by assumption); simp only []; omega)) (by first | rfl | rw [hlo])
 ·
  refine uR 2 [.c [5, 0], .c [6]] ?_
  refine qG (sq 0 3) ?_
  refine uP 1 ?_
  refine RW.pv (κ := .seq) (d := some 29) (r := (sq 2 3)) (v := .int .u8 (IntKind.u8.wrap (((r.toNat : Nat) : Int)))) (v' := .int .u8 (((BitVec.ofNat 8 r.toNat).toNat : Nat) : Int)) (by as_aux_lemma => kernel_rfl) ((wrap_bv8 _).trans (by rw [bv_nat])) ?_
  refine uF 1 ?_
  refine qT (.int .u8 (((BitVec.ofNat 8 r.toNat).toNat : Nat) : Int)) Try.func105 ?_
  refine ⟨_, rfl, H.done, ?_⟩
  have f : q = 0#8 := bv_zero_of (by assumption)
  rw [← a.2, f, gm_zero, BitVec.xor_zero, ← bv_of r]
theorem r1inv_spec {S : Nat → Prop} {w : World} (x : BitVec 8) :
 Calls Try.prog 104 #[.int .u8 ((x.toNat : Nat) : Int)] w (Ret fun v w' => Ext w w' ∧ v = .int .u8 (((gpow x 254).toNat : Nat) : Int)) := by
 refine uS1 Try.func104 ?_
 have H := Hp.startF (w := w) (S := S) (G := []) .nil
 refine qR 8 [.c [2, 0, 1, 0], .b 0, .c [3]] [(0, .int .u8 ((x.toNat : Nat) : Int)), (3, .int .u8 1), (4, .I 0)] ?_
 refine WK.loop (α := Nat) (b := cd Try.prog 104 [2, 0, 1, 0, 0]) (by as_aux_lemma => kernel_rfl) (fun i => [(0, .int .u8 ((x.toNat : Nat) : Int)), (3, .int .u8 (((gpow x i).toNat : Nat) : Int)), (4, .I i)]) (fun i w' => Hp w S [] [] [] [] w' ∧ i ≤ 254) (fun i => 254 - i) 0 ⟨H, by omega⟩ (by rfl) ?_
 rintro i _ ⟨H, _⟩ a
 refine uR 3 [.c [2, 0, 1, 0, 0, 0, 1], .c [2, 0, 1, 0, 0, 1], .l [2, 0, 1, 0, 0], .b 0, .c [3]] ?_
 refine qD (((i : Int) : Int) < 254) (fun f => ?_) (fun f => ?_)
 ·
  refine uR 3 [.c [2, 0, 1, 0, 0, 1, 0, 0], .b 1, .c [2, 0, 1, 0, 0, 2], .l [2, 0, 1, 0, 0], .b 0, .c [3]] ?_
  refine qG (sq 0 4) ?_
  refine uP 2 ?_
  refine uK (r1mul_spec (S := fun _ => True) (gpow x i) x) ?_
  rintro _ _ d rfl
  have H := H.ext d
  refine uF 1 ?_
  refine uR 1 [.c [2, 0, 1, 0, 0, 2], .l [2, 0, 1, 0, 0], .b 0, .c [3]] ?_
  refine qG (sq 0 3) ?_
  refine uP 1 ?_
  refine uI ((i : Int) + 1) ?_
  refine qF 1 [(0, .int .u8 ((x.toNat : Nat) : Int)), (3, .int .u8 (((gmul (gpow x i) x).toNat : Nat) : Int)), (4, .I ((i : Int) + 1))] ?_
  exact WK.back (a (i + 1) _ ⟨H, by omega⟩ (by first | omega | (simp only []; omega))) (by rfl)
 ·
  refine uR 3 [.c [4]] ?_
  refine qT (.int .u8 (((gpow x i).toNat : Nat) : Int)) Try.func104 ?_
  refine ⟨_, rfl, H.done, ?_⟩
  have e : i = 254 := by omega
  rw [e]
theorem mixL_get {xs ys : List (BitVec 8)} {c : BitVec 8} {i : Nat} (h1 : i < xs.length) (h2 : i < ys.length) : (mixL xs ys c)[i]? = some (xs[i] ^^^ gmul ys[i] c) := by
 unfold mixL
 rw [List.getElem?_zipWith, List.getElem?_eq_getElem h1, List.getElem?_eq_getElem h2]
theorem r1mix_spec {S : Nat → Prop} {w : World} {xs ys : List (BitVec 8)} {a a2 : Option Addr} {k k2 : Nat} (c : BitVec 8) (h : SB.rep S w [.slice a xs.length k] xs) (h2 : SB.rep S w [.slice a2 ys.length k2] ys) (hl : xs.length = ys.length) (hby : xs.length ≤ 140737488355328) :
 Calls Try.prog 73 #[.slice a xs.length k, .slice a2 ys.length k2, .int .u8 ((c.toNat : Nat) : Int)] w (Ret fun v w' => Ext w w' ∧ ∃ (a' : Option Addr) (c' : Nat), v = .tuple #[.slice a' (mixL xs ys c).length c', .I 0] ∧ SB.rep (Nw S w) w' [.slice a' (mixL xs ys c).length c'] (mixL xs ys c)) := by
 have A := mixL_len (c := c) hl
 refine uS1 Try.func73 ?_
 have H := Hp.startF (.rp h (.rp h2 .nil))
 refine uR 5 [.c [1, 0, 1], .c [2]] ?_
 refine qN ((xs.length : Nat) : Int) ((ys.length : Nat) : Int) (fun B => ?_) (fun B => ?_)
 ·
  omega
 ·
  refine uR 7 [.c [3, 0, 1, 0], .b 0, .c [4]] ?_
  have H := H.ownNil Sb 5
  refine uL (α := Nat × Option Addr × Nat) (g := 73) (p := [3, 0, 1, 0, 0]) (fun (i, ao, co) => [(0, .slice a xs.length k), (1, .slice a2 ys.length k2), (2, .int .u8 ((c.toNat : Nat) : Int)), (8, .slice ao (((mixL xs ys c).take i).length) co), (9, .I i)]) (fun (i, ao, co) w' => Hp w S [] [] [⟨Sb, 5, .slice ao (((mixL xs ys c).take i).length) co, (mixL xs ys c).take i⟩] [Rp SB [.slice a xs.length k] xs, Rp SB [.slice a2 ys.length k2] ys] w' ∧ i ≤ xs.length) (fun (i, ao, co) => xs.length - i) (0, none, 0) ⟨H, Nat.zero_le _⟩ ?_
  rintro ⟨i, ao, co⟩ t ⟨H, _⟩ e
  refine uR 3 [.c [3, 0, 1, 0, 0, 0, 1], .c [3, 0, 1, 0, 0, 1], .l [3, 0, 1, 0, 0], .b 0, .c [4]] ?_
  refine qD (((i : Int) : Int) < ((xs.length : Nat) : Int)) (fun C => ?_) (fun C => ?_)
  ·
   refine uR 3 [.c [3, 0, 1, 0, 0, 1, 0, 0], .b 1, .c [3, 0, 1, 0, 0, 2], .l [3, 0, 1, 0, 0], .b 0, .c [4]] ?_
   refine WK.draw1 13 [(0, .qui), (1, .qui), (2, .qui), (3, .qui), (4, .qui), (5, .qui), (6, .qui), (7, .qui), (8, .qui), (9, .qui), (10, .chn), (11, .qui), (12, .chn)] [(0, .qui), (1, .qui), (2, .qui), (3, .qui), (4, .qui), (5, .qui), (6, .qui), (7, .qui), (8, .qui), (9, .qui), (10, .chn), (11, .qui), (12, .chn), (13, .seq), (14, .seq)] Try_mixed (by as_aux_lemma => kernel_rfl) (by as_aux_lemma => kernel_rfl) (by as_aux_lemma => kernel_rfl) ?_
   have H := H.draw
   generalize ({ t with drawn := t.drawn + 1 } : World) = G at H ⊢
   refine uP 3 ?_
   have u : i < xs.length := by omega
   refine uX 23 (i : Int) H 0 rfl i (by omega) (List.getElem?_eq_getElem u) ?_
   intro D E _ m H
   obtain rfl := m
   refine uV 5 0 (H.fc 0 rfl) ?_
   refine uP 2 ?_
   have n : i < ys.length := by omega
   refine uX 23 (i : Int) H 2 rfl i (by omega) (List.getElem?_eq_getElem n) ?_
   intro x y _ q H
   obtain rfl := q
   refine uV 5 0 (H.fc 0 rfl) ?_
   refine uP 1 ?_
   refine uK (r1mul_spec (S := fun _ => True) (ys[i]) c) ?_
   rintro _ _ s rfl
   have H := H.ext s
   refine RW.pv (κ := .qui) (d := some 32) (r := [(12, .chn), (13, .seq), (14, .seq)]) (v := .int .u8 (IntKind.u8.wrap ((BitVec.ofInt 8 (((xs[i]).toNat : Nat) : Int) ^^^ BitVec.ofInt 8 (((gmul (ys[i]) c).toNat : Nat) : Int)).toNat : Nat))) (v' := .int .u8 (((((xs[i]) ^^^ (gmul (ys[i]) c)).toNat : Nat) : Int))) (by as_aux_lemma => kernel_rfl) (bv_xor8 (bvi _) (bvi _)) ?_
   refine RW.new (κ := .chn) (d := some 33) (r := [(13, .seq), (14, .seq)]) (o := .cells #[.int .u8 ((((xs[i]) ^^^ (gmul (ys[i]) c)).toNat : Nat) : Int)] 5 (0, 0)) (v := fun b => .slice (some ⟨b, 0, none⟩) 1 1) (fun b => by as_aux_lemma => kernel_rfl) (nofun) H ?_
   intro z _ H
   have H := H.freeze 0 rfl Sb ([(xs[i]) ^^^ (gmul (ys[i]) c)] : List (BitVec 8)) 1 (by simp [maxLen]) (by first | exact Nat.le_refl _ | simp) (EsP.cons (c := [.int .u8 ((((xs[i]) ^^^ (gmul (ys[i]) c)).toNat : Nat) : Int)]) Shape.bv_mk EsP.nil)
   have H : Hp w S [] [] [_] [Rp SB [.slice (some ⟨z, 0, none⟩) 1 1] ([(xs[i]) ^^^ (gmul (ys[i]) c)] : List (BitVec 8)), Fc x y [.int .u8 (((ys[i]).toNat : Nat) : Int)], Fc D E [.int .u8 (((xs[i]).toNat : Nat) : Int)], _, _] _ := H
   refine uA 23 23 1 ((mixL xs ys c).take (i + 1)) H 0 rfl 0 rfl (take_snoc (mixL_get (by omega) (by omega))) (by rw [List.length_take]; omega) ?_
   intro f j _ H _
   have H : Hp w S [] [] [⟨Sb, 5, .slice f (((mixL xs ys c).take (i + 1)).length) j, (mixL xs ys c).take (i + 1)⟩] [_, _, _, _, _] _ := H
   refine uF 1 ?_
   refine uR 1 [.c [3, 0, 1, 0, 0, 2], .l [3, 0, 1, 0, 0], .b 0, .c [4]] ?_
   refine qG (sq 0 3) ?_
   refine uP 1 ?_
   refine uI ((i : Int) + 1) ?_
   refine uF 1 ?_
   have H := H.pick [3, 4] rfl
   exact uB (e (i + 1, f, j) _ ⟨H, by omega⟩ (by first | omega | (simp only []; omega)))
  ·
   refine uR 3 [.c [5]] ?_
   refine qT (.tuple #[.slice ao (((mixL xs ys c).take i).length) co, .I 0]) Try.func73 ?_
   have H : Hp w S [] [] [] [Rp SB [.slice ao (((mixL xs ys c).take i).length) co] ((mixL xs ys c).take i), _, _] _ := H.freezeW 0 rfl
   have F : i = xs.length := by omega
   have hml : (mixL xs ys c).take i = mixL xs ys c := List.take_of_length_le (by rw [mixL_len hl]; omega)
   rw [hml] at H ⊢
   exact ⟨_, rfl, H.done, _, _, rfl, H.out (H.rp 0 rfl)⟩
end Go.Proofs.Ytppcdmbkgficiaa
