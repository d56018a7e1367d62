import Derived.Test.YtppcdmbkgficiaaT1
import Derived.Test.YtppcdmbkgficiaaBxRows
import Derived.Test.YtppcdmbkgficiaaBxHeld
namespace Go.Proofs.Ytppcdmbkgficiaa
open Go.BX

theorem xor_i64 {m n : Nat} (hm : m < 2 ^ 32) (hn : n < 2 ^ 32) : Value.int .i64 (IntKind.i64.wrap (((BitVec.ofInt 64 ((m : Nat) : Int) ^^^ BitVec.ofInt 64 ((n : Nat) : Int)).toNat : Nat) : Int)) = .I (((m ^^^ n : Nat)) : Int) := by
 have hx := Nat.xor_lt_two_pow hm hn
 rw [BitVec.ofInt_natCast, BitVec.ofInt_natCast, BitVec.toNat_xor, BitVec.toNat_ofNat, BitVec.toNat_ofNat, Nat.mod_eq_of_lt (a := m) (by omega), Nat.mod_eq_of_lt (a := n) (by omega)]
 exact wr_i64 (by omega)
theorem xor_bv {p q : BitVec 8} : Value.int .i64 (IntKind.i64.wrap (((BitVec.ofInt 64 ((p.toNat : Nat) : Int) ^^^ BitVec.ofInt 64 ((q.toNat : Nat) : Int)).toNat : Nat) : Int)) = .I (((p ^^^ q).toNat : Nat) : Int) := by
 have h1 := p.isLt
 have h2 := q.isLt
 rw [xor_i64 (by omega) (by omega), BitVec.toNat_xor]
theorem xt_hi' : ∀ i < 256, i * 2 ≥ 256 → (i * 2) ^^^ 285 = (xt (BitVec.ofNat 8 i)).toNat := by decide +kernel
theorem xt_lo' : ∀ i < 256, ¬ i * 2 ≥ 256 → i * 2 = (xt (BitVec.ofNat 8 i)).toNat := by decide +kernel
theorem xt_hi {p : BitVec 8} (h : ((p.toNat : Nat) : Int) * 2 ≥ 256) : Value.int .i64 (IntKind.i64.wrap (((BitVec.ofInt 64 (((p.toNat : Nat) : Int) * 2) ^^^ BitVec.ofInt 64 285).toNat : Nat) : Int)) = .I (((xt p).toNat : Nat) : Int) := by
 have h1 := p.isLt
 have e : (((p.toNat : Nat) : Int) * 2) = ((p.toNat * 2 : Nat) : Int) := by omega
 have h2 := xt_hi' p.toNat h1 (by omega)
 rw [← bv_of p] at h2
 rw [e, show (285 : Int) = ((285 : Nat) : Int) from rfl, xor_i64 (by omega) (by omega), h2]
theorem xt_lo {p : BitVec 8} (h : ¬ ((p.toNat : Nat) : Int) * 2 ≥ 256) : ((p.toNat : Nat) : Int) * 2 = (((xt p).toNat : Nat) : Int) := by
 have h2 := xt_lo' p.toNat p.isLt (by omega)
 rw [← bv_of p] at h2
 omega
theorem odd1' : ∀ i < 256, i % 2 = 1 ↔ (((BitVec.ofNat 8 i &&& 1#8).toNat : Nat) : Int) > 0 := by decide +kernel
theorem odd1 {q : BitVec 8} : ((q.toNat : Nat) : Int) % 2 = 1 ↔ (((q &&& 1#8).toNat : Nat) : Int) > 0 := by
 have h := odd1' q.toNat q.isLt
 rw [← bv_of q] at h
 omega
theorem shr1 {q : BitVec 8} : Value.int .i64 (((q.toNat : Nat) : Int).fdiv (2 ^ 1)) = .I (((q >>> 1).toNat : Nat) : Int) := by
 rw [Int.fdiv_eq_ediv_of_nonneg _ (by decide), BitVec.toNat_ushiftRight, Nat.shiftRight_eq_div_pow]
 rfl
def gpow (a : BitVec 8) : Nat → BitVec 8
 | 0 => 1#8
 | n + 1 => gmul (gpow a n) a
theorem gpow_gexp (i : Nat) : ∀ n : Nat, gpow (gexp i) n = gexp (i * n)
 | 0 => by rw [Nat.mul_zero, gexp_zero]; rfl
 | n + 1 => by
  show gmul (gpow (gexp i) n) (gexp i) = _
  rw [gpow_gexp i n, gmul_gexp, Nat.mul_succ]
theorem gpow_inv {a : BitVec 8} (h : a ≠ 0#8) : gpow a 254 = ginv a := by
 have hl := gexp_log h
 have h2 : (glog a).toNat < 255 := (glog_nat (b := a) (fun e => h (by apply BitVec.eq_of_toNat_eq; have : (0#8).toNat = 0 := rfl; omega))).2
 rw [← hl, gpow_gexp, hl]
 unfold ginv
 rw [← gexp_mod, ← gexp_mod (255 - (glog a).toNat)]
 congr 1
 generalize (glog a).toNat = x at h2
 omega

theorem r1mul_spec {S : Nat → Prop} {w : World} (x y : BitVec 8) :
 Calls Try.prog 105 #[.int .u8 ((x.toNat : Nat) : Int), .int .u8 ((y.toNat : Nat) : Int)] w (Ret fun v w' => Ext w w' ∧ v = .int .u8 (((gmul x y).toNat : Nat) : Int)) := by
 refine qS (fn := Try.f105) (n := 30) (σ := [(0, .int .u8 ((x.toNat : Nat) : Int)), (1, .int .u8 ((y.toNat : Nat) : Int))]) Try.func105 ?_
 have H := Hp.startF (w := w) (S := S) (G := []) .nil
 refine qR 3 [.c [1, 0], .c [2]] [(0, .int .u8 ((x.toNat : Nat) : Int)), (1, .int .u8 ((y.toNat : Nat) : Int))] ?_
 refine qG (sq 0 3) ?_
 refine qP 1 (sq 1 3) [(1, .int .u8 ((y.toNat : Nat) : Int)), (8, .int .u8 ((x.toNat : Nat) : Int))] ?_
 refine RW.pv (κ := .seq) (d := some 9) (r := (sq 2 3)) (v := .I (IntKind.i64.wrap (((x.toNat : Nat) : Int)))) (v' := .I ((x.toNat : Nat) : Int)) (by as_aux_lemma => kernel_rfl) (bv_i648 _ (by have := (x).isLt; omega)) ?_
 refine qF 1 [(1, .int .u8 ((y.toNat : Nat) : Int)), (5, .I ((x.toNat : Nat) : Int))] ?_
 refine qR 1 [.c [2, 0], .c [3]] [(1, .int .u8 ((y.toNat : Nat) : Int)), (5, .I ((x.toNat : Nat) : Int))] ?_
 refine qG (sq 0 3) ?_
 refine qP 1 (sq 1 3) [(5, .I ((x.toNat : Nat) : Int)), (10, .int .u8 ((y.toNat : Nat) : Int))] ?_
 refine RW.pv (κ := .seq) (d := some 11) (r := (sq 2 3)) (v := .I (IntKind.i64.wrap (((y.toNat : Nat) : Int)))) (v' := .I ((y.toNat : Nat) : Int)) (by as_aux_lemma => kernel_rfl) (bv_i648 _ (by have := (y).isLt; omega)) ?_
 refine qF 1 [(5, .I ((x.toNat : Nat) : Int)), (6, .I ((y.toNat : Nat) : Int))] ?_
 refine qR 4 [.c [4, 0, 0], .b 0, .c [5]] [(5, .I ((x.toNat : Nat) : Int)), (6, .I ((y.toNat : Nat) : Int)), (7, .I 0)] ?_
 refine WK.loop (α := Nat × BitVec 8 × BitVec 8 × BitVec 8) (b := cd Try.prog 105 [4, 0, 0, 0]) (by as_aux_lemma => kernel_rfl) (fun st_ => match st_ with | (n, p, q, r) => [(5, .I ((p.toNat : Nat) : Int)), (6, .I ((q.toNat : Nat) : Int)), (7, .I ((r.toNat : Nat) : Int))]) (fun st_ w' => match st_ with | (n, p, q, r) => Hp w S [] [] [] [] w' ∧ q.toNat < 2 ^ n ∧ r ^^^ gm n p q = gmul x y) (fun st_ => match st_ with | (n, p, q, r) => n) (8, x, y, 0#8) ⟨H, y.isLt, BitVec.zero_xor⟩ (by rfl) ?_
 rintro ⟨n, p, q, r⟩ w2 ⟨H, hinv0⟩ hback1
 have hp9 := p.isLt
 have hq9 := q.isLt
 have hr9 := r.isLt
 refine qR 3 [.c [4, 0, 0, 0, 0, 1], .c [4, 0, 0, 0, 1], .l [4, 0, 0, 0], .b 0, .c [5]] [(5, .I ((p.toNat : Nat) : Int)), (6, .I ((q.toNat : Nat) : Int)), (7, .I ((r.toNat : Nat) : Int)), (13, .bool (decide ((((q.toNat : Nat) : Int) : Int) > 0)))] ?_
 refine qD ((((q.toNat : Nat) : Int) : Int) > 0) (fun h3 => ?_) (fun h3 => ?_)
 ·
  refine qR 4 [.c [4, 0, 0, 0, 1, 0, 0, 0], .c [4, 0, 0, 0, 1, 0, 0, 1], .c [4, 0, 0, 0, 1, 0, 1], .b 1, .l [4, 0, 0, 0], .b 0, .c [5]] [(5, .I ((p.toNat : Nat) : Int)), (6, .I ((q.toNat : Nat) : Int)), (7, .I ((r.toNat : Nat) : Int))] ?_
  refine qG (sq 0 3) ?_
  refine qP 1 (sq 1 3) [(5, .I ((p.toNat : Nat) : Int)), (6, .I ((q.toNat : Nat) : Int)), (7, .I ((r.toNat : Nat) : Int)), (14, .I ((q.toNat : Nat) : Int))] ?_
  refine RW.pv (κ := .seq) (d := some 15) (r := (sq 2 3)) (v := .I (IntKind.i64.wrap ((BitVec.ofInt 64 ((q.toNat : Nat) : Int) &&& BitVec.ofInt 64 1).toNat : Nat))) (v' := .I (((q.toNat : Nat) : Int) % 2)) (by as_aux_lemma => kernel_rfl) (and_i64 (j := 1) (m := 1) (by decide) (by decide)) ?_
  refine qF 1 [(5, .I ((p.toNat : Nat) : Int)), (6, .I ((q.toNat : Nat) : Int)), (7, .I ((r.toNat : Nat) : Int)), (16, .bool ((((q.toNat : Nat) : Int) % 2) == 1))] ?_
  refine qE (((q.toNat : Nat) : Int) % 2) 1 (fun h4 => ?_) (fun h4 => ?_)
  ·
   refine qG (sq 0 4) ?_
   refine qP 2 (sq 2 4) [(5, .I ((p.toNat : Nat) : Int)), (6, .I ((q.toNat : Nat) : Int)), (7, .I ((r.toNat : Nat) : Int)), (17, .I ((r.toNat : Nat) : Int)), (18, .I ((p.toNat : Nat) : Int))] ?_
   refine RW.pv (κ := .seq) (d := some 19) (r := (sq 3 4)) (v := .I (IntKind.i64.wrap (((BitVec.ofInt 64 ((r.toNat : Nat) : Int) ^^^ BitVec.ofInt 64 ((p.toNat : Nat) : Int)).toNat : Nat) : Int))) (v' := .I (((r ^^^ p).toNat : Nat) : Int)) (by as_aux_lemma => kernel_rfl) (xor_bv) ?_
   refine qF 1 [(5, .I ((p.toNat : Nat) : Int)), (6, .I ((q.toNat : Nat) : Int)), (7, .I (((r ^^^ p).toNat : Nat) : Int))] ?_
   refine qR 1 [.c [4, 0, 0, 0, 1, 0, 1, 0], .c [4, 0, 0, 0, 1, 0, 2], .b 1, .l [4, 0, 0, 0], .b 0, .c [5]] [(5, .I ((p.toNat : Nat) : Int)), (6, .I ((q.toNat : Nat) : Int)), (7, .I (((r ^^^ p).toNat : Nat) : Int))] ?_
   refine qG (sq 0 3) ?_
   refine qP 1 (sq 1 3) [(5, .I ((p.toNat : Nat) : Int)), (6, .I ((q.toNat : Nat) : Int)), (7, .I (((r ^^^ p).toNat : Nat) : Int)), (20, .I ((p.toNat : Nat) : Int))] ?_
   refine RW.pv (κ := .seq) (d := some 21) (r := (sq 2 3)) (v := .I (IntKind.i64.wrap (((p.toNat : Nat) : Int) * 2 ^ 1))) (v' := .I (((p.toNat : Nat) : Int) * 2)) (by as_aux_lemma => kernel_rfl) (shl_i64 (by decide) (by omega)) ?_
   refine qF 1 [(5, .I (((p.toNat : Nat) : Int) * 2)), (6, .I ((q.toNat : Nat) : Int)), (7, .I (((r ^^^ p).toNat : Nat) : Int))] ?_
   refine qR 3 [.c [4, 0, 0, 0, 1, 0, 2, 0, 1], .c [4, 0, 0, 0, 1, 0, 3], .b 1, .l [4, 0, 0, 0], .b 0, .c [5]] [(5, .I (((p.toNat : Nat) : Int) * 2)), (6, .I ((q.toNat : Nat) : Int)), (7, .I (((r ^^^ p).toNat : Nat) : Int)), (23, .bool (decide ((((p.toNat : Nat) : Int) * 2 : Int) ≥ 256)))] ?_
   refine qD ((((p.toNat : Nat) : Int) * 2 : Int) ≥ 256) (fun h5 => ?_) (fun h5 => ?_)
   ·
    refine qG (sq 0 3) ?_
    refine qP 1 (sq 1 3) [(5, .I (((p.toNat : Nat) : Int) * 2)), (6, .I ((q.toNat : Nat) : Int)), (7, .I (((r ^^^ p).toNat : Nat) : Int)), (24, .I (((p.toNat : Nat) : Int) * 2))] ?_
    refine RW.pv (κ := .seq) (d := some 25) (r := (sq 2 3)) (v := .I (IntKind.i64.wrap (((BitVec.ofInt 64 (((p.toNat : Nat) : Int) * 2) ^^^ BitVec.ofInt 64 285).toNat : Nat) : Int))) (v' := .I (((xt p).toNat : Nat) : Int)) (by as_aux_lemma => kernel_rfl) (xt_hi (by assumption)) ?_
    refine qF 1 [(5, .I (((xt p).toNat : Nat) : Int)), (6, .I ((q.toNat : Nat) : Int)), (7, .I (((r ^^^ p).toNat : Nat) : Int))] ?_
    refine qG (sq 0 3) ?_
    refine qP 1 (sq 1 3) [(5, .I (((xt p).toNat : Nat) : Int)), (6, .I ((q.toNat : Nat) : Int)), (7, .I (((r ^^^ p).toNat : Nat) : Int)), (26, .I ((q.toNat : Nat) : Int))] ?_
    refine RW.pv (κ := .seq) (d := some 27) (r := (sq 2 3)) (v := .I (((q.toNat : Nat) : Int).fdiv (2 ^ 1))) (v' := .I (((q >>> 1).toNat : Nat) : Int)) (by as_aux_lemma => kernel_rfl) (shr1) ?_
    refine qF 1 [(5, .I (((xt p).toNat : Nat) : Int)), (6, .I (((q >>> 1).toNat : Nat) : Int)), (7, .I (((r ^^^ p).toNat : Nat) : Int))] ?_
    refine qR 1 [.l [4, 0, 0, 0], .b 0, .c [5]] [(5, .I (((xt p).toNat : Nat) : Int)), (6, .I (((q >>> 1).toNat : Nat) : Int)), (7, .I (((r ^^^ p).toNat : Nat) : Int))] ?_
    exact WK.back (hback1 (n - 1, (xt p), (q >>> 1), (r ^^^ p)) _ ⟨H, shr_lt hinv0.1 (pow_pos_of hinv0.1 (by assumption)), by rw [← hinv0.2, gm_step (n := n) (pow_pos_of hinv0.1 (by assumption))]; first | rw [if_pos (odd1.1 (by assumption))] | (rw [if_neg (mt odd1.2 (by assumption)), BitVec.xor_zero])⟩ (by have := pow_pos_of hinv0.1 (by assumption); simp only []; omega)) (by first | rfl | rw [hlo])
   ·
    have hlo := xt_lo h5
    refine qR 1 [.c [4, 0, 0, 0, 1, 0, 3], .b 1, .l [4, 0, 0, 0], .b 0, .c [5]] [(5, .I (((p.toNat : Nat) : Int) * 2)), (6, .I ((q.toNat : Nat) : Int)), (7, .I (((r ^^^ p).toNat : Nat) : Int))] ?_
    refine qG (sq 0 3) ?_
    refine qP 1 (sq 1 3) [(5, .I (((p.toNat : Nat) : Int) * 2)), (6, .I ((q.toNat : Nat) : Int)), (7, .I (((r ^^^ p).toNat : Nat) : Int)), (26, .I ((q.toNat : Nat) : Int))] ?_
    refine RW.pv (κ := .seq) (d := some 27) (r := (sq 2 3)) (v := .I (((q.toNat : Nat) : Int).fdiv (2 ^ 1))) (v' := .I (((q >>> 1).toNat : Nat) : Int)) (by as_aux_lemma => kernel_rfl) (shr1) ?_
    refine qF 1 [(5, .I (((p.toNat : Nat) : Int) * 2)), (6, .I (((q >>> 1).toNat : Nat) : Int)), (7, .I (((r ^^^ p).toNat : Nat) : Int))] ?_
    refine qR 1 [.l [4, 0, 0, 0], .b 0, .c [5]] [(5, .I (((p.toNat : Nat) : Int) * 2)), (6, .I (((q >>> 1).toNat : Nat) : Int)), (7, .I (((r ^^^ p).toNat : Nat) : Int))] ?_
    exact WK.back (hback1 (n - 1, (xt p), (q >>> 1), (r ^^^ p)) _ ⟨H, shr_lt hinv0.1 (pow_pos_of hinv0.1 (by assumption)), by rw [← hinv0.2, gm_step (n := n) (pow_pos_of hinv0.1 (by assumption))]; first | rw [if_pos (odd1.1 (by assumption))] | (rw [if_neg (mt odd1.2 (by assumption)), BitVec.xor_zero])⟩ (by have := pow_pos_of hinv0.1 (by assumption); simp only []; omega)) (by first | rfl | rw [hlo])
  ·
   refine qR 2 [.c [4, 0, 0, 0, 1, 0, 1, 0], .c [4, 0, 0, 0, 1, 0, 2], .b 1, .l [4, 0, 0, 0], .b 0, .c [5]] [(5, .I ((p.toNat : Nat) : Int)), (6, .I ((q.toNat : Nat) : Int)), (7, .I ((r.toNat : Nat) : Int))] ?_
   refine qG (sq 0 3) ?_
   refine qP 1 (sq 1 3) [(5, .I ((p.toNat : Nat) : Int)), (6, .I ((q.toNat : Nat) : Int)), (7, .I ((r.toNat : Nat) : Int)), (20, .I ((p.toNat : Nat) : Int))] ?_
   refine RW.pv (κ := .seq) (d := some 21) (r := (sq 2 3)) (v := .I (IntKind.i64.wrap (((p.toNat : Nat) : Int) * 2 ^ 1))) (v' := .I (((p.toNat : Nat) : Int) * 2)) (by as_aux_lemma => kernel_rfl) (shl_i64 (by decide) (by omega)) ?_
   refine qF 1 [(5, .I (((p.toNat : Nat) : Int) * 2)), (6, .I ((q.toNat : Nat) : Int)), (7, .I ((r.toNat : Nat) : Int))] ?_
   refine qR 3 [.c [4, 0, 0, 0, 1, 0, 2, 0, 1], .c [4, 0, 0, 0, 1, 0, 3], .b 1, .l [4, 0, 0, 0], .b 0, .c [5]] [(5, .I (((p.toNat : Nat) : Int) * 2)), (6, .I ((q.toNat : Nat) : Int)), (7, .I ((r.toNat : Nat) : Int)), (23, .bool (decide ((((p.toNat : Nat) : Int) * 2 : Int) ≥ 256)))] ?_
   refine qD ((((p.toNat : Nat) : Int) * 2 : Int) ≥ 256) (fun h6 => ?_) (fun h6 => ?_)
   ·
    refine qG (sq 0 3) ?_
    refine qP 1 (sq 1 3) [(5, .I (((p.toNat : Nat) : Int) * 2)), (6, .I ((q.toNat : Nat) : Int)), (7, .I ((r.toNat : Nat) : Int)), (24, .I (((p.toNat : Nat) : Int) * 2))] ?_
    refine RW.pv (κ := .seq) (d := some 25) (r := (sq 2 3)) (v := .I (IntKind.i64.wrap (((BitVec.ofInt 64 (((p.toNat : Nat) : Int) * 2) ^^^ BitVec.ofInt 64 285).toNat : Nat) : Int))) (v' := .I (((xt p).toNat : Nat) : Int)) (by as_aux_lemma => kernel_rfl) (xt_hi (by assumption)) ?_
    refine qF 1 [(5, .I (((xt p).toNat : Nat) : Int)), (6, .I ((q.toNat : Nat) : Int)), (7, .I ((r.toNat : Nat) : Int))] ?_
    refine qG (sq 0 3) ?_
    refine qP 1 (sq 1 3) [(5, .I (((xt p).toNat : Nat) : Int)), (6, .I ((q.toNat : Nat) : Int)), (7, .I ((r.toNat : Nat) : Int)), (26, .I ((q.toNat : Nat) : Int))] ?_
    refine RW.pv (κ := .seq) (d := some 27) (r := (sq 2 3)) (v := .I (((q.toNat : Nat) : Int).fdiv (2 ^ 1))) (v' := .I (((q >>> 1).toNat : Nat) : Int)) (by as_aux_lemma => kernel_rfl) (shr1) ?_
    refine qF 1 [(5, .I (((xt p).toNat : Nat) : Int)), (6, .I (((q >>> 1).toNat : Nat) : Int)), (7, .I ((r.toNat : Nat) : Int))] ?_
    refine qR 1 [.l [4, 0, 0, 0], .b 0, .c [5]] [(5, .I (((xt p).toNat : Nat) : Int)), (6, .I (((q >>> 1).toNat : Nat) : Int)), (7, .I ((r.toNat : Nat) : Int))] ?_
    exact WK.back (hback1 (n - 1, (xt p), (q >>> 1), r) _ ⟨H, shr_lt hinv0.1 (pow_pos_of hinv0.1 (by assumption)), by rw [← hinv0.2, gm_step (n := n) (pow_pos_of hinv0.1 (by assumption))]; first | rw [if_pos (odd1.1 (by assumption))] | (rw [if_neg (mt odd1.2 (by assumption)), BitVec.xor_zero])⟩ (by have := pow_pos_of hinv0.1 (by assumption); simp only []; omega)) (by first | rfl | rw [hlo])
   ·
    have hlo := xt_lo h6
    refine qR 1 [.c [4, 0, 0, 0, 1, 0, 3], .b 1, .l [4, 0, 0, 0], .b 0, .c [5]] [(5, .I (((p.toNat : Nat) : Int) * 2)), (6, .I ((q.toNat : Nat) : Int)), (7, .I ((r.toNat : Nat) : Int))] ?_
    refine qG (sq 0 3) ?_
    refine qP 1 (sq 1 3) [(5, .I (((p.toNat : Nat) : Int) * 2)), (6, .I ((q.toNat : Nat) : Int)), (7, .I ((r.toNat : Nat) : Int)), (26, .I ((q.toNat : Nat) : Int))] ?_
    refine RW.pv (κ := .seq) (d := some 27) (r := (sq 2 3)) (v := .I (((q.toNat : Nat) : Int).fdiv (2 ^ 1))) (v' := .I (((q >>> 1).toNat : Nat) : Int)) (by as_aux_lemma => kernel_rfl) (shr1) ?_
    refine qF 1 [(5, .I (((p.toNat : Nat) : Int) * 2)), (6, .I (((q >>> 1).toNat : Nat) : Int)), (7, .I ((r.toNat : Nat) : Int))] ?_
    refine qR 1 [.l [4, 0, 0, 0], .b 0, .c [5]] [(5, .I (((p.toNat : Nat) : Int) * 2)), (6, .I (((q >>> 1).toNat : Nat) : Int)), (7, .I ((r.toNat : Nat) : Int))] ?_
    exact WK.back (hback1 (n - 1, (xt p), (q >>> 1), r) _ ⟨H, shr_lt hinv0.1 (pow_pos_of hinv0.1 (by assumption)), by rw [← hinv0.2, gm_step (n := n) (pow_pos_of hinv0.1 (by assumption))]; first | rw [if_pos (odd1.1 (by assumption))] | (rw [if_neg (mt odd1.2 (by assumption)), BitVec.xor_zero])⟩ (by have := pow_pos_of hinv0.1 (by assumption); simp only []; omega)) (by first | rfl | rw [hlo])
 ·
  refine qR 2 [.c [5, 0], .c [6]] [(7, .I ((r.toNat : Nat) : Int))] ?_
  refine qG (sq 0 3) ?_
  refine qP 1 (sq 1 3) [(28, .I ((r.toNat : Nat) : Int))] ?_
  refine RW.pv (κ := .seq) (d := some 29) (r := (sq 2 3)) (v := .int .u8 (IntKind.u8.wrap (((r.toNat : Nat) : Int)))) (v' := .int .u8 (((BitVec.ofNat 8 r.toNat).toNat : Nat) : Int)) (by as_aux_lemma => kernel_rfl) ((wrap_bv8 _).trans (by rw [bv_nat])) ?_
  refine qF 1 [(4, .int .u8 (((BitVec.ofNat 8 r.toNat).toNat : Nat) : Int))] ?_
  refine qT (.int .u8 (((BitVec.ofNat 8 r.toNat).toNat : Nat) : Int)) Try.func105 ?_
  refine ⟨_, rfl, H.done, ?_⟩
  have hq9 : q = 0#8 := bv_zero_of (by assumption)
  rw [← hinv0.2, hq9, gm_zero, BitVec.xor_zero, ← bv_of r]

theorem r1inv_spec {S : Nat → Prop} {w : World} (x : BitVec 8) :
 Calls Try.prog 104 #[.int .u8 ((x.toNat : Nat) : Int)] w (Ret fun v w' => Ext w w' ∧ v = .int .u8 (((gpow x 254).toNat : Nat) : Int)) := by
 refine qS (fn := Try.f104) (n := 13) (σ := [(0, .int .u8 ((x.toNat : Nat) : Int))]) Try.func104 ?_
 have H := Hp.startF (w := w) (S := S) (G := []) .nil
 refine qR 8 [.c [2, 0, 1, 0], .b 0, .c [3]] [(0, .int .u8 ((x.toNat : Nat) : Int)), (3, .int .u8 1), (4, .I 0)] ?_
 refine WK.loop (α := Nat) (b := cd Try.prog 104 [2, 0, 1, 0, 0]) (by as_aux_lemma => kernel_rfl) (fun i => [(0, .int .u8 ((x.toNat : Nat) : Int)), (3, .int .u8 (((gpow x i).toNat : Nat) : Int)), (4, .I i)]) (fun i w' => Hp w S [] [] [] [] w' ∧ i ≤ 254) (fun i => 254 - i) 0 ⟨H, by omega⟩ (by rfl) ?_
 rintro i w2 ⟨H, hinv0⟩ hback1
 refine qR 3 [.c [2, 0, 1, 0, 0, 0, 1], .c [2, 0, 1, 0, 0, 1], .l [2, 0, 1, 0, 0], .b 0, .c [3]] [(0, .int .u8 ((x.toNat : Nat) : Int)), (3, .int .u8 (((gpow x i).toNat : Nat) : Int)), (4, .I i), (6, .bool (decide (((i : Int) : Int) < 254)))] ?_
 refine qD (((i : Int) : Int) < 254) (fun h3 => ?_) (fun h3 => ?_)
 ·
  refine qR 3 [.c [2, 0, 1, 0, 0, 1, 0, 0], .b 1, .c [2, 0, 1, 0, 0, 2], .l [2, 0, 1, 0, 0], .b 0, .c [3]] [(0, .int .u8 ((x.toNat : Nat) : Int)), (3, .int .u8 (((gpow x i).toNat : Nat) : Int)), (4, .I i)] ?_
  refine qG (sq 0 4) ?_
  refine qP 2 (sq 2 4) [(0, .int .u8 ((x.toNat : Nat) : Int)), (3, .int .u8 (((gpow x i).toNat : Nat) : Int)), (4, .I i), (9, .int .u8 (((gpow x i).toNat : Nat) : Int)), (10, .int .u8 ((x.toNat : Nat) : Int))] ?_
  refine qK .seq (some 11) (sq 3 4) 105 #[.int .u8 (((gpow x i).toNat : Nat) : Int), .int .u8 ((x.toNat : Nat) : Int)] (r1mul_spec (S := fun _ => True) (gpow x i) x) ?_
  rintro _ w4 hE5 rfl
  have H := H.ext hE5
  refine qF 1 [(0, .int .u8 ((x.toNat : Nat) : Int)), (3, .int .u8 (((gmul (gpow x i) x).toNat : Nat) : Int)), (4, .I i)] ?_
  refine qR 1 [.c [2, 0, 1, 0, 0, 2], .l [2, 0, 1, 0, 0], .b 0, .c [3]] [(0, .int .u8 ((x.toNat : Nat) : Int)), (3, .int .u8 (((gmul (gpow x i) x).toNat : Nat) : Int)), (4, .I i)] ?_
  refine qG (sq 0 3) ?_
  refine qP 1 (sq 1 3) [(0, .int .u8 ((x.toNat : Nat) : Int)), (3, .int .u8 (((gmul (gpow x i) x).toNat : Nat) : Int)), (4, .I i), (7, .I i)] ?_
  refine qI .seq 8 (sq 2 3) ((i : Int) + 1) ?_
  refine qF 1 [(0, .int .u8 ((x.toNat : Nat) : Int)), (3, .int .u8 (((gmul (gpow x i) x).toNat : Nat) : Int)), (4, .I ((i : Int) + 1))] ?_
  exact WK.back (hback1 (i + 1) _ ⟨H, by omega⟩ (by first | omega | (simp only []; omega))) (by rfl)
 ·
  refine qR 3 [.c [4]] [(2, .int .u8 (((gpow x i).toNat : Nat) : Int))] ?_
  refine qT (.int .u8 (((gpow x i).toNat : Nat) : Int)) Try.func104 ?_
  refine ⟨_, rfl, H.done, ?_⟩
  have hi9 : i = 254 := by omega
  rw [hi9]

theorem mixL_get {xs ys : List (BitVec 8)} {c : BitVec 8} {i : Nat} (h1 : i < xs.length) (h2 : i < ys.length) : (mixL xs ys c)[i]? = some (xs[i] ^^^ gmul ys[i] c) := by
 unfold mixL
 rw [List.getElem?_zipWith, List.getElem?_eq_getElem h1, List.getElem?_eq_getElem h2]

theorem r1mix_spec {S : Nat → Prop} {w : World} {xs ys : List (BitVec 8)} {a a2 : Option Addr} {k k2 : Nat} (c : BitVec 8) (h : SB.rep S w [.slice a xs.length k] xs) (h2 : SB.rep S w [.slice a2 ys.length k2] ys) (hl : xs.length = ys.length) (hby : xs.length ≤ 140737488355328) :
 Calls Try.prog 73 #[.slice a xs.length k, .slice a2 ys.length k2, .int .u8 ((c.toNat : Nat) : Int)] w (Ret fun v w' => Ext w w' ∧ ∃ (a' : Option Addr) (c' : Nat), v = .tuple #[.slice a' (mixL xs ys c).length c', .I 0] ∧ SB.rep (Nw S w) w' [.slice a' (mixL xs ys c).length c'] (mixL xs ys c)) := by
 have hml0 := mixL_len (c := c) hl
 refine qS (fn := Try.f73) (n := 36) (σ := [(0, .slice a xs.length k), (1, .slice a2 ys.length k2), (2, .int .u8 ((c.toNat : Nat) : Int))]) Try.func73 ?_
 have H := Hp.startF (w := w) (S := S) (G := [Rp SB [.slice a xs.length k] xs, Rp SB [.slice a2 ys.length k2] ys]) (.rp h (.rp h2 .nil))
 refine qR 5 [.c [1, 0, 1], .c [2]] [(0, .slice a xs.length k), (1, .slice a2 ys.length k2), (2, .int .u8 ((c.toNat : Nat) : Int)), (14, .bool (((xs.length : Nat) : Int) != ((ys.length : Nat) : Int)))] ?_
 refine qN ((xs.length : Nat) : Int) ((ys.length : Nat) : Int) (fun h1 => ?_) (fun h1 => ?_)
 ·
  omega
 ·
  refine qR 7 [.c [3, 0, 1, 0], .b 0, .c [4]] [(0, .slice a xs.length k), (1, .slice a2 ys.length k2), (2, .int .u8 ((c.toNat : Nat) : Int)), (8, .slice none 0 0), (9, .I 0)] ?_
  have H := H.ownNil Sb 5
  refine WK.loop (α := Nat × Option Addr × Nat) (b := cd Try.prog 73 [3, 0, 1, 0, 0]) (by as_aux_lemma => kernel_rfl) (fun st_ => match st_ with | (i, ao, co) => [(0, .slice a xs.length k), (1, .slice a2 ys.length k2), (2, .int .u8 ((c.toNat : Nat) : Int)), (8, .slice ao (((mixL xs ys c).take i).length) co), (9, .I i)]) (fun st_ w' => match st_ with | (i, ao, co) => Hp w S [] [] [⟨Sb, 5, .slice ao (((mixL xs ys c).take i).length) co, (mixL xs ys c).take i⟩] [Rp SB [.slice a xs.length k] xs, Rp SB [.slice a2 ys.length k2] ys] w' ∧ i ≤ xs.length) (fun st_ => match st_ with | (i, ao, co) => xs.length - i) (0, none, 0) ⟨H, Nat.zero_le _⟩ (rfl) ?_
  rintro ⟨i, ao, co⟩ w3 ⟨H, hinv0⟩ hback2
  refine qR 3 [.c [3, 0, 1, 0, 0, 0, 1], .c [3, 0, 1, 0, 0, 1], .l [3, 0, 1, 0, 0], .b 0, .c [4]] [(0, .slice a xs.length k), (1, .slice a2 ys.length k2), (2, .int .u8 ((c.toNat : Nat) : Int)), (8, .slice ao (((mixL xs ys c).take i).length) co), (9, .I i), (18, .bool (decide (((i : Int) : Int) < ((xs.length : Nat) : Int))))] ?_
  refine qD (((i : Int) : Int) < ((xs.length : Nat) : Int)) (fun h4 => ?_) (fun h4 => ?_)
  ·
   refine qR 3 [.c [3, 0, 1, 0, 0, 1, 0, 0], .b 1, .c [3, 0, 1, 0, 0, 2], .l [3, 0, 1, 0, 0], .b 0, .c [4]] [(0, .slice a xs.length k), (1, .slice a2 ys.length k2), (2, .int .u8 ((c.toNat : Nat) : Int)), (8, .slice ao (((mixL xs ys c).take i).length) co), (9, .I i)] ?_
   refine WK.draw1 13 [(0, .qui), (1, .qui), (2, .qui), (3, .qui), (4, .qui), (5, .qui), (6, .qui), (7, .qui), (8, .qui), (9, .qui), (10, .chn), (11, .qui), (12, .chn)] [(0, .qui), (1, .qui), (2, .qui), (3, .qui), (4, .qui), (5, .qui), (6, .qui), (7, .qui), (8, .qui), (9, .qui), (10, .chn), (11, .qui), (12, .chn), (13, .seq), (14, .seq)] Try_mixed (by as_aux_lemma => kernel_rfl) (by as_aux_lemma => kernel_rfl) (by as_aux_lemma => kernel_rfl) ?_
   have H := H.draw
   generalize ({ w3 with drawn := w3.drawn + 1 } : World) = w5 at H ⊢
   refine qP 3 [(3, .qui), (4, .qui), (5, .qui), (6, .qui), (7, .qui), (8, .qui), (9, .qui), (10, .chn), (11, .qui), (12, .chn), (13, .seq), (14, .seq)] [(0, .slice a xs.length k), (1, .slice a2 ys.length k2), (2, .int .u8 ((c.toNat : Nat) : Int)), (8, .slice ao (((mixL xs ys c).take i).length) co), (9, .I i), (21, .slice ao (((mixL xs ys c).take i).length) co), (22, .slice a xs.length k), (23, .I i)] ?_
   have hx6 : i < xs.length := by omega
   refine qX .qui 24 [(4, .qui), (5, .qui), (6, .qui), (7, .qui), (8, .qui), (9, .qui), (10, .chn), (11, .qui), (12, .chn), (13, .seq), (14, .seq)] 23 5 (i : Int) Sb (xs[i]) H 0 rfl i (by omega) (List.getElem?_eq_getElem hx6) ?_
   intro b7 o8 es9 hr10 H
   obtain rfl := hr10
   refine qL .qui 25 [(5, .qui), (6, .qui), (7, .qui), (8, .qui), (9, .qui), (10, .chn), (11, .qui), (12, .chn), (13, .seq), (14, .seq)] 5 b7 o8 0 (.int .u8 (((xs[i]).toNat : Nat) : Int)) (H.fc 0 rfl) ?_
   refine qP 2 [(7, .qui), (8, .qui), (9, .qui), (10, .chn), (11, .qui), (12, .chn), (13, .seq), (14, .seq)] [(0, .slice a xs.length k), (1, .slice a2 ys.length k2), (2, .int .u8 ((c.toNat : Nat) : Int)), (8, .slice ao (((mixL xs ys c).take i).length) co), (9, .I i), (21, .slice ao (((mixL xs ys c).take i).length) co), (25, .int .u8 (((xs[i]).toNat : Nat) : Int)), (26, .slice a2 ys.length k2), (27, .I i)] ?_
   have hx11 : i < ys.length := by omega
   refine qX .qui 28 [(8, .qui), (9, .qui), (10, .chn), (11, .qui), (12, .chn), (13, .seq), (14, .seq)] 23 5 (i : Int) Sb (ys[i]) H 2 rfl i (by omega) (List.getElem?_eq_getElem hx11) ?_
   intro b12 o13 es14 hr15 H
   obtain rfl := hr15
   refine qL .qui 29 [(9, .qui), (10, .chn), (11, .qui), (12, .chn), (13, .seq), (14, .seq)] 5 b12 o13 0 (.int .u8 (((ys[i]).toNat : Nat) : Int)) (H.fc 0 rfl) ?_
   refine qP 1 [(10, .chn), (11, .qui), (12, .chn), (13, .seq), (14, .seq)] [(0, .slice a xs.length k), (1, .slice a2 ys.length k2), (2, .int .u8 ((c.toNat : Nat) : Int)), (8, .slice ao (((mixL xs ys c).take i).length) co), (9, .I i), (21, .slice ao (((mixL xs ys c).take i).length) co), (25, .int .u8 (((xs[i]).toNat : Nat) : Int)), (29, .int .u8 (((ys[i]).toNat : Nat) : Int)), (30, .int .u8 ((c.toNat : Nat) : Int))] ?_
   refine qK .chn (some 31) [(11, .qui), (12, .chn), (13, .seq), (14, .seq)] 105 #[.int .u8 (((ys[i]).toNat : Nat) : Int), .int .u8 ((c.toNat : Nat) : Int)] (r1mul_spec (S := fun _ => True) (ys[i]) c) ?_
   rintro _ w16 hE17 rfl
   have H := H.ext hE17
   refine RW.pv (κ := .qui) (d := some 32) (r := [(12, .chn), (13, .seq), (14, .seq)]) (v := .int .u8 (IntKind.u8.wrap ((BitVec.ofInt 8 (((xs[i]).toNat : Nat) : Int) ^^^ BitVec.ofInt 8 (((gmul (ys[i]) c).toNat : Nat) : Int)).toNat : Nat))) (v' := .int .u8 (((((xs[i]) ^^^ (gmul (ys[i]) c)).toNat : Nat) : Int))) (by as_aux_lemma => kernel_rfl) (bv_xor8 (bvi _) (bvi _)) ?_
   refine RW.new (κ := .chn) (d := some 33) (r := [(13, .seq), (14, .seq)]) (o := .cells #[.int .u8 ((((xs[i]) ^^^ (gmul (ys[i]) c)).toNat : Nat) : Int)] 5 (0, 0)) (v := fun b => .slice (some ⟨b, 0, none⟩) 1 1) (fun b => by as_aux_lemma => kernel_rfl) (nofun) H ?_
   intro b18 w19 H
   have H := H.freeze 0 rfl Sb ([(xs[i]) ^^^ (gmul (ys[i]) c)] : List (BitVec 8)) 1 (by simp [maxLen]) (by first | exact Nat.le_refl _ | simp) (EsP.cons (c := [.int .u8 ((((xs[i]) ^^^ (gmul (ys[i]) c)).toNat : Nat) : Int)]) Shape.bv_mk EsP.nil)
   have H : Hp w S [] [] [⟨Sb, 5, .slice ao (((mixL xs ys c).take i).length) co, (mixL xs ys c).take i⟩] [Rp SB [.slice (some ⟨b18, 0, none⟩) 1 1] ([(xs[i]) ^^^ (gmul (ys[i]) c)] : List (BitVec 8)), Fc b12 o13 [.int .u8 (((ys[i]).toNat : Nat) : Int)], Fc b7 o8 [.int .u8 (((xs[i]).toNat : Nat) : Int)], Rp SB [.slice a xs.length k] xs, Rp SB [.slice a2 ys.length k2] ys] _ := H
   refine RW.appendW (d := some 34) (r := [(14, .seq)]) (T := 23) (ty := 23) (e := 5) (m := 1) (by_ := 1) (v := .slice ao (((mixL xs ys c).take i).length) co) (a2 := (some ⟨b18, 0, none⟩)) (l2 := 1) (c2 := 1) (zs := (mixL xs ys c).take (i + 1)) (by as_aux_lemma => kernel_rfl) (by as_aux_lemma => kernel_rfl) rfl H 0 rfl 0 rfl (take_snoc (mixL_get (by omega) (by omega))) (by rw [List.length_take]; omega) ?_
   intro a20 c21 w23 H hc22
   have H : Hp w S [] [] [⟨Sb, 5, .slice a20 (((mixL xs ys c).take (i + 1)).length) c21, (mixL xs ys c).take (i + 1)⟩] [Rp SB [.slice (some ⟨b18, 0, none⟩) 1 1] ([(xs[i]) ^^^ (gmul (ys[i]) c)] : List (BitVec 8)), Fc b12 o13 [.int .u8 (((ys[i]).toNat : Nat) : Int)], Fc b7 o8 [.int .u8 (((xs[i]).toNat : Nat) : Int)], Rp SB [.slice a xs.length k] xs, Rp SB [.slice a2 ys.length k2] ys] _ := H
   refine qF 1 [(0, .slice a xs.length k), (1, .slice a2 ys.length k2), (2, .int .u8 ((c.toNat : Nat) : Int)), (8, .slice a20 (((mixL xs ys c).take (i + 1)).length) c21), (9, .I i)] ?_
   refine qR 1 [.c [3, 0, 1, 0, 0, 2], .l [3, 0, 1, 0, 0], .b 0, .c [4]] [(0, .slice a xs.length k), (1, .slice a2 ys.length k2), (2, .int .u8 ((c.toNat : Nat) : Int)), (8, .slice a20 (((mixL xs ys c).take (i + 1)).length) c21), (9, .I i)] ?_
   refine qG (sq 0 3) ?_
   refine qP 1 (sq 1 3) [(0, .slice a xs.length k), (1, .slice a2 ys.length k2), (2, .int .u8 ((c.toNat : Nat) : Int)), (8, .slice a20 (((mixL xs ys c).take (i + 1)).length) c21), (9, .I i), (19, .I i)] ?_
   refine qI .seq 20 (sq 2 3) ((i : Int) + 1) ?_
   refine qF 1 [(0, .slice a xs.length k), (1, .slice a2 ys.length k2), (2, .int .u8 ((c.toNat : Nat) : Int)), (8, .slice a20 (((mixL xs ys c).take (i + 1)).length) c21), (9, .I ((i : Int) + 1))] ?_
   have H := H.pick [3, 4] rfl
   exact WK.back (hback2 (i + 1, a20, c21) _ ⟨H, by omega⟩ (by first | omega | (simp only []; omega))) (by as_aux_lemma => kernel_rfl)
  ·
   refine qR 3 [.c [5]] [(6, .slice ao (((mixL xs ys c).take i).length) co), (7, .I 0)] ?_
   refine qT (.tuple #[.slice ao (((mixL xs ys c).take i).length) co, .I 0]) Try.func73 ?_
   have H : Hp w S [] [] [] [Rp SB [.slice ao (((mixL xs ys c).take i).length) co] ((mixL xs ys c).take i), Rp SB [.slice a xs.length k] xs, Rp SB [.slice a2 ys.length k2] ys] _ := H.freezeW 0 rfl
   have hi9 : i = xs.length := by omega
   have hml : (mixL xs ys c).take i = mixL xs ys c := List.take_of_length_le (by rw [mixL_len hl]; omega)
   rw [hml] at H ⊢
   exact ⟨_, rfl, H.done, _, _, rfl, H.out (H.rp 0 rfl)⟩


end Go.Proofs.Ytppcdmbkgficiaa
