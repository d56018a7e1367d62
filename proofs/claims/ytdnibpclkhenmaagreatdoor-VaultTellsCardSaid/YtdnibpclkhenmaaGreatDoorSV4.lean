import Derived.Test.YtdnibpclkhenmaaGreatDoorSBxB
import Derived.Test.YtdnibpclkhenmaaGreatDoorSV1
import Derived.WalkKit
namespace Go.Proofs.YtdnibpclkhenmaaGreatDoor
open Go.BX
theorem ptook_spec {S : Nat → Prop} {w : World} {O : List Nat} {pp : Nat} {xs : List (BitVec 8)} {a : Option Addr} {c : Nat} {x : Int} (y : Int) (H0 : Hp w S O [(pp, .cells #[.slice a xs.length c, .I x] 355 (0, 0))] [] [] w) :
 Calls Tryz.prog 273 #[.P pp 0, .I y, .I 0] w (Ret fun v w' => v = .tuple #[] ∧ Hp w S O [(pp, .cells #[.slice a xs.length c, .I y] 355 (0, 0))] [] [] w') := by
 refine uS1 Tryz.func273 ?_
 have H := H0
 refine uR 5 [.c [1]] ?_
 refine qG (sq 0 5) ?_
 refine uP 4 ?_
 refine uW 3 1 #[.slice a xs.length c, .I y] H 0 rfl ?_
 intro _ H
 refine uF 0 ?_
 refine WK.fin (v := .tuple #[]) Tryz.func273 (by as_aux_lemma => kernel_rfl) ?_
 exact ⟨_, rfl, rfl, H⟩
theorem pnum_spec {S : Nat → Prop} {w : World} {O : List Nat} {pp k : Nat} {xs r : List (BitVec 8)} {a : Option Addr} {c : Nat} {n : Nat} (hn : n ≤ 18446744073709551615) (hk : k ≤ xs.length) (hd : xs.drop k = num n ++ r) (H0 : Hp w S O [(pp, .cells #[.slice a xs.length c, .I ((k : Nat) : Int)] 355 (0, 0))] [] [Rp SB [.slice a xs.length c] xs] w) :
 Calls Tryz.prog 272 #[.P pp 0] w (Ret fun v w' => v = .int .u64 (n : Int) ∧ Hp w S O [(pp, .cells #[.slice a xs.length c, .I ((k + (num n).length : Nat) : Int)] 355 (0, 0))] [] [] w') := by
 refine uS1 Tryz.func272 ?_
 have H := H0
 refine uR 3 [.c [1, 0], .c [2]] ?_
 refine WK.draw1 16 [(0, .qui), (1, .qui), (2, .qui), (3, .qui), (4, .qui), (5, .qui), (6, .qui), (7, .qui), (8, .chn), (9, .qui), (10, .qui), (11, .qui), (12, .qui), (13, .qui), (14, .qui), (15, .qui)] [(0, .qui), (1, .qui), (2, .qui), (3, .qui), (4, .qui), (5, .qui), (6, .qui), (7, .qui), (8, .chn), (9, .qui), (10, .qui), (11, .qui), (12, .qui), (13, .qui), (14, .qui), (15, .qui)] Tryz_mixed (by as_aux_lemma => kernel_rfl) (by as_aux_lemma => kernel_rfl) (by as_aux_lemma => kernel_rfl) ?_
 have H := H.draw
 generalize ({ w with drawn := w.drawn + 1 } : World) = f at H ⊢
 refine uP 3 ?_
 refine uV 23 0 (H.cells 0 rfl) ?_
 refine uP 3 ?_
 refine uV 3 1 (H.cells 0 rfl) ?_
 refine uK (number_spec (S := fun _ => True) (n := n) (H.viewR 0 rfl) hk hn hd) ?_
 rintro _ _ b rfl
 have H := H.ext b
 have d := drop_app hd
 have e : (k + (num n).length) ≤ xs.length := by have h9 := drop_in hd hk; omega
 refine uF 7 ?_
 refine uR 1 [.c [2, 0], .c [3]] ?_
 refine qG (sq 0 4) ?_
 refine uP 3 ?_
 refine uKS (ptook_spec ((k + (num n).length : Nat) : Int) ((H.lend (M1 := [_]) (W1 := [])).pick [] rfl)) ?_
 rintro _ _ ⟨rfl, H'⟩
 have H := H.back (M1 := [_]) (W1 := []) H'
 have H : Hp w S O [_] [] [_] _ := H
 refine uF 0 ?_
 refine uR 2 [.c [4]] ?_
 refine qT (.int .u64 (n : Int)) Tryz.func272 ?_
 have H := H.pick [] rfl
 exact ⟨_, rfl, rfl, H⟩
theorem pint_spec {S : Nat → Prop} {w : World} {O : List Nat} {pp k : Nat} {xs r : List (BitVec 8)} {a : Option Addr} {c : Nat} {x : Int} (hx : -9223372036854775808 ≤ x ∧ x ≤ 9223372036854775807) (hk : k ≤ xs.length) (hd : xs.drop k = intE x ++ r) (H0 : Hp w S O [(pp, .cells #[.slice a xs.length c, .I ((k : Nat) : Int)] 355 (0, 0))] [] [Rp SB [.slice a xs.length c] xs] w) :
 Calls Tryz.prog 227 #[.P pp 0] w (Ret fun v w' => v = .I x ∧ Hp w S O [(pp, .cells #[.slice a xs.length c, .I ((k + (intE x).length : Nat) : Int)] 355 (0, 0))] [] [] w') := by
 refine uS1 Tryz.func227 ?_
 have H := H0
 refine uR 3 [.c [1, 0], .c [2]] ?_
 refine WK.draw1 16 [(0, .qui), (1, .qui), (2, .qui), (3, .qui), (4, .qui), (5, .qui), (6, .qui), (7, .qui), (8, .chn), (9, .qui), (10, .qui), (11, .qui), (12, .qui), (13, .qui), (14, .qui), (15, .qui)] [(0, .qui), (1, .qui), (2, .qui), (3, .qui), (4, .qui), (5, .qui), (6, .qui), (7, .qui), (8, .chn), (9, .qui), (10, .qui), (11, .qui), (12, .qui), (13, .qui), (14, .qui), (15, .qui)] Tryz_mixed (by as_aux_lemma => kernel_rfl) (by as_aux_lemma => kernel_rfl) (by as_aux_lemma => kernel_rfl) ?_
 have H := H.draw
 generalize ({ w with drawn := w.drawn + 1 } : World) = f at H ⊢
 refine uP 3 ?_
 refine uV 23 0 (H.cells 0 rfl) ?_
 refine uP 3 ?_
 refine uV 3 1 (H.cells 0 rfl) ?_
 refine uK (int_spec (S := fun _ => True) (x := x) (H.viewR 0 rfl) hk hx hd) ?_
 rintro _ _ b rfl
 have H := H.ext b
 have d := drop_app hd
 have e : (k + (intE x).length) ≤ xs.length := by have h9 := drop_in hd hk; omega
 refine uF 7 ?_
 refine uR 1 [.c [2, 0], .c [3]] ?_
 refine qG (sq 0 4) ?_
 refine uP 3 ?_
 refine uKS (ptook_spec ((k + (intE x).length : Nat) : Int) ((H.lend (M1 := [_]) (W1 := [])).pick [] rfl)) ?_
 rintro _ _ ⟨rfl, H'⟩
 have H := H.back (M1 := [_]) (W1 := []) H'
 have H : Hp w S O [_] [] [_] _ := H
 refine uF 0 ?_
 refine uR 2 [.c [4]] ?_
 refine qT (.I x) Tryz.func227 ?_
 have H := H.pick [] rfl
 exact ⟨_, rfl, rfl, H⟩
theorem pword_spec {S : Nat → Prop} {w : World} {O : List Nat} {pp k : Nat} {xs r : List (BitVec 8)} {a : Option Addr} {c : Nat} {x : BitVec 32} (hk : k ≤ xs.length) (hd : xs.drop k = num x.toNat ++ r) (H0 : Hp w S O [(pp, .cells #[.slice a xs.length c, .I ((k : Nat) : Int)] 355 (0, 0))] [] [Rp SB [.slice a xs.length c] xs] w) :
 Calls Tryz.prog 228 #[.P pp 0] w (Ret fun v w' => v = .int .u32 ((x.toNat : Nat) : Int) ∧ Hp w S O [(pp, .cells #[.slice a xs.length c, .I ((k + (num x.toNat).length : Nat) : Int)] 355 (0, 0))] [] [] w') := by
 have hxl := x.isLt
 refine uS1 Tryz.func228 ?_
 have H := H0
 refine uR 3 [.c [1, 0], .c [2]] ?_
 refine qG (sq 0 3) ?_
 refine uP 1 ?_
 refine uKS (pnum_spec (n := x.toNat) (by omega) hk hd ((H.lend (M1 := [_]) (W1 := [])).pick [0] rfl)) ?_
 rintro _ _ ⟨rfl, H'⟩
 have H := H.back (M1 := [_]) (W1 := []) H'
 have e := drop_app hd
 have f : (k + (num x.toNat).length) ≤ xs.length := by have h9 := drop_in hd hk; omega
 have H : Hp w S O [_] [] [_] _ := H
 refine uF 1 ?_
 refine uR 2 [.c [2, 0, 0], .c [2, 0, 1], .c [3]] ?_
 refine qG (sq 0 3) ?_
 refine uP 1 ?_
 refine RW.pv (κ := .seq) (d := some 7) (r := (sq 2 3)) (v := .int .u64 (((x.toNat : Nat) : Int).fdiv (2 ^ 32))) (v' := .int .u64 (((x.toNat : Nat) : Int) / 4294967296)) (by as_aux_lemma => kernel_rfl) (shr_id (by decide) (by omega)) ?_
 refine uF 1 ?_
 refine qD ((((x.toNat : Nat) : Int) / 4294967296 : Int) > 0) (fun b => ?_) (fun b => ?_)
 ·
  omega
 ·
  refine uR 2 [.c [3, 0], .c [4]] ?_
  refine qG (sq 0 3) ?_
  refine uP 1 ?_
  refine RW.pv (κ := .seq) (d := some 12) (r := (sq 2 3)) (v' := .int .u32 ((x.toNat : Nat) : Int)) (v := .int .u32 (IntKind.u32.wrap (((x.toNat : Nat) : Int)))) (by as_aux_lemma => kernel_rfl) (wr_u32 (by omega)) ?_
  refine uF 1 ?_
  refine qT (.int .u32 ((x.toNat : Nat) : Int)) Tryz.func228 ?_
  have H := H.pick [] rfl
  exact ⟨_, rfl, rfl, H⟩
theorem pid_spec {S : Nat → Prop} {w : World} {O : List Nat} {pp k : Nat} {xs r : List (BitVec 8)} {a : Option Addr} {c : Nat} {D : CID} (hD : CidOk D) (hk : k ≤ xs.length) (hd : xs.drop k = idE D ++ r) (H0 : Hp w S O [(pp, .cells #[.slice a xs.length c, .I ((k : Nat) : Int)] 355 (0, 0))] [] [Rp SB [.slice a xs.length c] xs] w) :
 Calls Tryz.prog 226 #[.P pp 0] w (Ret fun v w' => v = .agg #[.int .u64 D.version, .I D.index, .int .u64 D.epoch] ∧ Hp w S O [(pp, .cells #[.slice a xs.length c, .I ((k + (idE D).length : Nat) : Int)] 355 (0, 0))] [] [] w') := by
 obtain ⟨g, h, i⟩ := hD
 unfold idE at hd
 simp only [List.append_assoc] at hd
 refine uS1 Tryz.func226 ?_
 have H := H0
 refine uR 1 [.c [0], .c [1]] ?_
 refine qG (sq 0 1) ?_
 refine uC #[.int .u64 0, .I 0, .int .u64 0] 82 H ?_
 intro j _ H
 refine uF 0 ?_
 refine uR 1 [.c [1, 0], .c [2]] ?_
 refine qG (sq 0 3) ?_
 refine uP 1 ?_
 have H := H.frontM 1 rfl
 refine uKS (pnum_spec (n := D.version.toNat) (by omega) hk hd ((H.lend (M1 := [_]) (W1 := [])).pick [0] rfl)) ?_
 rintro _ _ ⟨rfl, H'⟩
 have H := H.back (M1 := [_]) (W1 := []) H'
 have b := drop_app hd
 have e : (k + (num D.version.toNat).length) ≤ xs.length := by have h9 := drop_in hd hk; omega
 have H : Hp w S O [(pp, .cells #[.slice a xs.length c, .I ((k + (num D.version.toNat).length : Nat) : Int)] 355 (0, 0)), _] [] [_] _ := H
 refine uF 1 ?_
 refine uR 1 [.c [2, 0], .c [3]] ?_
 refine qG (sq 0 3) ?_
 refine uP 1 ?_
 refine uKS (pint_spec (x := D.index) h e b ((H.lend (M1 := [_]) (W1 := [])).pick [0] rfl)) ?_
 rintro _ _ ⟨rfl, H'⟩
 have H := H.back (M1 := [_]) (W1 := []) H'
 have d := drop_app b
 have f : ((k + (num D.version.toNat).length) + (intE D.index).length) ≤ xs.length := by have h9 := drop_in b e; omega
 have H : Hp w S O [(pp, .cells #[.slice a xs.length c, .I (((k + (num D.version.toNat).length) + (intE D.index).length : Nat) : Int)] 355 (0, 0)), _] [] [_] _ := H
 refine uF 1 ?_
 refine uR 1 [.c [3, 0], .c [4]] ?_
 refine qG (sq 0 6) ?_
 refine uP 3 ?_
 refine uKS (pnum_spec (n := D.epoch.toNat) (by omega) f d ((H.lend (M1 := [_]) (W1 := [])).pick [0] rfl)) ?_
 rintro _ _ ⟨rfl, H'⟩
 have H := H.back (M1 := [_]) (W1 := []) H'
 have l := drop_app d
 have m : (((k + (num D.version.toNat).length) + (intE D.index).length) + (num D.epoch.toNat).length) ≤ xs.length := by have h9 := drop_in d f; omega
 have H : Hp w S O [(pp, .cells #[.slice a xs.length c, .I ((((k + (num D.version.toNat).length) + (intE D.index).length) + (num D.epoch.toNat).length : Nat) : Int)] 355 (0, 0)), _] [] [_] _ := H
 refine qP 1 (sq 5 6) [(2, .P j 0), (13, .agg #[.int .u64 ((D.version.toNat : Nat) : Int), .I D.index, .int .u64 ((D.epoch.toNat : Nat) : Int)])] ?_
 refine uW 82 0 #[.int .u64 ((D.version.toNat : Nat) : Int), .I D.index, .int .u64 ((D.epoch.toNat : Nat) : Int)] H 1 rfl ?_
 intro _ H
 refine uF 0 ?_
 refine qRB (.agg #[.int .u64 ((D.version.toNat : Nat) : Int), .I D.index, .int .u64 ((D.epoch.toNat : Nat) : Int)]) Tryz.func226 (v1 (.cell 2 82) (vC (H.cells 1 rfl))) ?_
 have hkk : ((k + (num D.version.toNat).length) + (intE D.index).length) + (num D.epoch.toNat).length = k + (idE D).length := by unfold idE; simp only [List.length_append]; omega
 rw [hkk] at H
 have H := H.pick [] rfl
 have H := H.dropM 1
 exact ⟨_, rfl, by rw [Int.toNat_of_nonneg g.1, Int.toNat_of_nonneg i.1], H⟩
theorem phdr_spec {S : Nat → Prop} {w : World} {O : List Nat} {pp k : Nat} {xs r : List (BitVec 8)} {a : Option Addr} {c : Nat} {D : Hdr} (hD : HdrOk D) (hk : k ≤ xs.length) (hd : xs.drop k = hdrE D ++ r) (H0 : Hp w S O [(pp, .cells #[.slice a xs.length c, .I ((k : Nat) : Int)] 355 (0, 0))] [] [Rp SB [.slice a xs.length c] xs] w) :
 Calls Tryz.prog 189 #[.P pp 0] w (Ret fun v w' => v = .agg #[.int .u64 D.id.version, .I D.id.index, .int .u64 D.id.epoch, .I D.kk, .I D.nn, .I D.size, .int .u32 ((D.sum.toNat : Nat) : Int)] ∧ Hp w S O [(pp, .cells #[.slice a xs.length c, .I ((k + (hdrE D).length : Nat) : Int)] 355 (0, 0))] [] [] w') := by
 obtain ⟨l, m, n, o⟩ := hD
 unfold hdrE at hd
 simp only [List.append_assoc] at hd
 refine uS1 Tryz.func189 ?_
 have H := H0
 refine uR 1 [.c [0], .c [1]] ?_
 refine qG (sq 0 1) ?_
 refine uC #[.int .u64 0, .I 0, .int .u64 0, .I 0, .I 0, .I 0, .int .u32 0] 100 H ?_
 intro p _ H
 refine uF 0 ?_
 refine uR 1 [.c [1, 0], .c [2]] ?_
 refine qG (sq 0 5) ?_
 refine uP 1 ?_
 have H := H.frontM 1 rfl
 refine uKS (pid_spec (D := D.id) l hk hd ((H.lend (M1 := [_]) (W1 := [])).pick [0] rfl)) ?_
 rintro _ _ ⟨rfl, H'⟩
 have H := H.back (M1 := [_]) (W1 := []) H'
 have f := drop_app hd
 have j : (k + (idE D.id).length) ≤ xs.length := by have h9 := drop_in hd hk; omega
 have H : Hp w S O [(pp, .cells #[.slice a xs.length c, .I ((k + (idE D.id).length : Nat) : Int)] 355 (0, 0)), _] [] [_] _ := H
 refine uP 1 ?_
 refine uC #[.int .u64 0, .I 0, .int .u64 0, .I 0, .I 0, .I 0, .int .u32 0] 100 H ?_
 intro q _ H
 refine uW 100 0 #[.int .u64 D.id.version, .I D.id.index, .int .u64 D.id.epoch, .I 0, .I 0, .I 0, .int .u32 0] H 0 rfl ?_
 intro _ H
 refine uF 0 ?_
 refine uR 1 [.c [2, 0], .c [3]] ?_
 refine qG (sq 0 4) ?_
 refine uP 1 ?_
 have H := H.frontM 1 rfl
 refine uKS (pint_spec (x := D.kk) m j f ((H.lend (M1 := [_]) (W1 := [])).pick [0] rfl)) ?_
 rintro _ _ ⟨rfl, H'⟩
 have H := H.back (M1 := [_]) (W1 := []) H'
 have b := drop_app f
 have g : ((k + (idE D.id).length) + (intE D.kk).length) ≤ xs.length := by have h9 := drop_in f j; omega
 have H : Hp w S O [(pp, .cells #[.slice a xs.length c, .I (((k + (idE D.id).length) + (intE D.kk).length : Nat) : Int)] 355 (0, 0)), _, _] [] [_] _ := H
 refine uP 1 ?_
 refine uW 3 3 #[.int .u64 D.id.version, .I D.id.index, .int .u64 D.id.epoch, .I D.kk, .I 0, .I 0, .int .u32 0] H 1 rfl ?_
 intro _ H
 refine uF 0 ?_
 refine qR 1 [.c [3, 0], .c [4]] [(0, .P pp 0), (2, .P p 0), (3, .P q 0)] ?_
 refine qG (sq 0 4) ?_
 refine uP 1 ?_
 refine uKS (pint_spec (x := D.nn) n g b ((H.lend (M1 := [_]) (W1 := [])).pick [0] rfl)) ?_
 rintro _ _ ⟨rfl, H'⟩
 have H := H.back (M1 := [_]) (W1 := []) H'
 have d := drop_app b
 have h : (((k + (idE D.id).length) + (intE D.kk).length) + (intE D.nn).length) ≤ xs.length := by have h9 := drop_in b g; omega
 have H : Hp w S O [(pp, .cells #[.slice a xs.length c, .I ((((k + (idE D.id).length) + (intE D.kk).length) + (intE D.nn).length : Nat) : Int)] 355 (0, 0)), _, _] [] [_] _ := H
 refine uP 1 ?_
 refine uW 3 4 #[.int .u64 D.id.version, .I D.id.index, .int .u64 D.id.epoch, .I D.kk, .I D.nn, .I 0, .int .u32 0] H 1 rfl ?_
 intro _ H
 refine uF 0 ?_
 refine uR 1 [.c [4, 0], .c [5]] ?_
 refine qG (sq 0 4) ?_
 refine uP 1 ?_
 refine uKS (pint_spec (x := D.size) o h d ((H.lend (M1 := [_]) (W1 := [])).pick [0] rfl)) ?_
 rintro _ _ ⟨rfl, H'⟩
 have H := H.back (M1 := [_]) (W1 := []) H'
 have e := drop_app d
 have i : ((((k + (idE D.id).length) + (intE D.kk).length) + (intE D.nn).length) + (intE D.size).length) ≤ xs.length := by have h9 := drop_in d h; omega
 have H : Hp w S O [(pp, .cells #[.slice a xs.length c, .I (((((k + (idE D.id).length) + (intE D.kk).length) + (intE D.nn).length) + (intE D.size).length : Nat) : Int)] 355 (0, 0)), _, _] [] [_] _ := H
 refine uP 1 ?_
 refine uW 3 5 #[.int .u64 D.id.version, .I D.id.index, .int .u64 D.id.epoch, .I D.kk, .I D.nn, .I D.size, .int .u32 0] H 1 rfl ?_
 intro _ H
 refine uF 0 ?_
 refine uR 1 [.c [5, 0], .c [6]] ?_
 refine qG (sq 0 4) ?_
 refine uP 1 ?_
 refine uKS (pword_spec (x := D.sum)  i e ((H.lend (M1 := [_]) (W1 := [])).pick [0] rfl)) ?_
 rintro _ _ ⟨rfl, H'⟩
 have H := H.back (M1 := [_]) (W1 := []) H'
 have s := drop_app e
 have t : (((((k + (idE D.id).length) + (intE D.kk).length) + (intE D.nn).length) + (intE D.size).length) + (num D.sum.toNat).length) ≤ xs.length := by have h9 := drop_in e i; omega
 have H : Hp w S O [(pp, .cells #[.slice a xs.length c, .I ((((((k + (idE D.id).length) + (intE D.kk).length) + (intE D.nn).length) + (intE D.size).length) + (num D.sum.toNat).length : Nat) : Int)] 355 (0, 0)), _, _] [] [_] _ := H
 refine uP 1 ?_
 refine uW 80 6 #[.int .u64 D.id.version, .I D.id.index, .int .u64 D.id.epoch, .I D.kk, .I D.nn, .I D.size, .int .u32 ((D.sum.toNat : Nat) : Int)] H 1 rfl ?_
 intro _ H
 refine qF 0 [(2, .P p 0), (3, .P q 0)] ?_
 refine uR 1 [.c [6, 0], .c [7]] ?_
 refine qG (sq 0 2) ?_
 refine uV 100 0 (H.cells 1 rfl) ?_
 refine uW 100 0 #[.int .u64 D.id.version, .I D.id.index, .int .u64 D.id.epoch, .I D.kk, .I D.nn, .I D.size, .int .u32 ((D.sum.toNat : Nat) : Int)] H 2 rfl ?_
 intro _ H
 refine uF 0 ?_
 refine qRB (.agg #[.int .u64 D.id.version, .I D.id.index, .int .u64 D.id.epoch, .I D.kk, .I D.nn, .I D.size, .int .u32 ((D.sum.toNat : Nat) : Int)]) Tryz.func189 (v1 (.cell 2 100) (vC (H.cells 2 rfl))) ?_
 have hkk : ((((k + (idE D.id).length) + (intE D.kk).length) + (intE D.nn).length) + (intE D.size).length) + (num D.sum.toNat).length = k + (hdrE D).length := by unfold hdrE; simp only [List.length_append]; omega
 rw [hkk] at H
 have H := H.pick [] rfl
 have H := H.take 1 0
 exact ⟨_, rfl, rfl, H⟩
set_option maxRecDepth 100000 in
theorem got_idle (p q r s : Addr) (w : World) : CallsD Tryz.prog 225 #[.pointer (some p), .pointer (some q), .pointer (some r), .pointer (some s)] .returning w fun e u' w' => e = .returned (.tuple #[]) ∧ u' = .returning ∧ w' = w := by
 refine callsD_of_wpS Tryz.func225 rfl fun c₀ cs hu => ?_
 apply wpS_seq
 apply wpS_region
 simp [wpOpsS, go_sem, recoverD, hu, Tryz.ntmps225, Exit.thenS]
 refine wpS_of_wp ?_
 have hnil : ∀ w : World, (binOp BinOp.eql 20 .nilIface .nilIface).run Tryz.prog w = .ok (.bool true) w := fun _ => by kernel_rfl
 go_wp2
 cases c₀
 simp_all [bodyPostS, results, Tryz.results225]
theorem got_defer (p q r s : Addr) : Idle Tryz.prog ⟨.fn (.func 225) #[.pointer (some p), .pointer (some q), .pointer (some r), .pointer (some s)], #[]⟩ :=
 ⟨_, _, 225, #[.pointer (some p), .pointer (some q), .pointer (some r), .pointer (some s)], rfl, fun w => by simp [invoke, go_sem], fun w => got_idle p q r s w⟩
theorem gothdr_spec {S : Nat → Prop} {w : World} {xs r : List (BitVec 8)} {a : Option Addr} {c k : Nat} (h : SB.rep S w [.slice a xs.length c] xs) {D : Hdr} (hD : HdrOk D) (hk : k ≤ xs.length) (hd : xs.drop k = hdrE D ++ r) :
 Calls Tryz.prog 188 #[.slice a xs.length c, .I k, .func (.func 189) #[] #[]] w (Ret fun v w' => Ext w w' ∧ v = .tuple #[.agg #[.int .u64 D.id.version, .I D.id.index, .int .u64 D.id.epoch, .I D.kk, .I D.nn, .I D.size, .int .u32 ((D.sum.toNat : Nat) : Int)], .I ((k + (hdrE D).length : Nat) : Int), .I 0]) := by
 have hal := Shape.slice_len h
 refine uS1 Tryz.func188 ?_
 have H := Hp.startF (.rp h .nil)
 refine uR 1 [.c [0], .c [1]] ?_
 refine qG (sq 0 3) ?_
 refine uC #[.int .u64 0, .I 0, .int .u64 0, .I 0, .I 0, .I 0, .int .u32 0] 100 H ?_
 intro e _ H
 refine uC #[.I 0] 3 H ?_
 intro f _ H
 refine uC #[.I 0] 28 H ?_
 intro g _ H
 refine uF 0 ?_
 refine uR 1 [.c [1, 0], .c [2]] ?_
 refine qG (sq 0 1) ?_
 refine uC #[.int .u64 0, .I 0, .int .u64 0, .I 0, .I 0, .I 0, .int .u32 0] 100 H ?_
 intro i _ H
 refine uF 0 ?_
 refine uR 2 [.c [2, 0, 0], .c [2, 0, 1], .c [3]] ?_
 refine qG (sq 0 8) ?_
 refine uP 3 ?_
 refine uD 13 (((k : Int) : Int) < 0) (fun u => ?_) (fun u => ?_)
 ·
  omega
 ·
  refine uF 5 ?_
  refine qD (((k : Int) : Int) > ((xs.length : Nat) : Int)) (fun A => ?_) (fun A => ?_)
  ·
   omega
  ·
   refine qR 2 [.c [3, 0], .c [4]] [(0, .slice a xs.length c), (1, .I k), (2, .func (.func 189) #[] #[]), (6, .P e 0), (7, .P f 0), (8, .P g 0), (9, .P i 0)] ?_
   refine WK.defer2 (σ' := (20, .func (.func 225) #[] #[.P i 0, .P e 0, .P f 0, .P g 0]) :: [(0, .slice a xs.length c), (1, .I k), (2, .func (.func 189) #[] #[]), (6, .P e 0), (7, .P f 0), (8, .P g 0), (9, .P i 0)]) (o1 := op1 (cd Tryz.prog 188 [3, 0])) (o := op2 (cd Tryz.prog 188 [3, 0])) ⟨.fn (.func 225) #[.P i 0, .P e 0, .P f 0, .P g 0], #[]⟩ (by as_aux_lemma => kernel_rfl) (by as_aux_lemma => kernel_rfl) (by as_aux_lemma => kernel_rfl) (by as_aux_lemma => kernel_rfl) (by as_aux_lemma => kernel_rfl) (by as_aux_lemma => kernel_rfl) ?_
   refine uR 1 [.c [4, 0], .c [5]] ?_
   refine qG (sq 0 5) ?_
   refine uP 3 ?_
   refine uC #[.slice a xs.length c, .I k] 355 H ?_
   intro t _ H
   refine uF 1 ?_
   refine uR 1 [.c [5, 0], .c [6]] ?_
   refine qG (sq 0 4) ?_
   refine uP 2 ?_
   refine uKS (phdr_spec (D := D) hD hk hd ((H.lend (M1 := [_]) (W1 := [])).pick [0] rfl)) ?_
   rintro _ _ ⟨rfl, H'⟩
   have H := H.back (M1 := [_]) (W1 := []) H'
   have C := drop_app hd
   have E : (k + (hdrE D).length) ≤ xs.length := by have u := drop_in hd hk; omega
   have H : Hp w S [] [(t, .cells #[.slice a xs.length c, .I ((k + (hdrE D).length : Nat) : Int)] 355 (0, 0)), (i, .cells #[.int .u64 0, .I 0, .int .u64 0, .I 0, .I 0, .I 0, .int .u32 0] 100 (0, 0)), (g, .cells #[.I 0] 28 (0, 0)), (f, .cells #[.I 0] 3 (0, 0)), (e, .cells #[.int .u64 0, .I 0, .int .u64 0, .I 0, .I 0, .I 0, .int .u32 0] 100 (0, 0))] [] [_] _ := H
   refine uW 100 0 #[.int .u64 D.id.version, .I D.id.index, .int .u64 D.id.epoch, .I D.kk, .I D.nn, .I D.size, .int .u32 ((D.sum.toNat : Nat) : Int)] H 4 rfl ?_
   intro _ H
   refine uF 0 ?_
   refine uR 1 [.c [6, 0], .c [7]] ?_
   refine WK.drawH1 [e, f, g] (.leaf [(1, .qui), (2, .qui), (3, .qui), (4, .qui), (0, .seq), (5, .seq), (6, .seq), (7, .seq)]) Tryz_mixed (by as_aux_lemma => kernel_rfl) (by as_aux_lemma => kernel_rfl) ?_
   intro B j
   have H := H.draw
   rw [← j] at H
   clear j
   have hS := Chg.refl B [e, f, g]
   refine RG.leaf' [(1, .qui), (2, .qui), (3, .qui), (4, .qui), (0, .seq), (5, .seq), (6, .seq), (7, .seq)] (by as_aux_lemma => kernel_rfl) ?_
   refine uHP hS 3 ?_
   refine RH.load (d := some 32) (r := [(0, .seq), (5, .seq), (6, .seq), (7, .seq)]) (T := 3) (b := t) (o' := 1) (k := 1) (v := .I ((k + (hdrE D).length : Nat) : Int)) (by as_aux_lemma => kernel_rfl) hS (H.cells 0 rfl) (by intro hq; simp only [List.mem_cons, List.not_mem_nil, or_false] at hq; rcases hq with hq | hq | hq; exact H.raws 0 4 rfl rfl (by decide) hq; exact H.raws 0 3 rfl rfl (by decide) hq; exact H.raws 0 2 rfl rfl (by decide) hq) (by simp) rfl (by as_aux_lemma => kernel_rfl) ?_
   have Hr := H
   refine RH.chn hS ?_
   refine uV 100 0 (H.cells 4 rfl) ?_
   intro hS
   have Hr := H
   refine RH.sto ?_
   refine uWC 100 0 #[.int .u64 D.id.version, .I D.id.index, .int .u64 D.id.epoch, .I D.kk, .I D.nn, .I D.size, .int .u32 ((D.sum.toNat : Nat) : Int)] H 4 rfl ?_
   intro _ p H
   have l := hS.sto p (.inr (by simp))
   refine ⟨l, ?_⟩
   have hS := l
   refine RH.sto ?_
   refine uWC 3 0 #[.I ((k + (hdrE D).length : Nat) : Int)] H 3 rfl ?_
   intro _ q H
   have m := hS.sto q (.inr (by simp))
   refine ⟨m, ?_⟩
   have hS := m
   refine RH.sto ?_
   refine uWC 28 0 #[.I 0] H 2 rfl ?_
   intro _ s H
   have n := hS.sto s (.inr (by simp))
   refine ⟨n, ?_⟩
   have hS := n
   refine uHF hS 0 ?_
   refine WK.retD (v := .tuple #[.agg #[.int .u64 D.id.version, .I D.id.index, .int .u64 D.id.epoch, .I D.kk, .I D.nn, .I D.size, .int .u32 ((D.sum.toNat : Nat) : Int)], .I ((k + (hdrE D).length : Nat) : Int), .I 0]) Tryz.func188 (by as_aux_lemma => kernel_rfl) (got_defer ⟨i, 0, none⟩ ⟨e, 0, none⟩ ⟨f, 0, none⟩ ⟨g, 0, none⟩) (RV.res3 (x := .cell 6 100) (y := .cell 7 3) (z := .cell 8 28) (by as_aux_lemma => kernel_rfl) (RV.cell (k := 0) (by as_aux_lemma => kernel_rfl) (H.cells 4 rfl) rfl (by as_aux_lemma => kernel_rfl)) (RV.cell (k := 0) (by as_aux_lemma => kernel_rfl) (H.cells 3 rfl) rfl (by as_aux_lemma => kernel_rfl)) (RV.cell (k := 0) (by as_aux_lemma => kernel_rfl) (H.cells 2 rfl) rfl (by as_aux_lemma => kernel_rfl))) ?_
   exact ⟨_, rfl, H.done, rfl⟩
theorem header_spec {S : Nat → Prop} {w : World} {xs r : List (BitVec 8)} {a : Option Addr} {c k : Nat} (h : SB.rep S w [.slice a xs.length c] xs) {D : Hdr} (hD : HdrOk D) (hk : k ≤ xs.length) (hd : xs.drop k = hdrE D ++ r) :
 Calls Tryz.prog 139 #[.slice a xs.length c, .I k] w (Ret fun v w' => Ext w w' ∧ v = .tuple #[.agg #[.int .u64 D.id.version, .I D.id.index, .int .u64 D.id.epoch, .I D.kk, .I D.nn, .I D.size, .int .u32 ((D.sum.toNat : Nat) : Int)], .I ((k + (hdrE D).length : Nat) : Int), .I 0]) := by
 refine uS1 Tryz.func139 ?_
 have H := Hp.startF (.rp h .nil)
 refine uR 1 [.c [0], .c [1]] ?_
 refine qG (sq 0 3) ?_
 refine uC #[.int .u64 0, .I 0, .int .u64 0, .I 0, .I 0, .I 0, .int .u32 0] 100 H ?_
 intro _ _ H
 refine uF 2 ?_
 refine uR 1 [.c [1, 0], .c [2]] ?_
 refine qG (sq 0 9) ?_
 refine uP 2 ?_
 refine uK (gothdr_spec (S := fun _ => True) (D := D) (H.viewR 0 rfl) hD hk hd) ?_
 rintro _ _ b rfl
 have H := H.ext b
 have d := drop_app hd
 have e : (k + (hdrE D).length) ≤ xs.length := by have h9 := drop_in hd hk; omega
 refine uP 3 ?_
 refine uW 100 0 #[.int .u64 D.id.version, .I D.id.index, .int .u64 D.id.epoch, .I D.kk, .I D.nn, .I D.size, .int .u32 ((D.sum.toNat : Nat) : Int)] H 0 rfl ?_
 intro _ H
 refine uF 2 ?_
 refine qRB (.tuple #[.agg #[.int .u64 D.id.version, .I D.id.index, .int .u64 D.id.epoch, .I D.kk, .I D.nn, .I D.size, .int .u32 ((D.sum.toNat : Nat) : Int)], .I ((k + (hdrE D).length : Nat) : Int), .I 0]) Tryz.func139 (v3 (.cell 4 100) (.tmp 5) (.tmp 6) (vC (H.cells 0 rfl)) vT vT) ?_
 exact ⟨_, rfl, H.done, rfl⟩
end Go.Proofs.YtdnibpclkhenmaaGreatDoor
