import Derived.Test.YtppcdmbkgficiaaSBxA
import Derived.Test.YtppcdmbkgficiaaSK2
namespace Go.Proofs.Ytppcdmbkgficiaa
open Go.BX
theorem row_xs {A : List RowD} {i : Nat} {q : RowD} (h : A[i]? = some q) : rowAt (A.map RowD.xs) i = q.xs := by
 unfold rowAt
 rw [List.getElem?_map, h]; rfl
theorem ent_xs {A : List RowD} {i j : Nat} {q : RowD} (h : A[i]? = some q) (hj : j < q.xs.length) : entAt (A.map RowD.xs) i j = q.xs[j] := by
 unfold entAt
 rw [row_xs h, List.getElem?_eq_getElem hj]; rfl
theorem swap_xs {A : List RowD} {i j : Nat} {p q : RowD} (h1 : A[i]? = some p) (h2 : A[j]? = some q) : (swapR A i j).map RowD.xs = swapL (A.map RowD.xs) i j := by
 rw [swapR_map _ h1 h2]
 unfold swapL
 rw [row_xs h1, row_xs h2]
theorem clear_end {Ls Rs L1 R1 : List (List (BitVec 8))} {pl pr : List (BitVec 8)} {dn cc r : Nat} (hL : Ls.length = r) (hR : Rs.length = r) (hpl : pl = scaleL (rowAt Ls dn) (ginv (entAt Ls dn cc))) (hpr : pr = scaleL (rowAt Rs dn) (ginv (entAt Ls dn cc))) (hL1 : L1 = Ls.set dn pl) (hR1 : R1 = Rs.set dn pr) :
 clTo L1 L1 pl dn cc r = clearL Ls dn cc ∧ clTo R1 L1 pr dn cc r = clearR Ls Rs dn cc := by
 subst hpl hpr hL1 hR1
 unfold clearL clearR
 dsimp only
 rw [List.length_set, hL, hR]
 exact ⟨rfl, rfl⟩
theorem at_rows {A3 : List RowD} {A1 L1 : List (List (BitVec 8))} {p : List (BitVec 8)} {dn cc m i : Nat} {q : RowD} (h3 : A3.map RowD.xs = clTo A1 L1 p dn cc m) (hi : i < A1.length) (h : m ≤ i ∨ i = dn) (hq : A3[i]? = some q) : q.xs = A1[i] := by
 have a : (A3.map RowD.xs)[i]? = some q.xs := by rw [List.getElem?_map, hq]; rfl
 rw [h3, clTo_at hi h] at a
 exact (Option.some.inj a).symm
theorem hit_rows {A3 : List RowD} {A1 L1 : List (List (BitVec 8))} {p : List (BitVec 8)} {dn cc i : Nat} {x : BitVec 8} {q s : RowD} (h3 : A3.map RowD.xs = clTo A1 L1 p dn cc i) (hi : i < A1.length) (hd : dn < A1.length) (hp : A1[dn] = p) (hq : A3[i]? = some q) (hs : A3[dn]? = some s) (hne : i ≠ dn) (hx : entAt L1 i cc = x) (hx0 : x ≠ 0#8) :
 (A3.set i (q.to (mixL q.xs s.xs x))).map RowD.xs = clTo A1 L1 p dn cc (i + 1) := by
 have a := at_rows h3 hi (.inl (Nat.le_refl _)) hq
 have b := at_rows h3 hd (.inr rfl) hs
 rw [rowsX_set, h3, b, hp]
 exact clTo_hit' hi hne hx hx0 a.symm
theorem redTo_full {L R : List (List (BitVec 8))} {m : Nat} (hl : (redTo L R m).2.1.length ≤ (redTo L R m).1) : ∀ n, redTo L R (m + n) = redTo L R m
 | 0 => rfl
 | n + 1 => by
  rw [← Nat.add_assoc, redTo_succ, redTo_full hl n]
  exact redStep_miss (dn := (redTo L R m).1) (L := (redTo L R m).2.1) (R := (redTo L R m).2.2) (firstP_none fun j h1 h2 => absurd (Nat.lt_of_lt_of_le h2 hl) (Nat.not_lt.2 h1))
set_option maxHeartbeats 8000000 in
theorem r2reduce_spec {S : Nat → Prop} {w : World} {O : List Nat} {ma oa : Option Addr} {mk ok r c d : Nat} {A0 B0 : List RowD} (H0 : Hp w S O [] (⟨Shape.raw, 23, .slice ma r mk, A0.map RowD.v⟩ :: ⟨Shape.raw, 23, .slice oa r ok, B0.map RowD.v⟩ :: (rowsW 5 (A0 ++ B0))) [] w) (hA0 : Wf A0 r c) (hB0 : Wf B0 r d) (hr : 1 ≤ r ∧ r ≤ 255) (hc : 1 ≤ c ∧ c ≤ 255) (hd : d ≤ 255) :
 Calls Try.prog 133 #[.slice ma r mk, .slice oa r ok] w (Ret fun v w' => ∃ A B : List RowD, v = .I (((redTo (A0.map RowD.xs) (B0.map RowD.xs) c).1 : Nat) : Int) ∧ Wf A r c ∧ Wf B r d ∧ A.map RowD.xs = (redTo (A0.map RowD.xs) (B0.map RowD.xs) c).2.1 ∧ B.map RowD.xs = (redTo (A0.map RowD.xs) (B0.map RowD.xs) c).2.2 ∧ Hp w S O [] (⟨Shape.raw, 23, .slice ma r mk, A.map RowD.v⟩ :: ⟨Shape.raw, 23, .slice oa r ok, B.map RowD.v⟩ :: (rowsW 5 (A ++ B))) [] w') := by
 refine uS1 Try.func133 ?_
 have H := H0
 refine uR 8 [.c [2, 0, 1, 0], .b 0, .c [3]] ?_
 refine uL (α := Nat × Nat × List RowD × List RowD) (g := 133) (p := [2, 0, 1, 0, 0]) (fun (cc, dn, A, B) => [(0, .slice ma r mk), (1, .slice oa r ok), (5, .I dn), (6, .I cc)]) (fun (cc, dn, A, B) w' => Hp w S O [] (⟨Shape.raw, 23, .slice ma r mk, A.map RowD.v⟩ :: ⟨Shape.raw, 23, .slice oa r ok, B.map RowD.v⟩ :: (rowsW 5 (A ++ B))) [] w' ∧ cc ≤ c ∧ (dn, A.map RowD.xs, B.map RowD.xs) = redTo (A0.map RowD.xs) (B0.map RowD.xs) cc ∧ dn ≤ r ∧ Wf A r c ∧ Wf B r d) (fun (cc, dn, A, B) => c - cc) (0, 0, A0, B0) ⟨H, by omega, rfl, by omega, hA0, hB0⟩ ?_
 rintro ⟨cc, dn, A, B⟩ _ ⟨H, I1⟩ q0
 obtain ⟨hcc, hred, hdn, hA, hB⟩ := I1
 refine uR 2 [.c [2, 0, 1, 0, 0, 0, 0], .c [2, 0, 1, 0, 0, 0, 1], .c [2, 0, 1, 0, 0, 1], .l [2, 0, 1, 0, 0], .b 0, .c [3]] ?_
 refine WK.join (fun b_ : Bool => b_ = decide ((cc : Int) < c ∧ (dn : Int) < r)) (fun b_ => [(0, .slice ma r mk), (1, .slice oa r ok), (5, .I dn), (6, .I cc), (22, .bool b_)]) [Cq Try.prog 133 [2, 0, 1, 0, 0, 0, 1], Cq Try.prog 133 [2, 0, 1, 0, 0, 1], Lq Try.prog 133 [2, 0, 1, 0, 0], .inBlock 0, Cq Try.prog 133 [3]] (fun u2 => ?_) (fun Z2 i1 => ?_)
 ·
  refine qG (sq 0 12) ?_
  refine uP 2 ?_
  obtain ⟨q6, v2⟩ : ∃ z, A[0]? = some z := ⟨_, List.getElem?_eq_getElem (by rw [hA.1]; omega)⟩
  obtain ⟨_, _⟩ := hA.at v2
  have a3 : r = (A.map RowD.v).length := by first | rw [List.length_map, hA.1] | rw [List.length_set, List.length_map, hA.1]
  have b3 : 0 < (A.map RowD.v).length := by first | (rw [List.length_map, hA.1]; omega) | (rw [List.length_set, List.length_map, hA.1]; omega)
  refine RW.indexW (κ := .seq) (d := some 13) (r := (sq 3 12)) (T := 29) (e := 23) (m := 1) (ik := .i64) (ix := 0) (sh := Shape.raw) (xs := A.map RowD.v) (a := ma) (len := r) (cap := mk) (by as_aux_lemma => kernel_rfl) (by as_aux_lemma => kernel_rfl) rfl H 0 (by omega) b3 a3 ?_
  intro _ _ _ a1 j1
  rw [rowsV_at v2] at j1
  obtain ⟨rfl, -⟩ := j1
  refine uV 23 0 a1 ?_
  refine uP 3 ?_
  refine uD 17 (((cc : Int) : Int) < ((q6.n : Nat) : Int)) (fun c3 => ?_) (fun c3 => ?_)
  ·
   refine uF 5 ?_
   exact uB (u2 (decide (((dn : Int) : Int) < ((r : Nat) : Int))) (decide_eq_decide.2 (by constructor <;> intro _ <;> omega)))
  ·
   refine uF 5 ?_
   exact uB (u2 false ((decide_eq_false (by omega)).symm))
 ·
  refine qC Z2 (fun e0 => ?_) (fun e0 => ?_)
  ·
   rw [i1] at e0
   replace e0 := of_decide_eq_true e0
   refine uR 7 [.c [2, 0, 1, 0, 0, 1, 0, 0, 1, 0, 0], .b 2, .c [2, 0, 1, 0, 0, 1, 0, 0, 2], .b 1, .c [2, 0, 1, 0, 0, 2], .l [2, 0, 1, 0, 0], .b 0, .c [3]] ?_
   refine uL (α := Nat) (g := 133) (p := [2, 0, 1, 0, 0, 1, 0, 0, 1, 0, 0, 0]) (fun p => [(0, .slice ma r mk), (1, .slice oa r ok), (5, .I dn), (6, .I cc), (7, .I p)]) (fun p w' => Hp w S O [] (⟨Shape.raw, 23, .slice ma r mk, A.map RowD.v⟩ :: ⟨Shape.raw, 23, .slice oa r ok, B.map RowD.v⟩ :: (rowsW 5 (A ++ B))) [] w' ∧ dn ≤ p ∧ p ≤ r ∧ ∀ j, dn ≤ j → j < p → entAt (A.map RowD.xs) j cc = 0#8) (fun p => r - p) dn ⟨H, Nat.le_refl _, hdn, fun j h1 h2 => by omega⟩ ?_
   rintro p x2 ⟨H, W⟩ b1
   refine uR 2 [.c [2, 0, 1, 0, 0, 1, 0, 0, 1, 0, 0, 0, 0, 0], .c [2, 0, 1, 0, 0, 1, 0, 0, 1, 0, 0, 0, 0, 1], .c [2, 0, 1, 0, 0, 1, 0, 0, 1, 0, 0, 0, 1], .l [2, 0, 1, 0, 0, 1, 0, 0, 1, 0, 0, 0], .b 2, .c [2, 0, 1, 0, 0, 1, 0, 0, 2], .b 1, .c [2, 0, 1, 0, 0, 2], .l [2, 0, 1, 0, 0], .b 0, .c [3]] ?_
   refine qG (sq 0 14) ?_
   refine uP 5 ?_
   refine uD 30 (((p : Int) : Int) < ((r : Nat) : Int)) (fun d3 => ?_) (fun d3 => ?_)
   ·
    refine uP 2 ?_
    obtain ⟨V, f0⟩ : ∃ z, A[p]? = some z := ⟨_, List.getElem?_eq_getElem (by rw [hA.1]; omega)⟩
    obtain ⟨_, _⟩ := hA.at f0
    have A2 : r = (A.map RowD.v).length := by first | rw [List.length_map, hA.1] | rw [List.length_set, List.length_map, hA.1]
    have B2 : p < (A.map RowD.v).length := by first | (rw [List.length_map, hA.1]; omega) | (rw [List.length_set, List.length_map, hA.1]; omega)
    refine RW.indexW (κ := .seq) (d := some 33) (r := (sq 8 14)) (T := 29) (e := 23) (m := 1) (ik := .i64) (ix := (p : Int)) (sh := Shape.raw) (xs := A.map RowD.v) (a := ma) (len := r) (cap := mk) (by as_aux_lemma => kernel_rfl) (by as_aux_lemma => kernel_rfl) rfl H p (by omega) B2 A2 ?_
    intro _ _ _ c1 k1
    rw [rowsV_at f0] at k1
    obtain ⟨rfl, -⟩ := k1
    refine uV 23 0 c1 ?_
    refine uP 1 ?_
    obtain ⟨_, C2, -⟩ := rows_one (two_atA f0 (B := B))
    have D2 : V.n = V.xs.length := by omega
    have E2 : cc < V.xs.length := by omega
    refine RW.indexW (κ := .seq) (d := some 36) (r := (sq 11 14)) (T := 23) (e := 5) (m := 1) (ik := .i64) (ix := (cc : Int)) (sh := Sb) (xs := V.xs) (a := V.a) (len := V.n) (cap := V.c) (by as_aux_lemma => kernel_rfl) (by as_aux_lemma => kernel_rfl) rfl (H.rowOut1 (pre := [⟨Shape.raw, 23, .slice ma r mk, A.map RowD.v⟩, ⟨Shape.raw, 23, .slice oa r ok, B.map RowD.v⟩]) C2) cc (by omega) E2 D2 ?_
    intro _ _ _ d1 F2
    obtain rfl := F2
    refine uV 5 0 d1 ?_
    refine uF 2 ?_
    refine qE (((V.xs[cc]).toNat : Nat) : Int) 0 (fun e3 => ?_) (fun e3 => ?_)
    ·
     have f3 : entAt (A.map RowD.xs) p cc = 0#8 := by rw [ent_xs f0 (by omega)]; exact bvz0 (by omega)
     refine uR 2 [.c [2, 0, 1, 0, 0, 1, 0, 0, 1, 0, 0, 0, 1, 0], .b 3, .l [2, 0, 1, 0, 0, 1, 0, 0, 1, 0, 0, 0], .b 2, .c [2, 0, 1, 0, 0, 1, 0, 0, 2], .b 1, .c [2, 0, 1, 0, 0, 2], .l [2, 0, 1, 0, 0], .b 0, .c [3]] ?_
     refine qG (sq 0 3) ?_
     refine uP 1 ?_
     refine uI ((p : Int) + 1) ?_
     refine uF 1 ?_
     refine qR 1 [.l [2, 0, 1, 0, 0, 1, 0, 0, 1, 0, 0, 0], .b 2, .c [2, 0, 1, 0, 0, 1, 0, 0, 2], .b 1, .c [2, 0, 1, 0, 0, 2], .l [2, 0, 1, 0, 0], .b 0, .c [3]] [(0, .slice ma r mk), (1, .slice oa r ok), (5, .I dn), (6, .I cc), (7, .I ((p : Int) + 1))] ?_
     exact WK.back (b1 (p + 1) _ ⟨H, by omega, by omega, fun j h1 h2 => by
      rcases Nat.lt_or_ge j p with h3 | h3
      · exact W.2.2 j h1 h3
      · obtain rfl : j = p := by omega
        exact f3⟩ (by first | omega | (simp only []; omega))) (by as_aux_lemma => kernel_rfl)
    ·
     have hez : entAt (A.map RowD.xs) p cc ≠ 0#8 := by rw [ent_xs f0 (by omega)]; exact bvz (by omega)
     have hfp : firstP (A.map RowD.xs) cc dn = some p := firstP_some (by rw [hA.len]; omega) W.1 hez W.2.2
     refine uR 4 [.c [2, 0, 1, 0, 0, 1, 0, 0, 2, 0, 1], .c [2, 0, 1, 0, 0, 1, 0, 0, 3], .b 1, .c [2, 0, 1, 0, 0, 2], .l [2, 0, 1, 0, 0], .b 0, .c [3]] ?_
     refine qE (p : Int) ((r : Nat) : Int) (fun g3 => ?_) (fun g3 => ?_)
     ·
      omega
     ·
      refine qR 2 [.c [2, 0, 1, 0, 0, 1, 0, 0, 3, 0], .c [2, 0, 1, 0, 0, 1, 0, 0, 4], .b 1, .c [2, 0, 1, 0, 0, 2], .l [2, 0, 1, 0, 0], .b 0, .c [3]] [(0, .slice ma r mk), (1, .slice oa r ok), (5, .I dn), (6, .I cc), (7, .I p)] ?_
      refine WK.joinW (fun w_ => Hp w S O [] (⟨Shape.raw, 23, .slice ma r mk, (swapR A p dn).map RowD.v⟩ :: ⟨Shape.raw, 23, .slice oa r ok, B.map RowD.v⟩ :: (rowsW 5 (A ++ B))) [] w_) [(0, .slice ma r mk), (1, .slice oa r ok), (5, .I dn), (6, .I cc), (7, .I p)] [Cq Try.prog 133 [2, 0, 1, 0, 0, 1, 0, 0, 4], .inBlock 1, Cq Try.prog 133 [2, 0, 1, 0, 0, 2], Lq Try.prog 133 [2, 0, 1, 0, 0], .inBlock 0, Cq Try.prog 133 [3]] (fun G2 => ?_) (fun y2 H => ?_)
      ·
       refine WK.drawP1 13 [0, 1, 2, 3, 4, 5, 8, 9] [(55, .I p), (54, .slice ma r mk), (51, .I dn), (50, .slice ma r mk), (49, .I dn), (48, .slice ma r mk), (47, .I p), (46, .slice ma r mk), (0, .slice ma r mk), (1, .slice oa r ok), (5, .I dn), (6, .I cc), (7, .I p)] (qs [6, 7, 10, 11, 12]) [(6, .qui), (7, .qui), (10, .qui), (11, .qui), (12, .qui), (13, .seq), (14, .seq), (15, .seq)] Try_mixed (by as_aux_lemma => kernel_rfl) (by as_aux_lemma => kernel_rfl) (by as_aux_lemma => kernel_rfl) (by as_aux_lemma => kernel_rfl) ?_
       have H := H.draw
       generalize ({ x2 with drawn := x2.drawn + 1 } : World) = n3 at H ⊢
       obtain ⟨E, t0⟩ : ∃ z, A[dn]? = some z := ⟨_, List.getElem?_eq_getElem (by rw [hA.1]; omega)⟩
       obtain ⟨_, _⟩ := hA.at t0
       have H2 : r = (A.map RowD.v).length := by first | rw [List.length_map, hA.1] | rw [List.length_set, List.length_map, hA.1]
       have I2 : dn < (A.map RowD.v).length := by first | (rw [List.length_map, hA.1]; omega) | (rw [List.length_set, List.length_map, hA.1]; omega)
       refine RW.indexW (κ := .qui) (d := some 52) (r := [(7, .qui), (10, .qui), (11, .qui), (12, .qui), (13, .seq), (14, .seq), (15, .seq)]) (T := 29) (e := 23) (m := 1) (ik := .i64) (ix := (dn : Int)) (sh := Shape.raw) (xs := A.map RowD.v) (a := ma) (len := r) (cap := mk) (by as_aux_lemma => kernel_rfl) (by as_aux_lemma => kernel_rfl) rfl H dn (by omega) I2 H2 ?_
       intro _ _ _ e1 l1
       rw [rowsV_at t0] at l1
       obtain ⟨rfl, -⟩ := l1
       refine uV 23 0 e1 ?_
       obtain ⟨g0, u0⟩ : ∃ z, A[p]? = some z := ⟨_, List.getElem?_eq_getElem (by rw [hA.1]; omega)⟩
       obtain ⟨_, _⟩ := hA.at u0
       have J2 : r = (A.map RowD.v).length := by first | rw [List.length_map, hA.1] | rw [List.length_set, List.length_map, hA.1]
       have K2 : p < (A.map RowD.v).length := by first | (rw [List.length_map, hA.1]; omega) | (rw [List.length_set, List.length_map, hA.1]; omega)
       refine RW.indexW (κ := .qui) (d := some 56) (r := [(11, .qui), (12, .qui), (13, .seq), (14, .seq), (15, .seq)]) (T := 29) (e := 23) (m := 1) (ik := .i64) (ix := (p : Int)) (sh := Shape.raw) (xs := A.map RowD.v) (a := ma) (len := r) (cap := mk) (by as_aux_lemma => kernel_rfl) (by as_aux_lemma => kernel_rfl) rfl H p (by omega) K2 J2 ?_
       intro _ _ _ f1 m1
       rw [rowsV_at u0] at m1
       obtain ⟨rfl, -⟩ := m1
       refine uV 23 0 f1 ?_
       have n1 : r = (A.map RowD.v).length := by first | rw [List.length_map, hA.1] | rw [List.length_set, List.length_map, hA.1]
       have o1 : p < (A.map RowD.v).length := by first | (rw [List.length_map, hA.1]; omega) | (rw [List.length_set, List.length_map, hA.1]; omega)
       refine RW.indexW (κ := .qui) (d := some 58) (r := [(13, .seq), (14, .seq), (15, .seq)]) (T := 29) (e := 23) (m := 1) (ik := .i64) (ix := (p : Int)) (sh := Shape.raw) (xs := A.map RowD.v) (a := ma) (len := r) (cap := mk) (by as_aux_lemma => kernel_rfl) (by as_aux_lemma => kernel_rfl) rfl H p (by omega) o1 n1 ?_
       intro b63 _ L2 _ M2
       obtain ⟨rfl, -⟩ := M2
       refine RW.storeW (d := none) (r := [(14, .seq), (15, .seq)]) (e := 23) (m := 1) (b := b63) (k := p) (v := .slice E.a E.n E.c) (by as_aux_lemma => kernel_rfl) rfl (by as_aux_lemma => kernel_rfl) H L2 o1 n1 (.slice E.a E.n E.c : Value) ⟨rfl, rfl⟩ ?_
       intro _ H
       have p1 : r = ((A.map RowD.v).set p (.slice E.a E.n E.c : Value)).length := by first | rw [List.length_map, hA.1] | rw [List.length_set, List.length_map, hA.1]
       have q1 : dn < ((A.map RowD.v).set p (.slice E.a E.n E.c : Value)).length := by first | (rw [List.length_map, hA.1]; omega) | (rw [List.length_set, List.length_map, hA.1]; omega)
       refine RW.indexW (κ := .seq) (d := some 59) (r := [(15, .seq)]) (T := 29) (e := 23) (m := 1) (ik := .i64) (ix := (dn : Int)) (sh := Shape.raw) (xs := (A.map RowD.v).set p (.slice E.a E.n E.c : Value)) (a := ma) (len := r) (cap := mk) (by as_aux_lemma => kernel_rfl) (by as_aux_lemma => kernel_rfl) rfl H dn (by omega) q1 p1 ?_
       intro i3 _ N2 _ O2
       obtain ⟨rfl, -⟩ := O2
       refine RW.storeW (d := none) (r := []) (e := 23) (m := 1) (b := i3) (k := dn) (v := .slice g0.a g0.n g0.c) (by as_aux_lemma => kernel_rfl) rfl (by as_aux_lemma => kernel_rfl) H N2 q1 p1 (.slice g0.a g0.n g0.c : Value) ⟨rfl, rfl⟩ ?_
       intro _ H
       have H := H.reW (ys := (swapR A p dn).map RowD.v) ((swapR_map RowD.v u0 t0).symm)
       refine uF 0 ?_
       exact uB (G2 _ H)
      ·
       refine uR 1 [.c [2, 0, 1, 0, 0, 1, 0, 0, 4, 0], .c [2, 0, 1, 0, 0, 1, 0, 0, 5], .b 1, .c [2, 0, 1, 0, 0, 2], .l [2, 0, 1, 0, 0], .b 0, .c [3]] ?_
       refine WK.joinW (fun w_ => Hp w S O [] (⟨Shape.raw, 23, .slice ma r mk, (swapR A p dn).map RowD.v⟩ :: ⟨Shape.raw, 23, .slice oa r ok, (swapR B p dn).map RowD.v⟩ :: (rowsW 5 (A ++ B))) [] w_) [(0, .slice ma r mk), (1, .slice oa r ok), (5, .I dn), (6, .I cc)] [Cq Try.prog 133 [2, 0, 1, 0, 0, 1, 0, 0, 5], .inBlock 1, Cq Try.prog 133 [2, 0, 1, 0, 0, 2], Lq Try.prog 133 [2, 0, 1, 0, 0], .inBlock 0, Cq Try.prog 133 [3]] (fun P2 => ?_) (fun o3 H => ?_)
       ·
        refine WK.drawP1 13 [0, 1, 2, 3, 4, 5, 8, 9] [(69, .I p), (68, .slice oa r ok), (65, .I dn), (64, .slice oa r ok), (63, .I dn), (62, .slice oa r ok), (61, .I p), (60, .slice oa r ok), (0, .slice ma r mk), (1, .slice oa r ok), (5, .I dn), (6, .I cc), (7, .I p)] (qs [6, 7, 10, 11, 12]) [(6, .qui), (7, .qui), (10, .qui), (11, .qui), (12, .qui), (13, .seq), (14, .seq), (15, .seq)] Try_mixed (by as_aux_lemma => kernel_rfl) (by as_aux_lemma => kernel_rfl) (by as_aux_lemma => kernel_rfl) (by as_aux_lemma => kernel_rfl) ?_
        have H := H.draw
        generalize ({ y2 with drawn := y2.drawn + 1 } : World) = p3 at H ⊢
        obtain ⟨F, v0⟩ : ∃ z, B[dn]? = some z := ⟨_, List.getElem?_eq_getElem (by rw [hB.1]; omega)⟩
        obtain ⟨_, _⟩ := hB.at v0
        have H := H.frontW 1 (W' := (⟨Shape.raw, 23, .slice oa r ok, B.map RowD.v⟩ :: ⟨Shape.raw, 23, .slice ma r mk, (swapR A p dn).map RowD.v⟩ :: (rowsW 5 (A ++ B)))) rfl
        have Q2 : r = (B.map RowD.v).length := by first | rw [List.length_map, hB.1] | rw [List.length_set, List.length_map, hB.1]
        have R2 : dn < (B.map RowD.v).length := by first | (rw [List.length_map, hB.1]; omega) | (rw [List.length_set, List.length_map, hB.1]; omega)
        refine RW.indexW (κ := .qui) (d := some 66) (r := [(7, .qui), (10, .qui), (11, .qui), (12, .qui), (13, .seq), (14, .seq), (15, .seq)]) (T := 29) (e := 23) (m := 1) (ik := .i64) (ix := (dn : Int)) (sh := Shape.raw) (xs := B.map RowD.v) (a := oa) (len := r) (cap := ok) (by as_aux_lemma => kernel_rfl) (by as_aux_lemma => kernel_rfl) rfl H dn (by omega) R2 Q2 ?_
        intro _ _ _ g1 r1
        rw [rowsV_at v0] at r1
        obtain ⟨rfl, -⟩ := r1
        refine uV 23 0 g1 ?_
        obtain ⟨h0, w0⟩ : ∃ z, B[p]? = some z := ⟨_, List.getElem?_eq_getElem (by rw [hB.1]; omega)⟩
        obtain ⟨_, _⟩ := hB.at w0
        have S2 : r = (B.map RowD.v).length := by first | rw [List.length_map, hB.1] | rw [List.length_set, List.length_map, hB.1]
        have T2 : p < (B.map RowD.v).length := by first | (rw [List.length_map, hB.1]; omega) | (rw [List.length_set, List.length_map, hB.1]; omega)
        refine RW.indexW (κ := .qui) (d := some 70) (r := [(11, .qui), (12, .qui), (13, .seq), (14, .seq), (15, .seq)]) (T := 29) (e := 23) (m := 1) (ik := .i64) (ix := (p : Int)) (sh := Shape.raw) (xs := B.map RowD.v) (a := oa) (len := r) (cap := ok) (by as_aux_lemma => kernel_rfl) (by as_aux_lemma => kernel_rfl) rfl H p (by omega) T2 S2 ?_
        intro _ _ _ hcell96 s1
        rw [rowsV_at w0] at s1
        obtain ⟨rfl, -⟩ := s1
        refine uV 23 0 hcell96 ?_
        have t1 : r = (B.map RowD.v).length := by first | rw [List.length_map, hB.1] | rw [List.length_set, List.length_map, hB.1]
        have u1 : p < (B.map RowD.v).length := by first | (rw [List.length_map, hB.1]; omega) | (rw [List.length_set, List.length_map, hB.1]; omega)
        refine RW.indexW (κ := .qui) (d := some 72) (r := [(13, .seq), (14, .seq), (15, .seq)]) (T := 29) (e := 23) (m := 1) (ik := .i64) (ix := (p : Int)) (sh := Shape.raw) (xs := B.map RowD.v) (a := oa) (len := r) (cap := ok) (by as_aux_lemma => kernel_rfl) (by as_aux_lemma => kernel_rfl) rfl H p (by omega) u1 t1 ?_
        intro U2 _ J1 _ K1
        obtain ⟨rfl, -⟩ := K1
        refine RW.storeW (d := none) (r := [(14, .seq), (15, .seq)]) (e := 23) (m := 1) (b := U2) (k := p) (v := .slice F.a F.n F.c) (by as_aux_lemma => kernel_rfl) rfl (by as_aux_lemma => kernel_rfl) H J1 u1 t1 (.slice F.a F.n F.c : Value) ⟨rfl, rfl⟩ ?_
        intro _ H
        have O0 : r = ((B.map RowD.v).set p (.slice F.a F.n F.c : Value)).length := by first | rw [List.length_map, hB.1] | rw [List.length_set, List.length_map, hB.1]
        have P0 : dn < ((B.map RowD.v).set p (.slice F.a F.n F.c : Value)).length := by first | (rw [List.length_map, hB.1]; omega) | (rw [List.length_set, List.length_map, hB.1]; omega)
        refine RW.indexW (κ := .seq) (d := some 73) (r := [(15, .seq)]) (T := 29) (e := 23) (m := 1) (ik := .i64) (ix := (dn : Int)) (sh := Shape.raw) (xs := (B.map RowD.v).set p (.slice F.a F.n F.c : Value)) (a := oa) (len := r) (cap := ok) (by as_aux_lemma => kernel_rfl) (by as_aux_lemma => kernel_rfl) rfl H dn (by omega) P0 O0 ?_
        intro V2 _ ha110 _ M1
        obtain ⟨rfl, -⟩ := M1
        refine RW.storeW (d := none) (r := []) (e := 23) (m := 1) (b := V2) (k := dn) (v := .slice h0.a h0.n h0.c) (by as_aux_lemma => kernel_rfl) rfl (by as_aux_lemma => kernel_rfl) H ha110 P0 O0 (.slice h0.a h0.n h0.c : Value) ⟨rfl, rfl⟩ ?_
        intro _ H
        have H := H.reW (ys := (swapR B p dn).map RowD.v) ((swapR_map RowD.v w0 v0).symm)
        refine uF 0 ?_
        have H := H.frontW 1 (W' := (⟨Shape.raw, 23, .slice ma r mk, (swapR A p dn).map RowD.v⟩ :: ⟨Shape.raw, 23, .slice oa r ok, (swapR B p dn).map RowD.v⟩ :: (rowsW 5 (A ++ B)))) rfl
        exact uB (P2 _ H)
       ·
        refine uR 1 [.c [2, 0, 1, 0, 0, 1, 0, 0, 5, 0], .c [2, 0, 1, 0, 0, 1, 0, 0, 6], .b 1, .c [2, 0, 1, 0, 0, 2], .l [2, 0, 1, 0, 0], .b 0, .c [3]] ?_
        refine qG (sq 0 9) ?_
        refine uP 2 ?_
        obtain ⟨_, X⟩ : ∃ z, A[p]? = some z := ⟨_, List.getElem?_eq_getElem (by rw [hA.1]; omega)⟩
        obtain ⟨_, _⟩ := hA.at X
        obtain ⟨_, Y⟩ : ∃ z, A[dn]? = some z := ⟨_, List.getElem?_eq_getElem (by rw [hA.1]; omega)⟩
        obtain ⟨_, _⟩ := hA.at Y
        obtain ⟨_, Z⟩ : ∃ z, B[p]? = some z := ⟨_, List.getElem?_eq_getElem (by rw [hB.1]; omega)⟩
        obtain ⟨_, _⟩ := hB.at Z
        obtain ⟨_, a0⟩ : ∃ z, B[dn]? = some z := ⟨_, List.getElem?_eq_getElem (by rw [hB.1]; omega)⟩
        obtain ⟨_, _⟩ := hB.at a0
        have H := H.perms (M' := []) (W' := (⟨Shape.raw, 23, .slice ma r mk, (swapR A p dn).map RowD.v⟩ :: ⟨Shape.raw, 23, .slice oa r ok, (swapR B p dn).map RowD.v⟩ :: (rowsW 5 ((swapR A p dn) ++ (swapR B p dn))))) (List.Perm.refl _) (((rowsW_swap (swapR_perm X Y)).trans (rowsW_swapB (swapR_perm Z a0))).append_left ([⟨Shape.raw, 23, .slice ma r mk, (swapR A p dn).map RowD.v⟩, ⟨Shape.raw, 23, .slice oa r ok, (swapR B p dn).map RowD.v⟩] : List OwnS))
        have H : Hp w S O [] _ [] _ := H
        obtain ⟨J, v1⟩ : ∃ z, z = swapR A p dn := ⟨_, rfl⟩
        obtain ⟨G, w1⟩ : ∃ z, z = swapR B p dn := ⟨_, rfl⟩
        rw [← v1, ← w1] at H
        have u : Wf J r c := v1 ▸ hA.swap (swapR_perm X Y)
        have K : Wf G r d := w1 ▸ hB.swap (swapR_perm Z a0)
        have hLs : J.map RowD.xs = swapL (A.map RowD.xs) p dn := by rw [v1]; exact swap_xs X Y
        have hRs : G.map RowD.xs = swapL (B.map RowD.xs) p dn := by rw [w1]; exact swap_xs Z a0
        have H : Hp w S O [] (⟨Shape.raw, 23, .slice ma r mk, J.map RowD.v⟩ :: ⟨Shape.raw, 23, .slice oa r ok, G.map RowD.v⟩ :: (rowsW 5 (J ++ G))) [] _ := H
        obtain ⟨o, b0⟩ : ∃ z, J[dn]? = some z := ⟨_, List.getElem?_eq_getElem (by rw [u.1]; omega)⟩
        obtain ⟨_, _⟩ := u.at b0
        have N1 : r = (J.map RowD.v).length := by first | rw [List.length_map, u.1] | rw [List.length_set, List.length_map, u.1]
        have O1 : dn < (J.map RowD.v).length := by first | (rw [List.length_map, u.1]; omega) | (rw [List.length_set, List.length_map, u.1]; omega)
        refine RW.indexW (κ := .seq) (d := some 76) (r := (sq 3 9)) (T := 29) (e := 23) (m := 1) (ik := .i64) (ix := (dn : Int)) (sh := Shape.raw) (xs := J.map RowD.v) (a := ma) (len := r) (cap := mk) (by as_aux_lemma => kernel_rfl) (by as_aux_lemma => kernel_rfl) rfl H dn (by omega) O1 N1 ?_
        intro _ _ _ x0 Q0
        rw [rowsV_at b0] at Q0
        obtain ⟨rfl, -⟩ := Q0
        refine uV 23 0 x0 ?_
        refine uP 1 ?_
        obtain ⟨_, P1, -⟩ := rows_one (two_atA b0 (B := G))
        have Q1 : o.n = o.xs.length := by omega
        have hx134 : cc < o.xs.length := by omega
        refine RW.indexW (κ := .seq) (d := some 79) (r := (sq 6 9)) (T := 23) (e := 5) (m := 1) (ik := .i64) (ix := (cc : Int)) (sh := Sb) (xs := o.xs) (a := o.a) (len := o.n) (cap := o.c) (by as_aux_lemma => kernel_rfl) (by as_aux_lemma => kernel_rfl) rfl (H.rowOut1 (pre := [⟨Shape.raw, 23, .slice ma r mk, J.map RowD.v⟩, ⟨Shape.raw, 23, .slice oa r ok, G.map RowD.v⟩]) P1) cc (by omega) hx134 Q1 ?_
        intro _ _ _ y0 S1
        obtain rfl := S1
        refine uV 5 0 y0 ?_
        refine uK (r1inv_spec (S := fun _ => True) (o.xs[cc])) ?_
        rintro _ _ T1 rfl
        have H := H.ext T1
        refine uF 1 ?_
        refine uR 1 [.c [2, 0, 1, 0, 0, 1, 0, 0, 6, 0], .c [2, 0, 1, 0, 0, 1, 0, 0, 7], .b 1, .c [2, 0, 1, 0, 0, 2], .l [2, 0, 1, 0, 0], .b 0, .c [3]] ?_
        refine qG (sq 0 6) ?_
        refine uP 2 ?_
        obtain ⟨i0, N⟩ : ∃ z, J[dn]? = some z := ⟨_, List.getElem?_eq_getElem (by rw [u.1]; omega)⟩
        obtain ⟨_, _⟩ := u.at N
        have U1 : r = (J.map RowD.v).length := by first | rw [List.length_map, u.1] | rw [List.length_set, List.length_map, u.1]
        have V1 : dn < (J.map RowD.v).length := by first | (rw [List.length_map, u.1]; omega) | (rw [List.length_set, List.length_map, u.1]; omega)
        refine RW.indexW (κ := .seq) (d := some 84) (r := (sq 3 6)) (T := 29) (e := 23) (m := 1) (ik := .i64) (ix := (dn : Int)) (sh := Shape.raw) (xs := J.map RowD.v) (a := ma) (len := r) (cap := mk) (by as_aux_lemma => kernel_rfl) (by as_aux_lemma => kernel_rfl) rfl H dn (by omega) V1 U1 ?_
        intro _ _ _ z0 R0
        rw [rowsV_at N] at R0
        obtain ⟨rfl, -⟩ := R0
        refine uV 23 0 z0 ?_
        refine uP 1 ?_
        refine uKS (scale_two (pre := [⟨Shape.raw, 23, .slice ma r mk, J.map RowD.v⟩, ⟨Shape.raw, 23, .slice oa r ok, G.map RowD.v⟩]) (R := J ++ G) (k := dn) H (gpow (o.xs[cc]) 254) (two_atA N) (by omega) (by omega)) ?_
        rintro _ _ ⟨rfl, H⟩
        replace H := two_set N H
        obtain ⟨y, j0⟩ : ∃ z, z = (J.set dn (i0.to (scaleL i0.xs (gpow (o.xs[cc]) 254)))) := ⟨_, rfl⟩
        rw [← j0] at H
        have H : Hp w S O [] (⟨Shape.raw, 23, .slice ma r mk, y.map RowD.v⟩ :: ⟨Shape.raw, 23, .slice oa r ok, G.map RowD.v⟩ :: (rowsW 5 (y ++ G))) [] _ := H
        have r0 := j0 ▸ u.set N (xs := scaleL i0.xs (gpow (o.xs[cc]) 254)) (by rw [scaleL_len]; omega)
        refine qF 0 [(0, .slice ma r mk), (1, .slice oa r ok), (5, .I dn), (6, .I cc), (8, .int .u8 (((gpow (o.xs[cc]) 254).toNat : Nat) : Int))] ?_
        refine uR 1 [.c [2, 0, 1, 0, 0, 1, 0, 0, 7, 0], .c [2, 0, 1, 0, 0, 1, 0, 0, 8], .b 1, .c [2, 0, 1, 0, 0, 2], .l [2, 0, 1, 0, 0], .b 0, .c [3]] ?_
        refine qG (sq 0 6) ?_
        refine uP 2 ?_
        obtain ⟨k0, P⟩ : ∃ z, G[dn]? = some z := ⟨_, List.getElem?_eq_getElem (by rw [K.1]; omega)⟩
        obtain ⟨_, _⟩ := K.at P
        have H := H.frontW 1 (W' := (⟨Shape.raw, 23, .slice oa r ok, G.map RowD.v⟩ :: ⟨Shape.raw, 23, .slice ma r mk, y.map RowD.v⟩ :: (rowsW 5 (y ++ G)))) rfl
        have W1 : r = (G.map RowD.v).length := by first | rw [List.length_map, K.1] | rw [List.length_set, List.length_map, K.1]
        have X1 : dn < (G.map RowD.v).length := by first | (rw [List.length_map, K.1]; omega) | (rw [List.length_set, List.length_map, K.1]; omega)
        refine RW.indexW (κ := .seq) (d := some 90) (r := (sq 3 6)) (T := 29) (e := 23) (m := 1) (ik := .i64) (ix := (dn : Int)) (sh := Shape.raw) (xs := G.map RowD.v) (a := oa) (len := r) (cap := ok) (by as_aux_lemma => kernel_rfl) (by as_aux_lemma => kernel_rfl) rfl H dn (by omega) X1 W1 ?_
        intro _ _ _ C0 S0
        rw [rowsV_at P] at S0
        obtain ⟨rfl, -⟩ := S0
        refine uV 23 0 C0 ?_
        refine uP 1 ?_
        have H := H.frontW 1 (W' := (⟨Shape.raw, 23, .slice ma r mk, y.map RowD.v⟩ :: ⟨Shape.raw, 23, .slice oa r ok, G.map RowD.v⟩ :: (rowsW 5 (y ++ G)))) rfl
        refine uKS (scale_two (pre := [⟨Shape.raw, 23, .slice ma r mk, y.map RowD.v⟩, ⟨Shape.raw, 23, .slice oa r ok, G.map RowD.v⟩]) (R := y ++ G) (k := y.length + dn) H (gpow (o.xs[cc]) 254) (two_atB P) (by omega) (by omega)) ?_
        rintro _ _ ⟨rfl, H⟩
        replace H := two_setB' P H
        obtain ⟨l0, m0⟩ : ∃ z, z = (G.set dn (k0.to (scaleL k0.xs (gpow (o.xs[cc]) 254)))) := ⟨_, rfl⟩
        rw [← m0] at H
        have H : Hp w S O [] (⟨Shape.raw, 23, .slice ma r mk, y.map RowD.v⟩ :: ⟨Shape.raw, 23, .slice oa r ok, l0.map RowD.v⟩ :: (rowsW 5 (y ++ l0))) [] _ := H
        have s0 := m0 ▸ K.set P (xs := scaleL k0.xs (gpow (o.xs[cc]) 254)) (by rw [scaleL_len]; omega)
        refine uF 0 ?_
        refine uR 4 [.c [2, 0, 1, 0, 0, 1, 0, 0, 8, 0, 1, 0], .b 4, .c [2, 0, 1, 0, 0, 1, 0, 0, 9], .b 1, .c [2, 0, 1, 0, 0, 2], .l [2, 0, 1, 0, 0], .b 0, .c [3]] ?_
        have hent : entAt (J.map RowD.xs) dn cc ≠ 0#8 := by rw [hLs, swapL_ent (by rw [hA.len]; omega)]; exact hez
        have T0 : entAt (J.map RowD.xs) dn cc = o.xs[cc] := ent_xs b0 (by omega)
        have Y1 : o.xs[cc] ≠ 0#8 := T0 ▸ hent
        have hiv : gpow (o.xs[cc]) 254 = ginv (entAt (J.map RowD.xs) dn cc) := by rw [gpow_inv Y1, T0]
        obtain ⟨pl, hpl⟩ : ∃ z, z = scaleL i0.xs (gpow (o.xs[cc]) 254) := ⟨_, rfl⟩
        obtain ⟨pr, hpr⟩ : ∃ z, z = scaleL k0.xs (gpow (o.xs[cc]) 254) := ⟨_, rfl⟩
        obtain ⟨L1, x1⟩ : ∃ z, z = y.map RowD.xs := ⟨_, rfl⟩
        obtain ⟨R1, y1⟩ : ∃ z, z = l0.map RowD.xs := ⟨_, rfl⟩
        have z1 : L1 = (J.map RowD.xs).set dn pl := by rw [x1, j0, rowsX_set, hpl]
        have A1 : R1 = (G.map RowD.xs).set dn pr := by rw [y1, m0, rowsX_set, hpr]
        have j3 : L1.length = r := by rw [x1]; exact r0.len
        have k3 : R1.length = r := by rw [y1]; exact s0.len
        have hLp : ∀ h : dn < L1.length, L1[dn] = pl := by subst z1; intro h; simp
        have hRp : ∀ h : dn < R1.length, R1[dn] = pr := by subst A1; intro h; simp
        have hend := clear_end (pl := pl) (pr := pr) (cc := cc) u.len K.len (by rw [row_xs N, ← hiv]; exact hpl) (by rw [row_xs P, ← hiv]; exact hpr) z1 A1
        refine uL (α := Nat × List RowD × List RowD) (g := 133) (p := [2, 0, 1, 0, 0, 1, 0, 0, 8, 0, 1, 0, 0]) (fun (i, x, t) => [(0, .slice ma r mk), (1, .slice oa r ok), (5, .I dn), (6, .I cc), (9, .I i)]) (fun (i, x, t) w' => Hp w S O [] (⟨Shape.raw, 23, .slice ma r mk, x.map RowD.v⟩ :: ⟨Shape.raw, 23, .slice oa r ok, t.map RowD.v⟩ :: (rowsW 5 (x ++ t))) [] w' ∧ i ≤ r ∧ Wf x r c ∧ Wf t r d ∧ x.map RowD.xs = clTo L1 L1 pl dn cc i ∧ t.map RowD.xs = clTo R1 L1 pr dn cc i) (fun (i, x, t) => r - i) (0, y, l0) ⟨H, by omega, r0, s0, by rw [clTo_zero, x1], by rw [clTo_zero, y1]⟩ ?_
        rintro ⟨i, x, t⟩ B1 ⟨H, Z1⟩ U
        obtain ⟨_, q, D, M, n0⟩ := Z1
        refine uR 3 [.c [2, 0, 1, 0, 0, 1, 0, 0, 8, 0, 1, 0, 0, 0, 1], .c [2, 0, 1, 0, 0, 1, 0, 0, 8, 0, 1, 0, 0, 1], .l [2, 0, 1, 0, 0, 1, 0, 0, 8, 0, 1, 0, 0], .b 4, .c [2, 0, 1, 0, 0, 1, 0, 0, 9], .b 1, .c [2, 0, 1, 0, 0, 2], .l [2, 0, 1, 0, 0], .b 0, .c [3]] ?_
        refine qD (((i : Int) : Int) < ((r : Nat) : Int)) (fun W2 => ?_) (fun W2 => ?_)
        ·
         refine uR 4 [.c [2, 0, 1, 0, 0, 1, 0, 0, 8, 0, 1, 0, 0, 1, 0, 0, 0], .c [2, 0, 1, 0, 0, 1, 0, 0, 8, 0, 1, 0, 0, 1, 0, 0, 1], .b 5, .c [2, 0, 1, 0, 0, 1, 0, 0, 8, 0, 1, 0, 0, 2], .l [2, 0, 1, 0, 0, 1, 0, 0, 8, 0, 1, 0, 0], .b 4, .c [2, 0, 1, 0, 0, 1, 0, 0, 9], .b 1, .c [2, 0, 1, 0, 0, 2], .l [2, 0, 1, 0, 0], .b 0, .c [3]] ?_
         refine qG (sq 0 13) ?_
         refine uP 4 ?_
         refine uN 103 (i : Int) (dn : Int) (fun X2 => ?_) (fun X2 => ?_)
         ·
          refine uP 2 ?_
          obtain ⟨f, s⟩ : ∃ z, x[i]? = some z := ⟨_, List.getElem?_eq_getElem (by rw [q.1]; omega)⟩
          obtain ⟨_, _⟩ := q.at s
          have a2 : r = (x.map RowD.v).length := by first | rw [List.length_map, q.1] | rw [List.length_set, List.length_map, q.1]
          have b2 : i < (x.map RowD.v).length := by first | (rw [List.length_map, q.1]; omega) | (rw [List.length_set, List.length_map, q.1]; omega)
          refine RW.indexW (κ := .seq) (d := some 106) (r := (sq 7 13)) (T := 29) (e := 23) (m := 1) (ik := .i64) (ix := (i : Int)) (sh := Shape.raw) (xs := x.map RowD.v) (a := ma) (len := r) (cap := mk) (by as_aux_lemma => kernel_rfl) (by as_aux_lemma => kernel_rfl) rfl H i (by omega) b2 a2 ?_
          intro _ _ _ D0 U0
          rw [rowsV_at s] at U0
          obtain ⟨rfl, -⟩ := U0
          refine uV 23 0 D0 ?_
          refine uP 1 ?_
          obtain ⟨_, c2, -⟩ := rows_one (two_atA s (B := t))
          have d2 : f.n = f.xs.length := by omega
          have e2 : cc < f.xs.length := by omega
          refine RW.indexW (κ := .seq) (d := some 109) (r := (sq 10 13)) (T := 23) (e := 5) (m := 1) (ik := .i64) (ix := (cc : Int)) (sh := Sb) (xs := f.xs) (a := f.a) (len := f.n) (cap := f.c) (by as_aux_lemma => kernel_rfl) (by as_aux_lemma => kernel_rfl) rfl (H.rowOut1 (pre := [⟨Shape.raw, 23, .slice ma r mk, x.map RowD.v⟩, ⟨Shape.raw, 23, .slice oa r ok, t.map RowD.v⟩]) c2) cc (by omega) e2 d2 ?_
          intro _ _ _ E0 f2
          obtain rfl := f2
          refine uV 5 0 E0 ?_
          refine uF 2 ?_
          refine qN (((f.xs[cc]).toNat : Nat) : Int) 0 (fun C1 => ?_) (fun C1 => ?_)
          ·
           have hex : entAt L1 i cc = f.xs[cc] := by rw [entAt_eq (by omega) (by rw [← at_rows M (by omega) (.inl (Nat.le_refl _)) s]; omega)]; simp only [← at_rows M (by omega) (.inl (Nat.le_refl _)) s]
           have z2 : f.xs[cc] ≠ 0#8 := bvz C1
           refine uR 1 [.c [2, 0, 1, 0, 0, 1, 0, 0, 8, 0, 1, 0, 0, 1, 0, 0, 1, 0, 0], .c [2, 0, 1, 0, 0, 1, 0, 0, 8, 0, 1, 0, 0, 1, 0, 0, 1, 0, 1], .b 5, .c [2, 0, 1, 0, 0, 1, 0, 0, 8, 0, 1, 0, 0, 2], .l [2, 0, 1, 0, 0, 1, 0, 0, 8, 0, 1, 0, 0], .b 4, .c [2, 0, 1, 0, 0, 1, 0, 0, 9], .b 1, .c [2, 0, 1, 0, 0, 2], .l [2, 0, 1, 0, 0], .b 0, .c [3]] ?_
           refine qG (sq 0 8) ?_
           refine uP 2 ?_
           have g2 : r = (x.map RowD.v).length := by first | rw [List.length_map, q.1] | rw [List.length_set, List.length_map, q.1]
           have hx187 : i < (x.map RowD.v).length := by first | (rw [List.length_map, q.1]; omega) | (rw [List.length_set, List.length_map, q.1]; omega)
           refine RW.indexW (κ := .seq) (d := some 115) (r := (sq 3 8)) (T := 29) (e := 23) (m := 1) (ik := .i64) (ix := (i : Int)) (sh := Shape.raw) (xs := x.map RowD.v) (a := ma) (len := r) (cap := mk) (by as_aux_lemma => kernel_rfl) (by as_aux_lemma => kernel_rfl) rfl H i (by omega) hx187 g2 ?_
           intro _ _ _ F0 V0
           rw [rowsV_at s] at V0
           obtain ⟨rfl, -⟩ := V0
           refine uV 23 0 F0 ?_
           refine uP 1 ?_
           obtain ⟨_, i2, -⟩ := rows_one (two_atA s (B := t))
           have j2 : f.n = f.xs.length := by omega
           have k2 : cc < f.xs.length := by omega
           refine RW.indexW (κ := .seq) (d := some 118) (r := (sq 6 8)) (T := 23) (e := 5) (m := 1) (ik := .i64) (ix := (cc : Int)) (sh := Sb) (xs := f.xs) (a := f.a) (len := f.n) (cap := f.c) (by as_aux_lemma => kernel_rfl) (by as_aux_lemma => kernel_rfl) rfl (H.rowOut1 (pre := [⟨Shape.raw, 23, .slice ma r mk, x.map RowD.v⟩, ⟨Shape.raw, 23, .slice oa r ok, t.map RowD.v⟩]) i2) cc (by omega) k2 j2 ?_
           intro _ _ _ G0 l2
           obtain rfl := l2
           refine uV 5 0 G0 ?_
           refine uF 1 ?_
           refine qR 1 [.c [2, 0, 1, 0, 0, 1, 0, 0, 8, 0, 1, 0, 0, 1, 0, 0, 1, 0, 1, 0], .c [2, 0, 1, 0, 0, 1, 0, 0, 8, 0, 1, 0, 0, 1, 0, 0, 1, 0, 2], .b 5, .c [2, 0, 1, 0, 0, 1, 0, 0, 8, 0, 1, 0, 0, 2], .l [2, 0, 1, 0, 0, 1, 0, 0, 8, 0, 1, 0, 0], .b 4, .c [2, 0, 1, 0, 0, 1, 0, 0, 9], .b 1, .c [2, 0, 1, 0, 0, 2], .l [2, 0, 1, 0, 0], .b 0, .c [3]] [(0, .slice ma r mk), (1, .slice oa r ok), (5, .I dn), (6, .I cc), (9, .I i), (10, .int .u8 (((f.xs[cc]).toNat : Nat) : Int))] ?_
           refine WK.draw1 9 (qs [0, 1, 2, 3, 4, 5, 6, 7, 8]) [(0, .qui), (1, .qui), (2, .qui), (3, .qui), (4, .qui), (5, .qui), (6, .qui), (7, .qui), (8, .qui), (9, .seq)] Try_mixed (by as_aux_lemma => kernel_rfl) (by as_aux_lemma => kernel_rfl) (by as_aux_lemma => kernel_rfl) ?_
           have H := H.draw
           generalize ({ B1 with drawn := B1.drawn + 1 } : World) = l3 at H ⊢
           refine uP 2 ?_
           have m2 : r = (x.map RowD.v).length := by first | rw [List.length_map, q.1] | rw [List.length_set, List.length_map, q.1]
           have n2 : i < (x.map RowD.v).length := by first | (rw [List.length_map, q.1]; omega) | (rw [List.length_set, List.length_map, q.1]; omega)
           refine RW.indexW (κ := .qui) (d := some 122) (r := [(3, .qui), (4, .qui), (5, .qui), (6, .qui), (7, .qui), (8, .qui), (9, .seq)]) (T := 29) (e := 23) (m := 1) (ik := .i64) (ix := (i : Int)) (sh := Shape.raw) (xs := x.map RowD.v) (a := ma) (len := r) (cap := mk) (by as_aux_lemma => kernel_rfl) (by as_aux_lemma => kernel_rfl) rfl H i (by omega) n2 m2 ?_
           intro _ _ _ I0 W0
           rw [rowsV_at s] at W0
           obtain ⟨rfl, -⟩ := W0
           refine uV 23 0 I0 ?_
           refine uP 2 ?_
           obtain ⟨D1, c0⟩ : ∃ z, x[dn]? = some z := ⟨_, List.getElem?_eq_getElem (by rw [q.1]; omega)⟩
           obtain ⟨_, _⟩ := q.at c0
           have o2 : r = (x.map RowD.v).length := by first | rw [List.length_map, q.1] | rw [List.length_set, List.length_map, q.1]
           have p2 : dn < (x.map RowD.v).length := by first | (rw [List.length_map, q.1]; omega) | (rw [List.length_set, List.length_map, q.1]; omega)
           refine RW.indexW (κ := .qui) (d := some 126) (r := [(7, .qui), (8, .qui), (9, .seq)]) (T := 29) (e := 23) (m := 1) (ik := .i64) (ix := (dn : Int)) (sh := Shape.raw) (xs := x.map RowD.v) (a := ma) (len := r) (cap := mk) (by as_aux_lemma => kernel_rfl) (by as_aux_lemma => kernel_rfl) rfl H dn (by omega) p2 o2 ?_
           intro _ _ _ J0 X0
           rw [rowsV_at c0] at X0
           obtain ⟨rfl, -⟩ := X0
           refine uV 23 0 J0 ?_
           refine uP 1 ?_
           refine uKS (add_two (pre := [⟨Shape.raw, 23, .slice ma r mk, x.map RowD.v⟩, ⟨Shape.raw, 23, .slice oa r ok, t.map RowD.v⟩]) (R := x ++ t) (i := i) (j := dn) H (f.xs[cc]) (by omega) (two_atA s) (two_atA c0) (by omega) (by omega) (by omega) (by omega)) ?_
           rintro _ E1 ⟨rfl, H⟩
           replace H := two_set s H
           obtain ⟨C, o0⟩ : ∃ z, z = (x.set i (f.to (mixL f.xs D1.xs (f.xs[cc])))) := ⟨_, rfl⟩
           rw [← o0] at H
           have H : Hp w S O [] (⟨Shape.raw, 23, .slice ma r mk, C.map RowD.v⟩ :: ⟨Shape.raw, 23, .slice oa r ok, t.map RowD.v⟩ :: (rowsW 5 (C ++ t))) [] _ := H
           have F1 := o0 ▸ q.set s (xs := mixL f.xs D1.xs (f.xs[cc])) (by rw [mixL_len (by omega)]; omega)
           refine uF 0 ?_
           refine WK.draw1 9 (qs [0, 1, 2, 3, 4, 5, 6, 7, 8]) [(0, .qui), (1, .qui), (2, .qui), (3, .qui), (4, .qui), (5, .qui), (6, .qui), (7, .qui), (8, .qui), (9, .seq)] Try_mixed (by as_aux_lemma => kernel_rfl) (by as_aux_lemma => kernel_rfl) (by as_aux_lemma => kernel_rfl) ?_
           have H := H.draw
           generalize ({ E1 with drawn := E1.drawn + 1 } : World) = m3 at H ⊢
           refine uP 2 ?_
           obtain ⟨K0, Q⟩ : ∃ z, t[i]? = some z := ⟨_, List.getElem?_eq_getElem (by rw [D.1]; omega)⟩
           obtain ⟨_, _⟩ := D.at Q
           have H := H.frontW 1 (W' := (⟨Shape.raw, 23, .slice oa r ok, t.map RowD.v⟩ :: ⟨Shape.raw, 23, .slice ma r mk, C.map RowD.v⟩ :: (rowsW 5 (C ++ t)))) rfl
           have q2 : r = (t.map RowD.v).length := by first | rw [List.length_map, D.1] | rw [List.length_set, List.length_map, D.1]
           have r2 : i < (t.map RowD.v).length := by first | (rw [List.length_map, D.1]; omega) | (rw [List.length_set, List.length_map, D.1]; omega)
           refine RW.indexW (κ := .qui) (d := some 132) (r := [(3, .qui), (4, .qui), (5, .qui), (6, .qui), (7, .qui), (8, .qui), (9, .seq)]) (T := 29) (e := 23) (m := 1) (ik := .i64) (ix := (i : Int)) (sh := Shape.raw) (xs := t.map RowD.v) (a := oa) (len := r) (cap := ok) (by as_aux_lemma => kernel_rfl) (by as_aux_lemma => kernel_rfl) rfl H i (by omega) r2 q2 ?_
           intro _ _ _ L0 Y0
           rw [rowsV_at Q] at Y0
           obtain ⟨rfl, -⟩ := Y0
           refine uV 23 0 L0 ?_
           refine uP 2 ?_
           obtain ⟨G1, d0⟩ : ∃ z, t[dn]? = some z := ⟨_, List.getElem?_eq_getElem (by rw [D.1]; omega)⟩
           obtain ⟨_, _⟩ := D.at d0
           have s2 : r = (t.map RowD.v).length := by first | rw [List.length_map, D.1] | rw [List.length_set, List.length_map, D.1]
           have t2 : dn < (t.map RowD.v).length := by first | (rw [List.length_map, D.1]; omega) | (rw [List.length_set, List.length_map, D.1]; omega)
           refine RW.indexW (κ := .qui) (d := some 136) (r := [(7, .qui), (8, .qui), (9, .seq)]) (T := 29) (e := 23) (m := 1) (ik := .i64) (ix := (dn : Int)) (sh := Shape.raw) (xs := t.map RowD.v) (a := oa) (len := r) (cap := ok) (by as_aux_lemma => kernel_rfl) (by as_aux_lemma => kernel_rfl) rfl H dn (by omega) t2 s2 ?_
           intro _ _ _ M0 Z0
           rw [rowsV_at d0] at Z0
           obtain ⟨rfl, -⟩ := Z0
           refine uV 23 0 M0 ?_
           refine uP 1 ?_
           have H := H.frontW 1 (W' := (⟨Shape.raw, 23, .slice ma r mk, C.map RowD.v⟩ :: ⟨Shape.raw, 23, .slice oa r ok, t.map RowD.v⟩ :: (rowsW 5 (C ++ t)))) rfl
           refine uKS (add_two (pre := [⟨Shape.raw, 23, .slice ma r mk, C.map RowD.v⟩, ⟨Shape.raw, 23, .slice oa r ok, t.map RowD.v⟩]) (R := C ++ t) (i := C.length + i) (j := C.length + dn) H (f.xs[cc]) (by omega) (two_atB Q) (two_atB d0) (by omega) (by omega) (by omega) (by omega)) ?_
           rintro _ _ ⟨rfl, H⟩
           replace H := two_setB' Q H
           obtain ⟨N0, p0⟩ : ∃ z, z = (t.set i (K0.to (mixL K0.xs G1.xs (f.xs[cc])))) := ⟨_, rfl⟩
           rw [← p0] at H
           have H : Hp w S O [] (⟨Shape.raw, 23, .slice ma r mk, C.map RowD.v⟩ :: ⟨Shape.raw, 23, .slice oa r ok, N0.map RowD.v⟩ :: (rowsW 5 (C ++ N0))) [] _ := H
           have H1 := p0 ▸ D.set Q (xs := mixL K0.xs G1.xs (f.xs[cc])) (by rw [mixL_len (by omega)]; omega)
           refine uF 0 ?_
           refine uR 1 [.c [2, 0, 1, 0, 0, 1, 0, 0, 8, 0, 1, 0, 0, 2], .l [2, 0, 1, 0, 0, 1, 0, 0, 8, 0, 1, 0, 0], .b 4, .c [2, 0, 1, 0, 0, 1, 0, 0, 9], .b 1, .c [2, 0, 1, 0, 0, 2], .l [2, 0, 1, 0, 0], .b 0, .c [3]] ?_
           refine qG (sq 0 3) ?_
           refine uP 1 ?_
           refine uI ((i : Int) + 1) ?_
           refine qF 1 [(0, .slice ma r mk), (1, .slice oa r ok), (5, .I dn), (6, .I cc), (9, .I ((i : Int) + 1))] ?_
           exact uB (U (i + 1, C, N0) _ ⟨H, by omega, F1, H1, by rw [o0]; exact hit_rows M (by omega) (by omega) (hLp (by omega)) s c0 (by omega) hex z2, by rw [p0]; exact hit_rows n0 (by omega) (by omega) (hRp (by omega)) Q d0 (by omega) hex z2⟩ (by first | omega | (simp only []; omega)))
          ·
           have hex : entAt L1 i cc = f.xs[cc] := by rw [entAt_eq (by omega) (by rw [← at_rows M (by omega) (.inl (Nat.le_refl _)) s]; omega)]; simp only [← at_rows M (by omega) (.inl (Nat.le_refl _)) s]
           have hms : i = dn ∨ entAt L1 i cc = 0#8 := .inr (hex.trans (bvz0 (by omega)))
           refine uR 2 [.c [2, 0, 1, 0, 0, 1, 0, 0, 8, 0, 1, 0, 0, 2], .l [2, 0, 1, 0, 0, 1, 0, 0, 8, 0, 1, 0, 0], .b 4, .c [2, 0, 1, 0, 0, 1, 0, 0, 9], .b 1, .c [2, 0, 1, 0, 0, 2], .l [2, 0, 1, 0, 0], .b 0, .c [3]] ?_
           refine qG (sq 0 3) ?_
           refine uP 1 ?_
           refine uI ((i : Int) + 1) ?_
           refine uF 1 ?_
           exact uB (U (i + 1, x, t) _ ⟨H, by omega, q, D, by rw [M]; exact clTo_miss hms, by rw [n0]; exact clTo_miss hms⟩ (by first | omega | (simp only []; omega)))
         ·
          have hms : i = dn ∨ entAt L1 i cc = 0#8 := .inl (by omega)
          refine uF 9 ?_
          refine uR 3 [.c [2, 0, 1, 0, 0, 1, 0, 0, 8, 0, 1, 0, 0, 2], .l [2, 0, 1, 0, 0, 1, 0, 0, 8, 0, 1, 0, 0], .b 4, .c [2, 0, 1, 0, 0, 1, 0, 0, 9], .b 1, .c [2, 0, 1, 0, 0, 2], .l [2, 0, 1, 0, 0], .b 0, .c [3]] ?_
          refine qG (sq 0 3) ?_
          refine uP 1 ?_
          refine uI ((i : Int) + 1) ?_
          refine uF 1 ?_
          exact uB (U (i + 1, x, t) _ ⟨H, by omega, q, D, by rw [M]; exact clTo_miss hms, by rw [n0]; exact clTo_miss hms⟩ (by first | omega | (simp only []; omega)))
        ·
         refine uR 1 [.c [2, 0, 1, 0, 0, 1, 0, 0, 9], .b 1, .c [2, 0, 1, 0, 0, 2], .l [2, 0, 1, 0, 0], .b 0, .c [3]] ?_
         refine qG (sq 0 3) ?_
         refine uP 1 ?_
         refine uI ((dn : Int) + 1) ?_
         refine uF 1 ?_
         refine uR 1 [.c [2, 0, 1, 0, 0, 2], .l [2, 0, 1, 0, 0], .b 0, .c [3]] ?_
         refine qG (sq 0 3) ?_
         refine uP 1 ?_
         refine uI ((cc : Int) + 1) ?_
         refine uF 1 ?_
         exact uB (q0 (cc + 1, dn + 1, x, t) _ ⟨H, by omega, by rw [redTo_succ, ← hred, redStep_hit hfp, ← hLs, ← hRs, ← hend.1, ← hend.2, M, n0]; rw [show i = r by omega], by omega, q, D⟩ (by simp only []; omega))
   ·
    refine uF 9 ?_
    refine uR 5 [.c [2, 0, 1, 0, 0, 1, 0, 0, 2, 0, 1], .c [2, 0, 1, 0, 0, 1, 0, 0, 3], .b 1, .c [2, 0, 1, 0, 0, 2], .l [2, 0, 1, 0, 0], .b 0, .c [3]] ?_
    refine qE (p : Int) ((r : Nat) : Int) (fun Y2 => ?_) (fun Y2 => ?_)
    ·
     have hfn : firstP (A.map RowD.xs) cc dn = none := firstP_none fun j h1 h2 => W.2.2 j h1 (by rw [hA.len] at h2; omega)
     refine uR 1 [.c [2, 0, 1, 0, 0, 2], .l [2, 0, 1, 0, 0], .b 0, .c [3]] ?_
     refine qG (sq 0 3) ?_
     refine uP 1 ?_
     refine uI ((cc : Int) + 1) ?_
     refine uF 1 ?_
     exact uB (q0 (cc + 1, dn, A, B) _ ⟨H, by omega, by rw [redTo_succ, ← hred]; exact (redStep_miss hfn).symm, by omega, hA, hB⟩ (by simp only []; omega))
    ·
     omega
  ·
   rw [i1] at e0
   replace e0 := of_decide_eq_false e0
   refine uR 3 [.c [4]] ?_
   refine qT (.I dn) Try.func133 ?_
   have hfin : (dn, A.map RowD.xs, B.map RowD.xs) = redTo (A0.map RowD.xs) (B0.map RowD.xs) c := by
    by_cases hcc2 : cc = c
    · rw [← hcc2]; exact hred
    · have hl := redTo_full (L := A0.map RowD.xs) (R := B0.map RowD.xs) (m := cc) (by rw [← hred, hA.len]; simp only []; omega) (c - cc)
      rw [show cc + (c - cc) = c by omega] at hl
      rw [hl]; exact hred
   have h1 := congrArg (·.1) hfin
   have h2 := congrArg (·.2.1) hfin
   have h3 := congrArg (·.2.2) hfin
   simp only at h1 h2 h3
   exact ⟨_, rfl, A, B, by rw [h1], hA, hB, h2, h3, H.pick [] rfl⟩
end Go.Proofs.Ytppcdmbkgficiaa
