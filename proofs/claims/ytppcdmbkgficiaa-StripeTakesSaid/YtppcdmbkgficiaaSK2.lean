import Derived.Test.YtppcdmbkgficiaaSBxA
import Derived.Test.YtppcdmbkgficiaaSK1
import Derived.Test.YtppcdmbkgficiaaSBxB
namespace Go.Proofs.Ytppcdmbkgficiaa
open Go.BX
theorem addTo_at {xs ys : List (BitVec 8)} {c : BitVec 8} {i : Nat} (hl : xs.length = ys.length) (hi : i < xs.length) (h2 : i < (addTo xs ys c i).length) : (addTo xs ys c i)[i]'h2 = xs[i]'hi := part_at (mixL_len hl) hi h2
theorem r2add_spec {S : Nat → Prop} {w : World} {O : List Nat} {xs ys : List (BitVec 8)} {a a2 : Option Addr} {n k k2 : Nat} (c : BitVec 8) (H0 : Hp w S O [] [⟨Sb, 5, .slice a n k, xs⟩, ⟨Sb, 5, .slice a2 n k2, ys⟩] [] w) (hxl : xs.length = n) (hyl : ys.length = n) (hle : n ≤ 1000000) :
 Calls Try.prog 154 #[.slice a n k, .slice a2 n k2, .int .u8 ((c.toNat : Nat) : Int)] w (Ret fun v w' => v = .tuple #[] ∧ Hp w S O [] [⟨Sb, 5, .slice a n k, (mixL xs ys c)⟩, ⟨Sb, 5, .slice a2 n k2, ys⟩] [] w') := by
 have hxy : xs.length = ys.length := by omega
 have hsl : (mixL xs ys c).length = xs.length := mixL_len hxy
 refine uS1 Try.func154 ?_
 have H := H0
 refine uR 3 [.c [1, 0], .b 0] ?_
 refine uL (α := Nat) (g := 154) (p := [1, 0, 0]) (fun i => [(0, .slice a n k), (1, .slice a2 n k2), (2, .int .u8 ((c.toNat : Nat) : Int)), (6, .I i)]) (fun i w' => Hp w S O [] [⟨Sb, 5, .slice a n k, (addTo xs ys c i)⟩, ⟨Sb, 5, .slice a2 n k2, ys⟩] [] w' ∧ i ≤ n) (fun i => n - i) 0 ⟨H, Nat.zero_le _⟩ ?_
 rintro i B ⟨H, _⟩ j
 refine uR 3 [.c [1, 0, 0, 0, 1], .c [1, 0, 0, 1], .l [1, 0, 0], .b 0] ?_
 refine qD (((i : Int) : Int) < ((n : Nat) : Int)) (fun F => ?_) (fun F => ?_)
 ·
  refine uR 3 [.c [1, 0, 0, 1, 0, 0], .b 1, .c [1, 0, 0, 2], .l [1, 0, 0], .b 0] ?_
  refine WK.draw1 14 [(0, .qui), (1, .qui), (2, .qui), (3, .qui), (4, .qui), (5, .qui), (6, .qui), (7, .qui), (8, .qui), (9, .qui), (10, .qui), (11, .chn), (12, .qui), (13, .qui)] [(0, .qui), (1, .qui), (2, .qui), (3, .qui), (4, .qui), (5, .qui), (6, .qui), (7, .qui), (8, .qui), (9, .qui), (10, .qui), (11, .chn), (12, .qui), (13, .qui), (14, .seq)] Try_mixed (by as_aux_lemma => kernel_rfl) (by as_aux_lemma => kernel_rfl) (by as_aux_lemma => kernel_rfl) ?_
  have H := H.draw
  generalize ({ B with drawn := B.drawn + 1 } : World) = J at H ⊢
  refine uP 4 ?_
  have C : n = (addTo xs ys c i).length := by rw [show (addTo xs ys c i).length = xs.length from part_len hsl]; omega
  have D : i < (addTo xs ys c i).length := by rw [show (addTo xs ys c i).length = xs.length from part_len hsl]; omega
  refine RW.indexW (κ := .qui) (d := some 17) (r := [(5, .qui), (6, .qui), (7, .qui), (8, .qui), (9, .qui), (10, .qui), (11, .chn), (12, .qui), (13, .qui), (14, .seq)]) (T := 23) (e := 5) (m := 1) (ik := .i64) (ix := (i : Int)) (sh := Sb) (xs := (addTo xs ys c i)) (a := a) (len := n) (cap := k) (by as_aux_lemma => kernel_rfl) (by as_aux_lemma => kernel_rfl) rfl H i (by omega) D C ?_
  intro _ _ _ f o
  rw [addTo_at (xs := xs) (ys := ys) (c := c) (i := i) hxy (by omega) _] at o
  obtain rfl := o
  refine uV 5 0 f ?_
  refine uP 2 ?_
  have H := H.frontW 1 (W' := [⟨Sb, 5, .slice a2 n k2, ys⟩, ⟨Sb, 5, .slice a n k, (addTo xs ys c i)⟩]) rfl
  have t : n = ys.length := by omega
  have u : i < ys.length := by omega
  refine RW.indexW (κ := .qui) (d := some 21) (r := [(9, .qui), (10, .qui), (11, .chn), (12, .qui), (13, .qui), (14, .seq)]) (T := 23) (e := 5) (m := 1) (ik := .i64) (ix := (i : Int)) (sh := Sb) (xs := ys) (a := a2) (len := n) (cap := k2) (by as_aux_lemma => kernel_rfl) (by as_aux_lemma => kernel_rfl) rfl H i (by omega) u t ?_
  intro _ _ _ h x
  obtain rfl := x
  refine uV 5 0 h ?_
  refine uP 1 ?_
  refine uK (r1mul_spec (S := fun _ => True) (ys[i]) c) ?_
  rintro _ _ y rfl
  have H := H.ext y
  refine RW.pv (κ := .qui) (d := some 25) (r := [(13, .qui), (14, .seq)]) (v := .int .u8 (IntKind.u8.wrap ((BitVec.ofInt 8 (((xs[i]).toNat : Nat) : Int) ^^^ BitVec.ofInt 8 (((gmul (ys[i]) c).toNat : Nat) : Int)).toNat : Nat))) (v' := .int .u8 (((((xs[i]) ^^^ (gmul (ys[i]) c)).toNat : Nat) : Int))) (by as_aux_lemma => kernel_rfl) (bv_xor8 (bvi _) (bvi _)) ?_
  have H := H.frontW 1 (W' := [⟨Sb, 5, .slice a n k, (addTo xs ys c i)⟩, ⟨Sb, 5, .slice a2 n k2, ys⟩]) rfl
  have q : n = (addTo xs ys c i).length := by rw [show (addTo xs ys c i).length = xs.length from part_len hsl]; omega
  have s : i < (addTo xs ys c i).length := by rw [show (addTo xs ys c i).length = xs.length from part_len hsl]; omega
  refine RW.indexW (κ := .qui) (d := some 26) (r := [(14, .seq)]) (T := 23) (e := 5) (m := 1) (ik := .i64) (ix := (i : Int)) (sh := Sb) (xs := (addTo xs ys c i)) (a := a) (len := n) (cap := k) (by as_aux_lemma => kernel_rfl) (by as_aux_lemma => kernel_rfl) rfl H i (by omega) s q ?_
  intro E _ z _ A
  obtain rfl := A
  refine RW.storeW (d := none) (r := []) (e := 5) (m := 1) (b := E) (k := i) (v := .int .u8 ((((xs[i]) ^^^ (gmul (ys[i]) c)).toNat : Nat) : Int)) (by as_aux_lemma => kernel_rfl) rfl (by as_aux_lemma => kernel_rfl) H z s q ((xs[i]) ^^^ (gmul (ys[i]) c)) Shape.bv_mk ?_
  intro _ H
  have H := H.reW (ys := addTo xs ys c (i + 1)) (part_set hsl (by omega) (mixL_get (by omega) (by omega)))
  refine uF 0 ?_
  refine uR 1 [.c [1, 0, 0, 2], .l [1, 0, 0], .b 0] ?_
  refine qG (sq 0 3) ?_
  refine uP 1 ?_
  refine uI ((i : Int) + 1) ?_
  refine uF 1 ?_
  exact uB (j (i + 1) _ ⟨H, by omega⟩ (by first | omega | (simp only []; omega)))
 ·
  refine uR 1 [] ?_
  refine WK.fin (v := .tuple #[]) Try.func154 (by as_aux_lemma => kernel_rfl) ?_
  have hin : i = n := by omega
  have G : addTo xs ys c i = mixL xs ys c := by unfold addTo; rw [List.take_of_length_le (by omega), List.drop_eq_nil_of_le (by omega), List.append_nil]
  rw [G] at H
  exact ⟨_, rfl, rfl, H.pick [] rfl⟩
def twoW (mv ov : Value) (A B : List RowD) : List OwnS := ⟨Shape.raw, 23, mv, A.map RowD.v⟩ :: ⟨Shape.raw, 23, ov, B.map RowD.v⟩ :: rowsW 5 (A ++ B)
theorem two_setA {A B : List RowD} {k : Nat} {q : RowD} (h : A[k]? = some q) (x : RowD) : (A ++ B).set k x = A.set k x ++ B := List.set_append_left _ _ (List.getElem?_eq_some_iff.1 h).1
theorem two_setB {A B : List RowD} {k : Nat} (x : RowD) : (A ++ B).set (A.length + k) x = A ++ B.set k x := by
 rw [List.set_append_right _ _ (Nat.le_add_right _ _), Nat.add_sub_cancel_left]
theorem two_atA {A B : List RowD} {k : Nat} {q : RowD} (h : A[k]? = some q) : (A ++ B)[k]? = some q := by
 rw [List.getElem?_append_left (List.getElem?_eq_some_iff.1 h).1, h]
theorem two_atB {A B : List RowD} {k : Nat} {q : RowD} (h : B[k]? = some q) : (A ++ B)[A.length + k]? = some q := by
 rw [List.getElem?_append_right (Nat.le_add_right _ _), Nat.add_sub_cancel_left, h]
theorem scale_two {S : Nat → Prop} {w0 w : World} {O : List Nat} {M : Heap} {pre : List OwnS} {G : List Fact} {R : List RowD} {k : Nat} {q : RowD} (H : Hp w0 S O M (pre ++ rowsW 5 R) G w) (c : BitVec 8) (hq : R[k]? = some q) (hn : q.xs.length = q.n) (hle : q.n ≤ 1000000) :
 Calls Try.prog 153 #[q.v, .int .u8 ((c.toNat : Nat) : Int)] w (Ret fun v w' => v = .tuple #[] ∧ Hp w0 S O M (pre ++ rowsW 5 (R.set k (q.to (scaleL q.xs c)))) G w') := by
 obtain ⟨X, d, f⟩ := rows_one hq
 have b := H.rowOut1 d
 refine (r2scale_spec (a := q.a) (k := q.c) c ((b.lend (M1 := []) (W1 := [rowW 5 q])).pick [] rfl) hn hle).mono fun e w' => ?_
 rintro ⟨v, he, hv, H'⟩
 exact ⟨v, he, hv, (b.back (M1 := []) (W1 := [rowW 5 q]) H').rowIn1 (pre := pre) (X := X) (r := q.to (scaleL q.xs c)) (f _)⟩
theorem add_two {S : Nat → Prop} {w0 w : World} {O : List Nat} {M : Heap} {pre : List OwnS} {G : List Fact} {R : List RowD} {i j : Nat} {q p : RowD} (H : Hp w0 S O M (pre ++ rowsW 5 R) G w) (c : BitVec 8) (hij : i ≠ j) (hq : R[i]? = some q) (hp : R[j]? = some p) (hn : q.xs.length = q.n) (hpn : p.xs.length = p.n) (hnn : p.n = q.n) (hle : q.n ≤ 1000000) :
 Calls Try.prog 154 #[q.v, p.v, .int .u8 ((c.toNat : Nat) : Int)] w (Ret fun v w' => v = .tuple #[] ∧ Hp w0 S O M (pre ++ rowsW 5 (R.set i (q.to (mixL q.xs p.xs c)))) G w') := by
 obtain ⟨X, d, f⟩ := rows_two hij hq hp
 have b := H.rowOut2 d
 obtain ⟨pa, pn, pc, px⟩ := p
 simp only at hpn hnn
 subst hnn
 refine (r2add_spec (xs := q.xs) (ys := px) (a := q.a) (a2 := pa) (n := q.n) (k := q.c) (k2 := pc) c ((b.lend (M1 := []) (W1 := [rowW 5 q, rowW 5 ⟨pa, q.n, pc, px⟩])).pick [] rfl) hn hpn hle).mono fun e w' => ?_
 rintro ⟨v, he, hv, H'⟩
 exact ⟨v, he, hv, (b.back (M1 := []) (W1 := [rowW 5 q, rowW 5 ⟨pa, q.n, pc, px⟩]) H').rowIn2 (pre := pre) (X := X) (r := q.to (mixL q.xs px c)) (s := ⟨pa, q.n, pc, px⟩) (f _)⟩
theorem two_set {S : Nat → Prop} {w0 w : World} {O : List Nat} {M : Heap} {G : List Fact} {mv ov : Value} {A B : List RowD} {k : Nat} {q : RowD} {xs : List (BitVec 8)} (hq : A[k]? = some q) (H : Hp w0 S O M ([⟨Shape.raw, 23, mv, A.map RowD.v⟩, ⟨Shape.raw, 23, ov, B.map RowD.v⟩] ++ rowsW 5 ((A ++ B).set k (q.to xs))) G w) : Hp w0 S O M (twoW mv ov (A.set k (q.to xs)) B) G w := by
 rw [two_setA hq, rowsV_set (r' := q.to xs) hq rfl] at H
 exact H
theorem two_setB' {S : Nat → Prop} {w0 w : World} {O : List Nat} {M : Heap} {G : List Fact} {mv ov : Value} {A B : List RowD} {k : Nat} {q : RowD} {xs : List (BitVec 8)} (hq : B[k]? = some q) (H : Hp w0 S O M ([⟨Shape.raw, 23, mv, A.map RowD.v⟩, ⟨Shape.raw, 23, ov, B.map RowD.v⟩] ++ rowsW 5 ((A ++ B).set (A.length + k) (q.to xs))) G w) : Hp w0 S O M (twoW mv ov A (B.set k (q.to xs))) G w := by
 rw [two_setB, rowsV_set (r' := q.to xs) hq rfl] at H
 exact H
def Wf (A : List RowD) (r c : Nat) : Prop := A.length = r ∧ ∀ q ∈ A, q.n = c ∧ q.xs.length = c
theorem Wf.at {A : List RowD} {r c i : Nat} {q : RowD} (h : Wf A r c) (hq : A[i]? = some q) : q.n = c ∧ q.xs.length = c := h.2 q (List.mem_of_getElem? hq)
theorem Wf.set {A : List RowD} {r c k : Nat} {q : RowD} {xs : List (BitVec 8)} (h : Wf A r c) (hq : A[k]? = some q) (hx : xs.length = c) : Wf (A.set k (q.to xs)) r c :=
 ⟨by rw [List.length_set]; exact h.1, fun p hp => by
  rcases List.mem_or_eq_of_mem_set hp with hp | rfl
  · exact h.2 p hp
  · exact ⟨(h.at hq).1, hx⟩⟩
theorem Wf.swap {A A' : List RowD} {r c : Nat} (h : Wf A r c) (hp : A'.Perm A) : Wf A' r c := ⟨by rw [hp.length_eq]; exact h.1, fun q hq => h.2 q (hp.mem_iff.1 hq)⟩
theorem Wf.all {A : List RowD} {r c : Nat} (h : Wf A r c) : ∀ x ∈ A.map RowD.xs, x.length = c := fun x hx => by
 obtain ⟨q, hq, rfl⟩ := List.mem_map.1 hx
 exact (h.2 q hq).2
theorem Wf.len {A : List RowD} {r c : Nat} (h : Wf A r c) : (A.map RowD.xs).length = r := by rw [List.length_map]; exact h.1
end Go.Proofs.Ytppcdmbkgficiaa
