import Derived.Test.YtppcdmbkgficiaaSBxA
import Derived.Test.YtppcdmbkgficiaaSK3
namespace Go.Proofs.Ytppcdmbkgficiaa
open Go.BX
theorem rowsW_append {T : TypeId} {A B : List RowD} : rowsW T (A ++ B) = rowsW T A ++ rowsW T B := List.map_append
theorem two_perm {T : TypeId} {a b : OwnS} {A B : List RowD} : (a :: b :: rowsW T (A ++ B)).Perm (b :: (rowsW T B ++ (a :: rowsW T A))) := by
 rw [rowsW_append]
 refine (List.Perm.swap b a _).trans (List.Perm.cons b ?_)
 exact (List.Perm.cons a List.perm_append_comm).trans List.perm_middle.symm
theorem two_drop {T : TypeId} {a b : OwnS} {A B : List RowD} : (b :: rowsW T B).Sublist (a :: b :: rowsW T (A ++ B)) := by
 rw [rowsW_append]
 exact (List.Sublist.cons_cons b (List.sublist_append_right _ _)).cons a
theorem wf_of {R : List RowD} {m : List (List (BitVec 8))} {r c : Nat} (h1 : R.length = r) (h2 : ∀ q ∈ R, q.n = c) (h3 : R.map RowD.xs = m) (h4 : ∀ x ∈ m, x.length = c) : Wf R r c :=
 ⟨h1, fun q hq => ⟨h2 q hq, h4 _ (h3 ▸ List.mem_map_of_mem hq)⟩⟩
theorem r2invert_spec {S : Nat → Prop} {w : World} {m : List (List (BitVec 8))} {a : Option Addr} {k : Nat} (h : (Shape.slice SB).rep S w [.slice a m.length k] m) (hr : 1 ≤ m.length ∧ m.length ≤ 255) (hc : ∀ x ∈ m, x.length = m.length) (hreg : (redTo m (ident m.length) m.length).1 = m.length) :
 Calls Try.prog 108 #[.slice a m.length k] w (Ret fun v w' => Ext w w' ∧ ∃ (a : Option Addr) (c : Nat), v = .tuple #[.slice a m.length c, .I 0] ∧ (Shape.slice SB).rep (Nw S w) w' [.slice a m.length c] (redTo m (ident m.length) m.length).2.2) := by
 have hml := Shape.slice_len h
 refine uS1 Try.func108 ?_
 have H := Hp.startF (.rp h .nil)
 refine uR 3 [.c [1, 0], .c [2]] ?_
 refine qG (sq 0 9) ?_
 refine uP 1 ?_
 refine uK (r2check_ok (m := m) (H.rp 0 rfl) (c := m.length) (by omega) (hc) (hr)) ?_
 rintro _ _ j rfl
 have H := H.ext j
 refine uF 7 ?_
 refine uR 8 [.c [3, 0, 1], .c [4]] ?_
 refine qN ((m.length : Nat) : Int) ((m.length : Nat) : Int) (fun l => ?_) (fun l => ?_)
 ·
  exact absurd rfl l
 ·
  refine uR 2 [.c [4, 0], .c [5]] ?_
  refine qG (sq 0 3) ?_
  refine uP 1 ?_
  refine uK (r2copy_own (m := m) (H.rp 0 rfl) (c := m.length) (by omega) hc (by omega)) ?_
  rintro _ _ - ⟨R, b, d, rfl, hRl, hRn, hRx, H'⟩
  have H := H.back (M1 := []) (W1 := []) H'
  have hwR := wf_of hRl hRn hRx hc
  have H := H.perms (M' := []) (W' := (⟨Shape.raw, 23, .slice b m.length d, R.map RowD.v⟩ :: (rowsW 5 R))) (List.Perm.refl _) (List.Perm.of_eq (List.append_nil _).symm)
  have H : Hp w S [] [] _ [_] _ := H
  refine uF 1 ?_
  refine uR 1 [.c [5, 0], .c [6]] ?_
  refine qG (sq 0 7) ?_
  refine uP 1 ?_
  refine uK (r2ident_own (S := Av S w [] (idsOf [] (⟨Shape.raw, 23, .slice b m.length d, R.map RowD.v⟩ :: (rowsW 5 R)))) m.length (by omega)) ?_
  rintro _ _ - ⟨Q, e, f, rfl, hQl, hQn, hQx, H'⟩
  have H := H.back (M1 := []) (W1 := []) H'
  have hwQ := wf_of hQl hQn hQx (ident_all m.length)
  have H := H.perms (M' := []) (W' := (⟨Shape.raw, 23, .slice b m.length d, R.map RowD.v⟩ :: ⟨Shape.raw, 23, .slice e m.length f, Q.map RowD.v⟩ :: (rowsW 5 (R ++ Q)))) (List.Perm.refl _) two_perm
  have H : Hp w S [] [] _ [_] _ := H
  refine uF 5 ?_
  refine qR 2 [.c [6, 0, 0], .c [6, 0, 1], .c [7]] [(4, .I ((m.length : Nat) : Int)), (7, .slice b m.length d), (8, .slice e m.length f)] ?_
  refine qG (sq 0 5) ?_
  refine uP 2 ?_
  have H := H.perms (M' := []) (W' := (⟨Shape.raw, 23, .slice b m.length d, R.map RowD.v⟩ :: ⟨Shape.raw, 23, .slice e m.length f, Q.map RowD.v⟩ :: (rowsW 5 (R ++ Q))) ++ []) (List.Perm.refl _) (List.Perm.of_eq (List.append_nil _))
  refine uKS (r2reduce_spec (A0 := R) (B0 := Q) ((H.lend (M1 := []) (W1 := (⟨Shape.raw, 23, .slice b m.length d, R.map RowD.v⟩ :: ⟨Shape.raw, 23, .slice e m.length f, Q.map RowD.v⟩ :: (rowsW 5 (R ++ Q))))).pick [] rfl) hwR hwQ (by omega) (by omega) (by omega)) ?_
  rintro _ _ ⟨n, i, rfl, _, _, _, g, H'⟩
  have H := H.back (M1 := []) (W1 := (⟨Shape.raw, 23, .slice b m.length d, R.map RowD.v⟩ :: ⟨Shape.raw, 23, .slice e m.length f, Q.map RowD.v⟩ :: (rowsW 5 (R ++ Q)))) H'
  have H := H.perms (M' := []) (W' := (⟨Shape.raw, 23, .slice b m.length d, n.map RowD.v⟩ :: ⟨Shape.raw, 23, .slice e m.length f, i.map RowD.v⟩ :: (rowsW 5 (n ++ i)))) (List.Perm.refl _) (List.Perm.of_eq (List.append_nil _).symm)
  rw [hRx, hQx] at g ⊢
  have H : Hp w S [] [] _ [_] _ := H
  refine uF 2 ?_
  refine qD (((((redTo m (ident m.length) m.length).1 : Nat) : Int) : Int) < ((m.length : Nat) : Int)) (fun o => ?_) (fun o => ?_)
  ·
   omega
  ·
   refine uR 3 [.c [8]] ?_
   refine qT (.tuple #[.slice e m.length f, .I 0]) Try.func108 ?_
   have H := H.drop (M' := []) (W' := (⟨Shape.raw, 23, .slice e m.length f, i.map RowD.v⟩ :: rowsW 5 i)) (List.Sublist.refl _) two_drop
   have H := H.freezeRows0
   have H := H.freezeW 0 rfl
   rw [g] at H
   exact ⟨_, rfl, H.done, _, _, rfl, H.out (H.rp 0 rfl)⟩
theorem r2pick_spec {S : Nat → Prop} {w : World} {m : List (List (BitVec 8))} {a : Option Addr} {k : Nat} (h : (Shape.slice SB).rep S w [.slice a m.length k] m) {rows : List Int} {b : Option Addr} {kr : Nat} (h2 : (Shape.slice (Shape.int .i64)).rep S w [.slice b rows.length kr] rows) (hr : 1 ≤ m.length ∧ m.length ≤ 255) {c : Nat} (hc : ∀ x ∈ m, x.length = c) (hc2 : 1 ≤ c ∧ c ≤ 255) (hn : 1 ≤ rows.length ∧ rows.length ≤ 255) (hrow : ∀ x ∈ rows, 0 ≤ x ∧ x < (m.length : Int)) :
 Calls Try.prog 107 #[.slice a m.length k, .slice b rows.length kr] w (Ret fun v w' => Ext w w' ∧ ∃ (a : Option Addr) (c : Nat), v = .tuple #[.slice a (pickL m rows).length c, .I 0] ∧ (Shape.slice SB).rep (Nw S w) w' [.slice a (pickL m rows).length c] (pickL m rows)) := by
 have hml := Shape.slice_len h
 have hrl := Shape.slice_len h2
 refine uS1 Try.func107 ?_
 have H := Hp.startF (.rp h (.rp h2 .nil))
 refine uR 3 [.c [1, 0], .c [2]] ?_
 refine qG (sq 0 9) ?_
 refine uP 1 ?_
 refine uK (r2check_ok (m := m) (H.rp 0 rfl) (c := c) (hr) (hc) (hc2)) ?_
 rintro _ _ C rfl
 have H := H.ext C
 refine uF 7 ?_
 refine uR 7 [.c [3, 0, 0], .c [3, 0, 1], .c [4]] ?_
 refine qG (sq 0 8) ?_
 refine uP 4 ?_
 refine uD 23 ((((rows.length : Nat) : Int) : Int) < 1) (fun T => ?_) (fun T => ?_)
 ·
  omega
 ·
  refine uF 4 ?_
  refine qD ((((rows.length : Nat) : Int) : Int) > 255) (fun U => ?_) (fun U => ?_)
  ·
   omega
  ·
   refine uR 7 [.c [5, 0, 1, 0], .b 0, .c [6]] ?_
   have H := H.ownNil SB 23
   refine uL (α := Nat × Option Addr × Nat) (g := 107) (p := [5, 0, 1, 0, 0]) (fun (i, ao, co) => [(0, .slice a m.length k), (1, .slice b rows.length kr), (6, .I ((m.length : Nat) : Int)), (9, .slice ao (((pickL m rows).take i).length) co), (10, .I i)]) (fun (i, ao, co) w' => Hp w S [] [] [⟨SB, 23, .slice ao (((pickL m rows).take i).length) co, (pickL m rows).take i⟩] [Rp (Shape.slice SB) [.slice a m.length k] m, Rp (Shape.slice (Shape.int .i64)) [.slice b rows.length kr] rows] w' ∧ i ≤ rows.length) (fun (i, ao, co) => rows.length - i) (0, none, 0) ⟨H, Nat.zero_le _⟩ ?_
   rintro ⟨i, ao, co⟩ _ ⟨H, _⟩ j
   refine uR 3 [.c [5, 0, 1, 0, 0, 0, 1], .c [5, 0, 1, 0, 0, 1], .l [5, 0, 1, 0, 0], .b 0, .c [6]] ?_
   refine qD (((i : Int) : Int) < ((rows.length : Nat) : Int)) (fun V => ?_) (fun V => ?_)
   ·
    have hri := hrow (rows[i]) (List.getElem_mem (by omega))
    have hrm : (rows[i]).toNat < m.length := by omega
    have hcr := hc (m[(rows[i]).toNat]) (List.getElem_mem hrm)
    refine uR 5 [.c [5, 0, 1, 0, 0, 1, 0, 0, 0, 0], .c [5, 0, 1, 0, 0, 1, 0, 0, 0, 1], .c [5, 0, 1, 0, 0, 1, 0, 0, 1], .b 1, .c [5, 0, 1, 0, 0, 2], .l [5, 0, 1, 0, 0], .b 0, .c [6]] ?_
    refine qG (sq 0 13) ?_
    refine uP 2 ?_
    have D : i < rows.length := by omega
    refine uX 25 (i : Int) H 1 rfl i (by omega) (List.getElem?_eq_getElem D) ?_
    intro W E _ n H
    have X := Shape.i64_bd n
    obtain ⟨rfl, -⟩ := n
    refine uV 3 0 (H.fc 0 rfl) ?_
    refine uP 2 ?_
    refine uD 39 ((rows[i] : Int) < 0) (fun F => ?_) (fun F => ?_)
    ·
     omega
    ·
     refine uP 2 ?_
     have z : i < rows.length := by omega
     refine uX 25 (i : Int) H 2 rfl i (by omega) (List.getElem?_eq_getElem z) ?_
     intro G J _ q H
     have Y := Shape.i64_bd q
     obtain ⟨rfl, -⟩ := q
     refine uV 3 0 (H.fc 0 rfl) ?_
     refine uF 3 ?_
     refine qD ((rows[i] : Int) ≥ ((m.length : Nat) : Int)) (fun K => ?_) (fun K => ?_)
     ·
      omega
     ·
      refine uR 1 [.c [5, 0, 1, 0, 0, 1, 0, 0, 1], .b 1, .c [5, 0, 1, 0, 0, 2], .l [5, 0, 1, 0, 0], .b 0, .c [6]] ?_
      refine qG (sq 0 12) ?_
      refine uP 4 ?_
      have A : i < rows.length := by omega
      refine uX 25 (i : Int) H 3 rfl i (by omega) (List.getElem?_eq_getElem A) ?_
      intro L M _ s H
      have Z := Shape.i64_bd s
      obtain ⟨rfl, -⟩ := s
      refine uV 3 0 (H.fc 0 rfl) ?_
      have B : (rows[i]).toNat < m.length := hrm
      refine uX 29 (rows[i]) H 3 rfl ((rows[i]).toNat) (by omega) (List.getElem?_eq_getElem B) ?_
      intro N O _ t H
      obtain ⟨P, Q, rfl⟩ := Shape.slice_form' t
      have H := H.addR t
      refine uV 23 0 (H.fc 1 rfl) ?_
      refine uK (copyT_own (xs := m[(rows[i]).toNat]) (H.rp 0 rfl) (by omega)) ?_
      rintro _ _ - ⟨e, f, rfl, H'⟩
      have H := H.back (M1 := []) (W1 := []) H'
      have H : Hp w S [] [] [⟨Sb, 5, .slice e ((m[(rows[i]).toNat]).length) f, m[(rows[i]).toNat]⟩, _] [_, Fc N O [.slice P ((m[(rows[i]).toNat]).length) Q], Fc L M [.I (rows[i])], Fc G J [.I (rows[i])], Fc W E [.I (rows[i])], _, _] _ := H
      have H := H.freezeW 0 rfl
      have H : Hp w S [] [] [_] [Rp SB [.slice e ((m[(rows[i]).toNat]).length) f] (m[(rows[i]).toNat]), _, _, _, _, _, _, _] _ := H
      refine RW.new (κ := .seq) (d := some 56) (r := (sq 10 12)) (o := .cells #[.slice e ((m[(rows[i]).toNat]).length) f] 23 (0, 0)) (v := fun b => .slice (some ⟨b, 0, none⟩) 1 1) (fun b => by as_aux_lemma => kernel_rfl) (nofun) H ?_
      intro R _ H
      have H := H.freeze 0 rfl SB ([m[(rows[i]).toNat]] : List (List (BitVec 8))) 1 (by simp [maxLen]) (by first | exact Nat.le_refl _ | simp) (EsP.cons (c := [.slice e ((m[(rows[i]).toNat]).length) f]) (H.rp 0 rfl) EsP.nil)
      have H : Hp w S [] [] [_] [Rp (Shape.slice SB) [.slice (some ⟨R, 0, none⟩) 1 1] ([m[(rows[i]).toNat]] : List (List (BitVec 8))), _, _, _, _, _, _, _, _] _ := H
      refine uA 29 29 24 ((pickL m rows).take (i + 1)) H 0 rfl 0 rfl (pickL_take (by omega) hrm) (by rw [List.length_take, pickL_len]; omega) ?_
      intro u y _ H _
      have H : Hp w S [] [] [⟨SB, 23, .slice u (((pickL m rows).take (i + 1)).length) y, (pickL m rows).take (i + 1)⟩] [_, _, _, _, _, _, _, _, _] _ := H
      refine uF 1 ?_
      refine uR 1 [.c [5, 0, 1, 0, 0, 2], .l [5, 0, 1, 0, 0], .b 0, .c [6]] ?_
      refine qG (sq 0 3) ?_
      refine qP 1 (sq 1 3) [(0, .slice a m.length k), (1, .slice b rows.length kr), (6, .I ((m.length : Nat) : Int)), (9, .slice u (((pickL m rows).take (i + 1)).length) y), (10, .I i), (32, .I i)] ?_
      refine uI ((i : Int) + 1) ?_
      refine uF 1 ?_
      have H := H.pick [7, 8] rfl
      exact uB (j (i + 1, u, y) _ ⟨H, by omega⟩ (by first | omega | (simp only []; omega)))
   ·
    refine uR 3 [.c [7]] ?_
    refine qT (.tuple #[.slice ao (((pickL m rows).take i).length) co, .I 0]) Try.func107 ?_
    have H : Hp w S [] [] [] [Rp (Shape.slice SB) [.slice ao (((pickL m rows).take i).length) co] ((pickL m rows).take i), _, _] _ := H.freezeW 0 rfl
    have a0 : i = rows.length := by omega
    rw [List.take_of_length_le (by rw [pickL_len]; omega)] at H ⊢
    exact ⟨_, rfl, H.done, _, _, rfl, H.out (H.rp 0 rfl)⟩
end Go.Proofs.Ytppcdmbkgficiaa
