import Derived.Test.YtppcdmbkgficiaaSBxA
import Derived.Test.YtppcdmbkgficiaaSE2
import Derived.Test.YtppcdmbkgficiaaSP7
namespace Go.Proofs.Ytppcdmbkgficiaa
open Go.BX
theorem r2check_ok {S : Nat → Prop} {w : World} {m : List (List (BitVec 8))} {a : Option Addr} {k : Nat} (h : (Shape.slice SB).rep S w [.slice a m.length k] m) {c : Nat} (hr : 1 ≤ m.length ∧ m.length ≤ 255) (hc : ∀ x ∈ m, x.length = c) (hc2 : 1 ≤ c ∧ c ≤ 255) :
 Calls Try.prog 130 #[.slice a m.length k] w (Ret fun v w' => Ext w w' ∧ v = .tuple #[.I ((m.length : Nat) : Int), .I ((c : Nat) : Int), .I 0]) := by
 have L := hc (m[0]) (List.getElem_mem (by omega))
 refine uS1 Try.func130 ?_
 have H := Hp.startF (.rp h .nil)
 refine uR 4 [.c [1, 0, 0], .c [1, 0, 1], .c [2]] ?_
 refine qG (sq 0 22) ?_
 refine uP 4 ?_
 refine uD 9 ((((m.length : Nat) : Int) : Int) < 1) (fun M => ?_) (fun M => ?_)
 ·
  omega
 ·
  refine uP 5 ?_
  refine uD 14 ((((m.length : Nat) : Int) : Int) > 255) (fun N => ?_) (fun N => ?_)
  ·
   omega
  ·
   refine uP 1 ?_
   have A : 0 < m.length := by omega
   refine uX 29 0 H 0 rfl 0 (by omega) (List.getElem?_eq_getElem A) ?_
   intro O P _ q H
   obtain ⟨B, C, rfl⟩ := Shape.slice_form' q
   have H := H.addR q
   refine uV 23 0 (H.fc 1 rfl) ?_
   refine uP 4 ?_
   refine uD 21 (((((m[0]).length : Nat) : Int) : Int) < 1) (fun D => ?_) (fun D => ?_)
   ·
    omega
   ·
    refine uP 1 ?_
    have t : 0 < m.length := by omega
    refine uX 29 0 H 2 rfl 0 (by omega) (List.getElem?_eq_getElem t) ?_
    intro E F _ f H
    obtain ⟨r, s, rfl⟩ := Shape.slice_form' f
    have H := H.addR f
    refine uV 23 0 (H.fc 1 rfl) ?_
    refine uF 3 ?_
    refine qD (((((m[0]).length : Nat) : Int) : Int) > 255) (fun G => ?_) (fun G => ?_)
    ·
     omega
    ·
     refine uR 5 [.c [2, 0, 1, 0], .b 0, .c [3]] ?_
     refine uL (α := Nat) (g := 130) (p := [2, 0, 1, 0, 0]) (fun i => [(0, .slice a m.length k), (5, .I i)]) (fun i w' => Hp w S [] [] [] [Rp SB [.slice r (m[0]).length s] (m[0]), Fc E F [.slice r (m[0]).length s], Rp SB [.slice B (m[0]).length C] (m[0]), Fc O P [.slice B (m[0]).length C], Rp (Shape.slice SB) [.slice a m.length k] m] w' ∧ i ≤ m.length) (fun i => m.length - i) 0 ⟨H, Nat.zero_le _⟩ ?_
     rintro i d ⟨H, _⟩ e
     refine uR 3 [.c [2, 0, 1, 0, 0, 0, 1], .c [2, 0, 1, 0, 0, 1], .l [2, 0, 1, 0, 0], .b 0, .c [3]] ?_
     refine qD (((i : Int) : Int) < ((m.length : Nat) : Int)) (fun J => ?_) (fun J => ?_)
     ·
      have Q := hc (m[i]) (List.getElem_mem (by omega))
      refine uR 4 [.c [2, 0, 1, 0, 0, 1, 0, 0, 0], .c [2, 0, 1, 0, 0, 1, 0, 0, 1], .b 1, .c [2, 0, 1, 0, 0, 2], .l [2, 0, 1, 0, 0], .b 0, .c [3]] ?_
      refine WK.draw1 10 (qs [0, 1, 2, 3, 4, 5, 6, 7, 8, 9]) (qs [0, 1, 2, 3, 4, 5, 6, 7, 8, 9]) Try_mixed (by as_aux_lemma => kernel_rfl) (by as_aux_lemma => kernel_rfl) (by as_aux_lemma => kernel_rfl) ?_
      have H := H.draw
      generalize ({ d with drawn := d.drawn + 1 } : World) = R at H ⊢
      refine uP 2 ?_
      have u : i < m.length := by omega
      refine uX 29 (i : Int) H 4 rfl i (by omega) (List.getElem?_eq_getElem u) ?_
      intro _ _ _ j H
      obtain ⟨_, _, rfl⟩ := Shape.slice_form' j
      have H := H.addR j
      refine uV 23 0 (H.fc 1 rfl) ?_
      refine uP 2 ?_
      have y : 0 < m.length := by omega
      refine uX 29 0 H 6 rfl 0 (by omega) (List.getElem?_eq_getElem y) ?_
      intro _ _ _ n H
      obtain ⟨_, _, rfl⟩ := Shape.slice_form' n
      have H := H.addR n
      refine uV 23 0 (H.fc 1 rfl) ?_
      refine uF 2 ?_
      refine qN (((m[i]).length : Nat) : Int) (((m[0]).length : Nat) : Int) (fun K => ?_) (fun K => ?_)
      ·
       omega
      ·
       refine uR 2 [.c [2, 0, 1, 0, 0, 2], .l [2, 0, 1, 0, 0], .b 0, .c [3]] ?_
       refine qG (sq 0 3) ?_
       refine uP 1 ?_
       refine uI ((i : Int) + 1) ?_
       refine uF 1 ?_
       have H := H.pick [4, 5, 6, 7, 8] rfl
       exact uB (e (i + 1) _ ⟨H, by omega⟩ (by first | omega | (simp only []; omega)))
     ·
      refine uR 2 [.c [3, 0], .c [4]] ?_
      refine WK.draw1 9 (qs [0, 1, 2, 3, 4, 5, 6, 7, 8]) (qs [0, 1, 2, 3, 4, 5, 6, 7, 8]) Try_mixed (by as_aux_lemma => kernel_rfl) (by as_aux_lemma => kernel_rfl) (by as_aux_lemma => kernel_rfl) ?_
      have H := H.draw
      generalize ({ d with drawn := d.drawn + 1 } : World) = T at H ⊢
      refine uP 3 ?_
      have z : 0 < m.length := by omega
      refine uX 29 0 H 4 rfl 0 (by omega) (List.getElem?_eq_getElem z) ?_
      intro _ _ _ o H
      obtain ⟨_, _, rfl⟩ := Shape.slice_form' o
      have H := H.addR o
      refine uV 23 0 (H.fc 1 rfl) ?_
      refine uF 4 ?_
      refine qT (.tuple #[.I ((m.length : Nat) : Int), .I (((m[0]).length : Nat) : Int), .I 0]) Try.func130 ?_
      exact ⟨_, rfl, H.done, by rw [L]⟩
theorem copyT_own {S : Nat → Prop} {w : World} {xs : List (BitVec 8)} {a : Option Addr} {c : Nat} (h : SB.rep S w [.slice a xs.length c] xs) (hby : xs.length ≤ 140737488355328) :
 Calls Try.prog 33 #[.slice a xs.length c] w (Ret fun v w' => Ext w w' ∧ ∃ (a' : Option Addr) (c' : Nat), v = .slice a' xs.length c' ∧ Hp w S [] [] [⟨Sb, 5, .slice a' xs.length c', xs⟩] [] w') := by
 refine uS1 Try.func33 ?_
 have H := Hp.startF (.rp h .nil)
 refine uR 3 [.c [1, 0], .c [2]] ?_
 refine qG (sq 0 4) ?_
 refine RW.new (κ := .seq) (d := some 3) (r := (sq 1 4)) (o := .cells #[] 5 (0, 0)) (v := fun b => .slice (some ⟨b, 0, none⟩) 0 0) (fun b => by as_aux_lemma => kernel_rfl) (nofun) H ?_
 intro g _ H
 refine uP 1 ?_
 have H := H.toOwn (sh := Sb) (xs := []) (cap := 0) (by rfl) (Nat.le_refl _) (Nat.zero_le _) (by simp) EsP.nil
 have H : Hp w S [] [] [⟨Sb, 5, .slice (some ⟨g, 0, none⟩) 0 0, []⟩] [_] _ := H
 refine uA 23 23 1 xs H 0 rfl 0 rfl (rfl) (by omega) ?_
 intro e f _ H _
 have H : Hp w S [] [] [⟨Sb, 5, .slice e xs.length f, xs⟩] [_] _ := H
 refine uF 1 ?_
 refine qT (.slice e xs.length f) Try.func33 ?_
 exact ⟨_, rfl, H.done, _, _, rfl, H.pick [] rfl⟩
theorem r2copy_own {S : Nat → Prop} {w : World} {m : List (List (BitVec 8))} {a : Option Addr} {k : Nat} (h : (Shape.slice SB).rep S w [.slice a m.length k] m) {c : Nat} (hr : m.length ≤ 255) (hc : ∀ x ∈ m, x.length = c) (hc2 : c ≤ 255) :
 Calls Try.prog 131 #[.slice a m.length k] w (Ret fun v w' => Ext w w' ∧ ∃ (R : List RowD) (a : Option Addr) (c' : Nat), v = .slice a m.length c' ∧ R.length = m.length ∧ (∀ r ∈ R, r.n = c) ∧ R.map RowD.xs = m ∧ Hp w S [] [] (⟨Shape.raw, 23, .slice a m.length c', R.map RowD.v⟩ :: rowsW 5 R) [] w') := by
 refine uS1 Try.func131 ?_
 have H := Hp.startF (.rp h .nil)
 refine uR 8 [.c [2, 0, 1, 0], .b 0, .c [3]] ?_
 have H := H.ownNil Shape.raw 23
 have H : Hp w S [] [] (⟨Shape.raw, 23, .slice none 0 0, ([] : List RowD).map RowD.v⟩ :: (rowsW 5 ([] : List RowD))) [_] _ := H
 refine uL (α := Nat × List RowD × Option Addr × Nat) (g := 131) (p := [2, 0, 1, 0, 0]) (fun (i, R, ao, co) => [(0, .slice a m.length k), (3, .slice ao (R.map RowD.v).length co), (4, .I i)]) (fun (i, R, ao, co) w' => Hp w S [] [] (⟨Shape.raw, 23, .slice ao (R.map RowD.v).length co, R.map RowD.v⟩ :: (rowsW 5 R)) [Rp (Shape.slice SB) [.slice a m.length k] m] w' ∧ i ≤ m.length ∧ R.length = i ∧ (∀ r ∈ R, r.n = c) ∧ R.map RowD.xs = m.take i) (fun (i, R, ao, co) => m.length - i) (0, ([] : List RowD), none, 0) ⟨H, by omega, rfl, fun r h => (by cases h), rfl⟩ ?_
 rintro ⟨i, R, ao, co⟩ _ ⟨H, e⟩ q
 have hRl : (R.map RowD.v).length = i := by rw [List.length_map]; exact e.2.1
 refine uR 3 [.c [2, 0, 1, 0, 0, 0, 1], .c [2, 0, 1, 0, 0, 1], .l [2, 0, 1, 0, 0], .b 0, .c [3]] ?_
 refine qD (((i : Int) : Int) < ((m.length : Nat) : Int)) (fun C => ?_) (fun C => ?_)
 ·
  have y := hc (m[i]) (List.getElem_mem (by omega))
  refine uR 3 [.c [2, 0, 1, 0, 0, 1, 0, 0], .b 1, .c [2, 0, 1, 0, 0, 2], .l [2, 0, 1, 0, 0], .b 0, .c [3]] ?_
  refine qG (sq 0 9) ?_
  refine uP 3 ?_
  have z : i < m.length := by omega
  refine uX 29 (i : Int) H 0 rfl i (by omega) (List.getElem?_eq_getElem z) ?_
  intro D E _ s H
  obtain ⟨F, A, rfl⟩ := Shape.slice_form' s
  have H := H.addR s
  refine uV 23 0 (H.fc 1 rfl) ?_
  refine uK (copyT_own (xs := m[i]) (H.rp 0 rfl) (by omega)) ?_
  rintro _ _ - ⟨f, j, rfl, H'⟩
  have H := H.back (M1 := []) (W1 := []) H'
  have H : Hp w S [] [] (⟨Sb, 5, .slice f (m[i]).length j, m[i]⟩ :: ⟨Shape.raw, 23, .slice ao (R.map RowD.v).length co, R.map RowD.v⟩ :: (rowsW 5 R)) [_, Fc D E [.slice F (m[i]).length A], _] _ := H
  have H := H.perms (M' := []) (W' := (⟨Shape.raw, 23, .slice ao (R.map RowD.v).length co, R.map RowD.v⟩ :: (rowsW 5 (R ++ [(⟨f, (m[i]).length, j, m[i]⟩ : RowD)])))) (List.Perm.refl _) (((rowsW_snoc (r := (⟨f, (m[i]).length, j, m[i]⟩ : RowD))).append_left ([⟨Shape.raw, 23, .slice ao (R.map RowD.v).length co, R.map RowD.v⟩] : List OwnS)).trans List.perm_middle)
  have H : Hp w S [] [] _ [_, _, _] _ := H
  refine RW.new (κ := .seq) (d := some 17) (r := (sq 7 9)) (o := .cells #[.slice f (m[i]).length j] 23 (0, 0)) (v := fun b => .slice (some ⟨b, 0, none⟩) 1 1) (fun b => by as_aux_lemma => kernel_rfl) (nofun) H ?_
  intro B _ H
  have H := H.freeze 0 rfl Shape.raw ([.slice f (m[i]).length j] : List Value) 1 (by simp [maxLen]) (Nat.le_refl _) (EsP.cons (c := [.slice f (m[i]).length j]) ⟨rfl, rfl⟩ EsP.nil)
  have H : Hp w S [] [] _ [Rp (Shape.slice Shape.raw) [.slice (some ⟨B, 0, none⟩) 1 1] ([.slice f (m[i]).length j] : List Value), _, _, _] _ := H
  refine uA 29 29 24 ((R ++ [(⟨f, (m[i]).length, j, m[i]⟩ : RowD)]).map RowD.v) H 0 rfl 0 rfl (by rw [List.map_append]; rfl) (by rw [List.map_append, List.length_append, hRl]; simp only [List.map_cons, List.map_nil, List.length_cons, List.length_nil]; omega) ?_
  intro t u _ H _
  have H : Hp w S [] [] (⟨Shape.raw, 23, .slice t (((R ++ [(⟨f, (m[i]).length, j, m[i]⟩ : RowD)]).map RowD.v).length) u, (R ++ [(⟨f, (m[i]).length, j, m[i]⟩ : RowD)]).map RowD.v⟩ :: (rowsW 5 (R ++ [(⟨f, (m[i]).length, j, m[i]⟩ : RowD)]))) [_, _, _, _] _ := H
  refine uF 1 ?_
  refine uR 1 [.c [2, 0, 1, 0, 0, 2], .l [2, 0, 1, 0, 0], .b 0, .c [3]] ?_
  refine qG (sq 0 3) ?_
  refine uP 1 ?_
  refine uI ((i : Int) + 1) ?_
  refine uF 1 ?_
  have H := H.pick [3] rfl
  exact uB (q (i + 1, (R ++ [(⟨f, (m[i]).length, j, m[i]⟩ : RowD)]), t, u) _ ⟨H, by omega, by rw [List.length_append, e.2.1]; rfl, by intro r hr; rcases List.mem_append.1 hr with hr | hr; exact e.2.2.1 r hr; rw [List.mem_singleton.1 hr]; exact y, by rw [List.map_append, e.2.2.2, List.take_succ_eq_append_getElem (by omega)]; rfl⟩ (by first | omega | (simp only []; omega)))
 ·
  refine uR 3 [.c [4]] ?_
  refine qT (.slice ao (R.map RowD.v).length co) Try.func131 ?_
  have hin : i = m.length := by omega
  subst hin
  rw [hRl] at H ⊢
  exact ⟨_, rfl, H.done, R, _, _, rfl, e.2.1, e.2.2.1, by rw [e.2.2.2, List.take_length], H.pick [] rfl⟩
def idSt (n i : Nat) : List (List (BitVec 8)) := (List.range n).map fun t => if t < i then idRow n t else List.replicate n 0#8
theorem idSt_zero {n : Nat} : List.replicate n (List.replicate n 0#8) = idSt n 0 := by
 unfold idSt
 apply List.ext_getElem?
 intro t
 rw [List.getElem?_replicate, List.getElem?_map]
 split
 · rename_i h; rw [List.getElem?_range h]; rfl
 · rename_i h; rw [List.getElem?_eq_none (by simpa using h)]; rfl
theorem idSt_at {n i : Nat} (h : i < n) : (idSt n i)[i]? = some (List.replicate n 0#8) := by
 unfold idSt
 rw [List.getElem?_map, List.getElem?_range h]
 simp
theorem idSt_set {n i : Nat} (h : i < n) : (idSt n i).set i ((List.replicate n 0#8).set i 1#8) = idSt n (i + 1) := by
 unfold idSt
 apply List.ext_getElem?
 intro t
 rw [List.getElem?_set]
 split
 · rename_i e
   subst e
   rw [List.getElem?_map, List.getElem?_range h]
   simp only [List.length_map, List.length_range, if_pos h, Option.map_some, if_pos (Nat.lt_succ_self i)]
   rfl
 · rename_i e
   rw [List.getElem?_map, List.getElem?_map]
   by_cases ht : t < n
   · rw [List.getElem?_range ht]
     simp only [Option.map_some]
     congr 1
     by_cases h1 : t < i
     · rw [if_pos h1, if_pos (by omega)]
     · rw [if_neg h1, if_neg (by omega)]
   · rw [List.getElem?_eq_none (by simpa using ht)]; rfl
theorem idSt_all {n : Nat} : idSt n n = ident n := by
 unfold idSt ident
 apply List.map_congr_left
 intro t ht
 rw [if_pos (List.mem_range.1 ht)]
theorem r2ident_own {S : Nat → Prop} {w : World} (n : Nat) (hn : 1 ≤ n ∧ n ≤ 255) :
 Calls Try.prog 132 #[.I n] w (Ret fun v w' => Ext w w' ∧ ∃ (R : List RowD) (a : Option Addr) (c' : Nat), v = .tuple #[.slice a n c', .I 0] ∧ R.length = n ∧ (∀ r ∈ R, r.n = n) ∧ R.map RowD.xs = ident n ∧ Hp w S [] [] (⟨Shape.raw, 23, .slice a n c', R.map RowD.v⟩ :: rowsW 5 R) [] w') := by
 refine uS1 Try.func132 ?_
 have H := Hp.startF (w := w) (S := S) (G := []) .nil
 refine uR 4 [.c [1, 0, 0], .c [1, 0, 1], .c [2]] ?_
 refine qG (sq 0 6) ?_
 refine uP 3 ?_
 refine uD 8 (((n : Int) : Int) < 1) (fun N => ?_) (fun N => ?_)
 ·
  omega
 ·
  refine uF 3 ?_
  refine qD (((n : Int) : Int) > 255) (fun O => ?_) (fun O => ?_)
  ·
   omega
  ·
   refine uR 2 [.c [2, 0], .c [3]] ?_
   refine qG (sq 0 4) ?_
   refine uP 2 ?_
   refine uK (zeros_spec (S := Av S w [] (idsOf [] [])) n n (by omega) (by omega)) ?_
   rintro _ _ - ⟨A, o, q, rfl, B, C, D, H'⟩
   have H := H.back (M1 := []) (W1 := []) H'
   have H := H.perms (M' := []) (W' := (⟨Shape.raw, 23, .slice o n q, A.map RowD.v⟩ :: (rowsW 5 A))) (List.Perm.refl _) (List.Perm.of_eq (List.append_nil _).symm)
   have H : Hp w S [] [] _ [] _ := H
   refine uF 1 ?_
   refine uR 4 [.c [3, 0, 1, 0], .b 0, .c [4]] ?_
   refine uL (α := Nat × List RowD) (g := 132) (p := [3, 0, 1, 0, 0]) (fun (i, R) => [(0, .I n), (4, .slice o n q), (5, .I i)]) (fun (i, R) w' => Hp w S [] [] (⟨Shape.raw, 23, .slice o n q, R.map RowD.v⟩ :: (rowsW 5 R)) [] w' ∧ i ≤ n ∧ R.length = n ∧ (∀ r ∈ R, r.n = n) ∧ R.map RowD.xs = idSt n i) (fun (i, R) => n - i) (0, A) ⟨H, by omega, B, C, by rw [D]; exact idSt_zero⟩ ?_
   rintro ⟨i, R⟩ _ ⟨H, h⟩ s
   refine uR 3 [.c [3, 0, 1, 0, 0, 0, 1], .c [3, 0, 1, 0, 0, 1], .l [3, 0, 1, 0, 0], .b 0, .c [4]] ?_
   refine qD (((i : Int) : Int) < (n : Int)) (fun L => ?_) (fun L => ?_)
   ·
    refine uR 3 [.c [3, 0, 1, 0, 0, 1, 0, 0], .b 1, .c [3, 0, 1, 0, 0, 2], .l [3, 0, 1, 0, 0], .b 0, .c [4]] ?_
    refine qG (sq 0 7) ?_
    refine uP 2 ?_
    obtain ⟨f, j⟩ : ∃ q_, R[i]? = some q_ := ⟨_, List.getElem?_eq_getElem (by omega)⟩
    have H := H.perms (M' := []) (W' := (⟨Shape.raw, 23, .slice o n q, R.map RowD.v⟩ :: ⟨Sb, 5, .slice f.a f.n f.c, f.xs⟩ :: (rowsW 5 (R.eraseIdx i)))) (List.Perm.refl _) ((rowsW_pick j).append_left ([⟨Shape.raw, 23, .slice o n q, R.map RowD.v⟩] : List OwnS))
    have hrx : f.xs = List.replicate n 0#8 := Option.some.inj ((rowsX_at j h.2.2.2).symm.trans (idSt_at (by omega)))
    have hrl : f.xs.length = n := by rw [hrx, List.length_replicate]
    have hrn : f.n = n := h.2.2.1 f (List.mem_of_getElem? j)
    have E : n = (R.map RowD.v).length := by rw [List.length_map]; omega
    have F : i < (R.map RowD.v).length := by rw [List.length_map]; omega
    refine RW.indexW (κ := .seq) (d := some 22) (r := (sq 3 7)) (T := 29) (e := 23) (m := 1) (ik := .i64) (ix := (i : Int)) (sh := Shape.raw) (xs := R.map RowD.v) (a := o) (len := n) (cap := q) (by as_aux_lemma => kernel_rfl) (by as_aux_lemma => kernel_rfl) rfl H i (by omega) F E ?_
    intro _ _ _ t u
    rw [rowsV_at j] at u
    obtain ⟨rfl, -⟩ := u
    refine uV 23 0 t ?_
    refine uP 1 ?_
    have H := H.frontW 1 (W' := (⟨Sb, 5, .slice f.a f.n f.c, f.xs⟩ :: ⟨Shape.raw, 23, .slice o n q, R.map RowD.v⟩ :: (rowsW 5 (R.eraseIdx i)))) rfl
    have y : f.n = f.xs.length := by omega
    have z : i < f.xs.length := by omega
    refine RW.indexW (κ := .seq) (d := some 25) (r := (sq 6 7)) (T := 23) (e := 5) (m := 1) (ik := .i64) (ix := (i : Int)) (sh := Sb) (xs := f.xs) (a := f.a) (len := f.n) (cap := f.c) (by as_aux_lemma => kernel_rfl) (by as_aux_lemma => kernel_rfl) rfl H i (by omega) z y ?_
    intro M _ J _ K
    obtain rfl := K
    refine RW.storeW (d := none) (r := (sq 7 7)) (e := 5) (m := 1) (b := M) (k := i) (v := .int .u8 1) (by as_aux_lemma => kernel_rfl) rfl (by as_aux_lemma => kernel_rfl) H J z y (1#8) (Shape.bv_lit (x := 1#8) (by decide)) ?_
    intro _ H
    refine uF 0 ?_
    refine uR 1 [.c [3, 0, 1, 0, 0, 2], .l [3, 0, 1, 0, 0], .b 0, .c [4]] ?_
    refine qG (sq 0 3) ?_
    refine uP 1 ?_
    refine uI ((i : Int) + 1) ?_
    refine uF 1 ?_
    have H := H.frontW 1 (W' := (⟨Shape.raw, 23, .slice o n q, R.map RowD.v⟩ :: ⟨Sb, 5, .slice f.a f.n f.c, f.xs.set i (1#8)⟩ :: (rowsW 5 (R.eraseIdx i)))) rfl
    have H := H.perms (M' := []) (W' := (⟨Shape.raw, 23, .slice o n q, R.map RowD.v⟩ :: (rowsW 5 (R.set i (⟨f.a, f.n, f.c, f.xs.set i (1#8)⟩ : RowD))))) (List.Perm.refl _) ((rowsW_put (⟨f.a, f.n, f.c, f.xs.set i (1#8)⟩ : RowD) (List.getElem?_eq_some_iff.1 j).1).append_left ([⟨Shape.raw, 23, .slice o n q, R.map RowD.v⟩] : List OwnS))
    have H := H.reW (ys := (R.set i (⟨f.a, f.n, f.c, f.xs.set i (1#8)⟩ : RowD)).map RowD.v) (rowsV_set (r' := (⟨f.a, f.n, f.c, f.xs.set i (1#8)⟩ : RowD)) j rfl)
    have H : Hp w S [] [] (⟨Shape.raw, 23, .slice o n q, (R.set i (⟨f.a, f.n, f.c, f.xs.set i (1#8)⟩ : RowD)).map RowD.v⟩ :: (rowsW 5 (R.set i (⟨f.a, f.n, f.c, f.xs.set i (1#8)⟩ : RowD)))) [] _ := H
    exact uB (s (i + 1, (R.set i (⟨f.a, f.n, f.c, f.xs.set i (1#8)⟩ : RowD))) _ ⟨H, by omega, by rw [List.length_set]; exact h.2.1, rows_n h.2.2.1 j rfl, by rw [rowsX_set, h.2.2.2]; simp only []; rw [hrx]; exact idSt_set (by omega)⟩ (by first | omega | (simp only []; omega)))
   ·
    refine uR 3 [.c [5]] ?_
    refine qT (.tuple #[.slice o n q, .I 0]) Try.func132 ?_
    have hin : i = n := by omega
    subst hin
    exact ⟨_, rfl, H.done, R, _, _, rfl, h.2.1, h.2.2.1, by rw [h.2.2.2]; exact idSt_all, H.pick [] rfl⟩
def sclTo (xs : List (BitVec 8)) (c : BitVec 8) (i : Nat) : List (BitVec 8) := (scaleL xs c).take i ++ xs.drop i
def addTo (xs ys : List (BitVec 8)) (c : BitVec 8) (i : Nat) : List (BitVec 8) := (mixL xs ys c).take i ++ xs.drop i
theorem part_len {xs zs : List (BitVec 8)} {i : Nat} (h : zs.length = xs.length) : (zs.take i ++ xs.drop i).length = xs.length := by
 rw [List.length_append, List.length_take, List.length_drop, h]
 omega
theorem part_at {xs zs : List (BitVec 8)} {i : Nat} (h : zs.length = xs.length) (hi : i < xs.length) (h2 : i < (zs.take i ++ xs.drop i).length) : (zs.take i ++ xs.drop i)[i] = xs[i] := by
 rw [List.getElem_append_right (by rw [List.length_take]; omega)]
 simp only [List.length_take, List.getElem_drop]
 congr 1
 omega
theorem part_set {xs zs : List (BitVec 8)} {i : Nat} {y : BitVec 8} (h : zs.length = xs.length) (hi : i < xs.length) (hy : zs[i]? = some y) : (zs.take i ++ xs.drop i).set i y = zs.take (i + 1) ++ xs.drop (i + 1) := by
 obtain ⟨hz, rfl⟩ := List.getElem?_eq_some_iff.1 hy
 apply List.ext_getElem?
 intro j
 rw [List.getElem?_set, part_len h]
 by_cases e : i = j
 · subst e
   rw [if_pos rfl, if_pos hi, List.getElem?_append_left (by rw [List.length_take]; omega), List.getElem?_take, if_pos (Nat.lt_succ_self i), List.getElem?_eq_getElem hz]
 · rw [if_neg e]
   by_cases hj : j < i
   · rw [List.getElem?_append_left (by rw [List.length_take]; omega), List.getElem?_append_left (by rw [List.length_take]; omega), List.getElem?_take, List.getElem?_take, if_pos hj, if_pos (by omega)]
   · rw [List.getElem?_append_right (by rw [List.length_take]; omega), List.getElem?_append_right (by rw [List.length_take]; omega), List.length_take, List.length_take, List.getElem?_drop, List.getElem?_drop]
     congr 1
     omega
theorem sclTo_at {xs : List (BitVec 8)} {c : BitVec 8} {i : Nat} (hi : i < xs.length) (h2 : i < (sclTo xs c i).length) : (sclTo xs c i)[i]'h2 = xs[i]'hi := part_at (scaleL_len xs c) hi h2
theorem scaleL_get {xs : List (BitVec 8)} {c : BitVec 8} {i : Nat} (h : i < xs.length) : (scaleL xs c)[i]? = some (gmul xs[i] c) := by
 unfold scaleL mixL
 rw [List.getElem?_zipWith, List.getElem?_replicate, if_pos h, List.getElem?_eq_getElem h]
 simp
theorem r2scale_spec {S : Nat → Prop} {w : World} {O : List Nat} {xs : List (BitVec 8)} {a : Option Addr} {n k : Nat} (c : BitVec 8) (H0 : Hp w S O [] [⟨Sb, 5, .slice a n k, xs⟩] [] w) (hxl : xs.length = n) (hle : n ≤ 1000000) :
 Calls Try.prog 153 #[.slice a n k, .int .u8 ((c.toNat : Nat) : Int)] w (Ret fun v w' => v = .tuple #[] ∧ Hp w S O [] [⟨Sb, 5, .slice a n k, (scaleL xs c)⟩] [] w') := by
 have hsl : (scaleL xs c).length = xs.length := scaleL_len xs c
 refine uS1 Try.func153 ?_
 have H := H0
 refine uR 3 [.c [1, 0], .b 0] ?_
 refine uL (α := Nat) (g := 153) (p := [1, 0, 0]) (fun i => [(0, .slice a n k), (1, .int .u8 ((c.toNat : Nat) : Int)), (4, .I i)]) (fun i w' => Hp w S O [] [⟨Sb, 5, .slice a n k, (sclTo xs c i)⟩] [] w' ∧ i ≤ n) (fun i => n - i) 0 ⟨H, Nat.zero_le _⟩ ?_
 rintro i _ ⟨H, _⟩ f
 refine uR 3 [.c [1, 0, 0, 0, 1], .c [1, 0, 0, 1], .l [1, 0, 0], .b 0] ?_
 refine qD (((i : Int) : Int) < ((n : Nat) : Int)) (fun A => ?_) (fun A => ?_)
 ·
  refine uR 3 [.c [1, 0, 0, 1, 0, 0], .b 1, .c [1, 0, 0, 2], .l [1, 0, 0], .b 0] ?_
  refine qG (sq 0 10) ?_
  refine uP 4 ?_
  have x : n = (sclTo xs c i).length := by rw [show (sclTo xs c i).length = xs.length from part_len hsl]; omega
  have y : i < (sclTo xs c i).length := by rw [show (sclTo xs c i).length = xs.length from part_len hsl]; omega
  refine RW.indexW (κ := .seq) (d := some 15) (r := (sq 5 10)) (T := 23) (e := 5) (m := 1) (ik := .i64) (ix := (i : Int)) (sh := Sb) (xs := (sclTo xs c i)) (a := a) (len := n) (cap := k) (by as_aux_lemma => kernel_rfl) (by as_aux_lemma => kernel_rfl) rfl H i (by omega) y x ?_
  intro _ _ _ h j
  rw [sclTo_at (xs := xs) (c := c) (i := i) (by omega) _] at j
  obtain rfl := j
  refine uV 5 0 h ?_
  refine uP 1 ?_
  refine uK (r1mul_spec (S := fun _ => True) (xs[i]) c) ?_
  rintro _ _ s rfl
  have H := H.ext s
  have o : n = (sclTo xs c i).length := by rw [show (sclTo xs c i).length = xs.length from part_len hsl]; omega
  have q : i < (sclTo xs c i).length := by rw [show (sclTo xs c i).length = xs.length from part_len hsl]; omega
  refine RW.indexW (κ := .seq) (d := some 19) (r := (sq 9 10)) (T := 23) (e := 5) (m := 1) (ik := .i64) (ix := (i : Int)) (sh := Sb) (xs := (sclTo xs c i)) (a := a) (len := n) (cap := k) (by as_aux_lemma => kernel_rfl) (by as_aux_lemma => kernel_rfl) rfl H i (by omega) q o ?_
  intro z _ t _ u
  obtain rfl := u
  refine RW.storeW (d := none) (r := (sq 10 10)) (e := 5) (m := 1) (b := z) (k := i) (v := .int .u8 (((gmul (xs[i]) c).toNat : Nat) : Int)) (by as_aux_lemma => kernel_rfl) rfl (by as_aux_lemma => kernel_rfl) H t q o (gmul (xs[i]) c) Shape.bv_mk ?_
  intro _ H
  have H := H.reW (ys := sclTo xs c (i + 1)) (part_set hsl (by omega) (scaleL_get (by omega)))
  refine uF 0 ?_
  refine uR 1 [.c [1, 0, 0, 2], .l [1, 0, 0], .b 0] ?_
  refine qG (sq 0 3) ?_
  refine uP 1 ?_
  refine uI ((i : Int) + 1) ?_
  refine uF 1 ?_
  exact uB (f (i + 1) _ ⟨H, by omega⟩ (by first | omega | (simp only []; omega)))
 ·
  refine uR 1 [] ?_
  refine WK.fin (v := .tuple #[]) Try.func153 (by as_aux_lemma => kernel_rfl) ?_
  have hin : i = n := by omega
  have B : sclTo xs c i = scaleL xs c := by unfold sclTo; rw [List.take_of_length_le (by omega), List.drop_eq_nil_of_le (by omega), List.append_nil]
  rw [B] at H
  exact ⟨_, rfl, rfl, H.pick [] rfl⟩
end Go.Proofs.Ytppcdmbkgficiaa
