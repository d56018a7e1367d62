import Derived.Test.YtppcdmbkgficiaaSBxA
import Derived.Test.YtppcdmbkgficiaaSK5
namespace Go.Proofs.Ytppcdmbkgficiaa
open Go.BX
def selF (ps : List Pc) (i : Nat) : List Pc := ps.filter fun p => decide (p.index = (i : Int))
def selI (ps : List Pc) (i : Nat) : List Pc := (List.range i).flatMap (selF ps)
def selJ (ps : List Pc) (i j : Nat) : List Pc := selI ps i ++ (ps.take j).filter fun p => decide (p.index = (i : Int))
theorem selI_succ {ps : List Pc} {i : Nat} : selI ps (i + 1) = selI ps i ++ selF ps i := by
 unfold selI
 rw [List.range_succ, List.flatMap_append]
 simp
theorem selJ_full {ps : List Pc} {i j : Nat} (h : ps.length ≤ j) : selJ ps i j = selI ps (i + 1) := by
 unfold selJ
 rw [List.take_of_length_le h, selI_succ]
 rfl
theorem selJ_zero {ps : List Pc} {i : Nat} : selI ps i = selJ ps i 0 := by simp [selJ]
theorem selJ_hit {ps : List Pc} {i j : Nat} (hj : j < ps.length) (h : (ps[j]).index = (i : Int)) : selJ ps i j ++ [ps[j]] = selJ ps i (j + 1) := by
 unfold selJ
 rw [List.take_succ_eq_append_getElem hj, List.filter_append, List.append_assoc]
 simp [h]
theorem selJ_miss {ps : List Pc} {i j : Nat} (hj : j < ps.length) (h : (ps[j]).index ≠ (i : Int)) : selJ ps i j = selJ ps i (j + 1) := by
 unfold selJ
 rw [List.take_succ_eq_append_getElem hj, List.filter_append]
 simp [h]
theorem sel_two {l : List Pc} {i : Int} (hnd : (l.map Pc.index).Nodup) (ha : ∀ p ∈ l, p.index = i) : l.length ≤ 1 := by
 rcases l with _ | ⟨a, _ | ⟨b, t⟩⟩
 · exact Nat.zero_le _
 · exact Nat.le_refl _
 · have c := ha a (by simp)
   have d := ha b (by simp)
   simp only [List.map_cons, List.nodup_cons, List.mem_cons] at hnd
   exact absurd (.inl (c.trans d.symm)) hnd.1
theorem selJ_le {ps : List Pc} {n l i j : Nat} (hok : PsOk ps n l) : (selJ ps i j).length ≤ (selI ps i).length + 1 := by
 unfold selJ
 rw [List.length_append]
 refine Nat.add_le_add_left (sel_two (i := (i : Int)) ?_ fun p hp => ?_) _
 · exact (((List.filter_sublist.trans (List.take_sublist _ _)).map _)).nodup hok.nd
 · exact of_decide_eq_true (List.mem_filter.1 hp).2
theorem selI_mem {ps : List Pc} {i : Nat} {p : Pc} : p ∈ selI ps i ↔ p ∈ ps ∧ 0 ≤ p.index ∧ p.index < (i : Int) := by
 unfold selI selF
 rw [List.mem_flatMap]
 constructor
 · rintro ⟨t, ht, hp⟩
   have ht := List.mem_range.1 ht
   have hp := List.mem_filter.1 hp
   have a := of_decide_eq_true hp.2
   exact ⟨hp.1, by omega, by omega⟩
 · rintro ⟨b, a, _⟩
   exact ⟨p.index.toNat, List.mem_range.2 (by omega), List.mem_filter.2 ⟨b, decide_eq_true (by omega)⟩⟩
theorem PsOk.inj {ps : List Pc} {n l : Nat} (hok : PsOk ps n l) {a b : Pc} (ha : a ∈ ps) (hb : b ∈ ps) (h : a.index = b.index) : a = b := by
 obtain ⟨i, hi, rfl⟩ := List.mem_iff_getElem.1 ha
 obtain ⟨j, hj, rfl⟩ := List.mem_iff_getElem.1 hb
 have := (List.getElem_inj (h₀ := by rw [List.length_map]; exact hi) (h₁ := by rw [List.length_map]; exact hj) hok.nd (i := i) (j := j)).1 (by rw [List.getElem_map, List.getElem_map]; exact h)
 subst this
 rfl
theorem PsOk.nodup {ps : List Pc} {n l : Nat} (hok : PsOk ps n l) : ps.Nodup := by
 have h := hok.nd
 rw [List.Nodup, List.pairwise_map] at h
 exact h.imp fun {a b} hab e => hab (congrArg _ e)
theorem selI_pw {ps : List Pc} {n l i : Nat} (hok : PsOk ps n l) {R : Pc → Pc → Prop} (hR : ∀ a b : Pc, a.index < b.index → R a b) (h1 : ∀ t, (selF ps t).Pairwise R) : (selI ps i).Pairwise R := by
 unfold selI
 rw [List.pairwise_flatMap]
 refine ⟨fun a _ => h1 a, List.pairwise_lt_range.imp fun {a b} hab x hx y hy => hR x y ?_⟩
 have c := of_decide_eq_true (List.mem_filter.1 hx).2
 have d := of_decide_eq_true (List.mem_filter.1 hy).2
 omega
theorem selI_sorted {ps : List Pc} {n l i : Nat} (hok : PsOk ps n l) : (selI ps i).Pairwise fun x y => x.index ≤ y.index := by
 refine selI_pw hok (fun a b h => Int.le_of_lt h) fun t => ?_
 refine List.Pairwise.imp_of_mem (R := fun _ _ => True) (fun {a b} ha hb _ => ?_) (List.pairwise_of_forall fun _ _ => trivial)
 have c := of_decide_eq_true (List.mem_filter.1 ha).2
 have d := of_decide_eq_true (List.mem_filter.1 hb).2
 omega
theorem selI_perm {ps : List Pc} {n l : Nat} (hok : PsOk ps n l) : (selI ps n).Perm ps := by
 refine (List.perm_ext_iff_of_nodup ?_ hok.nodup).2 fun p => ?_
 · exact selI_pw hok (fun a b h e => by subst e; exact absurd h (Int.lt_irrefl _)) fun t => List.filter_sublist.nodup hok.nodup
 · rw [selI_mem]
   exact ⟨fun h => h.1, fun h => ⟨h, hok.rng p h⟩⟩
theorem sel_eq {ps ys : List Pc} {n l : Nat} (hok : PsOk ps n l) (hy : ys.Perm ps) (hs : ys.Pairwise fun x y => x.index ≤ y.index) : ys = selI ps n :=
 (hy.trans (selI_perm hok).symm).eq_of_pairwise (fun a b ha hb h1 h2 => hok.inj (hy.mem_iff.1 ha) ((selI_perm hok).mem_iff.1 hb) (Int.le_antisymm h1 h2)) hs (selI_sorted hok)
theorem sel_pre {ps : List Pc} {i : Nat} : ∀ m, ∃ t, selI ps (i + m) = selI ps i ++ t
 | 0 => ⟨[], by simp⟩
 | m + 1 => by
  obtain ⟨t, ht⟩ := sel_pre (ps := ps) (i := i) m
  exact ⟨t ++ selF ps (i + m), by rw [← Nat.add_assoc, selI_succ, ht, List.append_assoc]⟩
theorem sel_take {ps : List Pc} {i n k : Nat} (hi : i ≤ n) (hl : (selI ps i).length = k) : (selI ps n).take k = selI ps i := by
 obtain ⟨t, ht⟩ := sel_pre (ps := ps) (i := i) (n - i)
 rw [show i + (n - i) = n by omega] at ht
 rw [ht, List.take_left' hl]
theorem psok_snoc {ps : List Pc} {n l i : Nat} (h : PsOk (ps.take i) n l) (hi : i < ps.length) (h1 : 0 ≤ (ps[i]).index ∧ (ps[i]).index < (n : Int)) (h2 : (ps[i]).data.length = l) (h3 : ∀ (j : Nat) (hj : j < i), (ps[j]'(by omega)).index ≠ (ps[i]).index) : PsOk (ps.take (i + 1)) n l := by
 have e := List.take_succ_eq_append_getElem hi
 refine ⟨?_, fun p hp => ?_, fun p hp => ?_⟩
 · rw [e, List.map_append, List.nodup_append]
   refine ⟨h.nd, by simp, fun a ha b hb => ?_⟩
   obtain ⟨q, hq, rfl⟩ := List.mem_map.1 ha
   obtain ⟨j, hj, rfl⟩ := List.mem_iff_getElem.1 hq
   rw [List.length_take] at hj
   simp only [List.map_cons, List.map_nil, List.mem_singleton] at hb
   subst hb
   rw [List.getElem_take]
   exact h3 j (by omega)
 · rw [e] at hp
   rcases List.mem_append.1 hp with hp | hp
   · exact h.rng p hp
   · rw [List.mem_singleton.1 hp]; exact h1
 · rw [e] at hp
   rcases List.mem_append.1 hp with hp | hp
   · exact h.len p hp
   · rw [List.mem_singleton.1 hp]; exact h2
theorem psok_nil {n l : Nat} : PsOk [] n l := ⟨by simp, by simp, by simp⟩
instance (ps : List Pc) (n l : Nat) : Decidable (PsOk ps n l) := decidable_of_iff ((ps.map Pc.index).Nodup ∧ (∀ p ∈ ps, 0 ≤ p.index ∧ p.index < (n : Int)) ∧ ∀ p ∈ ps, p.data.length = l) ⟨fun h => ⟨h.1, h.2.1, h.2.2⟩, fun h => ⟨h.nd, h.rng, h.len⟩⟩
theorem r4pick_ok {S : Nat → Prop} {w : World} {ps : List Pc} {a : Option Addr} {c : Nat} (h : (Shape.slice pcS).rep S w [.slice a ps.length c] ps) {size k n : Nat} (hs : size ≤ 65536) (hk : 1 ≤ k) (hkn : k ≤ n) (hn : n ≤ 255) (hok : PsOk ps n (lenOf size k)) (hlen : k ≤ ps.length) :
 Calls Try.prog 76 #[.slice a ps.length c, .I size, .I k, .I n] w (Ret fun v w' => Ext w w' ∧ ∃ (a : Option Addr) (c : Nat), v = .tuple #[.slice a ((selI ps n).take k).length c, .I 0] ∧ (Shape.slice pcS).rep (Nw S w) w' [.slice a ((selI ps n).take k).length c] ((selI ps n).take k)) := by
 have hpl := Shape.slice_len h
 have hple := hok.le
 refine uS1 Try.func76 ?_
 have H := Hp.startF (.rp h .nil)
 refine uR 3 [.c [1, 0], .c [2]] ?_
 refine qG (sq 0 8) ?_
 refine uP 2 ?_
 refine uK (r4len_ok (S := fun _ => True) size k hs hk (by omega)) ?_
 rintro _ _ c0 rfl
 have H := H.ext c0
 refine uF 5 ?_
 refine uR 2 [.c [2, 0, 0], .c [2, 0, 1], .c [3]] ?_
 refine qG (sq 0 11) ?_
 refine uP 8 ?_
 refine uD 31 (((n : Int) : Int) < (k : Int)) (fun h3 => ?_) (fun h3 => ?_)
 ·
  omega
 ·
  refine uF 3 ?_
  refine qD (((n : Int) : Int) > 255) (fun h4 => ?_) (fun h4 => ?_)
  ·
   omega
  ·
   refine uR 5 [.c [3, 0, 1, 0], .b 0, .c [4]] ?_
   refine uL (α := Nat) (g := 76) (p := [3, 0, 1, 0, 0]) (fun i => [(0, .slice a ps.length c), (2, .I k), (3, .I n), (10, .I ((lenOf size k : Nat) : Int)), (12, .I i)]) (fun i w' => Hp w S [] [] [] [Rp (Shape.slice pcS) [.slice a ps.length c] ps] w' ∧ i ≤ ps.length) (fun i => ps.length - i) 0 ⟨H, Nat.zero_le _⟩ ?_
   rintro i _ ⟨H, _⟩ B
   refine uR 3 [.c [3, 0, 1, 0, 0, 0, 1], .c [3, 0, 1, 0, 0, 1], .l [3, 0, 1, 0, 0], .b 0, .c [4]] ?_
   refine qD (((i : Int) : Int) < ((ps.length : Nat) : Int)) (fun h7 => ?_) (fun h7 => ?_)
   ·
    have hpi : ps[i] ∈ ps := List.getElem_mem (by omega)
    have hri := hok.rng _ hpi
    have hli := hok.len _ hpi
    refine uR 4 [.c [3, 0, 1, 0, 0, 1, 0, 0, 0], .c [3, 0, 1, 0, 0, 1, 0, 0, 1], .b 1, .c [3, 0, 1, 0, 0, 2], .l [3, 0, 1, 0, 0], .b 0, .c [4]] ?_
    refine qG (sq 0 6) ?_
    refine uP 2 ?_
    have d0 : i < ps.length := by omega
    refine uX 70 (i : Int) H 0 rfl i (by omega) (List.getElem?_eq_getElem d0) ?_
    intro b9 e0 _ N H
    obtain ⟨e, f, rfl, _, O⟩ := pc_open N
    have H := H.addR O
    refine uV 72 0 (H.fc 1 rfl) ?_
    refine uC #[.I 0, .slice none 0 0] 72 H ?_
    intro C _ H
    refine uW 72 0 #[.I ((ps[i]).index), .slice e ((ps[i]).data.length) f] H 0 rfl ?_
    intro _ H
    refine uF 0 ?_
    refine uR 2 [.c [3, 0, 1, 0, 0, 1, 0, 0, 1, 0, 0], .c [3, 0, 1, 0, 0, 1, 0, 0, 1, 0, 1], .c [3, 0, 1, 0, 0, 1, 0, 0, 2], .b 1, .c [3, 0, 1, 0, 0, 2], .l [3, 0, 1, 0, 0], .b 0, .c [4]] ?_
    refine qG (sq 0 16) ?_
    refine uP 1 ?_
    refine uV 3 0 (H.cells 0 rfl) ?_
    refine uP 2 ?_
    refine uD 48 (((ps[i]).index : Int) < 0) (fun f0 => ?_) (fun f0 => ?_)
    ·
     omega
    ·
     refine uP 1 ?_
     refine uV 3 0 (H.cells 0 rfl) ?_
     refine uP 4 ?_
     refine uD 54 (((ps[i]).index : Int) ≥ (n : Int)) (fun g0 => ?_) (fun g0 => ?_)
     ·
      omega
     ·
      refine uP 1 ?_
      refine uV 23 1 (H.cells 0 rfl) ?_
      refine qF 4 [(0, .slice a ps.length c), (2, .I k), (3, .I n), (10, .I ((lenOf size k : Nat) : Int)), (12, .I i), (13, .P C 0), (60, .bool ((((ps[i]).data.length : Nat) : Int) != ((lenOf size k : Nat) : Int)))] ?_
      refine qN (((ps[i]).data.length : Nat) : Int) ((lenOf size k : Nat) : Int) (fun h0 => ?_) (fun h0 => ?_)
      ·
       omega
      ·
       refine uR 4 [.c [3, 0, 1, 0, 0, 1, 0, 0, 3, 0], .b 2, .b 1, .c [3, 0, 1, 0, 0, 2], .l [3, 0, 1, 0, 0], .b 0, .c [4]] ?_
       refine uL (α := Nat) (g := 76) (p := [3, 0, 1, 0, 0, 1, 0, 0, 3, 0, 0]) (fun j => [(0, .slice a ps.length c), (2, .I k), (3, .I n), (10, .I ((lenOf size k : Nat) : Int)), (12, .I i), (13, .P C 0), (14, .I j)]) (fun j w' => Hp w S [] [(C, .cells #[.I ((ps[i]).index), .slice e ((ps[i]).data.length) f] 72 (0, 0))] [] [Rp SB [.slice e ((ps[i]).data.length) f] ((ps[i]).data), Fc b9 e0 [.I ((ps[i]).index), .slice e ((ps[i]).data.length) f], Rp (Shape.slice pcS) [.slice a ps.length c] ps] w' ∧ j ≤ i) (fun j => i - j) 0 ⟨H, Nat.zero_le _⟩ ?_
       rintro j L ⟨H, _⟩ z
       refine uR 3 [.c [3, 0, 1, 0, 0, 1, 0, 0, 3, 0, 0, 0, 1], .c [3, 0, 1, 0, 0, 1, 0, 0, 3, 0, 0, 1], .l [3, 0, 1, 0, 0, 1, 0, 0, 3, 0, 0], .b 2, .b 1, .c [3, 0, 1, 0, 0, 2], .l [3, 0, 1, 0, 0], .b 0, .c [4]] ?_
       refine qD (((j : Int) : Int) < (i : Int)) (fun i0 => ?_) (fun i0 => ?_)
       ·
        have hfr : (ps[j]).index ≠ (ps[i]).index := fun q => PsOk.fresh hok (by omega) (List.mem_map.2 ⟨ps[j], List.mem_iff_getElem.2 ⟨j, by rw [List.length_take]; omega, by rw [List.getElem_take]⟩, q⟩)
        refine uR 4 [.c [3, 0, 1, 0, 0, 1, 0, 0, 3, 0, 0, 1, 0, 0, 0], .c [3, 0, 1, 0, 0, 1, 0, 0, 3, 0, 0, 1, 0, 0, 1], .b 3, .c [3, 0, 1, 0, 0, 1, 0, 0, 3, 0, 0, 2], .l [3, 0, 1, 0, 0, 1, 0, 0, 3, 0, 0], .b 2, .b 1, .c [3, 0, 1, 0, 0, 2], .l [3, 0, 1, 0, 0], .b 0, .c [4]] ?_
        refine WK.draw1 8 (qs [0, 1, 2, 3, 4, 5, 6, 7]) (qs [0, 1, 2, 3, 4, 5, 6, 7]) Try_mixed (by as_aux_lemma => kernel_rfl) (by as_aux_lemma => kernel_rfl) (by as_aux_lemma => kernel_rfl) ?_
        have H := H.draw
        generalize ({ L with drawn := L.drawn + 1 } : World) = s0 at H ⊢
        refine uP 2 ?_
        have Q : j < ps.length := by omega
        refine uX 70 (j : Int) H 2 rfl j (by omega) (List.getElem?_eq_getElem Q) ?_
        intro _ _ _ R H
        obtain ⟨_, _, rfl, _, T⟩ := pc_open R
        have H := H.addR T
        refine uP 1 ?_
        refine uV 3 0 (H.fc 1 rfl) ?_
        refine uP 1 ?_
        refine uV 3 0 (H.cells 0 rfl) ?_
        refine uF 1 ?_
        refine qE ((ps[j]).index) ((ps[i]).index) (fun M => ?_) (fun M => ?_)
        ·
         exact absurd M hfr
        ·
         refine uR 2 [.c [3, 0, 1, 0, 0, 1, 0, 0, 3, 0, 0, 2], .l [3, 0, 1, 0, 0, 1, 0, 0, 3, 0, 0], .b 2, .b 1, .c [3, 0, 1, 0, 0, 2], .l [3, 0, 1, 0, 0], .b 0, .c [4]] ?_
         refine qG (sq 0 3) ?_
         refine uP 1 ?_
         refine uI ((j : Int) + 1) ?_
         refine uF 1 ?_
         have H := H.pick [2, 3, 4] rfl
         exact uB (z (j + 1) _ ⟨H, by omega⟩ (by first | omega | (simp only []; omega)))
       ·
        refine uR 2 [.c [3, 0, 1, 0, 0, 2], .l [3, 0, 1, 0, 0], .b 0, .c [4]] ?_
        refine qG (sq 0 3) ?_
        refine uP 1 ?_
        refine uI ((i : Int) + 1) ?_
        refine uF 1 ?_
        have H := H.pick [2] rfl
        have H := H.drop (M' := []) (W' := []) (by repeat (first | exact List.Sublist.refl _ | apply List.Sublist.cons_cons | apply List.Sublist.cons)) (by repeat (first | exact List.Sublist.refl _ | apply List.Sublist.cons_cons | apply List.Sublist.cons))
        exact uB (B (i + 1) _ ⟨H, by omega⟩ (by first | omega | (simp only []; omega)))
   ·
    refine uR 4 [.c [4, 0, 1], .c [5]] ?_
    refine qD ((((ps.length : Nat) : Int) : Int) < (k : Int)) (fun j0 => ?_) (fun j0 => ?_)
    ·
     omega
    ·
     refine uR 7 [.c [6, 0, 1, 0], .b 4, .c [7]] ?_
     have H := H.ownNil pcS 72
     have H := H.drop (M' := []) (W' := [⟨pcS, 72, .slice none (selI ps 0).length 0, selI ps 0⟩]) (by repeat (first | exact List.Sublist.refl _ | exact List.nil_sublist _ | apply List.Sublist.cons_cons | apply List.Sublist.cons)) (by repeat (first | exact List.Sublist.refl _ | exact List.nil_sublist _ | apply List.Sublist.cons_cons | apply List.Sublist.cons))
     refine uL (α := Nat × Option Addr × Nat) (g := 76) (p := [6, 0, 1, 0, 0]) (fun (i, ao, co) => [(0, .slice a ps.length c), (2, .I k), (3, .I n), (15, .slice ao (selI ps i).length co), (16, .I i)]) (fun (i, ao, co) w' => Hp w S [] [] [⟨pcS, 72, .slice ao (selI ps i).length co, selI ps i⟩] [Rp (Shape.slice pcS) [.slice a ps.length c] ps] w' ∧ i ≤ n ∧ (selI ps i).length ≤ k) (fun (i, ao, co) => n - i) (0, none, 0) ⟨H, by omega, Nat.zero_le _⟩ ?_
     rintro ⟨i, ao, co⟩ _ ⟨H, _⟩ A
     refine uR 2 [.c [6, 0, 1, 0, 0, 0, 0], .c [6, 0, 1, 0, 0, 0, 1], .c [6, 0, 1, 0, 0, 1], .l [6, 0, 1, 0, 0], .b 4, .c [7]] ?_
     refine WK.join (fun b_ : Bool => b_ = decide ((i : Int) < n ∧ (((selI ps i).length : Nat) : Int) < k)) (fun b_ => [(0, .slice a ps.length c), (2, .I k), (3, .I n), (15, .slice ao (selI ps i).length co), (16, .I i), (86, .bool b_)]) [Cq Try.prog 76 [6, 0, 1, 0, 0, 0, 1], Cq Try.prog 76 [6, 0, 1, 0, 0, 1], Lq Try.prog 76 [6, 0, 1, 0, 0], .inBlock 4, Cq Try.prog 76 [7]] (fun D => ?_) (fun U y => ?_)
     ·
      refine qG (sq 0 9) ?_
      refine uP 4 ?_
      refine uD 81 (((i : Int) : Int) < (n : Int)) (fun k0 => ?_) (fun k0 => ?_)
      ·
       refine uF 5 ?_
       exact uB (D (decide (((((selI ps i).length : Nat) : Int) : Int) < (k : Int))) (decide_eq_decide.2 (by constructor <;> intro _ <;> omega)))
      ·
       refine uF 5 ?_
       exact uB (D false ((decide_eq_false (by omega)).symm))
     ·
      refine qC U (fun m => ?_) (fun m => ?_)
      ·
       rw [y] at m
       replace m := of_decide_eq_true m
       refine uR 6 [.c [6, 0, 1, 0, 0, 1, 0, 0, 1, 0], .b 6, .b 5, .c [6, 0, 1, 0, 0, 2], .l [6, 0, 1, 0, 0], .b 4, .c [7]] ?_
       have l0 : selI ps i = selJ ps i 0 := selJ_zero
       rw [l0] at H ⊢
       have H : Hp w S [] [] [⟨pcS, 72, .slice ao (selJ ps i 0).length co, selJ ps i 0⟩] [_] _ := H
       refine uL (α := Nat × Option Addr × Nat) (g := 76) (p := [6, 0, 1, 0, 0, 1, 0, 0, 1, 0, 0]) (fun (j, bo, do_) => [(0, .slice a ps.length c), (2, .I k), (3, .I n), (15, .slice bo (selJ ps i j).length do_), (16, .I i), (17, .I j)]) (fun (j, bo, do_) w' => Hp w S [] [] [⟨pcS, 72, .slice bo (selJ ps i j).length do_, selJ ps i j⟩] [Rp (Shape.slice pcS) [.slice a ps.length c] ps] w' ∧ j ≤ ps.length) (fun (j, bo, do_) => ps.length - j) (0, ao, co) ⟨H, Nat.zero_le _⟩ ?_
       rintro ⟨j, bo, do_⟩ _ ⟨H, _⟩ s
       refine qR 3 [.c [6, 0, 1, 0, 0, 1, 0, 0, 1, 0, 0, 0, 1], .c [6, 0, 1, 0, 0, 1, 0, 0, 1, 0, 0, 1], .l [6, 0, 1, 0, 0, 1, 0, 0, 1, 0, 0], .b 6, .b 5, .c [6, 0, 1, 0, 0, 2], .l [6, 0, 1, 0, 0], .b 4, .c [7]] [(0, .slice a ps.length c), (2, .I k), (3, .I n), (15, .slice bo (selJ ps i j).length do_), (16, .I i), (17, .I j), (92, .bool (decide (((j : Int) : Int) < ((ps.length : Nat) : Int))))] ?_
       refine qD (((j : Int) : Int) < ((ps.length : Nat) : Int)) (fun m0 => ?_) (fun m0 => ?_)
       ·
        refine uR 4 [.c [6, 0, 1, 0, 0, 1, 0, 0, 1, 0, 0, 1, 0, 0, 0], .c [6, 0, 1, 0, 0, 1, 0, 0, 1, 0, 0, 1, 0, 0, 1], .b 7, .c [6, 0, 1, 0, 0, 1, 0, 0, 1, 0, 0, 2], .l [6, 0, 1, 0, 0, 1, 0, 0, 1, 0, 0], .b 6, .b 5, .c [6, 0, 1, 0, 0, 2], .l [6, 0, 1, 0, 0], .b 4, .c [7]] ?_
        refine qG (sq 0 7) ?_
        refine uP 2 ?_
        have V : j < ps.length := by omega
        refine uX 70 (j : Int) H 0 rfl j (by omega) (List.getElem?_eq_getElem V) ?_
        intro n0 o0 _ W H
        obtain ⟨J, K, rfl, _, X⟩ := pc_open W
        have H := H.addR X
        refine uP 1 ?_
        refine uV 3 0 (H.fc 1 rfl) ?_
        refine uF 2 ?_
        refine qE ((ps[j]).index) (i : Int) (fun E => ?_) (fun E => ?_)
        ·
         have Y := E
         refine qG (sq 0 8) ?_
         refine uP 3 ?_
         have Z : j < ps.length := by omega
         refine uX 70 (j : Int) H 2 rfl j (by omega) (List.getElem?_eq_getElem Z) ?_
         intro p0 q0 _ a0 H
         obtain ⟨t, u, rfl, _, b0⟩ := pc_open a0
         have H := H.addR b0
         refine uV 72 0 (H.fc 1 rfl) ?_
         refine RW.new (κ := .seq) (d := some 107) (r := (sq 6 8)) (o := .cells #[.I ((ps[j]).index), .slice t ((ps[j]).data.length) u] 72 (0, 0)) (v := fun b => .slice (some ⟨b, 0, none⟩) 1 1) (fun b => by as_aux_lemma => kernel_rfl) (nofun) H ?_
         intro r0 _ H
         have H := H.freeze 0 rfl pcS ([(ps[j])] : List Pc) 1 (by simp [maxLen]) (by first | exact Nat.le_refl _ | simp) (EsP.cons (c := [.I ((ps[j]).index), .slice t ((ps[j]).data.length) u]) (pc_mk i64a (H.rp 0 rfl)) EsP.nil)
         have H : Hp w S [] [] [_] [Rp (Shape.slice pcS) [.slice (some ⟨r0, 0, none⟩) 1 1] ([(ps[j])] : List Pc), _, Fc p0 q0 [.I ((ps[j]).index), .slice t ((ps[j]).data.length) u], _, Fc n0 o0 [.I ((ps[j]).index), .slice J ((ps[j]).data.length) K], _] _ := H
         refine uA 70 70 32 (selJ ps i (j + 1)) H 0 rfl 0 rfl (selJ_hit (by omega) Y) (by have := selJ_le (i := i) (j := j + 1) hok; omega) ?_
         intro F G _ H _
         have H : Hp w S [] [] [⟨pcS, 72, .slice F ((selJ ps i (j + 1)).length) G, selJ ps i (j + 1)⟩] [_, _, _, _, _, _] _ := H
         refine uF 1 ?_
         refine uR 1 [.c [6, 0, 1, 0, 0, 1, 0, 0, 1, 0, 0, 2], .l [6, 0, 1, 0, 0, 1, 0, 0, 1, 0, 0], .b 6, .b 5, .c [6, 0, 1, 0, 0, 2], .l [6, 0, 1, 0, 0], .b 4, .c [7]] ?_
         refine qG (sq 0 3) ?_
         refine uP 1 ?_
         refine uI ((j : Int) + 1) ?_
         refine qF 1 [(0, .slice a ps.length c), (2, .I k), (3, .I n), (15, .slice F ((selJ ps i (j + 1)).length) G), (16, .I i), (17, .I ((j : Int) + 1))] ?_
         have H := H.pick [5] rfl
         exact WK.back (s (j + 1, F, G) _ ⟨H, by omega⟩ (by first | omega | (simp only []; omega))) (by first | rfl | (rw [selJ_miss (by omega) x]; rfl))
        ·
         have x := E
         refine uR 2 [.c [6, 0, 1, 0, 0, 1, 0, 0, 1, 0, 0, 2], .l [6, 0, 1, 0, 0, 1, 0, 0, 1, 0, 0], .b 6, .b 5, .c [6, 0, 1, 0, 0, 2], .l [6, 0, 1, 0, 0], .b 4, .c [7]] ?_
         refine qG (sq 0 3) ?_
         refine uP 1 ?_
         refine uI ((j : Int) + 1) ?_
         refine qF 1 [(0, .slice a ps.length c), (2, .I k), (3, .I n), (15, .slice bo (selJ ps i j).length do_), (16, .I i), (17, .I ((j : Int) + 1))] ?_
         have H := H.reW (ys := selJ ps i (j + 1)) (v' := .slice bo (selJ ps i (j + 1)).length do_) (selJ_miss (by omega) x) (by rw [selJ_miss (by omega) x])
         have H := H.pick [2] rfl
         exact WK.back (s (j + 1, bo, do_) _ ⟨H, by omega⟩ (by first | omega | (simp only []; omega))) (by first | rfl | (rw [selJ_miss (by omega) x]; rfl))
       ·
        have hjf : selJ ps i j = selI ps (i + 1) := selJ_full (by omega)
        have hjl := selJ_le (i := i) (j := j) hok
        rw [hjf] at H hjl ⊢
        refine uR 2 [.c [6, 0, 1, 0, 0, 2], .l [6, 0, 1, 0, 0], .b 4, .c [7]] ?_
        refine qG (sq 0 3) ?_
        refine uP 1 ?_
        refine uI ((i : Int) + 1) ?_
        refine uF 1 ?_
        exact uB (A (i + 1, bo, do_) _ ⟨H, by omega, by omega⟩ (by first | omega | (simp only []; omega)))
      ·
       rw [y] at m
       replace m := of_decide_eq_false m
       refine uR 3 [.c [8]] ?_
       refine qT (.tuple #[.slice ao (selI ps i).length co, .I 0]) Try.func76 ?_
       have H : Hp w S [] [] [] [Rp (Shape.slice pcS) [.slice ao (selI ps i).length co] (selI ps i), _] _ := H.freezeW 0 rfl
       have hlk : (selI ps i).length = k := by
        by_cases hin : i = n
        · have := (selI_perm hok).length_eq
          rw [← hin] at this
          omega
        · omega
       rw [← sel_take (n := n) (by omega) hlk] at H ⊢
       exact ⟨_, rfl, H.done, _, _, rfl, H.out (H.rp 0 rfl)⟩
theorem r4pick_few {S : Nat → Prop} {w : World} {ps : List Pc} {a : Option Addr} {c : Nat} (h : (Shape.slice pcS).rep S w [.slice a ps.length c] ps) {size k n : Nat} (hs : size ≤ 65536) (hk : 1 ≤ k) (hkn : k ≤ n) (hn : n ≤ 255) (hok : PsOk ps n (lenOf size k)) (hlen : ps.length < k) :
 Calls Try.prog 76 #[.slice a ps.length c, .I size, .I k, .I n] w (Ret fun v w' => Ext w w' ∧ v = .tuple #[.slice none 0 0, .I 30]) := by
 have hpl := Shape.slice_len h
 have hple := hok.le
 refine uS1 Try.func76 ?_
 have H := Hp.startF (.rp h .nil)
 refine uR 3 [.c [1, 0], .c [2]] ?_
 refine qG (sq 0 8) ?_
 refine uP 2 ?_
 refine uK (r4len_ok (S := fun _ => True) size k hs hk (by omega)) ?_
 rintro _ _ A rfl
 have H := H.ext A
 refine uF 5 ?_
 refine uR 2 [.c [2, 0, 0], .c [2, 0, 1], .c [3]] ?_
 refine qG (sq 0 11) ?_
 refine uP 8 ?_
 refine uD 31 (((n : Int) : Int) < (k : Int)) (fun K => ?_) (fun K => ?_)
 ·
  omega
 ·
  refine uF 3 ?_
  refine qD (((n : Int) : Int) > 255) (fun L => ?_) (fun L => ?_)
  ·
   omega
  ·
   refine uR 5 [.c [3, 0, 1, 0], .b 0, .c [4]] ?_
   refine uL (α := Nat) (g := 76) (p := [3, 0, 1, 0, 0]) (fun i => [(0, .slice a ps.length c), (2, .I k), (3, .I n), (10, .I ((lenOf size k : Nat) : Int)), (12, .I i)]) (fun i w' => Hp w S [] [] [] [Rp (Shape.slice pcS) [.slice a ps.length c] ps] w' ∧ i ≤ ps.length) (fun i => ps.length - i) 0 ⟨H, Nat.zero_le _⟩ ?_
   rintro i _ ⟨H, _⟩ m
   refine uR 3 [.c [3, 0, 1, 0, 0, 0, 1], .c [3, 0, 1, 0, 0, 1], .l [3, 0, 1, 0, 0], .b 0, .c [4]] ?_
   refine qD (((i : Int) : Int) < ((ps.length : Nat) : Int)) (fun M => ?_) (fun M => ?_)
   ·
    have hpi : ps[i] ∈ ps := List.getElem_mem (by omega)
    have hri := hok.rng _ hpi
    have hli := hok.len _ hpi
    refine uR 4 [.c [3, 0, 1, 0, 0, 1, 0, 0, 0], .c [3, 0, 1, 0, 0, 1, 0, 0, 1], .b 1, .c [3, 0, 1, 0, 0, 2], .l [3, 0, 1, 0, 0], .b 0, .c [4]] ?_
    refine qG (sq 0 6) ?_
    refine uP 2 ?_
    have B : i < ps.length := by omega
    refine uX 70 (i : Int) H 0 rfl i (by omega) (List.getElem?_eq_getElem B) ?_
    intro N C _ t H
    obtain ⟨d, e, rfl, _, u⟩ := pc_open t
    have H := H.addR u
    refine uV 72 0 (H.fc 1 rfl) ?_
    refine uC #[.I 0, .slice none 0 0] 72 H ?_
    intro o _ H
    refine uW 72 0 #[.I ((ps[i]).index), .slice d ((ps[i]).data.length) e] H 0 rfl ?_
    intro _ H
    refine uF 0 ?_
    refine uR 2 [.c [3, 0, 1, 0, 0, 1, 0, 0, 1, 0, 0], .c [3, 0, 1, 0, 0, 1, 0, 0, 1, 0, 1], .c [3, 0, 1, 0, 0, 1, 0, 0, 2], .b 1, .c [3, 0, 1, 0, 0, 2], .l [3, 0, 1, 0, 0], .b 0, .c [4]] ?_
    refine qG (sq 0 16) ?_
    refine uP 1 ?_
    refine uV 3 0 (H.cells 0 rfl) ?_
    refine uP 2 ?_
    refine uD 48 (((ps[i]).index : Int) < 0) (fun D => ?_) (fun D => ?_)
    ·
     omega
    ·
     refine uP 1 ?_
     refine uV 3 0 (H.cells 0 rfl) ?_
     refine uP 4 ?_
     refine uD 54 (((ps[i]).index : Int) ≥ (n : Int)) (fun E => ?_) (fun E => ?_)
     ·
      omega
     ·
      refine uP 1 ?_
      refine uV 23 1 (H.cells 0 rfl) ?_
      refine qF 4 [(0, .slice a ps.length c), (2, .I k), (3, .I n), (10, .I ((lenOf size k : Nat) : Int)), (12, .I i), (13, .P o 0), (60, .bool ((((ps[i]).data.length : Nat) : Int) != ((lenOf size k : Nat) : Int)))] ?_
      refine qN (((ps[i]).data.length : Nat) : Int) ((lenOf size k : Nat) : Int) (fun F => ?_) (fun F => ?_)
      ·
       omega
      ·
       refine uR 4 [.c [3, 0, 1, 0, 0, 1, 0, 0, 3, 0], .b 2, .b 1, .c [3, 0, 1, 0, 0, 2], .l [3, 0, 1, 0, 0], .b 0, .c [4]] ?_
       refine uL (α := Nat) (g := 76) (p := [3, 0, 1, 0, 0, 1, 0, 0, 3, 0, 0]) (fun j => [(0, .slice a ps.length c), (2, .I k), (3, .I n), (10, .I ((lenOf size k : Nat) : Int)), (12, .I i), (13, .P o 0), (14, .I j)]) (fun j w' => Hp w S [] [(o, .cells #[.I ((ps[i]).index), .slice d ((ps[i]).data.length) e] 72 (0, 0))] [] [Rp SB [.slice d ((ps[i]).data.length) e] ((ps[i]).data), Fc N C [.I ((ps[i]).index), .slice d ((ps[i]).data.length) e], Rp (Shape.slice pcS) [.slice a ps.length c] ps] w' ∧ j ≤ i) (fun j => i - j) 0 ⟨H, Nat.zero_le _⟩ ?_
       rintro j r ⟨H, _⟩ f
       refine uR 3 [.c [3, 0, 1, 0, 0, 1, 0, 0, 3, 0, 0, 0, 1], .c [3, 0, 1, 0, 0, 1, 0, 0, 3, 0, 0, 1], .l [3, 0, 1, 0, 0, 1, 0, 0, 3, 0, 0], .b 2, .b 1, .c [3, 0, 1, 0, 0, 2], .l [3, 0, 1, 0, 0], .b 0, .c [4]] ?_
       refine qD (((j : Int) : Int) < (i : Int)) (fun G => ?_) (fun G => ?_)
       ·
        have hfr : (ps[j]).index ≠ (ps[i]).index := fun q => PsOk.fresh hok (by omega) (List.mem_map.2 ⟨ps[j], List.mem_iff_getElem.2 ⟨j, by rw [List.length_take]; omega, by rw [List.getElem_take]⟩, q⟩)
        refine uR 4 [.c [3, 0, 1, 0, 0, 1, 0, 0, 3, 0, 0, 1, 0, 0, 0], .c [3, 0, 1, 0, 0, 1, 0, 0, 3, 0, 0, 1, 0, 0, 1], .b 3, .c [3, 0, 1, 0, 0, 1, 0, 0, 3, 0, 0, 2], .l [3, 0, 1, 0, 0, 1, 0, 0, 3, 0, 0], .b 2, .b 1, .c [3, 0, 1, 0, 0, 2], .l [3, 0, 1, 0, 0], .b 0, .c [4]] ?_
        refine WK.draw1 8 (qs [0, 1, 2, 3, 4, 5, 6, 7]) (qs [0, 1, 2, 3, 4, 5, 6, 7]) Try_mixed (by as_aux_lemma => kernel_rfl) (by as_aux_lemma => kernel_rfl) (by as_aux_lemma => kernel_rfl) ?_
        have H := H.draw
        generalize ({ r with drawn := r.drawn + 1 } : World) = O at H ⊢
        refine uP 2 ?_
        have x : j < ps.length := by omega
        refine uX 70 (j : Int) H 2 rfl j (by omega) (List.getElem?_eq_getElem x) ?_
        intro _ _ _ y H
        obtain ⟨_, _, rfl, _, z⟩ := pc_open y
        have H := H.addR z
        refine uP 1 ?_
        refine uV 3 0 (H.fc 1 rfl) ?_
        refine uP 1 ?_
        refine uV 3 0 (H.cells 0 rfl) ?_
        refine uF 1 ?_
        refine qE ((ps[j]).index) ((ps[i]).index) (fun s => ?_) (fun s => ?_)
        ·
         exact absurd s hfr
        ·
         refine uR 2 [.c [3, 0, 1, 0, 0, 1, 0, 0, 3, 0, 0, 2], .l [3, 0, 1, 0, 0, 1, 0, 0, 3, 0, 0], .b 2, .b 1, .c [3, 0, 1, 0, 0, 2], .l [3, 0, 1, 0, 0], .b 0, .c [4]] ?_
         refine qG (sq 0 3) ?_
         refine uP 1 ?_
         refine uI ((j : Int) + 1) ?_
         refine uF 1 ?_
         have H := H.pick [2, 3, 4] rfl
         exact uB (f (j + 1) _ ⟨H, by omega⟩ (by first | omega | (simp only []; omega)))
       ·
        refine uR 2 [.c [3, 0, 1, 0, 0, 2], .l [3, 0, 1, 0, 0], .b 0, .c [4]] ?_
        refine qG (sq 0 3) ?_
        refine uP 1 ?_
        refine uI ((i : Int) + 1) ?_
        refine uF 1 ?_
        have H := H.pick [2] rfl
        have H := H.drop (M' := []) (W' := []) (by repeat (first | exact List.Sublist.refl _ | apply List.Sublist.cons_cons | apply List.Sublist.cons)) (by repeat (first | exact List.Sublist.refl _ | apply List.Sublist.cons_cons | apply List.Sublist.cons))
        exact uB (m (i + 1) _ ⟨H, by omega⟩ (by first | omega | (simp only []; omega)))
   ·
    refine uR 4 [.c [4, 0, 1], .c [5]] ?_
    refine qD ((((ps.length : Nat) : Int) : Int) < (k : Int)) (fun J => ?_) (fun J => ?_)
    ·
     refine uR 2 [.c [4, 0, 1, 0, 1], .c [5]] ?_
     refine qT (.tuple #[.slice none 0 0, .I 30]) Try.func76 ?_
     exact ⟨_, rfl, H.done, rfl⟩
    ·
     omega
theorem r4pick_bad {S : Nat → Prop} {w : World} {ps : List Pc} {a : Option Addr} {c : Nat} (h : (Shape.slice pcS).rep S w [.slice a ps.length c] ps) {size k n : Nat} (hs : size ≤ 65536) (hk : 1 ≤ k) (hkn : k ≤ n) (hn : n ≤ 255) (hb : ¬ PsOk ps n (lenOf size k)) :
 Calls Try.prog 76 #[.slice a ps.length c, .I size, .I k, .I n] w (Ret fun v w' => Ext w w' ∧ v = .tuple #[.slice none 0 0, .I 31]) := by
 have hpl := Shape.slice_len h
 refine uS1 Try.func76 ?_
 have H := Hp.startF (.rp h .nil)
 refine uR 3 [.c [1, 0], .c [2]] ?_
 refine qG (sq 0 8) ?_
 refine uP 2 ?_
 refine uK (r4len_ok (S := fun _ => True) size k hs hk (by omega)) ?_
 rintro _ _ J rfl
 have H := H.ext J
 refine uF 5 ?_
 refine uR 2 [.c [2, 0, 0], .c [2, 0, 1], .c [3]] ?_
 refine qG (sq 0 11) ?_
 refine uP 8 ?_
 refine uD 31 (((n : Int) : Int) < (k : Int)) (fun R => ?_) (fun R => ?_)
 ·
  omega
 ·
  refine uF 3 ?_
  refine qD (((n : Int) : Int) > 255) (fun T => ?_) (fun T => ?_)
  ·
   omega
  ·
   refine uR 5 [.c [3, 0, 1, 0], .b 0, .c [4]] ?_
   refine uL (α := Nat) (g := 76) (p := [3, 0, 1, 0, 0]) (fun i => [(0, .slice a ps.length c), (2, .I k), (3, .I n), (10, .I ((lenOf size k : Nat) : Int)), (12, .I i)]) (fun i w' => Hp w S [] [] [] [Rp (Shape.slice pcS) [.slice a ps.length c] ps] w' ∧ i ≤ ps.length ∧ PsOk (ps.take i) n (lenOf size k)) (fun i => ps.length - i) 0 ⟨H, Nat.zero_le _, psok_nil⟩ ?_
   rintro i _ ⟨H, m⟩ u
   refine uR 3 [.c [3, 0, 1, 0, 0, 0, 1], .c [3, 0, 1, 0, 0, 1], .l [3, 0, 1, 0, 0], .b 0, .c [4]] ?_
   refine qD (((i : Int) : Int) < ((ps.length : Nat) : Int)) (fun U => ?_) (fun U => ?_)
   ·
    refine uR 4 [.c [3, 0, 1, 0, 0, 1, 0, 0, 0], .c [3, 0, 1, 0, 0, 1, 0, 0, 1], .b 1, .c [3, 0, 1, 0, 0, 2], .l [3, 0, 1, 0, 0], .b 0, .c [4]] ?_
    refine qG (sq 0 6) ?_
    refine uP 2 ?_
    have K : i < ps.length := by omega
    refine uX 70 (i : Int) H 0 rfl i (by omega) (List.getElem?_eq_getElem K) ?_
    intro V L _ B H
    obtain ⟨d, e, rfl, _, C⟩ := pc_open B
    have H := H.addR C
    refine uV 72 0 (H.fc 1 rfl) ?_
    refine uC #[.I 0, .slice none 0 0] 72 H ?_
    intro o _ H
    refine uW 72 0 #[.I ((ps[i]).index), .slice d ((ps[i]).data.length) e] H 0 rfl ?_
    intro _ H
    refine uF 0 ?_
    refine uR 2 [.c [3, 0, 1, 0, 0, 1, 0, 0, 1, 0, 0], .c [3, 0, 1, 0, 0, 1, 0, 0, 1, 0, 1], .c [3, 0, 1, 0, 0, 1, 0, 0, 2], .b 1, .c [3, 0, 1, 0, 0, 2], .l [3, 0, 1, 0, 0], .b 0, .c [4]] ?_
    refine qG (sq 0 16) ?_
    refine uP 1 ?_
    refine uV 3 0 (H.cells 0 rfl) ?_
    refine uP 2 ?_
    refine uD 48 (((ps[i]).index : Int) < 0) (fun M => ?_) (fun M => ?_)
    ·
     refine uF 12 ?_
     refine uR 3 [.c [3, 0, 1, 0, 0, 1, 0, 0, 1, 0, 1, 0, 1], .c [3, 0, 1, 0, 0, 1, 0, 0, 2], .b 1, .c [3, 0, 1, 0, 0, 2], .l [3, 0, 1, 0, 0], .b 0, .c [4]] ?_
     refine qT (.tuple #[.slice none 0 0, .I 31]) Try.func76 ?_
     exact ⟨_, rfl, H.done, rfl⟩
    ·
     refine uP 1 ?_
     refine uV 3 0 (H.cells 0 rfl) ?_
     refine qP 4 (sq 10 16) [(0, .slice a ps.length c), (2, .I k), (3, .I n), (10, .I ((lenOf size k : Nat) : Int)), (12, .I i), (13, .P o 0), (54, .bool (decide (((ps[i]).index : Int) ≥ (n : Int))))] ?_
     refine uD 54 (((ps[i]).index : Int) ≥ (n : Int)) (fun N => ?_) (fun N => ?_)
     ·
      refine uF 6 ?_
      refine uR 3 [.c [3, 0, 1, 0, 0, 1, 0, 0, 1, 0, 1, 0, 1], .c [3, 0, 1, 0, 0, 1, 0, 0, 2], .b 1, .c [3, 0, 1, 0, 0, 2], .l [3, 0, 1, 0, 0], .b 0, .c [4]] ?_
      refine qT (.tuple #[.slice none 0 0, .I 31]) Try.func76 ?_
      exact ⟨_, rfl, H.done, rfl⟩
     ·
      refine uP 1 ?_
      refine uV 23 1 (H.cells 0 rfl) ?_
      refine uF 4 ?_
      refine qN (((ps[i]).data.length : Nat) : Int) ((lenOf size k : Nat) : Int) (fun O => ?_) (fun O => ?_)
      ·
       refine uR 2 [.c [3, 0, 1, 0, 0, 1, 0, 0, 1, 0, 1, 0, 1], .c [3, 0, 1, 0, 0, 1, 0, 0, 2], .b 1, .c [3, 0, 1, 0, 0, 2], .l [3, 0, 1, 0, 0], .b 0, .c [4]] ?_
       refine qT (.tuple #[.slice none 0 0, .I 31]) Try.func76 ?_
       exact ⟨_, rfl, H.done, rfl⟩
      ·
       refine uR 4 [.c [3, 0, 1, 0, 0, 1, 0, 0, 3, 0], .b 2, .b 1, .c [3, 0, 1, 0, 0, 2], .l [3, 0, 1, 0, 0], .b 0, .c [4]] ?_
       refine uL (α := Nat) (g := 76) (p := [3, 0, 1, 0, 0, 1, 0, 0, 3, 0, 0]) (fun j => [(0, .slice a ps.length c), (2, .I k), (3, .I n), (10, .I ((lenOf size k : Nat) : Int)), (12, .I i), (13, .P o 0), (14, .I j)]) (fun j w' => Hp w S [] [(o, .cells #[.I ((ps[i]).index), .slice d ((ps[i]).data.length) e] 72 (0, 0))] [] [Rp SB [.slice d ((ps[i]).data.length) e] ((ps[i]).data), Fc V L [.I ((ps[i]).index), .slice d ((ps[i]).data.length) e], Rp (Shape.slice pcS) [.slice a ps.length c] ps] w' ∧ j ≤ i ∧ ∀ (f : Nat) (r : f < j) (x : f < ps.length) (y : i < ps.length), (ps[f]).index ≠ (ps[i]).index) (fun j => i - j) 0 ⟨H, Nat.zero_le _, fun f r => absurd r (Nat.not_lt_zero _)⟩ ?_
       rintro j z ⟨H, s⟩ t
       refine uR 3 [.c [3, 0, 1, 0, 0, 1, 0, 0, 3, 0, 0, 0, 1], .c [3, 0, 1, 0, 0, 1, 0, 0, 3, 0, 0, 1], .l [3, 0, 1, 0, 0, 1, 0, 0, 3, 0, 0], .b 2, .b 1, .c [3, 0, 1, 0, 0, 2], .l [3, 0, 1, 0, 0], .b 0, .c [4]] ?_
       refine qD (((j : Int) : Int) < (i : Int)) (fun Q => ?_) (fun Q => ?_)
       ·
        refine uR 4 [.c [3, 0, 1, 0, 0, 1, 0, 0, 3, 0, 0, 1, 0, 0, 0], .c [3, 0, 1, 0, 0, 1, 0, 0, 3, 0, 0, 1, 0, 0, 1], .b 3, .c [3, 0, 1, 0, 0, 1, 0, 0, 3, 0, 0, 2], .l [3, 0, 1, 0, 0, 1, 0, 0, 3, 0, 0], .b 2, .b 1, .c [3, 0, 1, 0, 0, 2], .l [3, 0, 1, 0, 0], .b 0, .c [4]] ?_
        refine WK.draw1 8 (qs [0, 1, 2, 3, 4, 5, 6, 7]) (qs [0, 1, 2, 3, 4, 5, 6, 7]) Try_mixed (by as_aux_lemma => kernel_rfl) (by as_aux_lemma => kernel_rfl) (by as_aux_lemma => kernel_rfl) ?_
        have H := H.draw
        generalize ({ z with drawn := z.drawn + 1 } : World) = W at H ⊢
        refine uP 2 ?_
        have D : j < ps.length := by omega
        refine uX 70 (j : Int) H 2 rfl j (by omega) (List.getElem?_eq_getElem D) ?_
        intro _ _ _ E H
        obtain ⟨_, _, rfl, _, F⟩ := pc_open E
        have H := H.addR F
        refine uP 1 ?_
        refine uV 3 0 (H.fc 1 rfl) ?_
        refine uP 1 ?_
        refine uV 3 0 (H.cells 0 rfl) ?_
        refine uF 1 ?_
        refine qE ((ps[j]).index) ((ps[i]).index) (fun A => ?_) (fun A => ?_)
        ·
         refine uR 2 [.c [3, 0, 1, 0, 0, 1, 0, 0, 3, 0, 0, 1, 0, 0, 1, 0, 1], .b 3, .c [3, 0, 1, 0, 0, 1, 0, 0, 3, 0, 0, 2], .l [3, 0, 1, 0, 0, 1, 0, 0, 3, 0, 0], .b 2, .b 1, .c [3, 0, 1, 0, 0, 2], .l [3, 0, 1, 0, 0], .b 0, .c [4]] ?_
         refine qT (.tuple #[.slice none 0 0, .I 31]) Try.func76 ?_
         exact ⟨_, rfl, H.done, rfl⟩
        ·
         have G := A
         refine uR 2 [.c [3, 0, 1, 0, 0, 1, 0, 0, 3, 0, 0, 2], .l [3, 0, 1, 0, 0, 1, 0, 0, 3, 0, 0], .b 2, .b 1, .c [3, 0, 1, 0, 0, 2], .l [3, 0, 1, 0, 0], .b 0, .c [4]] ?_
         refine qG (sq 0 3) ?_
         refine uP 1 ?_
         refine uI ((j : Int) + 1) ?_
         refine qF 1 [(0, .slice a ps.length c), (2, .I k), (3, .I n), (10, .I ((lenOf size k : Nat) : Int)), (12, .I i), (13, .P o 0), (14, .I ((j : Int) + 1))] ?_
         have H := H.pick [2, 3, 4] rfl
         exact WK.back (t (j + 1) _ ⟨H, by omega, fun f r x y => by
          rcases Nat.lt_or_ge f j with q | q
          · exact s.2 f q x y
          · obtain rfl : f = j := by omega
            exact G⟩ (by first | omega | (simp only []; omega))) (by as_aux_lemma => kernel_rfl)
       ·
        refine uR 2 [.c [3, 0, 1, 0, 0, 2], .l [3, 0, 1, 0, 0], .b 0, .c [4]] ?_
        refine qG (sq 0 3) ?_
        refine uP 1 ?_
        refine uI ((i : Int) + 1) ?_
        refine uF 1 ?_
        have H := H.pick [2] rfl
        have H := H.drop (M' := []) (W' := []) (by repeat (first | exact List.Sublist.refl _ | apply List.Sublist.cons_cons | apply List.Sublist.cons)) (by repeat (first | exact List.Sublist.refl _ | apply List.Sublist.cons_cons | apply List.Sublist.cons))
        exact uB (u (i + 1) _ ⟨H, by omega, psok_snoc m.2 (by omega) (by omega) (by omega) (fun f r => s.2 f (by omega) (by omega) (by omega))⟩ (by first | omega | (simp only []; omega)))
   ·
    exact absurd (by have h9 := m.2; rw [List.take_of_length_le (by omega)] at h9; exact h9) hb
end Go.Proofs.Ytppcdmbkgficiaa
