import Derived.Test.YtppcdmbkgficiaaSBxA
import Derived.Test.YtppcdmbkgficiaaSG5
namespace Go.Proofs.Ytppcdmbkgficiaa
open Go.BX
def scaleL (row : List (BitVec 8)) (c : BitVec 8) : List (BitVec 8) := mixL (List.replicate row.length 0#8) row c
theorem scaleL_len (row : List (BitVec 8)) (c : BitVec 8) : (scaleL row c).length = row.length := by
 unfold scaleL
 rw [mixL_len (by rw [List.length_replicate]), List.length_replicate]
def rowAt (L : List (List (BitVec 8))) (i : Nat) : List (BitVec 8) := (L[i]?).getD []
def entAt (L : List (List (BitVec 8))) (i j : Nat) : BitVec 8 := ((rowAt L i)[j]?).getD 0#8
theorem rowAt_eq {L : List (List (BitVec 8))} {i : Nat} (h : i < L.length) : rowAt L i = L[i] := by
 unfold rowAt
 rw [List.getElem?_eq_getElem h]
 rfl
theorem entAt_eq {L : List (List (BitVec 8))} {i j : Nat} (h : i < L.length) (hj : j < (L[i]).length) : entAt L i j = (L[i])[j] := by
 unfold entAt
 rw [rowAt_eq h, List.getElem?_eq_getElem hj]
 rfl
def clTo (A L : List (List (BitVec 8))) (p : List (BitVec 8)) (at_ col m : Nat) : List (List (BitVec 8)) :=
 (List.range A.length).map fun i => if i < m ∧ i ≠ at_ ∧ entAt L i col ≠ 0#8 then mixL (rowAt A i) p (entAt L i col) else rowAt A i
theorem clTo_len (A L : List (List (BitVec 8))) (p : List (BitVec 8)) (at_ col m : Nat) : (clTo A L p at_ col m).length = A.length := by simp [clTo]
theorem clTo_zero (A L : List (List (BitVec 8))) (p : List (BitVec 8)) (at_ col : Nat) : clTo A L p at_ col 0 = A := by
 apply List.ext_getElem (by simp [clTo])
 intro i _ a
 simp only [clTo, List.getElem_map, List.getElem_range]
 rw [if_neg (by omega), rowAt_eq a]
theorem clTo_at {A L : List (List (BitVec 8))} {p : List (BitVec 8)} {at_ col m i : Nat} (hi : i < A.length) (h : m ≤ i ∨ i = at_) : (clTo A L p at_ col m)[i]? = some A[i] := by
 simp only [clTo, List.getElem?_map, List.getElem?_range hi, Option.map_some]
 rw [if_neg (by omega), rowAt_eq hi]
theorem clTo_get {A L : List (List (BitVec 8))} {p : List (BitVec 8)} {at_ col m i : Nat} (hi : i < A.length) (h : m ≤ i ∨ i = at_) (h' : i < (clTo A L p at_ col m).length) : (clTo A L p at_ col m)[i] = A[i] := by
 have := clTo_at (L := L) (p := p) (col := col) hi h
 rw [List.getElem?_eq_getElem h'] at this
 exact Option.some.inj this
theorem clTo_hit {A L : List (List (BitVec 8))} {p : List (BitVec 8)} {at_ col m : Nat} (hm : m < A.length) (h1 : m ≠ at_) (h2 : entAt L m col ≠ 0#8) : (clTo A L p at_ col m).set m (mixL A[m] p (entAt L m col)) = clTo A L p at_ col (m + 1) := by
 apply List.ext_getElem (by simp [clTo])
 intro i _ _
 simp only [clTo, List.getElem_set, List.getElem_map, List.getElem_range]
 by_cases hi : m = i
 · subst hi
   rw [if_pos rfl, if_pos ⟨by omega, h1, h2⟩, rowAt_eq hm]
 · rw [if_neg hi]
   by_cases h5 : i < m ∧ i ≠ at_ ∧ entAt L i col ≠ 0#8
   · rw [if_pos h5, if_pos ⟨by omega, h5.2⟩]
   · rw [if_neg h5, if_neg fun a => h5 ⟨by have := a.1; omega, a.2⟩]
theorem clTo_hit' {A L : List (List (BitVec 8))} {p row : List (BitVec 8)} {at_ col m : Nat} {x : BitVec 8} (hm : m < A.length) (h1 : m ≠ at_) (hx : entAt L m col = x) (h2 : x ≠ 0#8) (hr : A[m] = row) : (clTo A L p at_ col m).set m (mixL row p x) = clTo A L p at_ col (m + 1) := by
 subst hx
 subst hr
 exact clTo_hit hm h1 h2
theorem clTo_miss {A L : List (List (BitVec 8))} {p : List (BitVec 8)} {at_ col m : Nat} (h : m = at_ ∨ entAt L m col = 0#8) : clTo A L p at_ col m = clTo A L p at_ col (m + 1) := by
 unfold clTo
 refine List.map_congr_left fun i hi => ?_
 by_cases h5 : i < m ∧ i ≠ at_ ∧ entAt L i col ≠ 0#8
 · rw [if_pos h5, if_pos ⟨by omega, h5.2⟩]
 · rw [if_neg h5, if_neg fun a => h5 ⟨by
    rcases Nat.lt_or_eq_of_le (Nat.le_of_lt_succ a.1) with b | b
    · exact b
    · subst b
      rcases h with h | h
      · exact absurd h a.2.1
      · exact absurd h a.2.2, a.2⟩]
def clearL (L : List (List (BitVec 8))) (at_ col : Nat) : List (List (BitVec 8)) :=
 let p := scaleL (rowAt L at_) (ginv (entAt L at_ col))
 let L1 := L.set at_ p
 clTo L1 L1 p at_ col L1.length
def clearR (L R : List (List (BitVec 8))) (at_ col : Nat) : List (List (BitVec 8)) :=
 let iv := ginv (entAt L at_ col)
 let L1 := L.set at_ (scaleL (rowAt L at_) iv)
 clTo (R.set at_ (scaleL (rowAt R at_) iv)) L1 (scaleL (rowAt R at_) iv) at_ col R.length
theorem clearL_len (L : List (List (BitVec 8))) (at_ col : Nat) : (clearL L at_ col).length = L.length := by
 unfold clearL
 rw [clTo_len, List.length_set]
theorem clearR_len (L R : List (List (BitVec 8))) (at_ col : Nat) : (clearR L R at_ col).length = R.length := by
 unfold clearR
 rw [clTo_len, List.length_set]
theorem set_all {L : List (List (BitVec 8))} {c : Nat} (h : ∀ x ∈ L, x.length = c) {i : Nat} {y : List (BitVec 8)} (hy : y.length = c) : ∀ x ∈ L.set i y, x.length = c := fun x hx => by
 rcases List.mem_or_eq_of_mem_set hx with hx | hx
 · exact h x hx
 · subst hx; exact hy
theorem rowAt_len {L : List (List (BitVec 8))} {c : Nat} (h : ∀ x ∈ L, x.length = c) {i : Nat} (hi : i < L.length) : (rowAt L i).length = c := by
 rw [rowAt_eq hi]
 exact h _ (List.getElem_mem hi)
theorem clTo_all {A L : List (List (BitVec 8))} {p : List (BitVec 8)} {at_ col m c : Nat} (hA : ∀ x ∈ A, x.length = c) (hp : p.length = c) : ∀ x ∈ clTo A L p at_ col m, x.length = c := fun x hx => by
 obtain ⟨i, hi, rfl⟩ := List.mem_map.1 hx
 have hi := List.mem_range.1 hi
 have h1 := rowAt_len hA hi
 split
 · rw [mixL_len (by rw [h1, hp])]
   exact h1
 · exact h1
theorem clearL_all {L : List (List (BitVec 8))} {at_ col c : Nat} (hL : ∀ x ∈ L, x.length = c) (h : at_ < L.length) : ∀ x ∈ clearL L at_ col, x.length = c :=
 clTo_all (set_all hL (by rw [scaleL_len, rowAt_len hL h])) (by rw [scaleL_len, rowAt_len hL h])
theorem clearR_all {L R : List (List (BitVec 8))} {at_ col c : Nat} (hR : ∀ x ∈ R, x.length = c) (h : at_ < R.length) : ∀ x ∈ clearR L R at_ col, x.length = c :=
 clTo_all (set_all hR (by rw [scaleL_len, rowAt_len hR h])) (by rw [scaleL_len, rowAt_len hR h])
def swapL (L : List (List (BitVec 8))) (i j : Nat) : List (List (BitVec 8)) := (L.set i (rowAt L j)).set j (rowAt L i)
theorem swapL_len (L : List (List (BitVec 8))) (i j : Nat) : (swapL L i j).length = L.length := by simp [swapL]
theorem swapL_all {L : List (List (BitVec 8))} {i j c : Nat} (h : ∀ x ∈ L, x.length = c) (hi : i < L.length) (hj : j < L.length) : ∀ x ∈ swapL L i j, x.length = c :=
 set_all (set_all h (rowAt_len h hj)) (rowAt_len h hi)
theorem swapL_ent {L : List (List (BitVec 8))} {i j col : Nat} (hj : j < L.length) : entAt (swapL L i j) j col = entAt L i col := by
 unfold entAt swapL
 have : rowAt ((L.set i (rowAt L j)).set j (rowAt L i)) j = rowAt L i := by
  have hl : j < ((L.set i (rowAt L j)).set j (rowAt L i)).length := by simp [hj]
  rw [rowAt_eq hl]
  simp
 rw [this]
def firstP (L : List (List (BitVec 8))) (col dn : Nat) : Option Nat := (List.range L.length).find? fun i => decide (dn ≤ i ∧ entAt L i col ≠ 0#8)
def redStep (s : Nat × List (List (BitVec 8)) × List (List (BitVec 8))) (col : Nat) : Nat × List (List (BitVec 8)) × List (List (BitVec 8)) :=
 match firstP s.2.1 col s.1 with
 | none => s
 | some i => (s.1 + 1, clearL (swapL s.2.1 i s.1) s.1 col, clearR (swapL s.2.1 i s.1) (swapL s.2.2 i s.1) s.1 col)
def redTo (L R : List (List (BitVec 8))) (m : Nat) : Nat × List (List (BitVec 8)) × List (List (BitVec 8)) := (List.range m).foldl redStep (0, L, R)
theorem redTo_succ (L R : List (List (BitVec 8))) (m : Nat) : redTo L R (m + 1) = redStep (redTo L R m) m := by
 unfold redTo
 rw [List.range_succ, List.foldl_append]
 rfl
theorem firstP_some {L : List (List (BitVec 8))} {col dn i : Nat} (hi : i < L.length) (hd : dn ≤ i) (hz : entAt L i col ≠ 0#8) (hn : ∀ j, dn ≤ j → j < i → entAt L j col = 0#8) : firstP L col dn = some i := by
 unfold firstP
 rw [List.find?_eq_some_iff_append]
 refine ⟨decide_eq_true ⟨hd, hz⟩, List.range i, (List.range (L.length - i - 1)).map (· + (i + 1)), ?_, fun j hj => ?_⟩
 · have e : L.length = i + (1 + (L.length - i - 1)) := by omega
   conv => lhs; rw [e, List.range_add, List.range_add]
   simp [Function.comp_def, Nat.add_comm, Nat.add_left_comm]
 · have hj := List.mem_range.1 hj
   rw [decide_eq_false fun h => h.2 (hn j h.1 hj)]
   rfl
theorem firstP_none {L : List (List (BitVec 8))} {col dn : Nat} (hn : ∀ j, dn ≤ j → j < L.length → entAt L j col = 0#8) : firstP L col dn = none := by
 unfold firstP
 rw [List.find?_eq_none]
 intro j hj
 have hj := List.mem_range.1 hj
 rw [decide_eq_false fun h => h.2 (hn j h.1 hj)]
 decide
theorem redStep_hit {L R : List (List (BitVec 8))} {dn col i : Nat} (h : firstP L col dn = some i) : redStep (dn, L, R) col = (dn + 1, clearL (swapL L i dn) dn col, clearR (swapL L i dn) (swapL R i dn) dn col) := by
 unfold redStep
 simp only [h]
theorem redStep_miss {L R : List (List (BitVec 8))} {dn col : Nat} (h : firstP L col dn = none) : redStep (dn, L, R) col = (dn, L, R) := by
 unfold redStep
 simp only [h]
def idRow (n i : Nat) : List (BitVec 8) := (List.replicate n 0#8).set i 1#8
def ident (n : Nat) : List (List (BitVec 8)) := (List.range n).map (idRow n)
theorem ident_len (n : Nat) : (ident n).length = n := by simp [ident]
theorem ident_all (n : Nat) : ∀ x ∈ ident n, x.length = n := fun x hx => by
 obtain ⟨i, _, rfl⟩ := List.mem_map.1 hx
 simp [idRow]
theorem ident_take {n i : Nat} (h : i < n) : (ident n).take i ++ [idRow n i] = (ident n).take (i + 1) := by
 rw [List.take_succ_eq_append_getElem (by rw [ident_len]; exact h)]
 simp [ident]
def pickL (m : List (List (BitVec 8))) (rows : List Int) : List (List (BitVec 8)) := rows.map fun r => rowAt m r.toNat
theorem take_snoc' {α : Type} {l : List α} {i : Nat} (h : i < l.length) : l.take i ++ [l[i]] = l.take (i + 1) := (List.take_succ_eq_append_getElem h).symm
theorem bvz {x : BitVec 8} (h : ¬ ((x.toNat : Nat) : Int) = 0) : x ≠ 0#8 := fun e => h (by rw [e]; rfl)
theorem bvz0 {x : BitVec 8} (h : ((x.toNat : Nat) : Int) = 0) : x = 0#8 := BitVec.eq_of_toNat_eq (by rw [show (0#8).toNat = 0 from rfl]; omega)
theorem scaled_spec {S : Nat → Prop} {w : World} {row : List (BitVec 8)} {a : Option Addr} {k : Nat} (c : BitVec 8) (h : SB.rep S w [.slice a row.length k] row) (hl : row.length ≤ 1099511627776) :
 Calls Try.prog 167 #[.slice a row.length k, .int .u8 ((c.toNat : Nat) : Int)] w (Ret fun v w' => Ext w w' ∧ Hp w S [] [] [⟨Sb, 5, v, scaleL row c⟩] [] w') := by
 have hrl : (List.replicate row.length (0#8 : BitVec 8)).length = row.length := List.length_replicate
 refine uS1 Try.func167 ?_
 have H := Hp.startF (.rp h .nil)
 refine uR 3 [.c [1, 0], .c [2]] ?_
 refine qG (sq 0 11) ?_
 refine uP 2 ?_
 refine RW.makeW Sb (κ := .seq) (d := some 10) (r := (sq 3 11)) (T := 23) (e := 5) (by_ := 1) (v0 := .int .u8 0) (0#8 : BitVec 8) (kl := .i64) (kc := .i64) (lv := ((row.length : Nat) : Int)) (cv := ((row.length : Nat) : Int)) (by as_aux_lemma => kernel_rfl) (nofun) (by as_aux_lemma => kernel_rfl) rfl H row.length row.length (by omega) (by omega) (by omega) (by omega) (by omega) (fun _ _ => rfl) ?_
 intro b _ H
 have H : Hp w S [] [] [⟨Sb, 5, .slice (some ⟨b, 0, none⟩) row.length row.length, (List.replicate row.length (0#8 : BitVec 8))⟩] [_] _ := H
 refine uP 2 ?_
 have H : Hp w S [] [] [] [Rp SB [.slice (some ⟨b, 0, none⟩) row.length row.length] (List.replicate row.length (0#8 : BitVec 8)), _] _ := H.freezeW 0 rfl
 rw [show (Value.slice (some ⟨b, 0, none⟩) row.length row.length) = .slice (some ⟨b, 0, none⟩) (List.replicate row.length (0#8 : BitVec 8)).length row.length by rw [List.length_replicate]] at H ⊢
 refine uK (mix_spec (xs := (List.replicate row.length (0#8 : BitVec 8))) (ys := row) c (H.rp 0 rfl) (H.rp 1 rfl) (by first | omega | assumption) (by omega)) ?_
 rintro _ _ - ⟨f, g, rfl, H'⟩
 have H := H.back (M1 := []) (W1 := []) H'
 have H : Hp w S [] [] [⟨Sb, 5, .slice f ((mixL (List.replicate row.length (0#8 : BitVec 8)) row c).length) g, mixL (List.replicate row.length (0#8 : BitVec 8)) row c⟩] [Rp SB [.slice (some ⟨b, 0, none⟩) ((List.replicate row.length (0#8 : BitVec 8)).length) row.length] (List.replicate row.length (0#8 : BitVec 8)), _] _ := H
 refine uF 5 ?_
 refine uR 2 [.c [3]] ?_
 refine qT (.slice f ((mixL (List.replicate row.length (0#8 : BitVec 8)) row c).length) g) Try.func167 ?_
 have H := H.drop (M' := []) (W' := [_]) (List.nil_sublist _) (List.cons_sublist_cons.2 (List.nil_sublist _))
 exact ⟨_, rfl, H.done, H.pick [] rfl⟩
theorem copied2_spec {S : Nat → Prop} {w : World} {m : List (List (BitVec 8))} {a : Option Addr} {k : Nat} (h : (Shape.slice SB).rep S w [.slice a m.length k] m) (hr : m.length ≤ 255) (hc : ∀ x ∈ m, x.length ≤ 140737488355328) :
 Calls Try.prog 128 #[.slice a m.length k] w (Ret fun v w' => Ext w w' ∧ Hp w S [] [] [⟨SB, 23, v, m⟩] [] w') := by
 have hml := Shape.slice_len h
 refine uS1 Try.func128 ?_
 have H := Hp.startF (.rp h .nil)
 refine uR 8 [.c [2, 0, 1, 0], .b 0, .c [3]] ?_
 have H := H.ownNil SB 23
 have H := H.drop (M' := []) (W' := [⟨SB, 23, .slice none (m.take 0).length 0, m.take 0⟩]) (by repeat (first | exact List.Sublist.refl _ | exact List.nil_sublist _ | apply List.Sublist.cons_cons | apply List.Sublist.cons)) (by repeat (first | exact List.Sublist.refl _ | exact List.nil_sublist _ | apply List.Sublist.cons_cons | apply List.Sublist.cons))
 refine uL (α := Nat × Option Addr × Nat) (g := 128) (p := [2, 0, 1, 0, 0]) (fun (i, ao, co) => [(3, .slice ao (m.take i).length co), (6, .slice a m.length k), (7, .I ((m.length : Nat) : Int)), (8, .I i)]) (fun (i, ao, co) w' => Hp w S [] [] [⟨SB, 23, .slice ao (m.take i).length co, m.take i⟩] [Rp (Shape.slice SB) [.slice a m.length k] m] w' ∧ i ≤ m.length) (fun (i, ao, co) => m.length - i) (0, none, 0) ⟨H, Nat.zero_le _⟩ ?_
 rintro ⟨i, ao, co⟩ _ ⟨H, _⟩ j
 refine uR 3 [.c [2, 0, 1, 0, 0, 1, 0], .c [2, 0, 1, 0, 0, 2], .l [2, 0, 1, 0, 0], .b 0, .c [3]] ?_
 refine qD (((i : Int) : Int) < ((m.length : Nat) : Int)) (fun z => ?_) (fun z => ?_)
 ·
  have hcl := hc (m[i]) (List.getElem_mem (by omega))
  refine uR 4 [.c [2, 0, 1, 0, 0, 2, 0, 0, 0], .c [2, 0, 1, 0, 0, 2, 0, 0, 1], .b 1, .c [2, 0, 1, 0, 0, 3], .l [2, 0, 1, 0, 0], .b 0, .c [3]] ?_
  refine qG (sq 0 3) ?_
  have u : i < m.length := by omega
  refine uX 29 (i : Int) H 0 rfl i (by omega) (List.getElem?_eq_getElem u) ?_
  intro A B _ n H
  obtain ⟨C, y, rfl⟩ := Shape.slice_form' n
  have H := H.addR n
  refine uV 23 0 (H.fc 1 rfl) ?_
  refine uF 1 ?_
  refine qG (sq 0 6) ?_
  refine uP 2 ?_
  have H := H.ownNil Sb 5
  have H : Hp w S [] [] [⟨Sb, 5, .slice none 0 0, []⟩, _] [_, Fc A B [.slice C (m[i]).length y], _] _ := H
  refine uA 23 23 1 (m[i]) H 0 rfl 0 rfl (rfl) (by omega) ?_
  intro e f _ H _
  have H : Hp w S [] [] [⟨Sb, 5, .slice e (m[i]).length f, m[i]⟩, _] [_, _, _] _ := H
  refine RW.new (κ := .seq) (d := some 15) (r := (sq 4 6)) (o := .cells #[.slice e (m[i]).length f] 23 (0, 0)) (v := fun b => .slice (some ⟨b, 0, none⟩) 1 1) (fun b => by as_aux_lemma => kernel_rfl) (nofun) H ?_
  intro q _ H
  have H : Hp w S [] [(q, .cells #[.slice e (m[i]).length f] 23 (0, 0))] [_] [Rp SB [.slice e (m[i]).length f] (m[i]), _, _, _] _ := H.freezeW 0 rfl
  have H := H.freeze 0 rfl SB ([m[i]] : List (List (BitVec 8))) 1 (by simp [maxLen]) (by first | exact Nat.le_refl _ | simp) (EsP.cons (c := [.slice e (m[i]).length f]) (H.rp 0 rfl) EsP.nil)
  have H : Hp w S [] [] [_] [Rp (Shape.slice SB) [.slice (some ⟨q, 0, none⟩) 1 1] ([m[i]] : List (List (BitVec 8))), _, _, _, _] _ := H
  refine uA 29 29 24 (m.take (i + 1)) H 0 rfl 0 rfl (take_snoc' (by omega)) (by rw [List.length_take]; omega) ?_
  intro s t _ H _
  have H : Hp w S [] [] [⟨SB, 23, .slice s ((m.take (i + 1)).length) t, m.take (i + 1)⟩] [_, _, _, _, _] _ := H
  refine uF 1 ?_
  refine uR 1 [.c [2, 0, 1, 0, 0, 3], .l [2, 0, 1, 0, 0], .b 0, .c [3]] ?_
  refine qG (sq 0 2) ?_
  refine uI ((i : Int) + 1) ?_
  refine uF 1 ?_
  have H := H.pick [4] rfl
  exact uB (j (i + 1, s, t) _ ⟨H, by omega⟩ (by first | omega | (simp only []; omega)))
 ·
  refine uR 3 [.c [4]] ?_
  refine qT (.slice ao (m.take i).length co) Try.func128 ?_
  have hie : i = m.length := by omega
  rw [hie, List.take_length] at H
  have H := H.drop (M' := []) (W' := [_]) (List.nil_sublist _) (List.cons_sublist_cons.2 (List.nil_sublist _))
  exact ⟨_, rfl, H.done, by rw [hie, List.take_length]; exact H.pick [] rfl⟩
theorem sized_spec {S : Nat → Prop} {w : World} {m : List (List (BitVec 8))} {a : Option Addr} {k : Nat} (h : (Shape.slice SB).rep S w [.slice a m.length k] m) (hr : 1 ≤ m.length ∧ m.length ≤ 255) {c : Nat} (hc : ∀ x ∈ m, x.length = c) (hc2 : 1 ≤ c ∧ c ≤ 255) :
 Calls Try.prog 126 #[.slice a m.length k] w (Ret fun v w' => Ext w w' ∧ v = .tuple #[.I ((m.length : Nat) : Int), .I ((c : Nat) : Int)]) := by
 have hml := Shape.slice_len h
 have n := hc (m[0]) (List.getElem_mem (by omega))
 refine uS1 Try.func126 ?_
 have H := Hp.startF (.rp h .nil)
 refine uR 4 [.c [1, 0, 0], .c [1, 0, 1], .c [2]] ?_
 refine qG (sq 0 8) ?_
 refine uP 4 ?_
 refine uE 10 ((m.length : Nat) : Int) 0 (fun u => ?_) (fun u => ?_)
 ·
  omega
 ·
  refine uF 4 ?_
  refine qD ((((m.length : Nat) : Int) : Int) > 255) (fun y => ?_) (fun y => ?_)
  ·
   omega
  ·
   refine uR 2 [.c [2, 0], .c [3]] ?_
   refine qG (sq 0 5) ?_
   refine uP 1 ?_
   have o : 0 < m.length := by omega
   refine uX 29 0 H 0 rfl 0 (by omega) (List.getElem?_eq_getElem o) ?_
   intro _ _ _ f H
   obtain ⟨_, _, rfl⟩ := Shape.slice_form' f
   have H := H.addR f
   refine uV 23 0 (H.fc 1 rfl) ?_
   refine uF 2 ?_
   refine uR 4 [.c [3, 0, 1, 0], .b 0, .c [4]] ?_
   have H := H.pick [2] rfl
   refine uL (α := Nat) (g := 126) (p := [3, 0, 1, 0, 0]) (fun i => [(0, .slice a m.length k), (4, .I (((m[0]).length : Nat) : Int)), (20, .slice a m.length k), (21, .I ((m.length : Nat) : Int)), (22, .I i)]) (fun i w' => Hp w S [] [] [] [Rp (Shape.slice SB) [.slice a m.length k] m] w' ∧ i ≤ m.length) (fun i => m.length - i) 0 ⟨H, Nat.zero_le _⟩ ?_
   rintro i _ ⟨H, _⟩ d
   refine uR 3 [.c [3, 0, 1, 0, 0, 1, 0], .c [3, 0, 1, 0, 0, 2], .l [3, 0, 1, 0, 0], .b 0, .c [4]] ?_
   refine qD (((i : Int) : Int) < ((m.length : Nat) : Int)) (fun q => ?_) (fun q => ?_)
   ·
    have hic := hc (m[i]) (List.getElem_mem (by omega))
    refine uR 4 [.c [3, 0, 1, 0, 0, 2, 0, 0, 0], .c [3, 0, 1, 0, 0, 2, 0, 0, 1], .b 1, .c [3, 0, 1, 0, 0, 3], .l [3, 0, 1, 0, 0], .b 0, .c [4]] ?_
    refine qG (sq 0 3) ?_
    have j : i < m.length := by omega
    refine uX 29 (i : Int) H 0 rfl i (by omega) (List.getElem?_eq_getElem j) ?_
    intro _ _ _ e H
    obtain ⟨_, _, rfl⟩ := Shape.slice_form' e
    have H := H.addR e
    refine uV 23 0 (H.fc 1 rfl) ?_
    refine uF 1 ?_
    refine uR 1 [.c [3, 0, 1, 0, 0, 2, 0, 0, 1, 0], .c [3, 0, 1, 0, 0, 2, 0, 0, 2], .b 1, .c [3, 0, 1, 0, 0, 3], .l [3, 0, 1, 0, 0], .b 0, .c [4]] ?_
    refine qG (sq 0 12) ?_
    refine uP 5 ?_
    refine uN 30 (((m[i]).length : Nat) : Int) (((m[0]).length : Nat) : Int) (fun r => ?_) (fun r => ?_)
    ·
     omega
    ·
     refine uP 4 ?_
     refine uE 34 (((m[0]).length : Nat) : Int) 0 (fun s => ?_) (fun s => ?_)
     ·
      omega
     ·
      refine uF 3 ?_
      refine qD (((((m[0]).length : Nat) : Int) : Int) > 255) (fun t => ?_) (fun t => ?_)
      ·
       omega
      ·
       refine uR 2 [.c [3, 0, 1, 0, 0, 3], .l [3, 0, 1, 0, 0], .b 0, .c [4]] ?_
       refine qG (sq 0 2) ?_
       refine uI ((i : Int) + 1) ?_
       refine uF 1 ?_
       have H := H.pick [2] rfl
       exact uB (d (i + 1) _ ⟨H, by omega⟩ (by first | omega | (simp only []; omega)))
   ·
    refine uR 3 [.c [5]] ?_
    refine qT (.tuple #[.I ((m.length : Nat) : Int), .I (((m[0]).length : Nat) : Int)]) Try.func126 ?_
    refine ⟨_, rfl, H.done, ?_⟩
    rw [n]
theorem identity_spec {S : Nat → Prop} {w : World} {n : Nat} (hn : 1 ≤ n ∧ n ≤ 255) :
 Calls Try.prog 127 #[.I n] w (Ret fun v w' => Ext w w' ∧ ∃ (a : Option Addr) (c : Nat), v = .tuple #[.slice a (ident n).length c, .I 0] ∧ Hp w S [] [] [⟨SB, 23, .slice a (ident n).length c, ident n⟩] [] w') := by
 refine uS1 Try.func127 ?_
 have H := Hp.startF (w := w) (S := S) (G := []) .nil
 refine uR 1 [.c [0], .c [1]] ?_
 refine qG (sq 0 2) ?_
 refine uP 1 ?_
 refine uC #[.I 0] 34 H ?_
 intro h _ H
 refine uF 0 ?_
 refine uR 1 [.c [1, 0], .c [2]] ?_
 refine WK.defer1 (o := op1 (cd Try.prog 127 [1, 0])) ⟨.fn (.func 95) #[], #[.P h 0]⟩ (by as_aux_lemma => kernel_rfl) (by as_aux_lemma => kernel_rfl) (by as_aux_lemma => kernel_rfl) (by as_aux_lemma => kernel_rfl) (by as_aux_lemma => kernel_rfl) ?_
 refine uR 1 [.c [2, 0], .c [3]] ?_
 refine qG (sq 0 7) ?_
 refine uP 1 ?_
 refine RW.pv (κ := .seq) (d := some 7) (r := (sq 2 7)) (v' := .bool true) (v := .bool (decide (((n : Int) : Int) > 0))) (by as_aux_lemma => kernel_rfl) (by rw [decide_eq_true (by omega)]) ?_
 refine uP 2 ?_
 refine RW.pv (κ := .seq) (d := some 10) (r := (sq 5 7)) (v' := .bool true) (v := .bool (decide (((n : Int) : Int) ≤ 255))) (by as_aux_lemma => kernel_rfl) (by rw [decide_eq_true (by omega)]) ?_
 refine uP 1 ?_
 refine uK (needs_spec (S := fun _ => True)) ?_
 rintro _ _ C rfl
 have H := H.ext C
 refine uF 0 ?_
 refine uR 4 [.c [3, 0, 1, 0], .b 0, .c [4]] ?_
 have H := H.ownNil SB 23
 refine uL (α := Nat × Option Addr × Nat) (g := 127) (p := [3, 0, 1, 0, 0]) (fun (i, ao, co) => [(0, .I n), (2, .slice ao (((ident n).take i).length) co), (3, .P h 0), (13, .I n), (14, .I i)]) (fun (i, ao, co) w' => Hp w S [] [(h, .cells #[.I 0] 34 (0, 0))] [⟨SB, 23, .slice ao (((ident n).take i).length) co, (ident n).take i⟩] [] w' ∧ i ≤ n) (fun (i, ao, co) => n - i) (0, none, 0) ⟨H, Nat.zero_le _⟩ ?_
 rintro ⟨i, ao, co⟩ _ ⟨H, _⟩ j
 refine uR 3 [.c [3, 0, 1, 0, 0, 1, 0], .c [3, 0, 1, 0, 0, 2], .l [3, 0, 1, 0, 0], .b 0, .c [4]] ?_
 refine qD (((i : Int) : Int) < (n : Int)) (fun E => ?_) (fun E => ?_)
 ·
  refine uR 6 [.c [3, 0, 1, 0, 0, 2, 0, 0, 1, 0], .c [3, 0, 1, 0, 0, 2, 0, 0, 2], .b 1, .c [3, 0, 1, 0, 0, 3], .l [3, 0, 1, 0, 0], .b 0, .c [4]] ?_
  refine qG (sq 0 3) ?_
  refine uP 1 ?_
  refine RW.makeW Sb (κ := .seq) (d := some 18) (r := (sq 2 3)) (T := 23) (e := 5) (by_ := 1) (v0 := .int .u8 0) (0#8 : BitVec 8) (kl := .i64) (kc := .i64) (lv := (n : Int)) (cv := (n : Int)) (by as_aux_lemma => kernel_rfl) (nofun) (by as_aux_lemma => kernel_rfl) rfl H n n (by omega) (by omega) (by omega) (by omega) (by omega) (fun _ _ => rfl) ?_
  intro f _ H
  have H : Hp w S [] [_] [⟨Sb, 5, .slice (some ⟨f, 0, none⟩) n n, (List.replicate n (0#8 : BitVec 8))⟩, _] [] _ := H
  refine uF 1 ?_
  refine uR 1 [.c [3, 0, 1, 0, 0, 2, 0, 0, 2, 0], .c [3, 0, 1, 0, 0, 2, 0, 0, 3], .b 1, .c [3, 0, 1, 0, 0, 3], .l [3, 0, 1, 0, 0], .b 0, .c [4]] ?_
  refine qG (sq 0 4) ?_
  refine uP 2 ?_
  have q : n = (List.replicate n (0#8 : BitVec 8)).length := by rw [List.length_replicate]
  have s : i < (List.replicate n (0#8 : BitVec 8)).length := by rw [List.length_replicate]; omega
  refine RW.indexW (κ := .seq) (d := some 21) (r := (sq 3 4)) (T := 23) (e := 5) (m := 1) (ik := .i64) (ix := (i : Int)) (sh := Sb) (xs := (List.replicate n (0#8 : BitVec 8))) (a := (some ⟨f, 0, none⟩)) (len := n) (cap := n) (by as_aux_lemma => kernel_rfl) (by as_aux_lemma => kernel_rfl) rfl H i (by omega) s q ?_
  intro D _ A _ B
  obtain rfl := B
  refine RW.storeW (d := none) (r := (sq 4 4)) (e := 5) (m := 1) (b := D) (k := i) (v := .int .u8 1) (by as_aux_lemma => kernel_rfl) rfl (by as_aux_lemma => kernel_rfl) H A s q (1#8) (Shape.bv_lit (x := 1#8) (by decide)) ?_
  intro _ H
  have H := H.reW (ys := idRow n i) (rfl)
  refine uF 0 ?_
  refine qG (sq 0 5) ?_
  refine uP 2 ?_
  refine RW.new (κ := .seq) (d := some 24) (r := (sq 3 5)) (o := .cells #[.slice (some ⟨f, 0, none⟩) n n] 23 (0, 0)) (v := fun b => .slice (some ⟨b, 0, none⟩) 1 1) (fun b => by as_aux_lemma => kernel_rfl) (nofun) H ?_
  intro z _ H
  have H : Hp w S [] [(z, .cells #[.slice (some ⟨f, 0, none⟩) n n] 23 (0, 0)), _] [_] [Rp SB [.slice (some ⟨f, 0, none⟩) n n] (idRow n i)] _ := H.freezeW 0 rfl
  have H := H.freeze 0 rfl SB ([idRow n i] : List (List (BitVec 8))) 1 (by simp [maxLen]) (by first | exact Nat.le_refl _ | simp) (EsP.cons (c := [.slice (some ⟨f, 0, none⟩) n n]) (H.rp 0 rfl) EsP.nil)
  have H : Hp w S [] [_] [_] [Rp (Shape.slice SB) [.slice (some ⟨z, 0, none⟩) 1 1] ([idRow n i] : List (List (BitVec 8))), _] _ := H
  refine uA 29 29 24 ((ident n).take (i + 1)) H 0 rfl 0 rfl (ident_take (by omega)) (by rw [List.length_take, ident_len]; omega) ?_
  intro t u _ H _
  have H : Hp w S [] [_] [⟨SB, 23, .slice t (((ident n).take (i + 1)).length) u, (ident n).take (i + 1)⟩] [_, _] _ := H
  refine uF 1 ?_
  refine uR 1 [.c [3, 0, 1, 0, 0, 3], .l [3, 0, 1, 0, 0], .b 0, .c [4]] ?_
  refine qG (sq 0 2) ?_
  refine uI ((i : Int) + 1) ?_
  refine qF 1 [(0, .I n), (2, .slice t (((ident n).take (i + 1)).length) u), (3, .P h 0), (13, .I n), (14, .I ((i : Int) + 1))] ?_
  have H := H.pick [] rfl
  exact uB (j (i + 1, t, u) _ ⟨H, by omega⟩ (by first | omega | (simp only []; omega)))
 ·
  refine uR 2 [.c [4, 0], .c [5]] ?_
  refine qG (sq 0 3) ?_
  refine uP 2 ?_
  refine uW 34 0 #[.I 0] H 0 rfl ?_
  intro _ H
  refine uF 0 ?_
  refine WK.retD (v := .tuple #[.slice ao (((ident n).take i).length) co, .I 0]) Try.func127 (by as_aux_lemma => kernel_rfl) (refused_defer ⟨h, 0, none⟩) (RV.res2 (x := .tmp 2) (y := .cell 3 34) (by as_aux_lemma => kernel_rfl) (RV.tmp (by as_aux_lemma => kernel_rfl)) (RV.cell (k := 0) (by as_aux_lemma => kernel_rfl) (H.cells 0 rfl) rfl (by as_aux_lemma => kernel_rfl))) ?_
  have hie : i = n := by omega
  have hte : (ident n).take i = ident n := List.take_of_length_le (by rw [ident_len]; omega)
  rw [hte] at H ⊢
  have H := H.drop (M' := []) (W' := [_]) (List.nil_sublist _) (List.cons_sublist_cons.2 (List.nil_sublist _))
  exact ⟨_, rfl, H.done, _, _, rfl, H.pick [] rfl⟩
end Go.Proofs.Ytppcdmbkgficiaa
