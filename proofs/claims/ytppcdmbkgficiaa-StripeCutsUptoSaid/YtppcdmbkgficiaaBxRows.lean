/-
  THE ENGINE, MORE: rows of bytes of the call's own that lie in a slice of its own: the slice holds bare values (Shape.raw), the rows stand behind in the list of own slices (rowsW); when they are written no more they are facts, and the slice is one of rows.
  No condition.
-/
import Derived.Test.YtppcdmbkgficiaaBxOwn
import Derived.Test.YtppcdmbkgficiaaBxBv
namespace Go.BX

/-- a value that is told apart, and no more -/
def Shape.raw : Shape Value where
  size := 1
  rep _ _ cs x := cs = [x] ∧ x.oneCell' = true
  pos := by decide
  len := fun h => by rw [h.1]; rfl
  ones := fun h v hv => by rw [h.1] at hv; simp at hv; subst hv; exact h.2
  step := fun h _ => h

structure RowD where
  a : Option Addr
  n : Nat
  c : Nat
  xs : List (BitVec 8)

def RowD.v (r : RowD) : Value := .slice r.a r.n r.c
def rowW (T : TypeId) (r : RowD) : OwnS := ⟨Shape.bv .u8 8, T, .slice r.a r.n r.c, r.xs⟩
def rowsW (T : TypeId) (R : List RowD) : List OwnS := R.map (rowW T)

theorem erase_perm {α : Type} : ∀ {l : List α} {i : Nat} {x : α}, l[i]? = some x → l.Perm (x :: l.eraseIdx i)
  | [], i, x, h => by simp at h
  | y :: l, 0, x, h => by
    simp only [List.getElem?_cons_zero, Option.some.injEq] at h
    subst h
    exact List.Perm.refl _
  | y :: l, i + 1, x, h => by
    have := erase_perm (l := l) (i := i) (x := x) (by simpa using h)
    exact (List.Perm.cons y this).trans (List.Perm.swap x y _)
theorem set_perm {α : Type} : ∀ {l : List α} {i : Nat} (x : α), i < l.length → (l.set i x).Perm (x :: l.eraseIdx i)
  | [], i, x, h => by simp at h
  | y :: l, 0, x, h => List.Perm.refl _
  | y :: l, i + 1, x, h => by
    have := set_perm (l := l) (i := i) x (by simpa using h)
    exact (List.Perm.cons y this).trans (List.Perm.swap x y _)
theorem rowsW_pick {T : TypeId} {R : List RowD} {i : Nat} {r : RowD} (h : R[i]? = some r) : (rowW T r :: rowsW T (R.eraseIdx i)).Perm (rowsW T R) := by
  have := ((erase_perm h).map (rowW T)).symm
  exact this
theorem rowsW_put {T : TypeId} {R : List RowD} {i : Nat} (r : RowD) (h : i < R.length) : (rowsW T (R.set i r)).Perm (rowW T r :: rowsW T (R.eraseIdx i)) := (set_perm r h).map (rowW T)
theorem rowsW_snoc {T : TypeId} {R : List RowD} {r : RowD} : (rowsW T (R ++ [r])).Perm (rowW T r :: rowsW T R) := by
  unfold rowsW
  rw [List.map_append]
  exact List.perm_append_comm
theorem rowsV_set {R : List RowD} {i : Nat} {r r' : RowD} (h : R[i]? = some r) (hv : r'.v = r.v) : R.map RowD.v = (R.set i r').map RowD.v := by
  rw [List.map_set, hv]
  apply List.ext_getElem?
  intro j
  rw [List.getElem?_set]
  split
  · rename_i e
    subst e
    rw [List.getElem?_map, h]
    simp only [List.length_map]
    rw [if_pos (List.getElem?_eq_some_iff.1 h).1]
    rfl
  · rfl
theorem rowsV_at {R : List RowD} {i : Nat} {r : RowD} (h : R[i]? = some r) (hi : i < (R.map RowD.v).length) : (R.map RowD.v)[i] = .slice r.a r.n r.c := by
  rw [List.getElem_map, (List.getElem?_eq_some_iff.1 h).2]
  rfl
theorem rowsX_set {R : List RowD} {i : Nat} {r' : RowD} : (R.set i r').map RowD.xs = (R.map RowD.xs).set i r'.xs := List.map_set
theorem rowsX_at {R : List RowD} {i : Nat} {r : RowD} {L : List (List (BitVec 8))} (h : R[i]? = some r) (hL : R.map RowD.xs = L) : L[i]? = some r.xs := by
  rw [← hL, List.getElem?_map, h]
  rfl
theorem rows_n {R : List RowD} {m i : Nat} {r r' : RowD} (h : ∀ r ∈ R, r.n = m) (hr : R[i]? = some r) (hn : r'.n = r.n) : ∀ q ∈ R.set i r', q.n = m := by
  intro q hq
  rcases List.mem_or_eq_of_mem_set hq with hq | rfl
  · exact h q hq
  · rw [hn]; exact h r (List.mem_of_getElem? hr)
theorem rowsW_nil {T : TypeId} : rowsW T [] = [] := rfl

section
variable {w0 w : World} {S : Nat → Prop} {O : List Nat} {M : Heap} {W : List OwnS} {G : List Fact}

theorem Hp.rowsFacts {o : OwnS} {T : TypeId} : ∀ {R : List RowD} {G : List Fact}, Hp w0 S O M (o :: (rowsW T R ++ W)) G w → Hp w0 S O M (o :: W) (R.map (fun r => Rp (Shape.slice (Shape.bv .u8 8)) [r.v] r.xs) ++ G) w
  | [], _, H => H
  | r :: R, G, H => by
    have h1 := H.freezeW 1 (sh := Shape.bv .u8 8) (T := T) (v := r.v) (xs := r.xs) rfl
    have h2 := Hp.rowsFacts (R := R) h1
    exact h2.facts_sub fun F hF => by
      simp only [List.map_cons, List.cons_append, List.mem_cons, List.mem_append] at hF ⊢
      rcases hF with h | h | h
      · exact .inr (.inl h)
      · exact .inl h
      · exact .inr (.inr h)

/-- the rows are written no more -/
theorem Hp.freezeRows {T T2 : TypeId} {v : Value} {R : List RowD} {W : List OwnS} (H : Hp w0 S O M (⟨Shape.raw, T2, v, R.map RowD.v⟩ :: (rowsW T R ++ W)) G w) :
    Hp w0 S O M (⟨Shape.slice (Shape.bv .u8 8), T2, v, R.map RowD.xs⟩ :: W) G w := by
  have H2 := H.rowsFacts
  have hid : idsOf M ((⟨Shape.slice (Shape.bv .u8 8), T2, v, R.map RowD.xs⟩ : OwnS) :: W) = idsOf M ((⟨Shape.raw, T2, v, R.map RowD.v⟩ : OwnS) :: W) := rfl
  refine (H2.reids (fun b => by rw [hid]) (by rw [hid]; exact H2.nodup) (fun p hp => (H2.own p hp).1) (fun o ho => ?_)).facts_sub fun F hF => List.mem_append_right _ hF
  rcases List.mem_cons.1 ho with rfl | ho
  · obtain ⟨cs, h1, h2, h3⟩ := (H2.slc _ (List.mem_cons_self ..)).1
    refine ⟨cs, ?_, h2, fun i x hx => ?_⟩
    · simp only [List.length_map] at h1 ⊢
      exact h1
    · obtain ⟨r, hr, rfl⟩ := by
        rw [List.getElem?_map] at hx
        exact Option.map_eq_some_iff.1 hx
      have hv := h3 i r.v (by show (R.map RowD.v)[i]? = _; rw [List.getElem?_map, hr]; rfl)
      have hf := H2.facts (Rp (Shape.slice (Shape.bv .u8 8)) [r.v] r.xs) (List.mem_append_left _ (List.mem_map.2 ⟨r, List.mem_of_getElem? hr, rfl⟩))
      have e1 : (cs.drop (i * 1)).take 1 = [r.v] := hv.1
      show (Shape.slice (Shape.bv .u8 8)).rep _ w ((cs.drop (i * 1)).take 1) r.xs
      rw [e1]
      exact hf
  · exact (H2.slc o (List.mem_cons_of_mem _ ho)).1
theorem Hp.freezeRows0 {T T2 : TypeId} {v : Value} {R : List RowD} (H : Hp w0 S O M (⟨Shape.raw, T2, v, R.map RowD.v⟩ :: rowsW T R) G w) :
    Hp w0 S O M [⟨Shape.slice (Shape.bv .u8 8), T2, v, R.map RowD.xs⟩] G w := by
  rw [← List.append_nil (rowsW T R)] at H
  exact H.freezeRows
end
end Go.BX
