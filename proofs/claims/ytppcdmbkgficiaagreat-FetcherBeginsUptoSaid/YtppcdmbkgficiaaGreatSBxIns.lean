/-
 THE ENGINE: what slices.Insert needs: growing by zeros, overlaps, a slice laid open.
 No condition.
-/
import Derived.Test.YtppcdmbkgficiaaGreatSBxCall
import Derived.Lib.Overlaps
import Derived.Laws.Externs
namespace Go.BX
open Go.RowKit (Below)
theorem Shape.slice_none {α : Type} {sh : Shape α} {S : Nat → Prop} {w : World} {l c : Nat} {xs : List α} (h : sh.slice.rep S w [.slice none l c] xs) : xs = [] := by
 obtain ⟨_, _, _, hE⟩ := Shape.elems_of h
 cases xs with
 | nil => rfl
 | cons x r =>
  obtain ⟨b, o, es, h1, _⟩ := hE 0 x rfl
  cases h1
section
variable {w0 w w' : World} {S : Nat → Prop} {O : List Nat} {M : Heap} {W : List OwnS} {G : List Fact}
theorem Hp.toRaw1 {α : Type} {sh : Shape α} {T : TypeId} {a : Option Addr} {len cap : Nat} {xs : List α} {W : List OwnS} (H : Hp w0 S O M (⟨sh, T, .slice a len cap, xs⟩ :: W) G w) (hne : 0 < len) :
 ∃ b c, a = some ⟨b, 0, none⟩ ∧ len = xs.length ∧ c.size = cap * sh.size ∧ xs.length ≤ cap ∧ cap ≤ maxLen ∧ (∀ v ∈ c.toList.take (xs.length * sh.size), v.oneCell' = true) ∧
  Hp w0 S O ((b, .cells c T (0, 0)) :: M) W (Es sh c.toList xs :: G) w := by
 cases a with
 | none =>
  exfalso
  obtain ⟨cs, h1, _⟩ := (H.slc _ (List.mem_cons_self ..)).1
  rcases h1.2 with ⟨hv, h0⟩ | ⟨b, cap', cur, hv, _⟩
  · simp only [Value.slice.injEq] at hv
    omega
  · simp at hv
 | some a =>
  obtain ⟨b, c, rfl, h1, h2, h3, h4, h5, h6⟩ := H.toRaw
  exact ⟨b, c, rfl, h1, h2, h3, h4, h5, h6⟩
theorem Hp.addRp (H : Hp w0 S O M W G w) {α : Type} (sh : Shape α) (cs : List Value) (x : α) (h : sh.rep (Av S w0 O (idsOf M W)) w cs x) : Hp w0 S O M W (Rp sh cs x :: G) w := H.add h
theorem Hp.es (H : Hp w0 S O M W G w) {α : Type} {sh : Shape α} {cs : List Value} {xs : List α} (i : Nat) (h : G[i]? = some (Es sh cs xs)) : EsP sh (Av S w0 O (idsOf M W)) w cs xs := H.fact i h
theorem Hp.raws (H : Hp w0 S O M W G w) {b b' : Nat} {o o' : Obj} (i j : Nat) (hi : M[i]? = some (b, o)) (hj : M[j]? = some (b', o')) (hij : i ≠ j) : b ≠ b' := by
 have hn : (M.map (·.1)).Nodup := (List.nodup_append.1 H.nodup).1
 intro e
 subst e
 have h1 := List.getElem?_eq_some_iff.1 hi
 have h2 := List.getElem?_eq_some_iff.1 hj
 exact hij (nodup_inj hn (by simpa using h1.1) (by simpa using h2.1) (by simp [h1.2, h2.2]))
end
section
variable {P : Program} {n : Nat} {ds : List Deferred} {ops : Array Oper} {K : Env → World → Prop} {l r : List (Nat × Kd)} {σ : Env} {w : World} {κ : Kd} {d : Option Tmp}
variable {w0 : World} {S : Nat → Prop} {O : List Nat} {M : Heap} {W : List OwnS} {G : List Fact}
theorem sliceAt_run0 {T e : TypeId} {m : Nat} (hT : sliceE P T = some (e, m)) {a : Option Addr} {len cap hi : Nat} {hv : Option Value} (h2 : hiOk hv len hi) (hhc : hi ≤ cap) :
 (Instr.sliceAt T (.slice a len cap) none hv none).run P w = .ok (.slice a hi cap) w := by
 have h := sliceAt_run (P := P) (w := w) hT (a := a) (len := len) (cap := cap) (lo := 0) (hi := hi) .nil h2 (Nat.zero_le _) hhc
 have e1 : (if cap = 0 then a else a.map (·.add (0 * m))) = a := by
  split
  · rfl
  · cases a with
    | none => rfl
    | some a => simp [Addr.add]
 rw [e1] at h
 exact h
end
end Go.BX
