/-
  THE ENGINE's slices.Delete: an append into the same block, and a clear, on a block of the call's own.
  No condition.
-/
import Derived.Test.YtppcdmbkgficiaaBxMap
namespace Go.BX
open Go.RowKit (Below)

section
variable {P : Program} {n : Nat} {ds : List Deferred} {ops : Array Oper} {K : Env → World → Prop} {l r : List (Nat × Kd)} {σ : Env} {w : World} {κ : Kd} {d : Option Tmp}
variable {w0 : World} {S : Nat → Prop} {O : List Nat} {M : Heap} {W : List OwnS} {G : List Fact}

/-- append within the room that there is, of cells that lie anywhere -/
theorem RW.appendR {T e ty : TypeId} {m : Nat} {b dl dc sb o2 sl sc : Nat} {c : Array Value} (hl : look P n ops l σ = some (.seq, semV (Builtin.append_ #[T, T] ty #[.slice (some ⟨b, 0, none⟩) dl dc, .slice (some ⟨sb, o2, none⟩) sl sc]), d, r))
    (hT : sliceE P T = some (e, m)) (H : Hp w0 S O M W G w) (i : Nat) (hi : M[i]? = some (b, .cells c e (0, 0))) (so : Nat) (news : List Value) (hn : news.length = sl * m) (hc : Cells w sb so news) (h1 : ∀ v ∈ news, v.oneCell' = true)
    (hs : 0 < sl → o2 = so) (hroom : dl + sl ≤ dc) (hfit : dl * m + news.length ≤ c.size) (c' : List Value) (hc' : c.toList.take (dl * m) ++ news ++ c.toList.drop (dl * m + news.length) = c')
    (h : ∀ w', Hp w0 S O (M.set i (b, .cells c'.toArray e (0, 0))) W G w' → RW P ops n ds K r (putO d (.slice (some ⟨b, 0, none⟩) (dl + sl) dc) σ) w') : RW P ops n ds K l σ w := by
  subst hc'
  have hb := (H.own _ (List.mem_of_getElem? hi)).1
  obtain ⟨hu, ti, hti, hm⟩ := sliceE_spec hT
  by_cases h0 : 0 < sl
  · obtain rfl := hs h0
    have hr := run_append_room (P := P) w T ty e ti hu hti b dl dc c hb ⟨sb, o2, none⟩ sl sc news (by rw [hm]; exact hn) (fun j u hj => by rw [addr_lit]; exact hc j u hj) h1 hroom (by rw [hm]; exact hfit)
    rw [setRow_put hb, hm] at hr
    exact RW.actV hl (semV_run hr) (h _ (H.put i hi _))
  · have hz : sl = 0 := by omega
    subst hz
    have hnil : news = [] := List.eq_nil_of_length_eq_zero (by rw [hn, Nat.zero_mul])
    subst hnil
    have hset : M.set i (b, .cells (c.toList.take (dl * m) ++ [] ++ c.toList.drop (dl * m + ([] : List Value).length)).toArray e (0, 0)) = M := by
      have hcc : (c.toList.take (dl * m) ++ [] ++ c.toList.drop (dl * m + ([] : List Value).length)).toArray = c := by simp
      rw [hcc]
      apply List.ext_getElem?
      intro j
      rw [List.getElem?_set]
      split
      · rename_i hij; subst hij; rw [if_pos (List.getElem?_eq_some_iff.1 hi).1, hi]
      · rfl
    refine RW.actV hl (semV_run (append_zero_run hu hti (by omega))) ?_
    have h := h w (by rw [hset]; exact H)
    exact h

theorem RW.clearR {T e Tb ty : TypeId} {m : Nat} {b o1 l1 c1 : Nat} {c : Array Value} (hl : look P n ops l σ = some (.seq, semV (Builtin.clear_ #[T] ty #[.slice (some ⟨b, o1, none⟩) l1 c1]), d, r)) (hT : sliceE P T = some (e, m)) (hz : zeroOk P e m = true)
    (H : Hp w0 S O M W G w) (i : Nat) (hi : M[i]? = some (b, .cells c Tb (0, 0))) (o : Nat) (hs : 0 < l1 → o1 = o) (hfit : o + l1 * m ≤ c.size)
    (h : ∀ (c' : Array Value) w', c'.size = c.size → c'.toList.take o = c.toList.take o → Hp w0 S O (M.set i (b, .cells c' Tb (0, 0))) W G w' → RW P ops n ds K r (putO d (.tuple #[]) σ) w') : RW P ops n ds K l σ w := by
  have hb := (H.own _ (List.mem_of_getElem? hi)).1
  obtain ⟨hu, ti, hti, hm⟩ := sliceE_spec hT
  by_cases h0 : l1 = 0
  · subst h0
    have hr : (Builtin.clear_ #[T] ty #[.slice (some ⟨b, o1, none⟩) 0 c1]).run P w = .ok (.tuple #[]) w := by
      simp [Builtin.clear_, run_underlying hu]
    have hset : M.set i (b, .cells c Tb (0, 0)) = M := by
      apply List.ext_getElem?
      intro j
      rw [List.getElem?_set]
      split
      · rename_i hij; subst hij; rw [if_pos (List.getElem?_eq_some_iff.1 hi).1, hi]
      · rfl
    exact RW.actV hl (semV_run hr) (h c w rfl rfl (by rw [hset]; exact H))
  · obtain rfl := hs (by omega)
    unfold zeroOk at hz
    rw [hti] at hz
    simp only at hz
    cases hzz : ti.zero with
    | none => rw [hzz] at hz; cases hz
    | some z =>
      rw [hzz] at hz
      simp only [Bool.and_eq_true] at hz
      have e1 := Nat.eq_of_beq_eq_true hz.1.2
      simp only [Array.length_toList] at e1
      have hsz : (Builtin.zeroCells z.cells l1).toList.length = l1 * m := by rw [Array.length_toList, size_zeroCells, e1]
      have hst := run_storeCells_at P b o1 Tb (Builtin.zeroCells z.cells l1).toList 0 c w hb (by rw [hsz]; omega) (zeroCells_ones hz.2)
      simp only [Nat.add_zero] at hst
      rw [setRow_put hb, hsz] at hst
      have hr : (Builtin.clear_ #[T] ty #[.slice (some ⟨b, o1, none⟩) l1 c1]).run P w = .ok (.tuple #[]) { w with heap := w.heap.setIfInBounds b (.cells (c.toList.take o1 ++ (Builtin.zeroCells z.cells l1).toList ++ c.toList.drop (o1 + l1 * m)).toArray Tb (0, 0)) } := by
        cases l1 with
        | zero => exact absurd rfl h0
        | succ l1 => simp [Builtin.clear_, run_underlying hu, zeroValue, typeInfo, hti, hzz, hst]
      have hcl : c.toList.length = c.size := by simp
      refine RW.actV hl (semV_run hr) (h _ _ ?_ ?_ (H.put i hi _))
      · rw [List.size_toArray, List.length_append, List.length_append, hsz, List.length_take, List.length_drop]; omega
      · rw [List.toList_toArray, List.append_assoc, List.take_append_of_le_length (by rw [List.length_take]; omega), List.take_take, Nat.min_self]
theorem sliceAt_run3 {T e : TypeId} {m : Nat} (hT : sliceE P T = some (e, m)) {a : Option Addr} {len cap lo hi mx : Nat} {k1 k2 k3 : IntKind} (h1 : lo ≤ hi) (h2 : hi ≤ mx) (h3 : mx ≤ cap) :
    (Instr.sliceAt T (.slice a len cap) (some (.int k1 (lo : Int))) (some (.int k2 (hi : Int))) (some (.int k3 (mx : Int)))).run P w = .ok (.slice (if mx = lo then a else a.map (·.add (lo * m))) (hi - lo) (mx - lo)) w := by
  obtain ⟨hu, i, hti, hm⟩ := sliceE_spec hT
  have hb3 : ∀ (k : IntKind) (code : BoundsCode), (Instr.sliceBound (.int k (mx : Int)) cap code).run P w = .ok mx w := fun k code => sliceBound_run h3
  have hb2 : ∀ (k : IntKind) (code : BoundsCode), (Instr.sliceBound (.int k (hi : Int)) mx code).run P w = .ok hi w := fun k code => sliceBound_run h2
  have hb1 : ∀ (k : IntKind) (code : BoundsCode), (Instr.sliceBound (.int k (lo : Int)) hi code).run P w = .ok lo w := fun k code => sliceBound_run h1
  simp [Instr.sliceAt, Instr.slice, Instr.sliceBounds, run_underlying hu, sizeOf, typeInfo, hti, hm, hb1, hb2, hb3]

/-- s[i:j:k], of which nothing is used -/
theorem RW.slice3 {T e : TypeId} {m : Nat} {a : Option Addr} {len cap lo hi mx : Nat} {k1 k2 k3 : IntKind} {t1 t2 t3 : Int} (hl : look P n ops l σ = some (κ, semV (Instr.sliceAt T (.slice a len cap) (some (.int k1 t1)) (some (.int k2 t2)) (some (.int k3 t3))), d, r))
    (hT : sliceE P T = some (e, m)) (e1 : t1 = lo) (e2 : t2 = hi) (e3 : t3 = mx) (h1 : lo ≤ hi) (h2 : hi ≤ mx) (h3 : mx ≤ cap) (h : ∀ v, RW P ops n ds K r (putO d v σ) w) : RW P ops n ds K l σ w := by
  subst e1 e2 e3
  exact RW.readS hl (fun w' _ => semV_run (sliceAt_run3 hT h1 h2 h3)) (h _)
end

/-- what is left of a row when the elements from i to j are taken out -/
theorem del_fact {α : Type} {sh : Shape α} {S : Nat → Prop} {w : World} {cs c' : List Value} {xs : List α} {i j : Nat} (h1 : sh.size = 1) (hE : EsP sh S w cs xs) (hl : xs.length ≤ cs.length) (hij : i ≤ j) (hj : j ≤ xs.length)
    (hc : c'.take (i + (xs.length - j)) = cs.take i ++ (cs.drop j).take (xs.length - j)) : EsP sh S w c' (xs.take i ++ xs.drop j) := by
  intro k x hx
  have hk := (List.getElem?_eq_some_iff.1 hx).1
  rw [List.length_append, List.length_take, List.length_drop, Nat.min_eq_left (by omega)] at hk
  have e1 : (c'.drop (k * sh.size)).take sh.size = ((c'.take (i + (xs.length - j))).drop k).take 1 := by
    rw [h1, Nat.mul_one, List.drop_take, List.take_take, Nat.min_eq_left (by omega)]
  rw [e1, hc]
  by_cases hki : k < i
  · rw [List.getElem?_append_left (by rw [List.length_take]; omega), List.getElem?_take, if_pos hki] at hx
    have := hE k x hx
    rw [h1, Nat.mul_one] at this
    rw [List.drop_append_of_le_length (by rw [List.length_take]; omega), List.take_append_of_le_length (by rw [List.length_drop, List.length_take]; omega), List.drop_take, List.take_take, Nat.min_eq_left (by omega)]
    exact this
  · rw [List.getElem?_append_right (by rw [List.length_take]; omega), List.length_take, Nat.min_eq_left (by omega), List.getElem?_drop] at hx
    have := hE _ x hx
    rw [h1, Nat.mul_one] at this
    rw [List.drop_append, List.drop_of_length_le (by rw [List.length_take]; omega), List.nil_append, List.length_take, Nat.min_eq_left (by omega), List.drop_take, List.drop_drop, List.take_take, Nat.min_eq_left (by omega)]
    exact this
end Go.BX
