/-
  THE ENGINE: regions in which reads may come before or behind writes: what is read is not written in the region.
  No condition.
-/
import Derived.Test.YtppcdmbkgficiaaBxOrd
import Derived.Test.YtppcdmbkgficiaaBxCall
import Derived.OrdersHeld
namespace Go.BX
open Go.RowKit (Below)

theorem Chg.sto {w1 w w' : World} {Bs : List Nat} {b : Nat} (h : Chg w1 Bs w) (h' : Chg w [b] w') (hb : w1.heap.size ≤ b ∨ b ∈ Bs) : Chg w1 Bs w' :=
  ⟨h'.os.trans h.os, h'.tape.trans h.tape, h'.output.trans h.output, Nat.le_trans h.size h'.size, fun k hk ho => (h'.block k (Nat.lt_of_lt_of_le hk h.size) (by
    intro e
    rw [List.mem_singleton] at e
    subst e
    rcases hb with hb | hb
    · omega
    · exact ho hb)).trans (h.block k hk ho)⟩

theorem Hp.fcne {w0 w : World} {S : Nat → Prop} {O : List Nat} {M : Heap} {W : List OwnS} {G : List Fact} (H : Hp w0 S O M W G w) {b o b' : Nat} {cs : List Value} {ob : Obj} (i : Nat) (h : G[i]? = some (Fc b o cs)) (j : Nat) (hj : M[j]? = some (b', ob)) : b ≠ b' := by
  intro e
  subst e
  have h1 : Av S w0 O (idsOf M W) b := (H.fact i h).2.1
  exact h1.2 (List.mem_append_left _ (List.mem_map.2 ⟨_, List.mem_of_getElem? hj, rfl⟩))

section
variable (P : Program) (ops : Array Oper) (n : Nat) (ds : List Deferred) (w1 : World) (Bs : List Nat)

def OpH (o : Oper) (κ : Kd) (σ : Env) (w : World) (K : Env → World → Prop) : Prop :=
  ∀ a, Fits n σ ds a → match κ with
    | .qui => Chg w1 Bs w ∧ ∃ v, YieldsIf P ops (Chg w1 Bs) o v a ∧ ∃ σ', Fits n σ' ds (a.put o.dst v) ∧ K σ' w
    | _ => OW P ops o a w fun a' w' => Chg w1 Bs w' ∧ ∃ σ', Fits n σ' ds a' ∧ K σ' w'

def RH (K : Env → World → Prop) : List (Nat × Kd) → Env → World → Prop
  | [], σ, w => K σ w
  | (i, κ) :: r, σ, w => ∃ o, ops[i]? = some o ∧ OpH P ops n ds w1 Bs o κ σ w (RH K r)

mutual
def RG (K : Env → World → Prop) (pre : List (Nat × Kd)) : DTree → Env → World → Prop
  | .leaf l, σ, w => RH P ops n ds w1 Bs K (pre ++ l) σ w
  | .node l bs, σ, w => RH P ops n ds w1 Bs (fun σ' w' => RGB K bs σ' w') (pre ++ l) σ w
def RGB (K : Env → World → Prop) : DList → Env → World → Prop
  | .nil, _, _ => True
  | .cons i t r, σ, w => RG K [(i, .seq)] t σ w ∧ RGB K r σ w
end
end

def canH (ops : Array Oper) : List (Nat × Kd) → Array Bool → Option (Array Bool)
  | [], s => some s
  | (i, .qui) :: r, s => cond ((Region.ready .any ops s).contains i && Region.free .any ops s i) (canH ops r (s.setIfInBounds i true)) none
  | (i, _) :: r, s => cond (decide (Region.ready .any ops s = [i])) (canH ops r (s.setIfInBounds i true)) none

mutual
def canG (ops : Array Oper) : DTree → Nat → Array Bool → Bool
  | .leaf l, f, s => decide (l.length = f) && match canH ops l s with
    | some s' => (Region.ready .any ops s').isEmpty
    | none => false
  | .node l bs, f, s => decide (l.length + 1 ≤ f) && match canH ops l s with
    | some s' => decide (Region.ready .any ops s' = bs.ids) && !bs.ids.isEmpty && canGL ops bs (f - l.length - 1) s'
    | none => false
def canGL (ops : Array Oper) : DList → Nat → Array Bool → Bool
  | .nil, _, _ => true
  | .cons i t r, f, s => canG ops t f (s.setIfInBounds i true) && canGL ops r f s
end

section
variable {P : Program} {ops : Array Oper} {n : Nat} {ds : List Deferred} {w1 : World} {Bs : List Nat}

theorem wpAnyH_rows {K : Env → World → Prop} {Q : Exit → Act → World → Prop} (hsel : Region.noSelect ops = true) (hP : ∀ c a w, ¬ Q (.panic c) a w) {f' : Nat} {s' : Array Bool}
    (hk : ∀ a w σ, Fits n σ ds a → K σ w → wpAnyH P .any ops Q (Chg w1 Bs) f' s' a w) :
    ∀ (l : List (Nat × Kd)) (s : Array Bool) (a : Act) (w : World) (σ : Env), canH ops l s = some s' → Fits n σ ds a → RH P ops n ds w1 Bs K l σ w → wpAnyH P .any ops Q (Chg w1 Bs) (l.length + f') s a w
  | [], s, a, w, σ, hB, hf, h => by
    simp only [canH, Option.some.injEq] at hB
    subst hB
    simp only [List.length_nil, Nat.zero_add]
    exact hk a w σ hf h
  | (i, κ) :: r, s, a, w, σ, hB, hf, ⟨o, ho, h⟩ => by
    rw [List.length_cons, show r.length + 1 + f' = r.length + f' + 1 by omega]
    have h1 := h a hf
    have seqs : cond (decide (Region.ready .any ops s = [i])) (canH ops r (s.setIfInBounds i true)) none = some s' →
        (OW P ops o a w fun a' w' => Chg w1 Bs w' ∧ ∃ σ', Fits n σ' ds a' ∧ RH P ops n ds w1 Bs K r σ' w') → wpAnyH P .any ops Q (Chg w1 Bs) (r.length + f' + 1) s a w := fun hB h1 => by
      cases hd : decide (Region.ready .any ops s = [i]) with
      | false => rw [hd] at hB; cases hB
      | true =>
        rw [hd] at hB
        simp only [cond_true] at hB
        refine wpAnyH_all (of_decide_eq_true hd) (by simp) fun j hj => ?_
        obtain rfl : j = i := by simpa using hj
        exact OW.wpOp ho (OW.mono (fun a' w' ⟨hS, σ', hf', hk'⟩ => ⟨hS, wpAnyH_rows hsel hP hk r _ a' w' σ' hB hf' hk'⟩) h1)
    cases κ with
    | seq => exact seqs hB h1
    | chn => exact seqs hB h1
    | qui =>
      simp only [canH] at hB
      cases hd : ((Region.ready .any ops s).contains i && Region.free .any ops s i) with
      | false => rw [hd] at hB; cases hB
      | true =>
        rw [hd] at hB
        simp only [cond_true] at hB
        simp only [Bool.and_eq_true] at hd
        obtain ⟨hS, v, hy, σ', hf', hk'⟩ := h1
        exact wpAnyH_take ho hsel hd.2 hd.1 (fun c a w hq => absurd hq (hP c _ w)) hy hS (wpAnyH_rows hsel hP hk r _ _ w σ' hB hf' hk')

mutual
theorem wpAnyH_of_RG {K : Env → World → Prop} {Q : Exit → Act → World → Prop} (hsel : Region.noSelect ops = true) (hP : ∀ c a w, ¬ Q (.panic c) a w) (hQ : ∀ a w σ, Fits n σ ds a → K σ w → Q .normal a w) :
    ∀ (t : DTree) (pre : List (Nat × Kd)) (f : Nat) (s s1 : Array Bool) (a : Act) (w : World) (σ : Env), canH ops pre s = some s1 → canG ops t f s1 = true → Fits n σ ds a → RG P ops n ds w1 Bs K pre t σ w →
    wpAnyH P .any ops Q (Chg w1 Bs) (pre.length + f) s a w
  | .leaf l, pre, f, s, s1, a, w, σ, hp, hB, hf, h => by
    unfold RG at h
    simp only [canG, Bool.and_eq_true, decide_eq_true_eq] at hB
    obtain ⟨hl, hB⟩ := hB
    cases hc : canH ops l s1 with
    | none => rw [hc] at hB; cases hB
    | some s' =>
      rw [hc] at hB
      simp only [List.isEmpty_iff] at hB
      have := wpAnyH_rows (Q := Q) hsel hP (f' := 0) (s' := s') (fun a w σ hf hk => ⟨hB, hQ a w σ hf hk⟩) (pre ++ l) s a w σ (canH_app hp hc) hf h
      rw [List.length_append, hl, Nat.add_zero] at this
      exact this
  | .node l bs, pre, f, s, s1, a, w, σ, hp, hB, hf, h => by
    unfold RG at h
    simp only [canG, Bool.and_eq_true, decide_eq_true_eq] at hB
    obtain ⟨hl, hB⟩ := hB
    cases hc : canH ops l s1 with
    | none => rw [hc] at hB; cases hB
    | some s' =>
      rw [hc] at hB
      simp only [Bool.and_eq_true, decide_eq_true_eq] at hB
      obtain ⟨⟨hr, hne⟩, hB⟩ := hB
      have := wpAnyH_rows (Q := Q) hsel hP (f' := f - l.length) (s' := s') (fun a w σ hf hk => by
        rw [show f - l.length = (f - l.length - 1) + 1 by omega]
        refine wpAnyH_all hr (by intro e; rw [e] at hne; simp at hne) fun j hj => ?_
        exact wpAnyH_of_RGB hsel hP hQ bs (f - l.length - 1) s' a w σ hB hf hk j hj) (pre ++ l) s a w σ (canH_app hp hc) hf h
      rw [List.length_append, Nat.add_assoc, show l.length + (f - l.length) = f by omega] at this
      exact this
theorem wpAnyH_of_RGB {K : Env → World → Prop} {Q : Exit → Act → World → Prop} (hsel : Region.noSelect ops = true) (hP : ∀ c a w, ¬ Q (.panic c) a w) (hQ : ∀ a w σ, Fits n σ ds a → K σ w → Q .normal a w) :
    ∀ (bs : DList) (f : Nat) (s : Array Bool) (a : Act) (w : World) (σ : Env), canGL ops bs f s = true → Fits n σ ds a → RGB P ops n ds w1 Bs K bs σ w →
    ∀ j ∈ bs.ids, wpOp P ops Q j (fun a' w' => Chg w1 Bs w' ∧ wpAnyH P .any ops Q (Chg w1 Bs) f (s.setIfInBounds j true) a' w') a w
  | .nil, _, _, _, _, _, _, _, _, j, hj => by simp [DList.ids] at hj
  | .cons i t r, f, s, a, w, σ, hB, hf, h, j, hj => by
    unfold RGB at h
    simp only [canGL, Bool.and_eq_true] at hB
    simp only [DList.ids, List.mem_cons] at hj
    rcases hj with rfl | hj
    · have h1 := h.1
      cases t with
      | leaf l =>
        unfold RG at h1
        obtain ⟨o, ho, h1⟩ := h1
        refine OW.wpOp ho (OW.mono (fun a' w' ⟨hS, σ', hf', hk'⟩ => ⟨hS, ?_⟩) (h1 a hf))
        have := wpAnyH_of_RG hsel hP hQ (.leaf l) [] f (s.setIfInBounds j true) _ a' w' σ' rfl hB.1 hf' (by unfold RG; exact hk')
        simpa using this
      | node l bs =>
        unfold RG at h1
        obtain ⟨o, ho, h1⟩ := h1
        refine OW.wpOp ho (OW.mono (fun a' w' ⟨hS, σ', hf', hk'⟩ => ⟨hS, ?_⟩) (h1 a hf))
        have := wpAnyH_of_RG hsel hP hQ (.node l bs) [] f (s.setIfInBounds j true) _ a' w' σ' rfl hB.1 hf' (by unfold RG; exact hk')
        simpa using this
    · exact wpAnyH_of_RGB hsel hP hQ r f s a w σ hB.2 hf h.2 j hj
theorem canH_app {ops : Array Oper} : ∀ {l l' : List (Nat × Kd)} {s s1 s2 : Array Bool}, canH ops l s = some s1 → canH ops l' s1 = some s2 → canH ops (l ++ l') s = some s2
  | [], l', s, s1, s2, h, h' => by
    simp only [canH, Option.some.injEq] at h
    subst h; exact h'
  | (i, κ) :: r, l', s, s1, s2, h, h' => by
    cases κ with
    | qui =>
      simp only [List.cons_append, canH] at h ⊢
      cases hd : ((Region.ready .any ops s).contains i && Region.free .any ops s i) with
      | false => rw [hd] at h; cases h
      | true =>
        rw [hd] at h
        simp only [cond_true] at h ⊢
        exact canH_app h h'
    | seq =>
      simp only [List.cons_append, canH] at h ⊢
      cases hd : decide (Region.ready .any ops s = [i]) with
      | false => rw [hd] at h; cases h
      | true =>
        rw [hd] at h
        simp only [cond_true] at h ⊢
        exact canH_app h h'
    | chn =>
      simp only [List.cons_append, canH] at h ⊢
      cases hd : decide (Region.ready .any ops s = [i]) with
      | false => rw [hd] at h; cases h
      | true =>
        rw [hd] at h
        simp only [cond_true] at h ⊢
        exact canH_app h h'
end

theorem RG.draw {K : Env → World → Prop} {Q : Exit → Act → World → Prop} (hQ : ∀ a w σ, Fits n σ ds a → K σ w → Q .normal a w) (hP : ∀ c a w, ¬ Q (.panic c) a w)
    {id : Nat} (hm : P.follows .mixedOrders = true) (t : DTree) (hB : (Region.noSelect ops && canG ops t ops.size (Array.replicate ops.size false)) = true) {σ : Env} {a : Act} {w : World} (hf : Fits n σ ds a)
    (h : RG P ops n ds { w with drawn := w.drawn + 1 } Bs K [] t σ { w with drawn := w.drawn + 1 }) : (Code.region id ops true).wp P Q a w := by
  simp only [Bool.and_eq_true] at hB
  refine wp_region_held (S := Chg { w with drawn := w.drawn + 1 } Bs) hm ?_
  have := wpAnyH_of_RG (Q := Q) hB.1 hP hQ t [] ops.size (Array.replicate ops.size false) _ a { w with drawn := w.drawn + 1 } σ rfl hB.2 hf h
  simpa using this
end

section
variable {P : Program} {f : FuncId} {n : Nat} {σ : Env} {ds : List Deferred} {w w1 : World} {Bs : List Nat} {R : Ending → World → Prop} {ops : Array Oper} {K : Env → World → Prop}

theorem WK.drawH1 {c : Code} {k : List Item} (Bs : List Nat) (t : DTree) (hm : P.follows .mixedOrders = true) (hc : c = .region (idOf c) (opsOf c) true) (hB : (Region.noSelect (opsOf c) && canG (opsOf c) t (opsOf c).size (Array.replicate (opsOf c).size false)) = true)
    (h : ∀ w2, w2 = ({ w with drawn := w.drawn + 1 } : World) → RG P (opsOf c) n ds w2 Bs (fun σ' w' => WK P f n k σ' ds w' R) [] t σ w2) : WK P f n (.code c :: k) σ ds w R := by
  rw [hc]
  exact WK.code fun a ha => RG.draw (Bs := Bs) (fun a w σ hf hk => ⟨σ, hf, hk⟩) (fun c a w h => h) hm t hB ha (h _ rfl)

theorem RG.leaf' {pre l : List (Nat × Kd)} (l' : List (Nat × Kd)) (hl : pre ++ l = l') (h : RH P ops n ds w1 Bs K l' σ w) : RG P ops n ds w1 Bs K pre (.leaf l) σ w := by
  subst hl
  unfold RG
  exact h
theorem RG.node' {pre l : List (Nat × Kd)} {bs : DList} (l' : List (Nat × Kd)) (hl : pre ++ l = l') (h : RH P ops n ds w1 Bs (fun σ' w' => RGB P ops n ds w1 Bs K bs σ' w') l' σ w) : RG P ops n ds w1 Bs K pre (.node l bs) σ w := by
  subst hl
  unfold RG
  exact h
theorem RGB.nil' : RGB P ops n ds w1 Bs K .nil σ w := by
  unfold RGB
  trivial
theorem RGB.cons' {i : Nat} {t : DTree} {r : DList} (h : RG P ops n ds w1 Bs K [(i, .seq)] t σ w) (k : RGB P ops n ds w1 Bs K r σ w) : RGB P ops n ds w1 Bs K (.cons i t r) σ w := by
  unfold RGB
  exact ⟨h, k⟩
theorem RH.sub {l : List (Nat × Kd)} {σ' : Env} (hl : l ≠ []) (hs : ∀ t v, find σ' t = some v → find σ t = some v) (h : RH P ops n ds w1 Bs K l σ' w) : RH P ops n ds w1 Bs K l σ w := by
  cases l with
  | nil => exact absurd rfl hl
  | cons x r =>
    obtain ⟨i, κ⟩ := x
    obtain ⟨o, ho, h⟩ := h
    exact ⟨o, ho, fun a ha => h a (ha.sub hs)⟩
theorem RG.sub {pre : List (Nat × Kd)} {t : DTree} {σ' : Env} (hp : pre ≠ []) (hs : ∀ t v, find σ' t = some v → find σ t = some v) (h : RG P ops n ds w1 Bs K pre t σ' w) : RG P ops n ds w1 Bs K pre t σ w := by
  cases t with
  | leaf l =>
    unfold RG at h ⊢
    exact RH.sub (by simp [hp]) hs h
  | node l bs =>
    unfold RG at h ⊢
    exact RH.sub (by simp [hp]) hs h
theorem RGB.sub {σ' : Env} (hs : ∀ t v, find σ' t = some v → find σ t = some v) : ∀ {bs : DList}, RGB P ops n ds w1 Bs K bs σ' w → RGB P ops n ds w1 Bs K bs σ w
  | .nil, _ => RGB.nil'
  | .cons i t r, h => by
    unfold RGB at h ⊢
    exact ⟨RG.sub (by simp) hs h.1, RGB.sub hs h.2⟩

/-- many pure operations -/
theorem rrunH_spec (hS : Chg w1 Bs w) : ∀ (m : Nat) (l l' : List (Nat × Kd)) (σ σ' : Env), rrun P n ops m l σ = some (l', σ') → RH P ops n ds w1 Bs K l' σ' w → RH P ops n ds w1 Bs K l σ w
  | 0, l, l', σ, σ', h, hk => by simp only [rrun, Option.some.injEq, Prod.mk.injEq] at h; obtain ⟨rfl, rfl⟩ := h; exact hk
  | m + 1, [], l', σ, σ', h, hk => by simp [rrun] at h
  | m + 1, (i, κ) :: r, l', σ, σ', h, hk => by
    simp only [rrun] at h
    cases ho : ops[i]? with
    | none => rw [ho] at h; cases h
    | some o =>
      rw [ho] at h
      simp only at h
      cases hr : runOp P n ops o σ with
      | none => rw [hr] at h; cases h
      | some σ1 =>
        rw [hr] at h
        refine ⟨o, ho, fun a ha => ?_⟩
        obtain ⟨v, hs, hf⟩ := runOp_spec (ds := ds) hr a ha
        have hk' := rrunH_spec hS m r l' σ1 σ' h hk
        have hy : YieldsIf P ops (Chg w1 Bs) o v a := by
          rcases hs w with ⟨h1, _⟩ | h1
          · refine .inl ⟨h1, fun w' _ => ?_⟩
            rcases hs w' with ⟨_, h2⟩ | ⟨h2, _⟩
            · exact h2 w' (Ext.refl w')
            · rw [h1] at h2; cases h2
          · exact .inr h1
        cases κ with
        | qui => exact ⟨hS, v, hy, σ1, hf, hk'⟩
        | seq => exact (hs w).ow ⟨hS, σ1, hf, hk'⟩
        | chn => exact (hs w).ow ⟨hS, σ1, hf, hk'⟩
theorem RH.runP {l : List (Nat × Kd)} (hS : Chg w1 Bs w) (m : Nat) (live : List Nat) (l' : List (Nat × Kd)) (σ' : Env) (h : (rrun P n ops m l σ).map (fun x => (x.1, pick live x.2)) = some (l', σ')) (hl : l'.isEmpty = false) (hk : RH P ops n ds w1 Bs K l' σ' w) : RH P ops n ds w1 Bs K l σ w := by
  cases hr : rrun P n ops m l σ with
  | none => rw [hr] at h; cases h
  | some x =>
    obtain ⟨l1, σ1⟩ := x
    rw [hr] at h
    simp only [Option.map_some, Option.some.injEq, Prod.mk.injEq] at h
    obtain ⟨rfl, rfl⟩ := h
    exact rrunH_spec hS m l l1 σ σ1 hr (RH.sub (by intro e; subst e; cases hl) (pick_find σ1 live) hk)
theorem RH.fin {k : List Item} {l : List (Nat × Kd)} (hS : Chg w1 Bs w) (m : Nat) (live : List Nat) (σ' : Env) (h : (rrun P n ops m l σ).map (fun x => (x.1, pick live x.2)) = some ([], σ')) (hk : WK P f n k σ' ds w R) :
    RH P ops n ds w1 Bs (fun σ' w' => WK P f n k σ' ds w' R) l σ w := by
  cases hr : rrun P n ops m l σ with
  | none => rw [hr] at h; cases h
  | some x =>
    obtain ⟨l1, σ1⟩ := x
    rw [hr] at h
    simp only [Option.map_some, Option.some.injEq, Prod.mk.injEq] at h
    obtain ⟨rfl, rfl⟩ := h
    exact rrunH_spec hS m l [] σ σ1 hr (WK.sub (pick_find σ1 live) hk)
theorem RH.finB {l : List (Nat × Kd)} {bs : DList} (hS : Chg w1 Bs w) (m : Nat) (live : List Nat) (σ' : Env) (h : (rrun P n ops m l σ).map (fun x => (x.1, pick live x.2)) = some ([], σ')) (hk : RGB P ops n ds w1 Bs K bs σ' w) :
    RH P ops n ds w1 Bs (fun σ' w' => RGB P ops n ds w1 Bs K bs σ' w') l σ w := by
  cases hr : rrun P n ops m l σ with
  | none => rw [hr] at h; cases h
  | some x =>
    obtain ⟨l1, σ1⟩ := x
    rw [hr] at h
    simp only [Option.map_some, Option.some.injEq, Prod.mk.injEq] at h
    obtain ⟨rfl, rfl⟩ := h
    exact rrunH_spec hS m l [] σ σ1 hr (RGB.sub (pick_find σ1 live) hk)
theorem RH.test {l : List (Nat × Kd)} (F : Bool → Env) (b : Bool) (ht : b = true → RH P ops n ds w1 Bs K l (F true) w) (hf : b = false → RH P ops n ds w1 Bs K l (F false) w) : RH P ops n ds w1 Bs K l (F b) w := by
  cases b
  · exact hf rfl
  · exact ht rfl

/-- an operation that turns nothing that was there -/
theorem RH.chn {i : Nat} {r : List (Nat × Kd)} (hS : Chg w1 Bs w) (h : RW P ops n ds (fun σ' w' => Chg w1 Bs w' → RH P ops n ds w1 Bs K r σ' w') [(i, .chn)] σ w) : RH P ops n ds w1 Bs K ((i, .seq) :: r) σ w := by
  obtain ⟨o, ho, h⟩ := h
  exact ⟨o, ho, fun a ha => OW.mono (fun a' w' ⟨he, σ', hf, hk⟩ => ⟨hS.ext he, σ', hf, hk (hS.ext he)⟩) (h a ha)⟩
/-- .. that writes what no read of the region needs -/
theorem RH.sto {i : Nat} {r : List (Nat × Kd)} (h : RW P ops n ds (fun σ' w' => Chg w1 Bs w' ∧ RH P ops n ds w1 Bs K r σ' w') [(i, .seq)] σ w) : RH P ops n ds w1 Bs K ((i, .seq) :: r) σ w := by
  obtain ⟨o, ho, h⟩ := h
  exact ⟨o, ho, fun a ha => OW.mono (fun a' w' ⟨σ', hf, hS, hk⟩ => ⟨hS, σ', hf, hk⟩) (h a ha)⟩

variable {l r : List (Nat × Kd)} {d : Option Tmp}
/-- a read that holds throughout the region -/
theorem RH.readS {s : Sem Next} {v : Value} (hl : look P n ops l σ = some (.qui, s, d, r)) (hS : Chg w1 Bs w) (hs : ∀ w', Chg w1 Bs w' → s.run P w' = .ok (.value v) w') (hk : RH P ops n ds w1 Bs K r (putO d v σ) w) : RH P ops n ds w1 Bs K l σ w := by
  obtain ⟨i, o, rfl, ho, rfl, hspec⟩ := look_spec (ds := ds) hl
  refine ⟨o, ho, fun a ha => ?_⟩
  obtain ⟨hw, he, hf⟩ := hspec a ha
  exact ⟨hS, v, .inl ⟨hw, fun w' h' => by rw [he]; exact hs w' h'⟩, putO o.dst v σ, hf v, hk⟩
theorem RH.load {T : TypeId} {b o k o' : Nat} {cs : List Value} {v : Value} (hl : look P n ops l σ = some (.qui, semV (Instr.loadAt T (.pointer (some ⟨b, o', none⟩))), d, r)) (hS : Chg w1 Bs w) (hc : Cells w1 b o cs) (hb : b ∉ Bs) (hn : 0 < cs.length) (hk : o' = o + k) (he : loadE P T cs k = some v)
    (h : RH P ops n ds w1 Bs K r (putO d v σ) w) : RH P ops n ds w1 Bs K l σ w :=
  RH.readS hl hS (fun w' h' => semV_run (loadAt_run (hc.step (h'.block b (hc.lt hn) hb)) hk he)) h
theorem RH.pv {v v' : Value} (hl : lookP P n ops l σ = some (.qui, v, d, r)) (hS : Chg w1 Bs w) (hv : v = v') (h : RH P ops n ds w1 Bs K r (putO d v' σ) w) : RH P ops n ds w1 Bs K l σ w := by
  subst hv
  unfold lookP at hl
  cases hlk : look P n ops l σ with
  | none => rw [hlk] at hl; cases hl
  | some x =>
    obtain ⟨κ, s, d', r'⟩ := x
    rw [hlk] at hl
    simp only at hl
    cases hp : pureN P s with
    | none => rw [hp] at hl; cases hl
    | some y =>
      rw [hp] at hl
      cases y with
      | value u =>
        simp only [Option.some.injEq, Prod.mk.injEq] at hl
        obtain ⟨rfl, rfl, rfl, rfl⟩ := hl
        exact RH.readS hlk hS (fun w' _ => pureN_run hp w') h
      | _ => simp at hl
theorem RH.index {w0 : World} {S : Nat → Prop} {O : List Nat} {M : Heap} {W : List OwnS} {G : List Fact} {α : Type} {sh : Shape α} {xs : List α} {x : α} {T e : TypeId} {a : Option Addr} {len cap : Nat} {ik : IntKind} {ix : Int}
    (hl : look P n ops l σ = some (.qui, semV (Instr.indexAt T (.slice a len cap) (.int ik ix)), d, r)) (hS : Chg w1 Bs w) (hT : sliceE P T = some (e, sh.size)) (H : Hp w0 S O M W G w) (g : Nat) (hg : G[g]? = some (Rp sh.slice [.slice a len cap] xs))
    (k : Nat) (hk : ix = (k : Int)) (hx : xs[k]? = some x)
    (h : ∀ b o es, sh.rep (Av S w0 O (idsOf M W)) w es x → Hp w0 S O M W (Fc b o es :: G) w → RH P ops n ds w1 Bs K r (putO d (.pointer (some ⟨b, o, none⟩)) σ) w) : RH P ops n ds w1 Bs K l σ w := by
  subst hk
  obtain ⟨rfl, h2, h3, hE⟩ := Shape.elems_of (H.rp g hg)
  obtain ⟨b, o, es, rfl, hSb, hc, hr⟩ := hE k x hx
  have hlt : k < xs.length := (List.getElem?_eq_some_iff.1 hx).1
  refine RH.readS hl hS (fun w' _ => semV_run (indexAt_run hT hlt)) (h b (o + k * sh.size) es hr (H.add ⟨?_, hSb, hc⟩))
  rw [sh.len hr]; exact sh.pos
end
end Go.BX
