/-
  THE ENGINE: regions in which reads and writes may come in more than one order: all orders are gone through, the pure operations first.
  No condition.
-/
import Derived.Test.YtppcdmbkgficiaaBxFork
import Derived.Test.YtppcdmbkgficiaaBxDraw
namespace Go.BX

section
variable {P : Program} {ops : Array Oper} {n : Nat} {ds : List Deferred}

mutual
def RO (P : Program) (ops : Array Oper) (n : Nat) (ds : List Deferred) (K : Env → World → Prop) (pre : List (Nat × Kd)) : DTree → Env → World → Prop
  | .leaf l, σ, w => RW P ops n ds K (pre ++ l) σ w
  | .node l bs, σ, w => RW P ops n ds (fun σ' w' => ROB P ops n ds K bs σ' w') (pre ++ l) σ w
def ROB (P : Program) (ops : Array Oper) (n : Nat) (ds : List Deferred) (K : Env → World → Prop) : DList → Env → World → Prop
  | .nil, _, _ => True
  | .cons i t r, σ, w => RO P ops n ds K [(i, .seq)] t σ w ∧ ROB P ops n ds K r σ w
end

def canSeq (ops : Array Oper) : List (Nat × Kd) → Array Bool → Option (Array Bool)
  | [], s => some s
  | (i, _) :: r, s => cond (decide (Region.ready .any ops s = [i])) (canSeq ops r (s.setIfInBounds i true)) none

mutual
def canO (ops : Array Oper) : DTree → Nat → Array Bool → Bool
  | .leaf l, f, s => decide (l.length = f) && match canSeq ops l s with
    | some s' => (Region.ready .any ops s').isEmpty
    | none => false
  | .node l bs, f, s => decide (l.length + 1 ≤ f) && match canSeq ops l s with
    | some s' => decide (Region.ready .any ops s' = bs.ids) && !bs.ids.isEmpty && canOL ops bs (f - l.length - 1) s'
    | none => false
def canOL (ops : Array Oper) : DList → Nat → Array Bool → Bool
  | .nil, _, _ => true
  | .cons i t r, f, s => canO ops t f (s.setIfInBounds i true) && canOL ops r f s
end

theorem wpAny_seqs {K : Env → World → Prop} {Q : Exit → Act → World → Prop} {f' : Nat} {s' : Array Bool} (hk : ∀ a w σ, Fits n σ ds a → K σ w → wpAny P .any ops Q f' s' a w) :
    ∀ (l : List (Nat × Kd)) (s : Array Bool) (a : Act) (w : World) (σ : Env), canSeq ops l s = some s' → Fits n σ ds a → RW P ops n ds K l σ w → wpAny P .any ops Q (l.length + f') s a w
  | [], s, a, w, σ, hB, hf, h => by
    simp only [canSeq, Option.some.injEq] at hB
    subst hB
    simp only [List.length_nil, Nat.zero_add]
    exact hk a w σ hf h
  | (i, κ) :: r, s, a, w, σ, hB, hf, ⟨o, ho, h⟩ => by
    simp only [canSeq] at hB
    cases hd : decide (Region.ready .any ops s = [i]) with
    | false => rw [hd] at hB; cases hB
    | true =>
      rw [hd] at hB
      simp only [cond_true] at hB
      rw [List.length_cons, show r.length + 1 + f' = r.length + f' + 1 by omega]
      refine wpAny_all (of_decide_eq_true hd) (by simp) fun j hj => ?_
      obtain rfl : j = i := by simpa using hj
      exact OW.wpOp ho (OW.mono (fun a' w' ⟨σ', hf', hk'⟩ => wpAny_seqs hk r _ a' w' σ' hB hf' hk') (h.seq a hf))

mutual
theorem wpAny_of_RO {K : Env → World → Prop} {Q : Exit → Act → World → Prop} (hQ : ∀ a w σ, Fits n σ ds a → K σ w → Q .normal a w) :
    ∀ (t : DTree) (i : Nat) (f : Nat) (s : Array Bool) (a : Act) (w : World) (σ : Env), canO ops t f (s.setIfInBounds i true) = true → Fits n σ ds a → RO P ops n ds K [(i, .seq)] t σ w →
    wpOp P ops Q i (wpAny P .any ops Q f (s.setIfInBounds i true)) a w
  | .leaf l, i, f, s, a, w, σ, hB, hf, h => by
    unfold RO at h
    simp only [canO, Bool.and_eq_true, decide_eq_true_eq] at hB
    obtain ⟨hl, hB⟩ := hB
    cases hc : canSeq ops l (s.setIfInBounds i true) with
    | none => rw [hc] at hB; cases hB
    | some s' =>
      rw [hc] at hB
      simp only [List.isEmpty_iff] at hB
      obtain ⟨o, ho, h⟩ := h
      refine OW.wpOp ho (OW.mono (fun a' w' ⟨σ', hf', hk'⟩ => ?_) (h.seq a hf))
      have := wpAny_seqs (Q := Q) (f' := 0) (s' := s') (fun a w σ hf hk => ⟨hB, hQ a w σ hf hk⟩) l _ a' w' σ' hc hf' hk'
      rw [← hl]
      exact this
  | .node l bs, i, f, s, a, w, σ, hB, hf, h => by
    unfold RO at h
    simp only [canO, Bool.and_eq_true, decide_eq_true_eq] at hB
    obtain ⟨hl, hB⟩ := hB
    cases hc : canSeq ops l (s.setIfInBounds i true) with
    | none => rw [hc] at hB; cases hB
    | some s' =>
      rw [hc] at hB
      simp only [Bool.and_eq_true, decide_eq_true_eq] at hB
      obtain ⟨⟨hr, hne⟩, hB⟩ := hB
      obtain ⟨o, ho, h⟩ := h
      refine OW.wpOp ho (OW.mono (fun a' w' ⟨σ', hf', hk'⟩ => ?_) (h.seq a hf))
      have := wpAny_seqs (Q := Q) (f' := f - l.length) (s' := s') (fun a w σ hf hk => by
        rw [show f - l.length = (f - l.length - 1) + 1 by omega]
        refine wpAny_all hr (by intro e; rw [e] at hne; simp at hne) fun j hj => ?_
        exact wpAny_of_ROB hQ bs (f - l.length - 1) s' a w σ hB hf hk j hj) l _ a' w' σ' hc hf' hk'
      rw [show l.length + (f - l.length) = f by omega] at this
      exact this
theorem wpAny_of_ROB {K : Env → World → Prop} {Q : Exit → Act → World → Prop} (hQ : ∀ a w σ, Fits n σ ds a → K σ w → Q .normal a w) :
    ∀ (bs : DList) (f : Nat) (s : Array Bool) (a : Act) (w : World) (σ : Env), canOL ops bs f s = true → Fits n σ ds a → ROB P ops n ds K bs σ w →
    ∀ j ∈ bs.ids, wpOp P ops Q j (wpAny P .any ops Q f (s.setIfInBounds j true)) a w
  | .nil, _, _, _, _, _, _, _, _, j, hj => by simp [DList.ids] at hj
  | .cons i t r, f, s, a, w, σ, hB, hf, h, j, hj => by
    unfold ROB at h
    simp only [canOL, Bool.and_eq_true] at hB
    simp only [DList.ids, List.mem_cons] at hj
    rcases hj with rfl | hj
    · exact wpAny_of_RO hQ t j f s a w σ hB.1 hf h.1
    · exact wpAny_of_ROB hQ r f s a w σ hB.2 hf h.2 j hj
end

theorem wpAny_of_RO0 {K : Env → World → Prop} {Q : Exit → Act → World → Prop} (hQ : ∀ a w σ, Fits n σ ds a → K σ w → Q .normal a w) :
    ∀ (t : DTree) (f : Nat) (s : Array Bool) (a : Act) (w : World) (σ : Env), canO ops t f s = true → Fits n σ ds a → RO P ops n ds K [] t σ w → wpAny P .any ops Q f s a w
  | .leaf l, f, s, a, w, σ, hB, hf, h => by
    unfold RO at h
    simp only [canO, Bool.and_eq_true, decide_eq_true_eq] at hB
    obtain ⟨hl, hB⟩ := hB
    cases hc : canSeq ops l s with
    | none => rw [hc] at hB; cases hB
    | some s' =>
      rw [hc] at hB
      simp only [List.isEmpty_iff] at hB
      have := wpAny_seqs (Q := Q) (f' := 0) (s' := s') (fun a w σ hf hk => ⟨hB, hQ a w σ hf hk⟩) l _ a w σ hc hf h
      rw [← hl]
      exact this
  | .node l bs, f, s, a, w, σ, hB, hf, h => by
    unfold RO at h
    simp only [canO, Bool.and_eq_true, decide_eq_true_eq] at hB
    obtain ⟨hl, hB⟩ := hB
    cases hc : canSeq ops l s with
    | none => rw [hc] at hB; cases hB
    | some s' =>
      rw [hc] at hB
      simp only [Bool.and_eq_true, decide_eq_true_eq] at hB
      obtain ⟨⟨hr, hne⟩, hB⟩ := hB
      have := wpAny_seqs (Q := Q) (f' := f - l.length) (s' := s') (fun a w σ hf hk => by
        rw [show f - l.length = (f - l.length - 1) + 1 by omega]
        refine wpAny_all hr (by intro e; rw [e] at hne; simp at hne) fun j hj => ?_
        exact wpAny_of_ROB hQ bs (f - l.length - 1) s' a w σ hB hf hk j hj) l _ a w σ hc hf h
      rw [show l.length + (f - l.length) = f by omega] at this
      exact this

def drawOB (ops : Array Oper) (pre : List Nat) (t : DTree) : Bool :=
  Region.noSelect ops && decide (pre.length ≤ ops.size) && match canPre ops ops.size pre (Array.replicate ops.size false) with
    | some L0 => canO ops t (ops.size - pre.length) L0
    | none => false

theorem RO.draw {K : Env → World → Prop} {Q : Exit → Act → World → Prop} (hQ : ∀ a w σ, Fits n σ ds a → K σ w → Q .normal a w) (hP : ∀ c a w, ¬ Q (.panic c) a w)
    {id : Nat} (hm : P.follows .mixedOrders = true) (pre : List Nat) (t : DTree) (hB : drawOB ops pre t = true) {σ σ1 : Env} {a : Act} {w : World} (hf : Fits n σ ds a)
    (hr : rrun P n ops pre.length (pre.map (·, Kd.qui)) σ = some ([], σ1)) (h : RO P ops n ds K [] t σ1 { w with drawn := w.drawn + 1 }) : (Code.region id ops true).wp P Q a w := by
  simp only [drawOB, Bool.and_eq_true, decide_eq_true_eq] at hB
  obtain ⟨⟨hsel, hle⟩, hcan⟩ := hB
  cases hp : canPre ops ops.size pre (Array.replicate ops.size false) with
  | none => rw [hp] at hcan; cases hcan
  | some L0 =>
    rw [hp] at hcan
    simp only at hcan
    have inv : HeadInv .any ops ops.size (Array.replicate ops.size false) := ⟨by simp, fun j oj _ hl => (by rw [getD_replicate_false] at hl; cases hl), fun t _ ht => (by omega)⟩
    refine wp_region_any hm ?_
    have hsz : ops.size = pre.length + (ops.size - pre.length) := by omega
    rw [hsz]
    have hda : (Array.replicate (pre.length + (ops.size - pre.length)) false) = Array.replicate ops.size false := by rw [← hsz]
    rw [hda]
    refine wpAny_pre hP hsel pre _ σ a hp inv hr hf fun _ a1 hf1 => ?_
    exact wpAny_of_RO0 hQ t _ L0 a1 { w with drawn := w.drawn + 1 } σ1 hcan hf1 h
end

section
variable {P : Program} {f : FuncId} {n : Nat} {σ : Env} {ds : List Deferred} {w : World} {R : Ending → World → Prop}

theorem RO.leaf' {ops : Array Oper} {K : Env → World → Prop} {pre l : List (Nat × Kd)} (l' : List (Nat × Kd)) (hl : pre ++ l = l') (h : RW P ops n ds K l' σ w) : RO P ops n ds K pre (.leaf l) σ w := by
  subst hl
  unfold RO
  exact h
theorem RO.node' {ops : Array Oper} {K : Env → World → Prop} {pre l : List (Nat × Kd)} {bs : DList} (l' : List (Nat × Kd)) (hl : pre ++ l = l') (h : RW P ops n ds (fun σ' w' => ROB P ops n ds K bs σ' w') l' σ w) : RO P ops n ds K pre (.node l bs) σ w := by
  subst hl
  unfold RO
  exact h
theorem ROB.nil' {ops : Array Oper} {K : Env → World → Prop} : ROB P ops n ds K .nil σ w := by
  unfold ROB
  trivial
theorem ROB.cons' {ops : Array Oper} {K : Env → World → Prop} {i : Nat} {t : DTree} {r : DList} (h : RO P ops n ds K [(i, .seq)] t σ w) (k : ROB P ops n ds K r σ w) : ROB P ops n ds K (.cons i t r) σ w := by
  unfold ROB
  exact ⟨h, k⟩
theorem RO.sub {ops : Array Oper} {K : Env → World → Prop} {pre : List (Nat × Kd)} {t : DTree} {σ' : Env} (hp : pre ≠ []) (hs : ∀ t v, find σ' t = some v → find σ t = some v) (h : RO P ops n ds K pre t σ' w) : RO P ops n ds K pre t σ w := by
  cases t with
  | leaf l =>
    unfold RO at h ⊢
    exact RW.sub (by simp [hp]) hs h
  | node l bs =>
    unfold RO at h ⊢
    exact RW.sub (by simp [hp]) hs h
theorem ROB.sub {ops : Array Oper} {K : Env → World → Prop} {σ' : Env} (hs : ∀ t v, find σ' t = some v → find σ t = some v) : ∀ {bs : DList}, ROB P ops n ds K bs σ' w → ROB P ops n ds K bs σ w
  | .nil, _ => ROB.nil'
  | .cons i t r, h => by
    unfold ROB at h ⊢
    exact ⟨RO.sub (by simp) hs h.1, ROB.sub hs h.2⟩
theorem RO.fin {ops : Array Oper} {K : Env → World → Prop} {l : List (Nat × Kd)} {bs : DList} (m : Nat) (live : List Nat) (σ' : Env) (h : (rrun P n ops m l σ).map (fun x => (x.1, pick live x.2)) = some ([], σ')) (hk : ROB P ops n ds K bs σ' w) :
    RW P ops n ds (fun σ' w' => ROB P ops n ds K bs σ' w') l σ w := by
  cases hr : rrun P n ops m l σ with
  | none => rw [hr] at h; cases h
  | some x =>
    obtain ⟨l1, σ1⟩ := x
    rw [hr] at h
    simp only [Option.map_some, Option.some.injEq, Prod.mk.injEq] at h
    obtain ⟨rfl, rfl⟩ := h
    exact rrun_spec m l [] σ σ1 hr (ROB.sub (pick_find σ1 live) hk)

theorem WK.drawO1 {c : Code} {k : List Item} (pre : List Nat) (σ1 : Env) (t : DTree) (hm : P.follows .mixedOrders = true) (hc : c = .region (idOf c) (opsOf c) true) (hB : drawOB (opsOf c) pre t = true)
    (hr : rrun P n (opsOf c) pre.length (pre.map (·, Kd.qui)) σ = some ([], σ1)) (h : RO P (opsOf c) n ds (fun σ' w' => WK P f n k σ' ds w' R) [] t σ1 { w with drawn := w.drawn + 1 }) : WK P f n (.code c :: k) σ ds w R := by
  rw [hc]
  exact WK.code fun a ha => RO.draw (fun a w σ hf hk => ⟨σ, hf, hk⟩) (fun c a w h => h) hm pre t hB ha hr h
end
end Go.BX
