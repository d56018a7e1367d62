/-
  THE ENGINE: regions in which more than one operation that makes memory may come next.
  No condition.
-/
import Derived.Test.YtppcdmbkgficiaaBxCore
namespace Go.BX

mutual
/-- how the head of a region may go: a row of operations, and then, maybe, one of some -/
inductive DTree where
  | leaf (l : List (Nat × Kd))
  | node (l : List (Nat × Kd)) (bs : DList)
inductive DList where
  | nil
  | cons (i : Nat) (t : DTree) (r : DList)
end

def DList.ids : DList → List Nat
  | .nil => []
  | .cons i _ r => i :: r.ids

section
variable {P : Program} {ops : Array Oper} {n : Nat} {ds : List Deferred}

mutual
def RT (P : Program) (ops : Array Oper) (n : Nat) (ds : List Deferred) (K : Env → World → Prop) (tl pre : List (Nat × Kd)) : DTree → Env → World → Prop
  | .leaf l, σ, w => RW P ops n ds K (pre ++ (l ++ tl)) σ w
  | .node l bs, σ, w => RW P ops n ds (fun σ' w' => RB P ops n ds K tl bs σ' w') (pre ++ l) σ w
def RB (P : Program) (ops : Array Oper) (n : Nat) (ds : List Deferred) (K : Env → World → Prop) (tl : List (Nat × Kd)) : DList → Env → World → Prop
  | .nil, _, _ => True
  | .cons i t r, σ, w => RT P ops n ds K tl [(i, .chn)] t σ w ∧ RB P ops n ds K tl r σ w
end

mutual
def canT (ops : Array Oper) (nt : Nat) (fin : Array Bool) : DTree → Nat → Array Bool → Bool
  | .leaf l, f, s => decide (l.length = f) && match canHead ops nt l s with
    | some s' => decide (s' = fin)
    | none => false
  | .node l bs, f, s => decide (l.length + 1 ≤ f) && match canHead ops nt l s with
    | some s' => decide (Region.ready .any ops s' = bs.ids) && !bs.ids.isEmpty && canL ops nt fin bs (f - l.length - 1) s'
    | none => false
def canL (ops : Array Oper) (nt : Nat) (fin : Array Bool) : DList → Nat → Array Bool → Bool
  | .nil, _, _ => true
  | .cons i t r, f, s => decide (i < nt) && canT ops nt fin t f (s.setIfInBounds i true) && canL ops nt fin r f s
end

theorem wpHd_pre {nt f' : Nat} {K : Env → World → Prop} {L : Array Bool → Act → World → Prop} (hsel : Region.noSelect ops = true)
    (hjn : ∀ listed i, HeadInv .any ops nt listed → i < nt → listed.getD i true = false → ∀ j ∈ Region.ready .any ops listed, j < nt)
    (hdone : ∀ listed a w, L listed a w → ∀ j ∈ Region.ready .any ops listed, nt ≤ j) {s' : Array Bool}
    (hk : ∀ a w σ, HeadInv .any ops nt s' → Fits n σ ds a → K σ w → wpHd P ops nt L f' s' a w) :
    ∀ (l : List (Nat × Kd)) (listed : Array Bool) (a : Act) (w : World) (σ : Env), HeadInv .any ops nt listed → canHead ops nt l listed = some s' → Fits n σ ds a → RW P ops n ds K l σ w →
    wpHd P ops nt L (l.length + f') listed a w
  | [], listed, a, w, σ, inv, hB, hf, h => by
    simp only [canHead, Option.some.injEq] at hB
    subst hB
    simp only [List.length_nil, Nat.zero_add]
    exact hk a w σ inv hf h
  | (i, κ) :: r, listed, a, w, σ, inv, hB, hf, ⟨o, ho, h⟩ => by
    have h1 := h a hf
    rw [List.length_cons, show r.length + 1 + f' = r.length + f' + 1 by omega]
    cases κ with
    | seq => simp [canHead] at hB
    | qui =>
      simp only [canHead] at hB
      split at hB
      · rename_i hc
        simp only [Bool.and_eq_true, decide_eq_true_eq] at hc
        obtain ⟨v, hs, σ', hf', hk'⟩ := h1
        have hr' : i ∈ Region.ready .any ops listed := by simpa using hc.1.1
        exact wpHd_first ho (Region.noSelect_spec hsel) hc.2 (fun lst hinv hun => hjn lst i hinv hc.2 hun) hdone (r.length + f') listed a w inv (Region.free_spec ho hc.1.2) hr' hs
          (wpHd_pre hsel hjn hdone hk r _ _ w σ' (inv.set hr' hc.2) hB hf' hk')
      · cases hB
    | chn =>
      simp only [canHead] at hB
      split at hB
      · rename_i hc
        simp only [Bool.and_eq_true, decide_eq_true_eq] at hc
        refine ⟨by rw [hc.1]; simp, fun j hj => ?_⟩
        have hr' : i ∈ Region.ready .any ops listed := by rw [hc.1]; simp
        rw [hc.1] at hj
        obtain rfl : j = i := by simpa using hj
        exact ⟨hc.2, o, ho, OW.mono (fun a' w' ⟨he, σ', hf', hk'⟩ => ⟨he, wpHd_pre hsel hjn hdone hk r _ a' w' σ' (inv.set hr' hc.2) hB hf' hk'⟩) h1⟩
      · cases hB

/-- one chosen operation, then the rest -/
theorem RT.first {K : Env → World → Prop} {tl : List (Nat × Kd)} {i : Nat} {t : DTree} {σ : Env} {w : World} (h : RT P ops n ds K tl [(i, .chn)] t σ w) :
    ∃ o, ops[i]? = some o ∧ OpK P ops n ds o .chn σ w (fun σ' w' => RT P ops n ds K tl [] t σ' w') := by
  cases t with
  | leaf l =>
    unfold RT at h
    obtain ⟨o, ho, h⟩ := h
    refine ⟨o, ho, OpK.mono (fun σ w h => ?_) h⟩
    unfold RT
    exact h
  | node l bs =>
    unfold RT at h
    obtain ⟨o, ho, h⟩ := h
    refine ⟨o, ho, OpK.mono (fun σ w h => ?_) h⟩
    unfold RT
    exact h

mutual
theorem wpHd_of_RT {nt g : Nat} {K : Env → World → Prop} {fin : Array Bool} (hsel : Region.noSelect ops = true)
    (hjn : ∀ listed i, HeadInv .any ops nt listed → i < nt → listed.getD i true = false → ∀ j ∈ Region.ready .any ops listed, j < nt) (hseq : Region.seqB .any ops g nt fin = true) {tl : List (Nat × Kd)} :
    ∀ (t : DTree) (f : Nat) (s : Array Bool) (a : Act) (w : World) (σ : Env), HeadInv .any ops nt s → canT ops nt fin t f s = true → Fits n σ ds a → RT P ops n ds K tl [] t σ w →
    wpHd P ops nt (fun lst a' w' => lst = fin ∧ ∃ σ', Fits n σ' ds a' ∧ RW P ops n ds K tl σ' w') f s a w
  | .leaf l, f, s, a, w, σ, inv, hc, hf, h => by
    unfold canT at hc
    simp only [Bool.and_eq_true, decide_eq_true_eq] at hc
    obtain ⟨hl, hc⟩ := hc
    cases hh : canHead ops nt l s with
    | none => rw [hh] at hc; cases hc
    | some s' =>
      rw [hh] at hc
      simp only [decide_eq_true_eq] at hc
      subst hc
      subst hl
      unfold RT at h
      rw [List.nil_append] at h
      exact wpHd_pre (K := RW P ops n ds K tl) (L := fun lst a' w' => lst = s' ∧ ∃ σ', Fits n σ' ds a' ∧ RW P ops n ds K tl σ' w') (f' := 0) hsel hjn (fun lst a' w' hL => by rw [hL.1]; exact seqB_ready hseq)
        (fun a w σ _ hf hk => show _ ∧ _ from ⟨rfl, σ, hf, hk⟩) l s a w σ inv hh hf (RW.append l tl σ w h)
  | .node l bs, f, s, a, w, σ, inv, hc, hf, h => by
    unfold canT at hc
    simp only [Bool.and_eq_true, decide_eq_true_eq] at hc
    obtain ⟨hl, hc⟩ := hc
    cases hh : canHead ops nt l s with
    | none => rw [hh] at hc; cases hc
    | some s' =>
      rw [hh] at hc
      simp only [Bool.and_eq_true, decide_eq_true_eq] at hc
      obtain ⟨⟨hr, hne⟩, hL⟩ := hc
      unfold RT at h
      rw [List.nil_append] at h
      rw [show f = l.length + (f - l.length - 1 + 1) by omega]
      refine wpHd_pre hsel hjn (fun lst a' w' hL => by rw [hL.1]; exact seqB_ready hseq) (fun a w σ inv' hf hk => ?_) l s a w σ inv hh hf h
      refine ⟨fun h0 => ?_, fun i hi => ?_⟩
      · rw [hr] at h0
        rw [h0] at hne
        cases hne
      · have hi' := hi
        rw [hr] at hi'
        exact wpHd_of_RB hsel hjn hseq bs (f - l.length - 1) s' a w σ inv' hL hf hk i hi' hi
theorem wpHd_of_RB {nt g : Nat} {K : Env → World → Prop} {fin : Array Bool} (hsel : Region.noSelect ops = true)
    (hjn : ∀ listed i, HeadInv .any ops nt listed → i < nt → listed.getD i true = false → ∀ j ∈ Region.ready .any ops listed, j < nt) (hseq : Region.seqB .any ops g nt fin = true) {tl : List (Nat × Kd)} :
    ∀ (bs : DList) (f : Nat) (s : Array Bool) (a : Act) (w : World) (σ : Env), HeadInv .any ops nt s → canL ops nt fin bs f s = true → Fits n σ ds a → RB P ops n ds K tl bs σ w → ∀ i ∈ bs.ids, i ∈ Region.ready .any ops s →
    i < nt ∧ OpE P ops i (fun a' w' => Ext w w' ∧ wpHd P ops nt (fun lst a' w' => lst = fin ∧ ∃ σ', Fits n σ' ds a' ∧ RW P ops n ds K tl σ' w') f (s.setIfInBounds i true) a' w') a w
  | .nil, _, _, _, _, _, _, _, _, _, i, hi, _ => by cases hi
  | .cons j t r, f, s, a, w, σ, inv, hc, hf, h, i, hi, hrd => by
    unfold canL at hc
    simp only [Bool.and_eq_true, decide_eq_true_eq] at hc
    obtain ⟨⟨hj, ht⟩, hr⟩ := hc
    unfold RB at h
    unfold DList.ids at hi
    by_cases hij : i = j
    · subst hij
      obtain ⟨o, ho, h1⟩ := h.1.first
      have h2 := h1 a hf
      exact ⟨hj, o, ho, OW.mono (fun a' w' ⟨he, σ', hf', hk'⟩ => ⟨he, wpHd_of_RT hsel hjn hseq t f _ a' w' σ' (inv.set hrd hj) ht hf' hk'⟩) h2⟩
    · exact wpHd_of_RB hsel hjn hseq r f s a w σ inv hr hf h.2 i (by
        rcases List.mem_cons.1 hi with h | h
        · exact absurd h hij
        · exact h) hrd
end

def drawT (ops : Array Oper) (nt : Nat) (fin : List Bool) (t : DTree) : Bool :=
  Region.noSelect ops && decide (nt ≤ ops.size) && (decide (nt = ops.size) || (Region.sinkB .any ops nt && Region.chainB .any ops nt)) &&
  canT ops nt fin.toArray t nt (Array.replicate ops.size false) && Region.seqB .any ops (ops.size - nt) nt fin.toArray

theorem RT.draw {K : Env → World → Prop} {Q : Exit → Act → World → Prop} (hQ : ∀ a w σ, Fits n σ ds a → K σ w → Q .normal a w)
    {id : Nat} (hm : P.follows .mixedOrders = true) (nt : Nat) (fin : List Bool) (t : DTree) (hB : drawT ops nt fin t = true) {σ : Env} {a : Act} {w : World} (hf : Fits n σ ds a)
    (h : RT P ops n ds K (tailOf nt ops.size) [] t σ { w with drawn := w.drawn + 1 }) : (Code.region id ops true).wp P Q a w := by
  simp only [drawT, Bool.and_eq_true, decide_eq_true_eq, Bool.or_eq_true] at hB
  obtain ⟨⟨⟨⟨hsel, hnt⟩, htail⟩, hcan⟩, hseq⟩ := hB
  have inv : HeadInv .any ops nt (Array.replicate ops.size false) := ⟨by simp, fun j oj _ hl => (by rw [getD_replicate_false] at hl; cases hl), fun t _ ht => (by simp [ht])⟩
  have hjn : ∀ listed i, HeadInv .any ops nt listed → i < nt → listed.getD i true = false → ∀ j ∈ Region.ready .any ops listed, j < nt := by
    intro listed i hinv hi hun j hj
    rcases htail with h0 | ⟨hs, hch⟩
    · rw [h0]; exact ready_lt hj
    · rcases Nat.lt_or_ge j nt with h' | h'
      · exact h'
      · have hjl := ready_lt hj
        exact absurd hj (tail_waits hs hch (by omega) hinv _ i rfl hi hun j h')
  have hd := wpHd_of_RT (K := K) hsel hjn hseq t nt _ a { w with drawn := w.drawn + 1 } σ inv hcan hf h
  refine wp_region_any hm ?_
  have hsz : ops.size = nt + (ops.size - nt) := by omega
  rw [hsz]
  have hda : (Array.replicate (nt + (ops.size - nt)) false) = Array.replicate ops.size false := by rw [← hsz]
  rw [hda]
  refine wpAny_of_hd (fun listed a' w' hL => ?_) _ _ _ _ hd
  obtain ⟨rfl, σ', hf', hk⟩ := hL
  have hlt : (ops.toList.drop nt).length = ops.size - nt := by simp
  rw [← hlt] at hseq ⊢
  refine wpAny_of_seq (ops.toList.drop nt) nt fin.toArray a' w' (fun j => by simp) hseq ?_
  exact RW.wpList hQ (ops.toList.drop nt) nt σ' w' a' (fun j _ => by simp) hf' (by rw [hlt]; exact hk)
end

section
variable {P : Program} {f : FuncId} {n : Nat} {σ : Env} {ds : List Deferred} {w : World} {R : Ending → World → Prop}

theorem RT.leaf' {ops : Array Oper} {K : Env → World → Prop} {tl pre l : List (Nat × Kd)} (l' : List (Nat × Kd)) (hl : pre ++ (l ++ tl) = l') (h : RW P ops n ds K l' σ w) : RT P ops n ds K tl pre (.leaf l) σ w := by
  subst hl
  unfold RT
  exact h
theorem RT.node' {ops : Array Oper} {K : Env → World → Prop} {tl pre l : List (Nat × Kd)} {bs : DList} (l' : List (Nat × Kd)) (hl : pre ++ l = l') (h : RW P ops n ds (fun σ' w' => RB P ops n ds K tl bs σ' w') l' σ w) : RT P ops n ds K tl pre (.node l bs) σ w := by
  subst hl
  unfold RT
  exact h
theorem RB.nil' {ops : Array Oper} {K : Env → World → Prop} {tl : List (Nat × Kd)} : RB P ops n ds K tl .nil σ w := by
  unfold RB
  trivial
theorem RB.cons' {ops : Array Oper} {K : Env → World → Prop} {tl : List (Nat × Kd)} {i : Nat} {t : DTree} {r : DList} (h : RT P ops n ds K tl [(i, .chn)] t σ w) (k : RB P ops n ds K tl r σ w) : RB P ops n ds K tl (.cons i t r) σ w := by
  unfold RB
  exact ⟨h, k⟩
theorem RT.sub {ops : Array Oper} {K : Env → World → Prop} {tl pre : List (Nat × Kd)} {t : DTree} {σ' : Env} (hp : pre ≠ []) (hs : ∀ t v, find σ' t = some v → find σ t = some v) (h : RT P ops n ds K tl pre t σ' w) : RT P ops n ds K tl pre t σ w := by
  cases t with
  | leaf l =>
    unfold RT at h ⊢
    exact RW.sub (by simp [hp]) hs h
  | node l bs =>
    unfold RT at h ⊢
    exact RW.sub (by simp [hp]) hs h
theorem RB.sub {ops : Array Oper} {K : Env → World → Prop} {tl : List (Nat × Kd)} {σ' : Env} (hs : ∀ t v, find σ' t = some v → find σ t = some v) : ∀ {bs : DList}, RB P ops n ds K tl bs σ' w → RB P ops n ds K tl bs σ w
  | .nil, _ => RB.nil'
  | .cons i t r, h => by
    unfold RB at h ⊢
    exact ⟨RT.sub (by simp) hs h.1, RB.sub hs h.2⟩
/-- the row ahead of a fork is done -/
theorem RT.fin {ops : Array Oper} {K : Env → World → Prop} {tl l : List (Nat × Kd)} {bs : DList} (m : Nat) (live : List Nat) (σ' : Env) (h : (rrun P n ops m l σ).map (fun x => (x.1, pick live x.2)) = some ([], σ')) (hk : RB P ops n ds K tl bs σ' w) :
    RW P ops n ds (fun σ' w' => RB P ops n ds K tl bs σ' w') l σ w := by
  cases hr : rrun P n ops m l σ with
  | none => rw [hr] at h; cases h
  | some x =>
    obtain ⟨l1, σ1⟩ := x
    rw [hr] at h
    simp only [Option.map_some, Option.some.injEq, Prod.mk.injEq] at h
    obtain ⟨rfl, rfl⟩ := h
    exact rrun_spec m l [] σ σ1 hr (RB.sub (pick_find σ1 live) hk)

theorem WK.drawT1 {c : Code} {k : List Item} (nt : Nat) (fin : List Bool) (t : DTree) (hm : P.follows .mixedOrders = true) (hc : c = .region (idOf c) (opsOf c) true) (hB : drawT (opsOf c) nt fin t = true)
    (h : RT P (opsOf c) n ds (fun σ' w' => WK P f n k σ' ds w' R) (tailOf nt (opsOf c).size) [] t σ { w with drawn := w.drawn + 1 }) : WK P f n (.code c :: k) σ ds w R := by
  rw [hc]
  exact WK.code fun a ha => RT.draw (fun a w σ hf hk => ⟨σ, hf, hk⟩) hm nt fin t hB ha h
end
end Go.BX
