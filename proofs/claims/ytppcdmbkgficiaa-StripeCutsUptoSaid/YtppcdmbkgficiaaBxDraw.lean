/-
  THE ENGINE: regions that draw their order: pure operations first, of those that nothing in the tail waits for.
  No condition.
-/
import Derived.Test.YtppcdmbkgficiaaBxCore
namespace Go.BX

section
variable {P : Program} {ops : Array Oper}

theorem wpHd_firstI {nt i : Nat} {oi : Oper} {v : Value} {L : Array Bool → Act → World → Prop} (I : Array Bool → Prop) (hI : ∀ listed j, I listed → j ∈ Region.ready .any ops listed → j < nt → I (listed.setIfInBounds j true))
    (hi : ops[i]? = some oi) (hsel : ∀ (j : Nat) (o : Oper) cs b, ops[j]? = some o → o.op ≠ .select cs b)
    (hin : i < nt) (hjn : ∀ listed, I listed → listed.getD i true = false → ∀ j ∈ Region.ready .any ops listed, j < nt)
    (hdone : ∀ listed a w, L listed a w → ∀ j ∈ Region.ready .any ops listed, nt ≤ j) :
    ∀ (f : Nat) (listed : Array Bool) (a : Act) (w : World), I listed →
      (∀ j oj, ops[j]? = some oj → j ≠ i → listed.getD j true = false → (∀ e ∈ oj.after, Region.binds .any e = true → e.on ≠ i) → oi.apart ops oj = true) →
      i ∈ Region.ready .any ops listed → Stable P ops oi v a w →
      wpHd P ops nt L f (listed.setIfInBounds i true) (a.put oi.dst v) w → wpHd P ops nt L (f + 1) listed a w := by
  intro f
  induction f with
  | zero =>
    intro listed a w inv _ hr hy H
    have hun := (mem_ready.1 hr).1
    refine ⟨fun h => (by rw [h] at hr; cases hr), fun j hj => ⟨hjn listed inv hun j hj, ?_⟩⟩
    by_cases hji : j = i
    · subst hji; exact ⟨oi, hi, hy.ow ⟨Ext.refl w, H⟩⟩
    · have := hdone _ _ _ H j (ready_mono hj hji)
      have := hjn listed inv hun j hj
      omega
  | succ f ih =>
    intro listed a w inv hfree hr hy H
    have hun := (mem_ready.1 hr).1
    refine ⟨fun h => (by rw [h] at hr; cases hr), fun j hj => ⟨hjn listed inv hun j hj, ?_⟩⟩
    have hjlt := hjn listed inv hun j hj
    by_cases hji : j = i
    · subst hji; exact ⟨oi, hi, hy.ow ⟨Ext.refl w, H⟩⟩
    · obtain ⟨_, oj', hoj', h1⟩ := H.2 j (ready_mono hj hji)
      obtain ⟨hjun, oj, hoj, hall⟩ := mem_ready.1 hj
      have : oj' = oj := Option.some.inj (hoj'.symm.trans hoj)
      subst this
      have hnot : ∀ e ∈ oj'.after, Region.binds .any e = true → e.on ≠ i := fun e he hb heq => by
        have h1 := hall e he hb
        rw [heq, getD_both hun] at h1
        cases h1
      have h2 := ow_put (hfree j oj' hoj hji hjun hnot) (fun cs b => hsel i oi cs b hi) (fun cs b => hsel j oj' cs b hoj) hy h1
      have hfree' : ∀ k ok, ops[k]? = some ok → k ≠ i → (listed.setIfInBounds j true).getD k true = false →
          (∀ e ∈ ok.after, Region.binds .any e = true → e.on ≠ i) → oi.apart ops ok = true := fun k ok hk hki hun hno => by
        refine hfree k ok hk hki ?_ hno
        by_cases hjk : j = k
        · subst hjk; exact hjun
        · rw [getD_set_ne true hjk] at hun; exact hun
      refine ⟨oj', hoj, OW.mono (fun a' w' h3 => ⟨h3.1, ih (listed.setIfInBounds j true) a' w' (hI _ _ inv hj hjlt) hfree' (ready_mono hr (Ne.symm hji)) h3.2.1 ?_⟩) h2⟩
      rw [Array.setIfInBounds_comm _ _ hji]
      exact h3.2.2

theorem wpHd_of_RWI {n nt : Nat} {ds : List Deferred} {K : Env → World → Prop} {g : Nat} (I : Array Bool → Prop) (hI : ∀ listed j, I listed → j ∈ Region.ready .any ops listed → j < nt → I (listed.setIfInBounds j true)) (hsel : Region.noSelect ops = true)
    (hjn : ∀ listed i, I listed → i < nt → listed.getD i true = false → ∀ j ∈ Region.ready .any ops listed, j < nt) (listed' : Array Bool) (hseq : Region.seqB .any ops g nt listed' = true) :
    ∀ (l : List (Nat × Kd)) (listed : Array Bool) (a : Act) (w : World) (σ : Env), I listed → canHead ops nt l listed = some listed' → Fits n σ ds a → RW P ops n ds K l σ w →
    wpHd P ops nt (fun lst a' w' => lst = listed' ∧ ∃ σ', Fits n σ' ds a' ∧ K σ' w') l.length listed a w
  | [], listed, a, w, σ, _, hB, hf, h => by
    simp only [canHead, Option.some.injEq] at hB
    exact ⟨hB, σ, hf, h⟩
  | (i, κ) :: r, listed, a, w, σ, inv, hB, hf, ⟨o, ho, h⟩ => by
    have h1 := h a hf
    cases κ with
    | seq => simp [canHead] at hB
    | qui =>
      simp only [canHead] at hB
      split at hB
      · rename_i hc
        simp only [Bool.and_eq_true, decide_eq_true_eq] at hc
        obtain ⟨v, hs, σ', hf', hk⟩ := h1
        have hr' : i ∈ Region.ready .any ops listed := by simpa using hc.1.1
        exact wpHd_firstI I hI ho (Region.noSelect_spec hsel) hc.2 (fun lst hinv hun => hjn lst i hinv hc.2 hun)
          (fun lst a' w' hL => by rw [hL.1]; exact seqB_ready hseq) r.length listed a w inv (Region.free_spec ho hc.1.2) hr' hs
          (wpHd_of_RWI I hI hsel hjn listed' hseq r _ _ w σ' (hI _ _ inv hr' hc.2) hB hf' hk)
      · cases hB
    | chn =>
      simp only [canHead] at hB
      split at hB
      · rename_i hc
        simp only [Bool.and_eq_true, decide_eq_true_eq] at hc
        refine ⟨by rw [hc.1]; simp, fun j hj => ?_⟩
        have hr' : i ∈ Region.ready .any ops listed := by rw [hc.1]; simp
        rw [hc.1] at hj
        obtain rfl : j = i := by simpa using hj
        exact ⟨hc.2, o, ho, OW.mono (fun a' w' ⟨he, σ', hf', hk⟩ => ⟨he, wpHd_of_RWI I hI hsel hjn listed' hseq r _ a' w' σ' (hI _ _ inv hr' hc.2) hB hf' hk⟩) h1⟩
      · cases hB

def sinkP (ops : Array Oper) (nt : Nat) (L0 : Array Bool) : Bool :=
  (List.range nt).all fun i => L0.getD i false || (List.range (nt + 1)).any fun j => decide (i < j) && Region.waitsFor .any ops j i

theorem tail_waitsP {nt : Nat} {L0 listed : Array Bool} (hs : sinkP ops nt L0 = true) (hc : Region.chainB .any ops nt = true) (hn : nt < ops.size) (inv : HeadInv .any ops nt listed) (hsub : ∀ i, L0.getD i false = true → listed.getD i false = true) :
    ∀ (d i : Nat), nt - i = d → i < nt → listed.getD i true = false → ∀ t, nt ≤ t → t ∉ Region.ready .any ops listed := by
  intro d
  induction d using Nat.strongRecOn with
  | _ d ih =>
    intro i hd hi hun t ht hr
    obtain ⟨_, ot, hot, hall⟩ := mem_ready.1 hr
    have htlt : t < ops.size := (Array.getElem?_eq_some_iff.1 hot).1
    by_cases htn : t = nt
    · subst htn
      have h1 := List.all_eq_true.1 hs i (List.mem_range.2 hi)
      rcases Bool.or_eq_true_iff.1 h1 with h1 | h1
      · have := hsub i h1
        rw [getD_both hun] at this
        cases this
      obtain ⟨j, hj, hj2⟩ := List.any_eq_true.1 h1
      simp only [Bool.and_eq_true, decide_eq_true_eq] at hj2
      obtain ⟨oj, hoj, e, he, hb, hon⟩ := Region.waitsFor_spec hj2.2
      have hjle : j ≤ t := by have := List.mem_range.1 hj; omega
      by_cases hjt : j = t
      · subst hjt
        have : oj = ot := Option.some.inj (hoj.symm.trans hot)
        subst this
        have h2 := hall e he hb
        rw [hon, getD_both hun] at h2
        cases h2
      · cases hl : listed.getD j false with
        | true =>
          have h2 := inv.closed j oj hoj hl e he hb
          rw [hon, getD_both hun] at h2
          cases h2
        | false =>
          have hjs : j < listed.size := by rw [inv.size]; omega
          exact ih (t - j) (by omega) j rfl (by omega) (getD_in hjs hl) t (Nat.le_refl _) hr
    · have h1 := List.all_eq_true.1 hc t (List.mem_range.2 htlt)
      simp only [Bool.or_eq_true, decide_eq_true_eq] at h1
      rcases h1 with h1 | h1
      · omega
      · obtain ⟨o', ho', e, he, hb, hon⟩ := Region.waitsFor_spec h1
        have : o' = ot := Option.some.inj (ho'.symm.trans hot)
        subst this
        have h2 := hall e he hb
        rw [hon, getD_both (inv.tail (t - 1) (by omega) (by omega))] at h2
        cases h2

/-- pure operations that are taken first -/
def canPre (ops : Array Oper) (nt : Nat) : List Nat → Array Bool → Option (Array Bool)
  | [], L => some L
  | i :: r, L => cond ((Region.ready .any ops L).contains i && Region.free .any ops L i && decide (i < nt)) (canPre ops nt r (L.setIfInBounds i true)) none

def drawPB (ops : Array Oper) (nt : Nat) (pre : List Nat) (l : List (Nat × Kd)) : Bool :=
  Region.noSelect ops && decide (nt ≤ ops.size) && decide (pre.length + l.length = nt) &&
  match canPre ops nt pre (Array.replicate ops.size false) with
  | some L0 => (decide (nt = ops.size) || (sinkP ops nt L0 && Region.chainB .any ops nt)) &&
    match canHead ops nt l L0 with
    | some listed => Region.seqB .any ops (ops.size - nt) nt listed
    | none => false
  | none => false

theorem wpAny_pre {n nt : Nat} {ds : List Deferred} {Q : Exit → Act → World → Prop} (hP : ∀ c a w, ¬ Q (.panic c) a w) (hs : Region.noSelect ops = true) {fuel : Nat} {L0 : Array Bool} {σ1 : Env} {w : World} :
    ∀ (pre : List Nat) (L : Array Bool) (σ : Env) (a : Act), canPre ops nt pre L = some L0 → HeadInv .any ops nt L → rrun P n ops pre.length (pre.map (·, Kd.qui)) σ = some ([], σ1) → Fits n σ ds a →
    (HeadInv .any ops nt L0 → ∀ a', Fits n σ1 ds a' → wpAny P .any ops Q fuel L0 a' w) → wpAny P .any ops Q (pre.length + fuel) L a w
  | [], L, σ, a, hc, inv, hr, hf, h => by
    simp only [canPre, Option.some.injEq] at hc
    simp only [List.length_nil, List.map_nil, rrun, Option.some.injEq, Prod.mk.injEq, true_and] at hr
    subst hc
    subst hr
    rw [List.length_nil, Nat.zero_add]
    exact h inv a hf
  | i :: r, L, σ, a, hc, inv, hr, hf, h => by
    simp only [canPre] at hc
    cases hb : ((Region.ready .any ops L).contains i && Region.free .any ops L i && decide (i < nt)) with
    | false => rw [hb] at hc; cases hc
    | true =>
      rw [hb] at hc
      simp only [cond_true] at hc
      simp only [Bool.and_eq_true, decide_eq_true_eq] at hb
      simp only [List.length_cons, List.map_cons, rrun] at hr
      cases ho : ops[i]? with
      | none => rw [ho] at hr; cases hr
      | some o =>
        rw [ho] at hr
        simp only at hr
        cases hro : runOp P n ops o σ with
        | none => rw [hro] at hr; cases hr
        | some σ' =>
          rw [hro] at hr
          obtain ⟨v, hst, hf'⟩ := runOp_spec (ds := ds) hro a hf
          have hy : Yields P ops o v a := by
            rcases hst w with ⟨h1, _⟩ | h1
            · refine .inl ⟨h1, fun w' => ?_⟩
              rcases hst w' with ⟨_, h2⟩ | ⟨h2, _⟩
              · exact h2 w' (Ext.refl w')
              · rw [h1] at h2; cases h2
            · exact .inr h1
          have hr' : i ∈ Region.ready .any ops L := by simpa using hb.1.1
          have := wpAny_take (P := P) (md := .any) (Q := Q) (fuel := r.length + fuel) (w := w) ho hs hb.1.2 hb.1.1 (fun c a w hq => absurd hq (hP c _ w)) hy
            (wpAny_pre hP hs r _ σ' _ hc (inv.set hr' hb.2) hr hf' h)
          rw [List.length_cons, Nat.add_right_comm]
          exact this

theorem RW.drawP {n : Nat} {ds : List Deferred} {K : Env → World → Prop} {Q : Exit → Act → World → Prop} (hQ : ∀ a w σ, Fits n σ ds a → K σ w → Q .normal a w) (hP : ∀ c a w, ¬ Q (.panic c) a w)
    {id : Nat} (hm : P.follows .mixedOrders = true) (nt : Nat) (pre : List Nat) (l : List (Nat × Kd)) (hB : drawPB ops nt pre l = true) {σ σ1 : Env} {a : Act} {w : World} (hf : Fits n σ ds a)
    (hr : rrun P n ops pre.length (pre.map (·, Kd.qui)) σ = some ([], σ1))
    (h : RW P ops n ds K (l ++ tailOf nt ops.size) σ1 { w with drawn := w.drawn + 1 }) : (Code.region id ops true).wp P Q a w := by
  simp only [drawPB, Bool.and_eq_true, decide_eq_true_eq] at hB
  obtain ⟨⟨⟨hsel, hnt⟩, hlen⟩, hcan⟩ := hB
  cases hp : canPre ops nt pre (Array.replicate ops.size false) with
  | none => rw [hp] at hcan; cases hcan
  | some L0 =>
    rw [hp] at hcan
    simp only [Bool.and_eq_true, Bool.or_eq_true, decide_eq_true_eq] at hcan
    obtain ⟨htail, hcan⟩ := hcan
    cases hc : canHead ops nt l L0 with
    | none => rw [hc] at hcan; cases hcan
    | some listed' =>
      rw [hc] at hcan
      simp only at hcan
      have inv : HeadInv .any ops nt (Array.replicate ops.size false) := ⟨by simp, fun j oj _ hl => (by rw [getD_replicate_false] at hl; cases hl), fun t _ ht => (by simp [ht])⟩
      refine wp_region_any hm ?_
      have hsz : ops.size = pre.length + (l.length + (ops.size - nt)) := by omega
      rw [hsz]
      have hda : (Array.replicate (pre.length + (l.length + (ops.size - nt))) false) = Array.replicate ops.size false := by rw [← hsz]
      rw [hda]
      refine wpAny_pre hP hsel pre _ σ a hp inv hr hf fun inv0 a1 hf1 => ?_
      let I : Array Bool → Prop := fun listed => HeadInv .any ops nt listed ∧ ∀ i, L0.getD i false = true → listed.getD i false = true
      have hI : ∀ listed j, I listed → j ∈ Region.ready .any ops listed → j < nt → I (listed.setIfInBounds j true) := fun listed j hi hj hjn => ⟨hi.1.set hj hjn, fun i hi0 => getD_set_true (hi.2 i hi0)⟩
      have hjn : ∀ listed i, I listed → i < nt → listed.getD i true = false → ∀ j ∈ Region.ready .any ops listed, j < nt := by
        intro listed i hinv hi hun j hj
        rcases htail with h0 | ⟨hs, hch⟩
        · rw [h0]; exact ready_lt hj
        · rcases Nat.lt_or_ge j nt with h' | h'
          · exact h'
          · have hjl := ready_lt hj
            exact absurd hj (tail_waitsP hs hch (by omega) hinv.1 hinv.2 _ i rfl hi hun j h')
      have hd := wpHd_of_RWI (K := RW P ops n ds K (tailOf nt ops.size)) I hI hsel hjn listed' hcan l _ a1 { w with drawn := w.drawn + 1 } σ1 ⟨inv0, fun _ h => h⟩ hc hf1 (RW.append l _ σ1 _ h)
      refine wpAny_of_hd (fun listed a' w' hL => ?_) _ _ _ _ hd
      obtain ⟨rfl, σ', hf', hk⟩ := hL
      have hlt : (ops.toList.drop nt).length = ops.size - nt := by simp
      rw [← hlt] at hcan ⊢
      refine wpAny_of_seq (ops.toList.drop nt) nt listed a' w' (fun j => by simp) hcan ?_
      exact RW.wpList hQ (ops.toList.drop nt) nt σ' w' a' (fun j _ => by simp) hf' (by rw [hlt]; exact hk)

variable {f : FuncId} {n : Nat} {σ : Env} {ds : List Deferred} {w : World} {R : Ending → World → Prop}

/-- a region that draws its order, some pure operations taken first -/
theorem WK.drawP1 {c : Code} {k : List Item} (nt : Nat) (pre : List Nat) (σ1 : Env) (l l' : List (Nat × Kd)) (hm : P.follows .mixedOrders = true) (hc : c = .region (idOf c) (opsOf c) true) (hB : drawPB (opsOf c) nt pre l = true)
    (hr : rrun P n (opsOf c) pre.length (pre.map (·, Kd.qui)) σ = some ([], σ1)) (hl : l ++ tailOf nt (opsOf c).size = l')
    (h : RW P (opsOf c) n ds (fun σ' w' => WK P f n k σ' ds w' R) l' σ1 { w with drawn := w.drawn + 1 }) : WK P f n (.code c :: k) σ ds w R := by
  rw [hc]
  subst hl
  refine WK.code fun a ha => RW.drawP (fun a w σ hf hk => ⟨σ, hf, hk⟩) (fun c a w h => h) hm nt pre l hB ha hr h
end
end Go.BX
