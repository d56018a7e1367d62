/-
  THE ENGINE's CORE: a judgement 'WK' on a frame whose slots are known by a short list (an 'Env'), over any program; pure operations are run by the kernel.
  No condition.
-/
import Derived.WalkKit
import Derived.KernelRfl
import Derived.StillTail
namespace Go.BX

/-! ## Environments: what some slots hold -/
abbrev Env := List (Nat × Value)

def find : Env → Nat → Option Value
  | [], _ => none
  | (k, v) :: r, t => cond (Nat.beq k t) (some v) (find r t)

theorem find_cons (k : Nat) (v : Value) (r : Env) (t : Nat) : find ((k, v) :: r) t = if k = t then some v else find r t := by
  simp only [find]
  by_cases h : k = t
  · subst h; simp
  · have : Nat.beq k t = false := by
      cases hb : Nat.beq k t with
      | false => rfl
      | true => exact absurd (Nat.eq_of_beq_eq_true hb) h
    simp [this, h]

structure Fits (n : Nat) (σ : Env) (ds : List Deferred) (a : Act) : Prop where
  size : a.tmps.size = n
  defers : a.defers = ds
  vals : ∀ t v, find σ t = some v → a.tmps[t]? = some v

theorem Fits.put {n : Nat} {σ : Env} {ds : List Deferred} {a : Act} (h : Fits n σ ds a) {d : Nat} (hd : d < n) (v : Value) : Fits n ((d, v) :: σ) ds (a.put (some d) v) := by
  refine ⟨by simp [Act.put, h.size], by simp [Act.put, h.defers], fun t u hu => ?_⟩
  rw [find_cons] at hu
  by_cases hdt : d = t
  · subst hdt
    simp only [if_true, Option.some.injEq] at hu
    subst hu
    have : d < a.tmps.size := by rw [h.size]; exact hd
    simp [Act.put, this]
  · rw [if_neg hdt] at hu
    simp only [Act.put]
    rw [Array.getElem?_setIfInBounds_ne hdt]
    exact h.vals t u hu

theorem Fits.sub {n : Nat} {σ σ' : Env} {ds : List Deferred} {a : Act} (h : Fits n σ ds a) (hs : ∀ t v, find σ' t = some v → find σ t = some v) : Fits n σ' ds a :=
  ⟨h.size, h.defers, fun t v hv => h.vals t v (hs t v hv)⟩

/-- Only the slots that are named, in that order. -/
def pick : List Nat → Env → Env
  | [], _ => []
  | t :: r, σ => match find σ t with
    | some v => (t, v) :: pick r σ
    | none => pick r σ

theorem pick_find (σ : Env) : ∀ (live : List Nat) (t : Nat) (v : Value), find (pick live σ) t = some v → find σ t = some v
  | [], t, v, h => by simp [pick, find] at h
  | k :: r, t, v, h => by
    simp only [pick] at h
    cases hk : find σ k with
    | none => rw [hk] at h; exact pick_find σ r t v h
    | some u =>
      rw [hk] at h
      simp only [find_cons] at h
      by_cases hkt : k = t
      · subst hkt; simp only [if_true] at h; rw [hk, h]
      · rw [if_neg hkt] at h; exact pick_find σ r t v h

def ev (σ : Env) : Operand → Option Value
  | .tmp t => find σ t
  | .const v => some v
  | .global g => some (.pointer (some ⟨g, 0, none⟩))
  | .func f => some (.func (.func f) #[] #[])

def rho (σ : Env) (x : Operand) : Value := (ev σ x).getD undef

theorem eval_rho {n : Nat} {σ : Env} {ds : List Deferred} {a : Act} (h : Fits n σ ds a) {x : Operand} {v : Value} (hx : ev σ x = some v) : a.eval x = v := by
  cases x with
  | tmp t =>
    have := h.vals t v hx
    simp [Act.eval, this]
  | const u => simpa [ev, Act.eval] using hx
  | global g => simpa [ev, Act.eval] using hx
  | func f => simpa [ev, Act.eval] using hx

def known (σ : Env) (o : Oper) : Bool :=
  (o.op.operands.toList.all fun x => (ev σ x).isSome) && (match o.op with | .select .. => false | _ => true)

theorem execOp_rho {n : Nat} {σ : Env} {ds : List Deferred} {a : Act} {o : Oper} (h : Fits n σ ds a) (hk : known σ o = true) : execOp a.eval o = execOp (rho σ) o := by
  simp only [known, Bool.and_eq_true, List.all_eq_true] at hk
  refine execOp_congr o (fun cs b hs => by rw [hs] at hk; simp at hk) fun x hx => ?_
  have hx' : x ∈ o.op.operands.toList := by simpa using hx
  obtain ⟨v, hv⟩ := Option.isSome_iff_exists.1 (hk.1 x hx')
  rw [eval_rho h hv]
  simp [rho, hv]

/-! ## Pure programs -/
def pureN (P : Program) : Sem Next → Option Next
  | .pure v => some v
  | .program k => pureN P (k P)
  | _ => none

theorem pureN_run {P : Program} : ∀ {s : Sem Next} {v : Next}, pureN P s = some v → ∀ w, s.run P w = .ok v w := by
  intro s
  induction s with
  | pure a => intro v h w; simp only [pureN, Option.some.injEq] at h; subst h; rfl
  | program k ih => intro v h w; simp only [pureN] at h; simp only [Sem.run]; exact ih P h w
  | _ => intro v h; simp [pureN] at h

def wantE (ops : Array Oper) (σ : Env) (o : Oper) : Option Bool :=
  match o.guard with
  | none => some true
  | some (j, b) => match (ops[j]?).bind (·.dst) with
    | none => some false
    | some t => match find σ t with
      | none => none
      | some (.bool c) => some (c == b)
      | some _ => some false

theorem wantE_spec {n : Nat} {σ : Env} {ds : List Deferred} {a : Act} {ops : Array Oper} {o : Oper} {b : Bool} (h : Fits n σ ds a) (hw : wantE ops σ o = some b) :
    Region.wanted o (yielded ops a.tmps) = b := by
  unfold wantE at hw
  unfold Region.wanted
  cases hg : o.guard with
  | none => rw [hg] at hw; simpa using hw
  | some p =>
    obtain ⟨j, b'⟩ := p
    rw [hg] at hw
    simp only at hw ⊢
    cases ht : (ops[j]?).bind (·.dst) with
    | none =>
      rw [ht] at hw
      simp only [yielded, ht, Option.bind_none]
      simpa using hw
    | some t =>
      rw [ht] at hw
      simp only at hw
      cases hf : find σ t with
      | none => rw [hf] at hw; simp at hw
      | some u =>
        rw [hf] at hw
        have := h.vals t u hf
        simp only [yielded, ht, Option.bind_some, this]
        cases u <;> simp_all

/-! ## Worlds -/
/-- all blocks that were there are as they were -/
abbrev Ext (w w' : World) : Prop := RowKit.Below w.heap.size w w'
theorem Ext.refl (w : World) : Ext w w := RowKit.Below.refl _ _
theorem Ext.trans {a b c : World} (h : Ext a b) (k : Ext b c) : Ext a c := RowKit.Below.trans h (k.mono h.size)
theorem Ext.drew (w : World) : Ext w { w with drawn := w.drawn + 1 } := ⟨rfl, rfl, rfl, Nat.le_refl _, fun _ _ => rfl⟩
theorem Ext.drew' {a b : World} (h : Ext a b) : Ext a { b with drawn := b.drawn + 1 } := h.trans (Ext.drew b)
theorem Ext.cell {w w' : World} (h : Ext w w') {a : Addr} {v : Value} (hc : w.cell? a = some v) : w'.cell? a = some v := by
  have hb : a.block < w.heap.size := by
    rcases Nat.lt_or_ge a.block w.heap.size with h' | h'
    · exact h'
    · simp [World.cell?, Array.getElem?_eq_none h'] at hc
  rw [RowKit.Below.cell h hb]; exact hc
theorem Ext.block {w w' : World} (h : Ext w w') {b : Nat} {o : Obj} (hb : w.heap[b]? = some o) : w'.heap[b]? = some o := by
  have : b < w.heap.size := (Array.getElem?_eq_some_iff.1 hb).1
  rw [RowKit.Below.block h b this]; exact hb

/-! ## One operation -/
inductive Kd | seq | qui | chn

section
variable (P : Program) (ops : Array Oper)

def OW (o : Oper) (a : Act) (w : World) (K : Act → World → Prop) : Prop :=
  if Region.wanted o (yielded ops a.tmps) then o.wp P a w K (fun _ _ _ => False) else K (a.put o.dst undef) w

def Stable (o : Oper) (v : Value) (a : Act) (w : World) : Prop :=
  (Region.wanted o (yielded ops a.tmps) = true ∧ ∀ w', Ext w w' → (execOp a.eval o).run P w' = .ok (.value v) w') ∨
  (Region.wanted o (yielded ops a.tmps) = false ∧ v = undef)

variable (n : Nat) (ds : List Deferred)

def OpK (o : Oper) (κ : Kd) (σ : Env) (w : World) (K : Env → World → Prop) : Prop :=
  ∀ a, Fits n σ ds a → match κ with
    | .seq => OW P ops o a w fun a' w' => ∃ σ', Fits n σ' ds a' ∧ K σ' w'
    | .chn => OW P ops o a w fun a' w' => Ext w w' ∧ ∃ σ', Fits n σ' ds a' ∧ K σ' w'
    | .qui => ∃ v, Stable P ops o v a w ∧ ∃ σ', Fits n σ' ds (a.put o.dst v) ∧ K σ' w

/-- The operations of a region that are still to come, in an order that stands for all. -/
def RW (K : Env → World → Prop) : List (Nat × Kd) → Env → World → Prop
  | [], σ, w => K σ w
  | (i, κ) :: r, σ, w => ∃ o, ops[i]? = some o ∧ OpK P ops n ds o κ σ w (RW K r)
end

section
variable {P : Program} {ops : Array Oper}

theorem Oper.wp_monoQ {o : Oper} {a : Act} {w : World} {K : Act → World → Prop} {Q : Exit → Act → World → Prop}
    (hh : o.wp P a w K (fun _ _ _ => False)) : o.wp P a w K Q := by
  unfold Oper.wp at *
  generalize (execOp a.eval o).run P w = r at *
  cases r with
  | ok x w' =>
    cases x <;> simp only [Oper.upon] at hh ⊢ <;> first
      | exact hh
      | exact Calls.mono hh (fun e w'' he => by
          cases e with
          | returned v => exact he
          | panicked c => exact he.elim
          | outgrown => obtain ⟨_, _, h⟩ := he; exact h.elim)
  | halt x w' => cases x <;> simp only [Oper.upon] at hh

theorem OW.mono {o : Oper} {a : Act} {w : World} {K K' : Act → World → Prop} (h : ∀ a w, K a w → K' a w) (hh : OW P ops o a w K) : OW P ops o a w K' := by
  unfold OW at *
  split
  · rename_i hw; rw [if_pos hw] at hh; exact Oper.wp_mono h hh
  · rename_i hw; rw [if_neg hw] at hh; exact h _ _ hh

theorem OW.wpOp {o : Oper} {i : Nat} {a : Act} {w : World} {K : Act → World → Prop} {Q : Exit → Act → World → Prop} (hi : ops[i]? = some o) (h : OW P ops o a w K) : wpOp P ops Q i K a w := by
  unfold OW at h
  unfold Go.wpOp
  simp only [hi]
  split
  · rename_i hw; rw [if_pos hw] at h; exact .inl (Oper.wp_monoQ h)
  · rename_i hw; rw [if_neg hw] at h; exact h

theorem Stable.ow {o : Oper} {v : Value} {a : Act} {w : World} (h : Stable P ops o v a w) {K : Act → World → Prop} (hk : K (a.put o.dst v) w) : OW P ops o a w K := by
  unfold OW
  rcases h with ⟨hw, hv⟩ | ⟨hw, rfl⟩
  · rw [if_pos hw]; simp only [Oper.wp, hv w (Ext.refl w), Oper.upon]; exact hk
  · rw [if_neg (by simp [hw])]; exact hk

theorem Stable.of_same {o : Oper} {v : Value} {a a' : Act} {w : World} (hy : Stable P ops o v a w) (he : execOp a'.eval o = execOp a.eval o)
    (hw : Region.wanted o (yielded ops a'.tmps) = Region.wanted o (yielded ops a.tmps)) : Stable P ops o v a' w := by
  unfold Stable at *
  rw [he, hw]
  exact hy

theorem Stable.ext {o : Oper} {v : Value} {a : Act} {w w' : World} (hy : Stable P ops o v a w) (h : Ext w w') : Stable P ops o v a w' :=
  hy.imp (fun ⟨a, b⟩ => ⟨a, fun w'' h' => b w'' (h.trans h')⟩) id

/-- whatever kind: the operation as it is run in the text's order -/
theorem OpK.seq {n : Nat} {ds : List Deferred} {o : Oper} {κ : Kd} {σ : Env} {w : World} {K : Env → World → Prop} (h : OpK P ops n ds o κ σ w K) : OpK P ops n ds o .seq σ w K := by
  intro a ha
  have := h a ha
  cases κ with
  | seq => exact this
  | chn => exact OW.mono (fun _ _ h => h.2) this
  | qui => obtain ⟨v, hs, hk⟩ := this; exact hs.ow hk

theorem OpK.mono {n : Nat} {ds : List Deferred} {o : Oper} {κ : Kd} {σ : Env} {w : World} {K K' : Env → World → Prop} (hK : ∀ σ w, K σ w → K' σ w) (h : OpK P ops n ds o κ σ w K) : OpK P ops n ds o κ σ w K' := by
  intro a ha
  have := h a ha
  cases κ with
  | seq => exact OW.mono (fun _ _ ⟨σ', hf, hk⟩ => ⟨σ', hf, hK _ _ hk⟩) this
  | chn => exact OW.mono (fun _ _ ⟨he, σ', hf, hk⟩ => ⟨he, σ', hf, hK _ _ hk⟩) this
  | qui => obtain ⟨v, hs, σ', hf, hk⟩ := this; exact ⟨v, hs, σ', hf, hK _ _ hk⟩

theorem RW.append {n : Nat} {ds : List Deferred} {K : Env → World → Prop} : ∀ (l l' : List (Nat × Kd)) (σ : Env) (w : World), RW P ops n ds K (l ++ l') σ w → RW P ops n ds (RW P ops n ds K l') l σ w
  | [], _, _, _, h => h
  | (_, _) :: r, l', _, _, ⟨o, ho, h⟩ => ⟨o, ho, OpK.mono (fun σ w h => RW.append r l' σ w h) h⟩

/-! ## A region in the text's order -/
theorem RW.wpOps {n : Nat} {ds : List Deferred} {K : Env → World → Prop} {Q : Exit → Act → World → Prop} (hQ : ∀ a w σ, Fits n σ ds a → K σ w → Q .normal a w) :
    ∀ (l : List (Nat × Kd)) (σ : Env) (w : World) (a : Act), Fits n σ ds a → RW P ops n ds K l σ w → wpOps P ops Q (l.map (·.1)) a w
  | [], σ, w, a, hf, h => hQ a w σ hf h
  | (i, κ) :: r, σ, w, a, hf, ⟨o, ho, h⟩ => by
    simp only [List.map_cons]
    rw [wpOps_cons]
    exact OW.wpOp ho (OW.mono (fun a' w' ⟨σ', hf', hk⟩ => RW.wpOps hQ r σ' w' a' hf' hk) (h.seq a hf))

/-! ## A region that draws its order -/
def OpE (P : Program) (ops : Array Oper) (i : Nat) (K : Act → World → Prop) (a : Act) (w : World) : Prop := ∃ o, ops[i]? = some o ∧ OW P ops o a w K

def wpHd (P : Program) (ops : Array Oper) (nt : Nat) (L : Array Bool → Act → World → Prop) : Nat → Array Bool → Act → World → Prop
  | 0, listed, a, w => L listed a w
  | f + 1, listed, a, w => Region.ready .any ops listed ≠ [] ∧
      ∀ i ∈ Region.ready .any ops listed, i < nt ∧ OpE P ops i (fun a' w' => Ext w w' ∧ wpHd P ops nt L f (listed.setIfInBounds i true) a' w') a w

theorem wpAny_of_hd {nt g : Nat} {L : Array Bool → Act → World → Prop} {Q' : Exit → Act → World → Prop} (hL : ∀ listed a w, L listed a w → wpAny P .any ops Q' g listed a w) :
    ∀ (f : Nat) (listed : Array Bool) (a : Act) (w : World), wpHd P ops nt L f listed a w → wpAny P .any ops Q' (f + g) listed a w
  | 0, listed, a, w, h => by rw [Nat.zero_add]; exact hL _ _ _ h
  | f + 1, listed, a, w, h => by
    rw [show f + 1 + g = (f + g) + 1 by omega]
    refine ⟨fun h0 => absurd h0 h.1, fun i hi => ?_⟩
    obtain ⟨_, o, ho, h1⟩ := h.2 i hi
    exact OW.wpOp ho (OW.mono (fun a' w' h' => wpAny_of_hd hL f _ a' w' h'.2) h1)

theorem ow_put {oi oj : Oper} {v : Value} (hap : oi.apart ops oj = true)
    (hsi : ∀ cs b, oi.op ≠ .select cs b) (hsj : ∀ cs b, oj.op ≠ .select cs b) {K : Act → World → Prop} {a : Act} {w : World}
    (hy : Stable P ops oi v a w) (h : OW P ops oj (a.put oi.dst v) w (fun a' w' => Ext w w' ∧ K a' w')) :
    OW P ops oj a w (fun a' w' => Ext w w' ∧ Stable P ops oi v a' w' ∧ K (a'.put oi.dst v) w') := by
  obtain ⟨h1, h2, h3⟩ := Oper.apart_spec hap
  have keep : ∀ (a : Act) (w' : World), Stable P ops oi v a w → Ext w w' → ∀ u, Stable P ops oi v (a.put oj.dst u) w' := fun a w' hy he u =>
    (hy.of_same (execOp_put oi hsi a oj.dst u h3) (wanted_put oi a oj.dst u h3)).ext he
  unfold OW at *
  rw [wanted_put oj a oi.dst v h1] at h
  split
  · rename_i hw
    rw [if_pos hw] at h
    unfold Oper.wp at *
    rw [execOp_put oj hsj a oi.dst v h1] at h
    generalize (execOp a.eval oj).run P w = r at *
    cases r with
    | ok x w' =>
      cases x <;> simp only [Oper.upon] at h ⊢
      case value u => exact ⟨h.1, keep a w' hy h.1 u, by rw [← Act.put_comm a v u h2]; exact h.2⟩
      case skip => exact ⟨h.1, keep a w' hy h.1 _, by rw [← Act.put_comm a v undef h2]; exact h.2⟩
      case defer d =>
        refine ⟨h.1, keep { a with defers := d :: a.defers } w' (hy.of_same rfl rfl) h.1 _, ?_⟩
        rw [← Act.put_comm _ v undef h2, ← Act.put_defers]
        exact h.2
      case enter f args =>
        refine Calls.mono h fun e w'' he => ?_
        cases e with
        | returned u => exact ⟨he.1, keep a w'' hy he.1 u, by rw [← Act.put_comm a v u h2]; exact he.2⟩
        | panicked c => exact he
        | outgrown => obtain ⟨_, _, h⟩ := he; exact h.elim
      case row r args => exact Rows.mono h fun u w'' he => ⟨he.1, keep a w'' hy he.1 u, by rw [← Act.put_comm a v u h2]; exact he.2⟩
    | halt x w' => cases x <;> simp only [Oper.upon] at h
  · rename_i hw
    rw [if_neg hw] at h
    exact ⟨h.1, keep a w hy h.1 _, by rw [← Act.put_comm a v undef h2]; exact h.2⟩

theorem wpHd_first {nt i : Nat} {oi : Oper} {v : Value} {L : Array Bool → Act → World → Prop} (hi : ops[i]? = some oi) (hsel : ∀ (j : Nat) (o : Oper) cs b, ops[j]? = some o → o.op ≠ .select cs b)
    (hin : i < nt) (hjn : ∀ listed, HeadInv .any ops nt listed → listed.getD i true = false → ∀ j ∈ Region.ready .any ops listed, j < nt)
    (hdone : ∀ listed a w, L listed a w → ∀ j ∈ Region.ready .any ops listed, nt ≤ j) :
    ∀ (f : Nat) (listed : Array Bool) (a : Act) (w : World), HeadInv .any ops nt listed →
      (∀ j oj, ops[j]? = some oj → j ≠ i → listed.getD j true = false → (∀ e ∈ oj.after, Region.binds .any e = true → e.on ≠ i) → oi.apart ops oj = true) →
      i ∈ Region.ready .any ops listed → Stable P ops oi v a w →
      wpHd P ops nt L f (listed.setIfInBounds i true) (a.put oi.dst v) w → wpHd P ops nt L (f + 1) listed a w := by
  intro f
  induction f with
  | zero =>
    intro listed a w inv _ hr hy H
    have hun := (mem_ready.1 hr).1
    refine ⟨fun h => (by rw [h] at hr; cases hr), fun j hj => ⟨hjn listed inv hun j hj, ?_⟩⟩
    by_cases hji : j = i
    · subst hji; exact ⟨oi, hi, hy.ow ⟨Ext.refl w, H⟩⟩
    · have := hdone _ _ _ H j (ready_mono hj hji)
      have := hjn listed inv hun j hj
      omega
  | succ f ih =>
    intro listed a w inv hfree hr hy H
    have hun := (mem_ready.1 hr).1
    refine ⟨fun h => (by rw [h] at hr; cases hr), fun j hj => ⟨hjn listed inv hun j hj, ?_⟩⟩
    have hjlt := hjn listed inv hun j hj
    by_cases hji : j = i
    · subst hji; exact ⟨oi, hi, hy.ow ⟨Ext.refl w, H⟩⟩
    · obtain ⟨_, oj', hoj', h1⟩ := H.2 j (ready_mono hj hji)
      obtain ⟨hjun, oj, hoj, hall⟩ := mem_ready.1 hj
      have : oj' = oj := Option.some.inj (hoj'.symm.trans hoj)
      subst this
      have hnot : ∀ e ∈ oj'.after, Region.binds .any e = true → e.on ≠ i := fun e he hb heq => by
        have h1 := hall e he hb
        rw [heq, getD_both hun] at h1
        cases h1
      have h2 := ow_put (hfree j oj' hoj hji hjun hnot) (fun cs b => hsel i oi cs b hi) (fun cs b => hsel j oj' cs b hoj) hy h1
      have hfree' : ∀ k ok, ops[k]? = some ok → k ≠ i → (listed.setIfInBounds j true).getD k true = false →
          (∀ e ∈ ok.after, Region.binds .any e = true → e.on ≠ i) → oi.apart ops ok = true := fun k ok hk hki hun hno => by
        refine hfree k ok hk hki ?_ hno
        by_cases hjk : j = k
        · subst hjk; exact hjun
        · rw [getD_set_ne true hjk] at hun; exact hun
      refine ⟨oj', hoj, OW.mono (fun a' w' h3 => ⟨h3.1, ih (listed.setIfInBounds j true) a' w' (inv.set hj hjlt) hfree' (ready_mono hr (Ne.symm hji)) h3.2.1 ?_⟩) h2⟩
      rw [Array.setIfInBounds_comm _ _ hji]
      exact h3.2.2

/-- Is this order good for all? 'l': the head, in the order walked; 'nt': the first operation of the tail, which comes in the text's order. -/
def canHead (ops : Array Oper) (nt : Nat) : List (Nat × Kd) → Array Bool → Option (Array Bool)
  | [], listed => some listed
  | (i, .qui) :: r, listed => if (Region.ready .any ops listed).contains i && Region.free .any ops listed i && decide (i < nt) then canHead ops nt r (listed.setIfInBounds i true) else none
  | (i, .chn) :: r, listed => if decide (Region.ready .any ops listed = [i]) && decide (i < nt) then canHead ops nt r (listed.setIfInBounds i true) else none
  | (_, .seq) :: _, _ => none

def drawB (ops : Array Oper) (nt : Nat) (l : List (Nat × Kd)) : Bool :=
  Region.noSelect ops && decide (nt ≤ ops.size) && decide (l.length = nt) && (decide (nt = ops.size) || (Region.sinkB .any ops nt && Region.chainB .any ops nt)) &&
  match canHead ops nt l (Array.replicate ops.size false) with
  | some listed => Region.seqB .any ops (ops.size - nt) nt listed
  | none => false

theorem ready_lt {listed : Array Bool} {j : Nat} (h : j ∈ Region.ready .any ops listed) : j < ops.size := by
  obtain ⟨_, o, ho, _⟩ := mem_ready.1 h
  exact (Array.getElem?_eq_some_iff.1 ho).1

theorem wpHd_of_RW {n nt : Nat} {ds : List Deferred} {K : Env → World → Prop} {g : Nat} (hsel : Region.noSelect ops = true)
    (hjn : ∀ listed i, HeadInv .any ops nt listed → i < nt → listed.getD i true = false → ∀ j ∈ Region.ready .any ops listed, j < nt) (listed' : Array Bool) (hseq : Region.seqB .any ops g nt listed' = true) :
    ∀ (l : List (Nat × Kd)) (listed : Array Bool) (a : Act) (w : World) (σ : Env), HeadInv .any ops nt listed → canHead ops nt l listed = some listed' → Fits n σ ds a → RW P ops n ds K l σ w →
    wpHd P ops nt (fun lst a' w' => lst = listed' ∧ ∃ σ', Fits n σ' ds a' ∧ K σ' w') l.length listed a w
  | [], listed, a, w, σ, _, hB, hf, h => by
    simp only [canHead, Option.some.injEq] at hB
    exact ⟨hB, σ, hf, h⟩
  | (i, κ) :: r, listed, a, w, σ, inv, hB, hf, ⟨o, ho, h⟩ => by
    have h1 := h a hf
    cases κ with
    | seq => simp [canHead] at hB
    | qui =>
      simp only [canHead] at hB
      split at hB
      · rename_i hc
        simp only [Bool.and_eq_true, decide_eq_true_eq] at hc
        obtain ⟨v, hs, σ', hf', hk⟩ := h1
        have hr' : i ∈ Region.ready .any ops listed := by simpa using hc.1.1
        exact wpHd_first ho (Region.noSelect_spec hsel) hc.2 (fun lst hinv hun => hjn lst i hinv hc.2 hun)
          (fun lst a' w' hL => by rw [hL.1]; exact seqB_ready hseq) r.length listed a w inv (Region.free_spec ho hc.1.2) hr' hs
          (wpHd_of_RW hsel hjn listed' hseq r _ _ w σ' (inv.set hr' hc.2) hB hf' hk)
      · cases hB
    | chn =>
      simp only [canHead] at hB
      split at hB
      · rename_i hc
        simp only [Bool.and_eq_true, decide_eq_true_eq] at hc
        refine ⟨by rw [hc.1]; simp, fun j hj => ?_⟩
        have hr' : i ∈ Region.ready .any ops listed := by rw [hc.1]; simp
        rw [hc.1] at hj
        obtain rfl : j = i := by simpa using hj
        exact ⟨hc.2, o, ho, OW.mono (fun a' w' ⟨he, σ', hf', hk⟩ => ⟨he, wpHd_of_RW hsel hjn listed' hseq r _ a' w' σ' (inv.set hr' hc.2) hB hf' hk⟩) h1⟩
      · cases hB

theorem RW.wpList {n : Nat} {ds : List Deferred} {K : Env → World → Prop} {Q : Exit → Act → World → Prop} (hQ : ∀ a w σ, Fits n σ ds a → K σ w → Q .normal a w) :
    ∀ (l : List Oper) (k : Nat) (σ : Env) (w : World) (a : Act), (∀ j, j < l.length → l[j]? = ops[k + j]?) → Fits n σ ds a → RW P ops n ds K ((List.range' k l.length).map (·, Kd.seq)) σ w → wpList P ops Q l a w
  | [], k, σ, w, a, _, hf, h => hQ a w σ hf h
  | o :: l, k, σ, w, a, hl, hf, h => by
    simp only [List.length_cons, List.range'_succ, List.map_cons] at h
    obtain ⟨o', ho', h⟩ := h
    have h0 : ops[k]? = some o := by simpa using (hl 0 (by simp)).symm
    have : o' = o := Option.some.inj (ho'.symm.trans h0)
    subst this
    have h1 := h a hf
    have h2 : OW P ops o' a w (Go.wpList P ops Q l) := OW.mono (fun a' w' ⟨σ', hf', hk⟩ =>
      RW.wpList hQ l (k + 1) σ' w' a' (fun j hj => by have := hl (j + 1) (by simp; omega); simpa [Nat.add_assoc, Nat.add_comm 1 j] using this) hf' hk) h1
    unfold OW at h2
    unfold Go.wpList
    split
    · rename_i hw; rw [if_pos hw] at h2; exact .inl (Oper.wp_monoQ h2)
    · rename_i hw; rw [if_neg hw] at h2; exact h2

def tailOf (nt size : Nat) : List (Nat × Kd) := (List.range' nt (size - nt)).map (·, Kd.seq)

theorem RW.draw {n : Nat} {ds : List Deferred} {K : Env → World → Prop} {Q : Exit → Act → World → Prop} (hQ : ∀ a w σ, Fits n σ ds a → K σ w → Q .normal a w)
    {id : Nat} (hm : P.follows .mixedOrders = true) (nt : Nat) (l : List (Nat × Kd)) (hB : drawB ops nt l = true) {σ : Env} {a : Act} {w : World} (hf : Fits n σ ds a)
    (h : RW P ops n ds K (l ++ tailOf nt ops.size) σ { w with drawn := w.drawn + 1 }) : (Code.region id ops true).wp P Q a w := by
  simp only [drawB, Bool.and_eq_true, decide_eq_true_eq, Bool.or_eq_true] at hB
  obtain ⟨⟨⟨⟨hsel, hnt⟩, hlen⟩, htail⟩, hcan⟩ := hB
  cases hc : canHead ops nt l (Array.replicate ops.size false) with
  | none => rw [hc] at hcan; cases hcan
  | some listed' =>
    rw [hc] at hcan
    simp only at hcan
    have inv : HeadInv .any ops nt (Array.replicate ops.size false) := ⟨by simp, fun j oj _ hl => (by rw [getD_replicate_false] at hl; cases hl), fun t _ ht => (by simp [ht])⟩
    have hjn : ∀ listed i, HeadInv .any ops nt listed → i < nt → listed.getD i true = false → ∀ j ∈ Region.ready .any ops listed, j < nt := by
      intro listed i hinv hi hun j hj
      rcases htail with h0 | ⟨hs, hch⟩
      · rw [h0]; exact ready_lt hj
      · rcases Nat.lt_or_ge j nt with h' | h'
        · exact h'
        · have hjl := ready_lt hj
          exact absurd hj (tail_waits hs hch (by omega) hinv _ i rfl hi hun j h')
    have hd := wpHd_of_RW (K := RW P ops n ds K (tailOf nt ops.size)) hsel hjn listed' hcan l _ a { w with drawn := w.drawn + 1 } σ inv hc hf (RW.append l _ σ _ h)
    refine wp_region_any hm ?_
    have hsz : ops.size = l.length + (ops.size - nt) := by omega
    rw [hsz]
    have hda : (Array.replicate (l.length + (ops.size - nt)) false) = Array.replicate ops.size false := by rw [← hsz]
    rw [hda]
    refine wpAny_of_hd (fun listed a' w' hL => ?_) _ _ _ _ hd
    obtain ⟨rfl, σ', hf', hk⟩ := hL
    have hlt : (ops.toList.drop nt).length = ops.size - nt := by simp
    rw [← hlt] at hcan ⊢
    refine wpAny_of_seq (ops.toList.drop nt) nt listed a' w' (fun j => by simp) hcan ?_
    exact RW.wpList hQ (ops.toList.drop nt) nt σ' w' a' (fun j _ => by simp) hf' (by rw [hlt]; exact hk)

end

/-! ## The rest of a call -/
def WK (P : Program) (f : FuncId) (n : Nat) (todo : List Item) (σ : Env) (ds : List Deferred) (w : World) (R : Ending → World → Prop) : Prop :=
  ∀ (b : Frame) (a : Act) (cs : List Frame), b.fn = f → b.kind = .normal → Fits n σ ds a →
    ∃ e w' fr, R e w' ∧ Comes P (lone (b.at a todo) cs w) (lone fr cs w') e ∧ fr.fn = f ∧ fr.leaving P w' e

section
variable {P : Program} {f : FuncId} {n : Nat} {σ : Env} {ds : List Deferred} {w : World} {R : Ending → World → Prop}

theorem WK.calls {fn : Func} {args : Array Value} {c : Code} (hf : P.funcs[f]? = some fn) (hb : fn.body = some c) (ha : args.size ≤ fn.ntmps)
    (hσ : ∀ t v, find σ t = some v → args[t]? = some v) (h : WK P f fn.ntmps [.code c] σ [] w R) : Calls P f args w R := by
  intro cs
  let b : Frame := { (default : Frame) with fn := f, kind := .normal }
  have henter : Frame.enter P f args .normal = b.at { tmps := args ++ Array.replicate (fn.ntmps - args.size) undef, defers := [] } [.code c] := by
    simp [Frame.enter, Frame.at, hf, hb, b]
  rw [henter]
  refine h b _ cs rfl rfl ⟨by simp; omega, rfl, fun t v hv => ?_⟩
  have := hσ t v hv
  have hlt : t < args.size := (Array.getElem?_eq_some_iff.1 this).1
  simp only
  rw [Array.getElem?_append_left hlt]; exact this

theorem WK.steps {todo todo' : List Item} {σ' : Env}
    (hs : ∀ (b : Frame) (a : Act) (cs : List Frame), b.fn = f → b.kind = .normal → Fits n σ ds a → ∃ a', Fits n σ' ds a' ∧ Steps P (lone (b.at a todo) cs w) (lone (b.at a' todo') cs w))
    (h : WK P f n todo' σ' ds w R) : WK P f n todo σ ds w R := by
  intro b a cs h1 h2 h3
  obtain ⟨a', hf', hst⟩ := hs b a cs h1 h2 h3
  obtain ⟨e, w', fr, r, hc, rest⟩ := h b a' cs h1 h2 hf'
  exact ⟨e, w', fr, r, .of_steps hst hc, rest⟩

theorem WK.sub {todo : List Item} {σ' : Env} (hs : ∀ t v, find σ' t = some v → find σ t = some v) (h : WK P f n todo σ' ds w R) : WK P f n todo σ ds w R :=
  fun b a cs h1 h2 h3 => h b a cs h1 h2 (h3.sub hs)

theorem WK.mono {todo : List Item} {R' : Ending → World → Prop} (hr : ∀ e w, R e w → R' e w) (h : WK P f n todo σ ds w R) : WK P f n todo σ ds w R' :=
  fun b a cs h1 h2 h3 => let ⟨e, w', fr, r, rest⟩ := h b a cs h1 h2 h3; ⟨e, w', fr, hr _ _ r, rest⟩

/-- a piece of code that ends in its own end -/
theorem WK.code {c : Code} {k : List Item}
    (h : ∀ a, Fits n σ ds a → c.wp P (fun e a' w' => match e with | .normal => ∃ σ', Fits n σ' ds a' ∧ WK P f n k σ' ds w' R | _ => False) a w) : WK P f n (.code c :: k) σ ds w R := by
  intro b a cs h1 h2 h3
  obtain ⟨e, a', w', hq, harr⟩ := h a h3 b k cs
  cases e with
  | normal =>
    obtain ⟨σ', hf', hk⟩ := hq
    obtain ⟨e, w'', fr, r, hc, rest⟩ := hk b a' cs h1 h2 hf'
    exact ⟨e, w'', fr, r, .of_steps harr hc, rest⟩
  | _ => exact hq.elim

/-- a region in the text's order -/
theorem WK.reg {ops : Array Oper} {id : Nat} {c : Code} {k : List Item} {l : List (Nat × Kd)} (hc : c = .region id ops false) (hl : l.map (·.1) = List.range ops.size)
    (h : RW P ops n ds (fun σ' w' => WK P f n k σ' ds w' R) l σ w) : WK P f n (.code c :: k) σ ds w R := by
  subst hc
  refine WK.code fun a ha => wp_region ?_
  rw [← hl]
  exact RW.wpOps (fun a w σ hf hk => ⟨σ, hf, hk⟩) l σ w a ha h

/-- a region that draws its order -/
theorem WK.draw {ops : Array Oper} {id : Nat} {c : Code} {k : List Item} (nt : Nat) (l l' : List (Nat × Kd)) (hm : P.follows .mixedOrders = true) (hc : c = .region id ops true) (hB : drawB ops nt l = true)
    (hl : l ++ tailOf nt ops.size = l') (h : RW P ops n ds (fun σ' w' => WK P f n k σ' ds w' R) l' σ { w with drawn := w.drawn + 1 }) : WK P f n (.code c :: k) σ ds w R := by
  subst hc
  subst hl
  exact WK.code fun a ha => RW.draw (fun a w σ hf hk => ⟨σ, hf, hk⟩) hm nt l hB ha h

/-! ### Many steps that the kernel runs -/
def runOp (P : Program) (n : Nat) (ops : Array Oper) (o : Oper) (σ : Env) : Option Env :=
  match wantE ops σ o with
  | none => none
  | some false => match o.dst with
    | some d => cond (Nat.blt d n) (some ((d, undef) :: σ)) none
    | none => some σ
  | some true =>
    cond (known σ o) (match pureN P (execOp (rho σ) o) with
      | some (.value v) => match o.dst with
        | some d => cond (Nat.blt d n) (some ((d, v) :: σ)) none
        | none => some σ
      | _ => none) none

theorem put_none (a : Act) (v : Value) : a.put none v = a := rfl

theorem runOp_spec {ops : Array Oper} {o : Oper} {σ σ' : Env} (h : runOp P n ops o σ = some σ') : ∀ a, Fits n σ ds a → ∃ v, (∀ w, Stable P ops o v a w) ∧ Fits n σ' ds (a.put o.dst v) := by
  intro a ha
  unfold runOp at h
  have fin : ∀ v, (match o.dst with | some d => cond (Nat.blt d n) (some ((d, v) :: σ)) none | none => some σ) = some σ' → Fits n σ' ds (a.put o.dst v) := by
    intro v h
    cases hd : o.dst with
    | none => rw [hd] at h; simp only [Option.some.injEq] at h; subst h; exact ha
    | some d =>
      rw [hd] at h
      simp only at h
      cases hb : Nat.blt d n with
      | false => rw [hb] at h; simp at h
      | true =>
        rw [hb] at h
        simp only [cond_true, Option.some.injEq] at h
        subst h
        have hlt : d + 1 ≤ n := by simpa [Nat.blt] using hb
        exact ha.put (d := d) (Nat.lt_of_succ_le hlt) v
  cases hw : wantE ops σ o with
  | none => rw [hw] at h; cases h
  | some b =>
    rw [hw] at h
    have hwant := wantE_spec ha hw
    cases b with
    | false => exact ⟨undef, fun w => .inr ⟨hwant, rfl⟩, fin undef h⟩
    | true =>
      simp only at h
      cases hk : known σ o with
      | false => rw [hk] at h; simp at h
      | true =>
        rw [hk] at h
        simp only [cond_true] at h
        cases hp : pureN P (execOp (rho σ) o) with
        | none => rw [hp] at h; cases h
        | some x =>
          rw [hp] at h
          cases x with
          | value v => exact ⟨v, fun w => .inl ⟨hwant, fun w' _ => by rw [execOp_rho ha hk]; exact pureN_run hp w'⟩, fin v h⟩
          | _ => simp at h

/-- so many pure operations of a region -/
def rrun (P : Program) (n : Nat) (ops : Array Oper) : Nat → List (Nat × Kd) → Env → Option (List (Nat × Kd) × Env)
  | 0, l, σ => some (l, σ)
  | m + 1, (i, _) :: r, σ => match ops[i]? with
    | none => none
    | some o => match runOp P n ops o σ with
      | none => none
      | some σ' => rrun P n ops m r σ'
  | _ + 1, [], _ => none

theorem opK_stable {ops : Array Oper} {o : Oper} {κ : Kd} {K : Env → World → Prop} (h : ∀ a, Fits n σ ds a → ∃ v, Stable P ops o v a w ∧ ∃ σ', Fits n σ' ds (a.put o.dst v) ∧ K σ' w) : OpK P ops n ds o κ σ w K := by
  intro a ha
  obtain ⟨v, hs, σ', hf, hk⟩ := h a ha
  cases κ with
  | seq => exact hs.ow ⟨σ', hf, hk⟩
  | chn => exact hs.ow ⟨Ext.refl w, σ', hf, hk⟩
  | qui => exact ⟨v, hs, σ', hf, hk⟩

theorem rrun_spec {ops : Array Oper} {K : Env → World → Prop} : ∀ (m : Nat) (l l' : List (Nat × Kd)) (σ σ' : Env), rrun P n ops m l σ = some (l', σ') → RW P ops n ds K l' σ' w → RW P ops n ds K l σ w
  | 0, l, l', σ, σ', h, hk => by simp only [rrun, Option.some.injEq, Prod.mk.injEq] at h; obtain ⟨rfl, rfl⟩ := h; exact hk
  | m + 1, [], l', σ, σ', h, hk => by simp [rrun] at h
  | m + 1, (i, κ) :: r, l', σ, σ', h, hk => by
    simp only [rrun] at h
    cases ho : ops[i]? with
    | none => rw [ho] at h; cases h
    | some o =>
      rw [ho] at h
      simp only at h
      cases hr : runOp P n ops o σ with
      | none => rw [hr] at h; cases h
      | some σ1 =>
        rw [hr] at h
        refine ⟨o, ho, opK_stable fun a ha => ?_⟩
        obtain ⟨v, hs, hf⟩ := runOp_spec (ds := ds) hr a ha
        exact ⟨v, hs w, σ1, hf, rrun_spec m r l' σ1 σ' h hk⟩

theorem RW.sub {ops : Array Oper} {K : Env → World → Prop} {l : List (Nat × Kd)} {σ' : Env} (hl : l ≠ []) (hs : ∀ t v, find σ' t = some v → find σ t = some v) (h : RW P ops n ds K l σ' w) : RW P ops n ds K l σ w := by
  cases l with
  | nil => exact absurd rfl hl
  | cons x r =>
    obtain ⟨i, κ⟩ := x
    obtain ⟨o, ho, h⟩ := h
    exact ⟨o, ho, fun a ha => h a (ha.sub hs)⟩

theorem RW.run {ops : Array Oper} {K : Env → World → Prop} {l : List (Nat × Kd)} (m : Nat) (l' : List (Nat × Kd)) (σ' : Env) (h : rrun P n ops m l σ = some (l', σ')) (hk : RW P ops n ds K l' σ' w) : RW P ops n ds K l σ w :=
  rrun_spec m l l' σ σ' h hk

/-- .. of which only some slots are kept -/
theorem RW.runP {ops : Array Oper} {K : Env → World → Prop} {l : List (Nat × Kd)} (m : Nat) (live : List Nat) (l' : List (Nat × Kd)) (σ' : Env) (h : (rrun P n ops m l σ).map (fun x => (x.1, pick live x.2)) = some (l', σ')) (hl : l'.isEmpty = false) (hk : RW P ops n ds K l' σ' w) : RW P ops n ds K l σ w := by
  cases hr : rrun P n ops m l σ with
  | none => rw [hr] at h; cases h
  | some x =>
    obtain ⟨l1, σ1⟩ := x
    rw [hr] at h
    simp only [Option.map_some, Option.some.injEq, Prod.mk.injEq] at h
    obtain ⟨rfl, rfl⟩ := h
    exact rrun_spec m l l1 σ σ1 hr (RW.sub (by intro e; subst e; cases hl) (pick_find σ1 live) hk)

/-- all the rest of a region is pure; then only some slots are kept -/
theorem RW.fin {ops : Array Oper} {k : List Item} {l : List (Nat × Kd)} (m : Nat) (live : List Nat) (σ' : Env) (h : (rrun P n ops m l σ).map (fun x => (x.1, pick live x.2)) = some ([], σ')) (hk : WK P f n k σ' ds w R) :
    RW P ops n ds (fun σ' w' => WK P f n k σ' ds w' R) l σ w := by
  cases hr : rrun P n ops m l σ with
  | none => rw [hr] at h; cases h
  | some x =>
    obtain ⟨l1, σ1⟩ := x
    rw [hr] at h
    simp only [Option.map_some, Option.some.injEq, Prod.mk.injEq] at h
    obtain ⟨rfl, rfl⟩ := h
    exact rrun_spec m l [] σ σ1 hr (WK.sub (pick_find σ1 live) hk)

def step1 (P : Program) (n : Nat) : List Item → Env → Option (List Item × Env)
  | .code .skip :: k, σ => some (k, σ)
  | .code (.label _) :: k, σ => some (k, σ)
  | .inBlock _ :: k, σ => some (k, σ)
  | .inScope _ :: k, σ => some (k, σ)
  | .code (.seq a b) :: k, σ => some (.code a :: .code b :: k, σ)
  | .code (.cond c x y) :: k, σ => match ev σ c with
    | some (.bool true) => some (.code x :: k, σ)
    | some (.bool false) => some (.code y :: k, σ)
    | _ => none
  | .code (.block id c) :: k, σ => some (.code c :: .inBlock id :: k, σ)
  | .code (.scope c) :: k, σ => some (.code c :: .inScope c :: k, σ)
  | .code (.exit id) :: k, σ => match exitTo id k with
    | some k' => some (k', σ)
    | none => none
  | .code (.region _ ops false) :: k, σ => match rrun P n ops ops.toList.length ((List.range ops.toList.length).map (·, Kd.seq)) σ with
    | some ([], σ') => some (k, σ')
    | _ => none
  | _, _ => none

theorem step_scope {b : Frame} {a : Act} {k : List Item} {cs : List Frame} {c : Code} :
    step P (lone (b.at a (.code (.scope c) :: k)) cs w) = .next (lone (b.at a (.code c :: .inScope c :: k)) cs w) :=
  step_lone_go (by simp [stepG, stepG.exec, Frame.at])
theorem step_inScope {b : Frame} {a : Act} {k : List Item} {cs : List Frame} {c : Code} :
    step P (lone (b.at a (.inScope c :: k)) cs w) = .next (lone (b.at a k) cs w) :=
  step_lone_go (by simp [stepG, stepG.exec, Frame.at])

theorem step1_spec {todo todo' : List Item} {σ' : Env} (h : step1 P n todo σ = some (todo', σ')) (hk : WK P f n todo' σ' ds w R) : WK P f n todo σ ds w R := by
  have one : ∀ {t t' : List Item}, (∀ (b : Frame) (a : Act) (cs : List Frame), Fits n σ ds a → step P (lone (b.at a t) cs w) = .next (lone (b.at a t') cs w)) → WK P f n t' σ ds w R → WK P f n t σ ds w R :=
    fun hs hk => WK.steps (fun b a cs _ _ hf => ⟨a, hf, .one (hs b a cs hf)⟩) hk
  unfold step1 at h
  split at h
  case h_10 k' _ ops k =>
    split at h
    · rename_i σ1 hr
      simp only [Option.some.injEq, Prod.mk.injEq] at h
      obtain ⟨rfl, rfl⟩ := h
      refine WK.reg (l := (List.range ops.toList.length).map (·, Kd.seq)) rfl (by simp [List.map_map, Function.comp_def]) ?_
      exact rrun_spec _ _ _ _ _ hr hk
    · cases h
  all_goals try (simp only [Option.some.injEq, Prod.mk.injEq] at h; obtain ⟨rfl, rfl⟩ := h)
  · exact one (fun b a cs _ => step_skip) hk
  · exact one (fun b a cs _ => step_label) hk
  · exact one (fun b a cs _ => step_inBlock) hk
  · exact one (fun b a cs _ => step_inScope) hk
  · exact one (fun b a cs _ => step_seq) hk
  · split at h
    · rename_i hc
      simp only [Option.some.injEq, Prod.mk.injEq] at h
      obtain ⟨rfl, rfl⟩ := h
      refine one (fun b a cs hf => ?_) hk
      rw [step_cond (eval_rho hf hc), if_pos rfl]
    · rename_i hc
      simp only [Option.some.injEq, Prod.mk.injEq] at h
      obtain ⟨rfl, rfl⟩ := h
      refine one (fun b a cs hf => ?_) hk
      rw [step_cond (eval_rho hf hc), if_neg (by simp)]
    · cases h
  · exact one (fun b a cs _ => step_block) hk
  · exact one (fun b a cs _ => step_scope) hk
  · split at h
    · rename_i hx
      simp only [Option.some.injEq, Prod.mk.injEq] at h
      obtain ⟨rfl, rfl⟩ := h
      exact one (fun b a cs _ => step_exit hx) hk
    · cases h
  · cases h

def mrun (P : Program) (n : Nat) : Nat → List Item → Env → Option (List Item × Env)
  | 0, k, σ => some (k, σ)
  | m + 1, k, σ => match step1 P n k σ with
    | some (k', σ') => mrun P n m k' σ'
    | none => none

theorem steps_spec : ∀ (m : Nat) {todo todo' : List Item} {σ σ' : Env}, mrun P n m todo σ = some (todo', σ') → WK P f n todo' σ' ds w R → WK P f n todo σ ds w R
  | 0, _, _, _, _, h, hk => by simp only [mrun, Option.some.injEq, Prod.mk.injEq] at h; obtain ⟨rfl, rfl⟩ := h; exact hk
  | m + 1, todo, todo', σ, σ', h, hk => by
    simp only [mrun] at h
    cases hs : step1 P n todo σ with
    | none => rw [hs] at h; cases h
    | some x =>
      obtain ⟨k', σ1⟩ := x
      rw [hs] at h
      exact step1_spec hs (steps_spec m h hk)

/-- so many steps of the machine that need nothing of the world; then only some slots are kept -/
theorem WK.run {todo : List Item} (m : Nat) (live : List Nat) (todo' : List Item) (σ' : Env) (h : (mrun P n m todo σ).map (fun x => (x.1, pick live x.2)) = some (todo', σ')) (hk : WK P f n todo' σ' ds w R) : WK P f n todo σ ds w R := by
  cases hr : mrun P n m todo σ with
  | none => rw [hr] at h; cases h
  | some x =>
    obtain ⟨k1, σ1⟩ := x
    rw [hr] at h
    simp only [Option.map_some, Option.some.injEq, Prod.mk.injEq] at h
    obtain ⟨rfl, rfl⟩ := h
    exact steps_spec m hr (WK.sub (pick_find σ1 live) hk)

/-! ### Tests -/
theorem WK.test {todo : List Item} (F : Bool → Env) (b : Bool) (ht : b = true → WK P f n todo (F true) ds w R) (hf : b = false → WK P f n todo (F false) ds w R) : WK P f n todo (F b) ds w R := by
  cases b
  · exact hf rfl
  · exact ht rfl
theorem RW.test {ops : Array Oper} {K : Env → World → Prop} {l : List (Nat × Kd)} (F : Bool → Env) (b : Bool) (ht : b = true → RW P ops n ds K l (F true) w) (hf : b = false → RW P ops n ds K l (F false) w) : RW P ops n ds K l (F b) w := by
  cases b
  · exact hf rfl
  · exact ht rfl

/-! ### Loops -/
theorem WK.loop {α : Type} {b : Code} {c : Code} {k : List Item} (hc : c = .loop b) (st : α → Env) (I : α → World → Prop) (μ : α → Nat) (x0 : α) (h0 : I x0 w) (hσ : st x0 = σ)
    (hstep : ∀ x w, I x w → (∀ x' w', I x' w' → μ x' < μ x → WK P f n (.inLoop b :: k) (st x') ds w' R) → WK P f n (.code b :: .inLoop b :: k) (st x) ds w R) :
    WK P f n (.code c :: k) σ ds w R := by
  subst hσ
  subst hc
  have all : ∀ m x w, I x w → μ x = m → WK P f n (.code b :: .inLoop b :: k) (st x) ds w R := by
    intro m
    induction m using Nat.strongRecOn with
    | _ m ih =>
      intro x w hI hm
      refine hstep x w hI fun x' w' hI' hlt => ?_
      exact WK.steps (fun b a cs _ _ hf => ⟨a, hf, .one step_inLoop⟩) (ih (μ x') (by omega) x' w' hI' rfl)
  exact WK.steps (fun b a cs _ _ hf => ⟨a, hf, .one step_loop⟩) (all (μ x0) x0 w h0 rfl)

theorem WK.back {todo : List Item} {σ' : Env} (h : WK P f n todo σ' ds w R) (hσ : σ' = σ) : WK P f n todo σ ds w R := hσ ▸ h

/-! ### The end -/
def resV (σ : Env) (l : Array ResultVar) : Option Value :=
  match l.toList with
  | [] => some (.tuple #[])
  | [.tmp t] => find σ t
  | [.tmp t, .tmp u] => (find σ t).bind fun a => (find σ u).map fun b => .tuple #[a, b]
  | [.tmp t, .tmp u, .tmp v] => (find σ t).bind fun a => (find σ u).bind fun b => (find σ v).map fun c => .tuple #[a, b, c]
  | [.tmp t, .tmp u, .tmp v, .tmp x] => (find σ t).bind fun a => (find σ u).bind fun b => (find σ v).bind fun c => (find σ x).map fun d => .tuple #[a, b, c, d]
  | _ => none

theorem getD_of {a : Act} (h : Fits n σ ds a) {t : Nat} {v : Value} (hv : find σ t = some v) : a.tmps.getD t undef = v := by
  have := h.vals t v hv
  simp [this]

theorem resV_run {fn : Func} {a : Act} {v : Value} (h : Fits n σ ds a) (hv : resV σ fn.results = some v) : (results fn a.tmps).run P w = .ok v w := by
  obtain ⟨l, hl⟩ : ∃ l, fn.results = l := ⟨_, rfl⟩
  rw [hl] at hv
  obtain ⟨l⟩ := l
  unfold resV at hv
  simp only at hv
  split at hv
  · simp only [Option.some.injEq] at hv; subst hv
    exact results_none hl _ _ _
  · rename_i t
    rw [results_tmp hl, getD_of h hv]
  · rename_i t u
    simp only [Option.bind_eq_some_iff, Option.map_eq_some_iff] at hv
    obtain ⟨x, hx, y, hy, rfl⟩ := hv
    rw [results_tmp2 hl, getD_of h hx, getD_of h hy]
  · rename_i t u x
    simp only [Option.bind_eq_some_iff, Option.map_eq_some_iff] at hv
    obtain ⟨a1, h1, a2, h2, a3, h3, rfl⟩ := hv
    simp [results, hl, h.vals _ _ h1, h.vals _ _ h2, h.vals _ _ h3]
  · rename_i t u x y
    simp only [Option.bind_eq_some_iff, Option.map_eq_some_iff] at hv
    obtain ⟨a1, h1, a2, h2, a3, h3, a4, h4, rfl⟩ := hv
    simp [results, hl, h.vals _ _ h1, h.vals _ _ h2, h.vals _ _ h3, h.vals _ _ h4]
  · cases hv

theorem leaves {fn : Func} {b : Frame} {a : Act} {todo : List Item} {v : Value} (hf : P.funcs[f]? = some fn) (hb : b.fn = f) (hk : b.kind = .normal) (hd : a.defers = [])
    (hr : (results fn a.tmps).run P w = .ok v w) : ({ b.at a todo with mode := .returning } : Frame).leaving P w (.returned v) := by
  refine ⟨rfl, hd, hk, fn, ?_, hr⟩
  simp only [Frame.at]; rw [hb]; exact hf

theorem WK.retBy {fn : Func} {c : Code} {k : List Item} {v : Value} (hf : P.funcs[f]? = some fn) (hc : c = .ret) (hr : ∀ a, Fits n σ [] a → (results fn a.tmps).run P w = .ok v w) (h : R (.returned v) w) :
    WK P f n (.code c :: k) σ [] w R := by
  subst hc
  intro b a cs h1 h2 h3
  exact ⟨.returned v, w, _, h, (.one step_ret : Steps P _ _), h1, leaves hf h1 h2 h3.defers (hr a h3)⟩
theorem WK.endBy {fn : Func} {v : Value} (hf : P.funcs[f]? = some fn) (hr : ∀ a, Fits n σ [] a → (results fn a.tmps).run P w = .ok v w) (h : R (.returned v) w) :
    WK P f n [] σ [] w R := by
  intro b a cs h1 h2 h3
  exact ⟨.returned v, w, _, h, (.one step_end : Steps P _ _), h1, leaves hf h1 h2 h3.defers (hr a h3)⟩

theorem WK.ret {fn : Func} {c : Code} {k : List Item} {v : Value} (hf : P.funcs[f]? = some fn) (hc : c = .ret) (hr : resV σ fn.results = some v) (h : R (.returned v) w) :
    WK P f n (.code c :: k) σ [] w R := WK.retBy hf hc (fun _ ha => resV_run ha hr) h
theorem WK.fin {fn : Func} {v : Value} (hf : P.funcs[f]? = some fn) (hr : resV σ fn.results = some v) (h : R (.returned v) w) :
    WK P f n [] σ [] w R := WK.endBy hf (fun _ ha => resV_run ha hr) h

/-! ### Places in a function's code -/
def sub : Code → List Nat → Code
  | c, [] => c
  | .seq a _, 0 :: p => sub a p
  | .seq _ b, 1 :: p => sub b p
  | .seq _ b, (k + 2) :: p => sub b ((k + 1) :: p)
  | .cond _ a _, 0 :: p => sub a p
  | .cond _ _ b, 1 :: p => sub b p
  | .block _ b, 0 :: p => sub b p
  | .loop b, 0 :: p => sub b p
  | .scope b, 0 :: p => sub b p
  | _, _ => .skip
def cd (P : Program) (f : Nat) (p : List Nat) : Code := match P.funcs[f]? with
  | some fn => match fn.body with
    | some c => sub c p
    | none => .skip
  | none => .skip
def opsOf : Code → Array Oper
  | .region _ ops _ => ops
  | _ => #[]
def idOf : Code → Nat
  | .region id _ _ => id
  | _ => 0
def sq (a b : Nat) : List (Nat × Kd) := (List.range' a (b - a)).map (·, Kd.seq)

theorem WK.reg1 {c : Code} {k : List Item} {l : List (Nat × Kd)} (hc : c = .region (idOf c) (opsOf c) false) (hl : l.map (·.1) = List.range (opsOf c).size)
    (h : RW P (opsOf c) n ds (fun σ' w' => WK P f n k σ' ds w' R) l σ w) : WK P f n (.code c :: k) σ ds w R := WK.reg hc hl h
theorem WK.draw1 {c : Code} {k : List Item} (nt : Nat) (l l' : List (Nat × Kd)) (hm : P.follows .mixedOrders = true) (hc : c = .region (idOf c) (opsOf c) true) (hB : drawB (opsOf c) nt l = true)
    (hl : l ++ tailOf nt (opsOf c).size = l') (h : RW P (opsOf c) n ds (fun σ' w' => WK P f n k σ' ds w' R) l' σ { w with drawn := w.drawn + 1 }) : WK P f n (.code c :: k) σ ds w R :=
  WK.draw nt l l' hm hc hB hl h

/-- a test whose outcome is not known -/
theorem WK.cond {c x y : Code} {o : Operand} {k : List Item} {b : Bool} (hc : c = .cond o x y) (hb : ev σ o = some (.bool b)) (ht : b = true → WK P f n (.code x :: k) σ ds w R) (hf : b = false → WK P f n (.code y :: k) σ ds w R) :
    WK P f n (.code c :: k) σ ds w R := by
  subst hc
  cases b
  · exact WK.steps (fun _ a cs _ _ h => ⟨a, h, .one (by rw [step_cond (eval_rho h hb), if_neg (by simp)])⟩) (hf rfl)
  · exact WK.steps (fun _ a cs _ _ h => ⟨a, h, .one (by rw [step_cond (eval_rho h hb), if_pos rfl])⟩) (ht rfl)
def condOf : Code → Operand
  | .cond c _ _ => c
  | _ => .const undef
/-- .. at a place in the code -/
theorem WK.cond1 {g : Nat} {p : List Nat} {k : List Item} (b : Bool) (hc : cd P g p = .cond (condOf (cd P g p)) (cd P g (p ++ [0])) (cd P g (p ++ [1]))) (hb : ev σ (condOf (cd P g p)) = some (.bool b))
    (ht : b = true → WK P f n (.code (cd P g (p ++ [0])) :: k) σ ds w R) (hf : b = false → WK P f n (.code (cd P g (p ++ [1])) :: k) σ ds w R) :
    WK P f n (.code (cd P g p) :: k) σ ds w R := WK.cond hc hb ht hf

/-- the whole call -/
theorem WK.calls1 {fn : Func} {args : Array Value} (hf : P.funcs[f]? = some fn) (hn : fn.ntmps = n) (hb : fn.body = some (cd P f [])) (ha : Nat.ble args.toList.length n = true)
    (hσ : σ = ((List.range args.toList.length).zip args.toList)) (h : WK P f n [.code (cd P f [])] σ [] w R) : Calls P f args w R := by
  subst hn
  have hle := Nat.le_of_ble_eq_true ha
  refine WK.calls hf hb (by simpa using hle) (fun t v hv => ?_) h
  subst hσ
  have key : ∀ (l : List Value) (s t : Nat) (v : Value), find ((List.range' s l.length).zip l) t = some v → ∃ j, t = s + j ∧ l[j]? = some v := by
    intro l
    induction l with
    | nil => intro s t v h; simp [find] at h
    | cons x l ih =>
      intro s t v h
      simp only [List.length_cons, List.range'_succ, List.zip_cons_cons, find_cons] at h
      split at h
      · rename_i e; exact ⟨0, by omega, by simpa using h⟩
      · obtain ⟨j, hj, hl⟩ := ih (s + 1) t v h
        exact ⟨j + 1, by omega, by simpa using hl⟩
  rw [List.range_eq_range'] at hv
  obtain ⟨j, hj, hl⟩ := key args.toList 0 t v hv
  have : t = j := by omega
  subst this
  simpa using hl
end
end Go.BX
