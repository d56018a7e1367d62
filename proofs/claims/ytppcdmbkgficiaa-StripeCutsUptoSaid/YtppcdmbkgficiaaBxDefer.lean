/-
  THE ENGINE's DEFERRED CALLS: a call that is put off, and made when the function returns; it turns nothing.
  No condition.
-/
import Derived.Test.YtppcdmbkgficiaaBxOps
import Derived.Defers
import Derived.Recover
namespace Go.BX

section
variable {P : Program} {f : FuncId} {n : Nat} {σ : Env} {ds ds' : List Deferred} {w : World} {R : Ending → World → Prop}

theorem WK.codeD {c : Code} {k : List Item}
    (h : ∀ a, Fits n σ ds a → c.wp P (fun e a' w' => match e with | .normal => ∃ σ', Fits n σ' ds' a' ∧ WK P f n k σ' ds' w' R | _ => False) a w) : WK P f n (.code c :: k) σ ds w R := by
  intro b a cs h1 h2 h3
  obtain ⟨e, a', w', hq, harr⟩ := h a h3 b k cs
  cases e with
  | normal =>
    obtain ⟨σ', hf', hk⟩ := hq
    obtain ⟨e, w'', fr, r, hc, rest⟩ := hk b a' cs h1 h2 hf'
    exact ⟨e, w'', fr, r, .of_steps harr hc, rest⟩
  | _ => exact hq.elim

def deferE (P : Program) : Sem Next → Option Deferred
  | .pure (.defer d) => some d
  | .program k => deferE P (k P)
  | _ => none

theorem deferE_run : ∀ {s : Sem Next} {d : Deferred}, deferE P s = some d → ∀ w, s.run P w = .ok (.defer d) w := by
  intro s
  induction s with
  | pure a => intro d h w; cases a <;> simp [deferE] at h; subst h; rfl
  | program k ih => intro d h w; simp only [deferE] at h; simp only [Sem.run]; exact ih P h w
  | _ => intro d h; simp [deferE] at h

def op1 (c : Code) : Oper := match (opsOf c).toList with
  | o :: _ => o
  | [] => default
/-- 'defer' -/
theorem WK.defer1 {c : Code} {k : List Item} {o : Oper} (d : Deferred) (hc : c = .region (idOf c) #[o] false) (hg : o.guard = none) (hd : o.dst = none) (hk : known σ o = true) (hp : deferE P (execOp (rho σ) o) = some d)
    (h : WK P f n k σ (d :: ds) w R) : WK P f n (.code c :: k) σ ds w R := by
  rw [hc]
  refine WK.codeD (ds' := d :: ds) fun a ha => wp_region ?_
  show wpOps P #[o] _ [0] a w
  rw [wpOps_cons]
  refine OW.wpOp (o := o) rfl ?_
  unfold OW
  have hw : Region.wanted o (yielded #[o] a.tmps) = true := by simp [Region.wanted, hg]
  rw [if_pos hw]
  unfold Oper.wp
  rw [execOp_rho ha hk, deferE_run hp]
  simp only [Oper.upon]
  exact ⟨σ, ⟨by simp [Act.put, hd, ha.size], by simp [Act.put, hd, ha.defers], fun t v hv => by simpa [Act.put, hd] using ha.vals t v hv⟩, h⟩

/-- a deferred call that turns nothing -/
def Idle (P : Program) (d : Deferred) : Prop := ∃ fv cap g args, d.target = .fn fv cap ∧ (∀ w, (invoke d.target d.args).run P w = .ok (.enter g args) w) ∧
  ∀ w, CallsD P g args .returning w (fun e u' w' => e = .returned (.tuple #[]) ∧ u' = .returning ∧ w' = w)

theorem Idle.leaves {fn : Func} {tmps : Array Value} {d : Deferred} {v : Value} (hi : Idle P d) (hr : (results fn tmps).run P w = .ok v w) (h : R (.returned v) w) : Leaves P fn tmps R [d] .returning w := by
  obtain ⟨fv, cap, g, args, h1, h2, h3⟩ := hi
  refine ⟨by simp, fv, cap, g, args, h1, h2 w, (h3 w).mono ?_⟩
  rintro e u' w' ⟨rfl, rfl, rfl⟩
  exact ⟨v, hr, h⟩

theorem WK.retD {fn : Func} {c : Code} {k : List Item} {v : Value} {d : Deferred} (hf : P.funcs[f]? = some fn) (hc : c = .ret) (hi : Idle P d) (hr : ∀ a, Fits n σ [d] a → (results fn a.tmps).run P w = .ok v w) (h : R (.returned v) w) :
    WK P f n (.code c :: k) σ [d] w R := by
  subst hc
  intro b a cs h1 h2 h3
  obtain ⟨e, w', fr', hR, hs, hfn, hl⟩ := leaves_steps [d] .returning w { b.at a (.code .ret :: k) with mode := .returning } cs rfl h3.defers rfl (by simp only [Frame.at]; rw [h1]; exact hf) h2 (hi.leaves (hr a h3) h)
  exact ⟨e, w', fr', hR, .of_steps (.one step_ret) hs, hfn.trans h1, hl⟩
theorem WK.endD {fn : Func} {v : Value} {d : Deferred} (hf : P.funcs[f]? = some fn) (hi : Idle P d) (hr : ∀ a, Fits n σ [d] a → (results fn a.tmps).run P w = .ok v w) (h : R (.returned v) w) :
    WK P f n [] σ [d] w R := by
  intro b a cs h1 h2 h3
  obtain ⟨e, w', fr', hR, hs, hfn, hl⟩ := leaves_steps [d] .returning w { b.at a [] with mode := .returning } cs rfl h3.defers rfl (by simp only [Frame.at]; rw [h1]; exact hf) h2 (hi.leaves (hr a h3) h)
  exact ⟨e, w', fr', hR, .of_steps (.one step_end) hs, hfn.trans h1, hl⟩
end
end Go.BX
