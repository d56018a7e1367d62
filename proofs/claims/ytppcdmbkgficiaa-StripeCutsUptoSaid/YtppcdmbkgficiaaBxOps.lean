/-
  THE ENGINE's OPERATIONS: what one operation of a region does to the environment and to 'Hp'.
  No condition.
-/
import Derived.Test.YtppcdmbkgficiaaBxHeap
import Derived.Laws.CopyOwn
namespace Go.BX
open Go.RowKit (Below)

def putO (d : Option Tmp) (v : Value) (σ : Env) : Env := match d with
  | some d => (d, v) :: σ
  | none => σ

/-- the next operation, with its operands read: what it is to run, where its value goes, what is left -/
def look (_P : Program) (n : Nat) (ops : Array Oper) (l : List (Nat × Kd)) (σ : Env) : Option (Kd × Sem Next × Option Tmp × List (Nat × Kd)) :=
  match l with
  | [] => none
  | (i, κ) :: r => match ops[i]? with
    | none => none
    | some o => match wantE ops σ o with
      | some true => cond (known σ o && (match o.dst with | some d => Nat.blt d n | none => true)) (some (κ, execOp (rho σ) o, o.dst, r)) none
      | _ => none

/-- .. a call of a Go function -/
def lookC (P : Program) (n : Nat) (ops : Array Oper) (l : List (Nat × Kd)) (σ : Env) : Option (Kd × FuncId × Array Value × Option Tmp × List (Nat × Kd)) :=
  match look P n ops l σ with
  | some (κ, s, d, r) => match pureN P s with
    | some (.enter g args) => some (κ, g, args, d, r)
    | _ => none
  | none => none

/-- a program that makes one block and is pure besides -/
def newAt (P : Program) (b : Nat) : Sem Next → Option (Obj × Value)
  | .program k => newAt P b (k P)
  | .mark _ k => newAt P b k
  | .new o k => match pureN P (k b) with
    | some (.value v) => some (o, v)
    | _ => none
  | _ => none

def lookM (P : Program) (n : Nat) (ops : Array Oper) (l : List (Nat × Kd)) (σ : Env) (b : Nat) : Option (Kd × Obj × Value × Option Tmp × List (Nat × Kd)) :=
  match look P n ops l σ with
  | some (κ, s, d, r) => match newAt P b s with
    | some (o, v) => some (κ, o, v, d, r)
    | none => none
  | none => none

def semV (s : Sem Value) : Sem Next := do pure (.value (← s))
def semU (s : Sem Unit) : Sem Next := do s; pure .skip

theorem semV_run {P : Program} {s : Sem Value} {w w' : World} {v : Value} (h : s.run P w = .ok v w') : (semV s).run P w = .ok (.value v) w' := by
  simp [semV, h]
theorem semU_run {P : Program} {s : Sem Unit} {w w' : World} (h : s.run P w = .ok () w') : (semU s).run P w = .ok .skip w' := by
  simp [semU, h]

section
variable {P : Program} {n : Nat} {ds : List Deferred} {ops : Array Oper} {K : Env → World → Prop} {l r : List (Nat × Kd)} {σ : Env} {w w1 : World} {κ : Kd} {d : Option Tmp}

theorem putO_fits {a : Act} (hf : Fits n σ ds a) (v : Value) (hd : (match d with | some d => Nat.blt d n | none => true) = true) : Fits n (putO d v σ) ds (a.put d v) := by
  cases d with
  | none => exact hf
  | some d =>
    have hlt : d + 1 ≤ n := by simpa [Nat.blt] using hd
    exact hf.put (d := d) (Nat.lt_of_succ_le hlt) v

theorem look_spec {s : Sem Next} (h : look P n ops l σ = some (κ, s, d, r)) : ∃ i o, l = (i, κ) :: r ∧ ops[i]? = some o ∧ o.dst = d ∧
    (∀ a, Fits n σ ds a → Region.wanted o (yielded ops a.tmps) = true ∧ execOp a.eval o = s ∧ ∀ v, Fits n (putO d v σ) ds (a.put o.dst v)) := by
  unfold look at h
  cases l with
  | nil => cases h
  | cons x r' =>
    obtain ⟨i, κ'⟩ := x
    simp only at h
    cases ho : ops[i]? with
    | none => rw [ho] at h; cases h
    | some o =>
      rw [ho] at h
      simp only at h
      cases hw : wantE ops σ o with
      | none => rw [hw] at h; cases h
      | some b =>
        rw [hw] at h
        cases b with
        | false => cases h
        | true =>
          simp only at h
          cases hk : known σ o && (match o.dst with | some d => Nat.blt d n | none => true) with
          | false => rw [hk] at h; cases h
          | true =>
            rw [hk] at h
            simp only [cond_true, Option.some.injEq, Prod.mk.injEq] at h
            obtain ⟨rfl, rfl, rfl, rfl⟩ := h
            rw [Bool.and_eq_true] at hk
            exact ⟨i, o, rfl, ho, rfl, fun a ha => ⟨wantE_spec ha hw, execOp_rho ha hk.1, fun v => putO_fits ha v hk.2⟩⟩

theorem OW.intro {o : Oper} {a : Act} {K : Act → World → Prop} (hw : Region.wanted o (yielded ops a.tmps) = true) (h : o.wp P a w K (fun _ _ _ => False)) : OW P ops o a w K := by
  unfold OW; rw [if_pos hw]; exact h
theorem wp_value {o : Oper} {a : Act} {K : Act → World → Prop} {v : Value} (hs : (execOp a.eval o).run P w = .ok (.value v) w1) (h : K (a.put o.dst v) w1) : o.wp P a w K (fun _ _ _ => False) := by
  simp only [Oper.wp, hs, Oper.upon]; exact h
theorem wp_skip' {o : Oper} {a : Act} {K : Act → World → Prop} (hs : (execOp a.eval o).run P w = .ok .skip w1) (h : K (a.put o.dst undef) w1) : o.wp P a w K (fun _ _ _ => False) := by
  simp only [Oper.wp, hs, Oper.upon]; exact h
theorem wp_enter {o : Oper} {a : Act} {K : Act → World → Prop} {g : FuncId} {args : Array Value} (hs : (execOp a.eval o).run P w = .ok (.enter g args) w1)
    (h : Calls P g args w1 fun e w' => ∃ v, e = .returned v ∧ K (a.put o.dst v) w') : o.wp P a w K (fun _ _ _ => False) := by
  simp only [Oper.wp, hs, Oper.upon]
  exact h.mono fun e w' ⟨v, he, hk⟩ => by subst he; exact hk

/-- an operation that only reads: the same in every later world -/
theorem RW.readS {s : Sem Next} {v : Value} (hl : look P n ops l σ = some (κ, s, d, r)) (hs : ∀ w', Ext w w' → s.run P w' = .ok (.value v) w') (hk : RW P ops n ds K r (putO d v σ) w) : RW P ops n ds K l σ w := by
  obtain ⟨i, o, rfl, ho, hd, h⟩ := look_spec (ds := ds) hl
  refine ⟨o, ho, opK_stable fun a ha => ?_⟩
  obtain ⟨hw, he, hf⟩ := h a ha
  exact ⟨v, .inl ⟨hw, fun w' h' => by rw [he]; exact hs w' h'⟩, _, hf v, hk⟩

/-- an operation that makes memory and leaves what was there alone -/
theorem RW.makeS {s : Sem Next} {v : Value} (hl : look P n ops l σ = some (κ, s, d, r)) (hκ : κ ≠ .qui) (hs : s.run P w = .ok (.value v) w1) (he : Ext w w1) (hk : RW P ops n ds K r (putO d v σ) w1) : RW P ops n ds K l σ w := by
  obtain ⟨i, o, rfl, ho, hd, h⟩ := look_spec (ds := ds) hl
  refine ⟨o, ho, fun a ha => ?_⟩
  obtain ⟨hw, hx, hf⟩ := h a ha
  cases κ with
  | seq => exact OW.intro hw (wp_value (by rw [hx]; exact hs) ⟨_, hf v, hk⟩)
  | chn => exact OW.intro hw (wp_value (by rw [hx]; exact hs) ⟨he, _, hf v, hk⟩)
  | qui => exact absurd rfl hκ

/-- an operation in the text's order, whatever it does -/
theorem RW.actV {s : Sem Next} {v : Value} (hl : look P n ops l σ = some (.seq, s, d, r)) (hs : s.run P w = .ok (.value v) w1) (hk : RW P ops n ds K r (putO d v σ) w1) : RW P ops n ds K l σ w := by
  obtain ⟨i, o, rfl, ho, hd, h⟩ := look_spec (ds := ds) hl
  refine ⟨o, ho, fun a ha => ?_⟩
  obtain ⟨hw, hx, hf⟩ := h a ha
  exact OW.intro hw (wp_value (by rw [hx]; exact hs) ⟨_, hf v, hk⟩)
theorem RW.actU {s : Sem Next} (hl : look P n ops l σ = some (.seq, s, d, r)) (hs : s.run P w = .ok .skip w1) (hk : RW P ops n ds K r (putO d undef σ) w1) : RW P ops n ds K l σ w := by
  obtain ⟨i, o, rfl, ho, hd, h⟩ := look_spec (ds := ds) hl
  refine ⟨o, ho, fun a ha => ?_⟩
  obtain ⟨hw, hx, hf⟩ := h a ha
  exact OW.intro hw (wp_skip' (by rw [hx]; exact hs) ⟨_, hf undef, hk⟩)

/-! ### Calls -/
/-- how a contract ends: the call returns -/
def Ret (φ : Value → World → Prop) : Ending → World → Prop := fun e w' => ∃ v, e = .returned v ∧ φ v w'

theorem lookC_spec {g : FuncId} {args : Array Value} (h : lookC P n ops l σ = some (κ, g, args, d, r)) : ∃ s, look P n ops l σ = some (κ, s, d, r) ∧ ∀ w, s.run P w = .ok (.enter g args) w := by
  unfold lookC at h
  cases hl : look P n ops l σ with
  | none => rw [hl] at h; cases h
  | some x =>
    obtain ⟨κ', s, d', r'⟩ := x
    rw [hl] at h
    simp only at h
    cases hp : pureN P s with
    | none => rw [hp] at h; cases h
    | some y =>
      rw [hp] at h
      cases y <;> simp only [reduceCtorEq, Option.some.injEq, Prod.mk.injEq] at h
      obtain ⟨rfl, rfl, rfl, rfl, rfl⟩ := h
      exact ⟨s, rfl, pureN_run hp⟩

theorem RW.call {g : FuncId} {args : Array Value} {φ : Value → World → Prop} (hl : lookC P n ops l σ = some (κ, g, args, d, r)) (hκ : κ ≠ .qui) (hc : Calls P g args w (Ret fun v w' => Ext w w' ∧ φ v w'))
    (hk : ∀ v w', Ext w w' → φ v w' → RW P ops n ds K r (putO d v σ) w') : RW P ops n ds K l σ w := by
  obtain ⟨s, hl, hs⟩ := lookC_spec hl
  obtain ⟨i, o, rfl, ho, hd, h⟩ := look_spec (ds := ds) hl
  refine ⟨o, ho, fun a ha => ?_⟩
  obtain ⟨hw, hx, hf⟩ := h a ha
  cases κ with
  | seq => exact OW.intro hw (wp_enter (by rw [hx]; exact hs w) (hc.mono fun e w' ⟨v, he, hE, hφ⟩ => ⟨v, he, _, hf v, hk v w' hE hφ⟩))
  | chn => exact OW.intro hw (wp_enter (by rw [hx]; exact hs w) (hc.mono fun e w' ⟨v, he, hE, hφ⟩ => ⟨v, he, hE, _, hf v, hk v w' hE hφ⟩))
  | qui => exact absurd rfl hκ

/-- a call in the text's order, of whatever contract -/
theorem RW.callS {g : FuncId} {args : Array Value} {φ : Value → World → Prop} (hl : lookC P n ops l σ = some (.seq, g, args, d, r)) (hc : Calls P g args w (Ret φ))
    (hk : ∀ v w', φ v w' → RW P ops n ds K r (putO d v σ) w') : RW P ops n ds K l σ w := by
  obtain ⟨s, hl, hs⟩ := lookC_spec hl
  obtain ⟨i, o, rfl, ho, hd, h⟩ := look_spec (ds := ds) hl
  refine ⟨o, ho, fun a ha => ?_⟩
  obtain ⟨hw, hx, hf⟩ := h a ha
  exact OW.intro hw (wp_enter (by rw [hx]; exact hs w) (hc.mono fun e w' ⟨v, he, hφ⟩ => ⟨v, he, _, hf v, hk v w' hφ⟩))

/-! ### A new block -/
theorem newAt_run {o : Obj} {v : Nat → Value} : ∀ {s : Sem Next}, (∀ b, newAt P b s = some (o, v b)) → ∀ w, s.run P w = .ok (.value (v w.heap.size)) { w with heap := w.heap.push o } := by
  intro s
  induction s with
  | program k ih => intro h w; simp only [newAt] at h; simp only [Sem.run]; exact ih P h w
  | mark m k ih => intro h w; simp only [newAt] at h; simp only [Sem.run]; exact ih h w
  | new o' k ih =>
    intro h w
    have h1 := h w.heap.size
    simp only [newAt] at h1
    cases hp : pureN P (k w.heap.size) with
    | none => rw [hp] at h1; cases h1
    | some x =>
      rw [hp] at h1
      cases x <;> simp only [reduceCtorEq, Option.some.injEq, Prod.mk.injEq] at h1
      obtain ⟨rfl, h2⟩ := h1
      simp only [Sem.run]
      rw [pureN_run hp, h2]
  | _ => intro h; have := h 0; simp [newAt] at this

theorem RW.new {w0 : World} {S : Nat → Prop} {O : List Nat} {M : Heap} {W : List OwnS} {G : List Fact} {o : Obj} {v : Nat → Value} (hl : ∀ b, lookM P n ops l σ b = some (κ, o, v b, d, r)) (hκ : κ ≠ .qui) (H : Hp w0 S O M W G w)
    (hk : ∀ b w', Hp w0 S O ((b, o) :: M) W G w' → RW P ops n ds K r (putO d (v b) σ) w') : RW P ops n ds K l σ w := by
  have h1 : ∃ s, look P n ops l σ = some (κ, s, d, r) ∧ ∀ b, newAt P b s = some (o, v b) := by
    have h0 := hl 0
    unfold lookM at h0
    cases hlk : look P n ops l σ with
    | none => rw [hlk] at h0; cases h0
    | some x =>
      obtain ⟨κ', s, d', r'⟩ := x
      rw [hlk] at h0
      simp only at h0
      have all : ∀ b, κ' = κ ∧ newAt P b s = some (o, v b) ∧ d' = d ∧ r' = r := by
        intro b
        have hb := hl b
        unfold lookM at hb
        rw [hlk] at hb
        simp only at hb
        cases hn : newAt P b s with
        | none => rw [hn] at hb; cases hb
        | some y =>
          obtain ⟨o', u⟩ := y
          rw [hn] at hb
          simp only [Option.some.injEq, Prod.mk.injEq] at hb
          obtain ⟨rfl, rfl, h3, rfl, rfl⟩ := hb
          exact ⟨rfl, by rw [h3], rfl, rfl⟩
      obtain ⟨rfl, _, rfl, rfl⟩ := all 0
      exact ⟨s, rfl, fun b => (all b).2.1⟩
  obtain ⟨s, hl, hn⟩ := h1
  exact RW.makeS hl hκ (newAt_run hn w) ⟨rfl, rfl, rfl, by simp, fun k hk => by
    show (w.heap.push o)[k]? = _
    rw [Array.getElem?_push, if_neg (by omega)]⟩ (hk _ _ (H.alloc o))

/-- .. and that it is new -/
theorem RW.newC {w0 : World} {S : Nat → Prop} {O : List Nat} {M : Heap} {W : List OwnS} {G : List Fact} {o : Obj} {v : Nat → Value} (hl : ∀ b, lookM P n ops l σ b = some (κ, o, v b, d, r)) (hκ : κ ≠ .qui) (H : Hp w0 S O M W G w)
    (hk : ∀ b w', w.heap.size ≤ b → Hp w0 S O ((b, o) :: M) W G w' → RW P ops n ds K r (putO d (v b) σ) w') : RW P ops n ds K l σ w := by
  have h1 : ∃ s, look P n ops l σ = some (κ, s, d, r) ∧ ∀ b, newAt P b s = some (o, v b) := by
    have h0 := hl 0
    unfold lookM at h0
    cases hlk : look P n ops l σ with
    | none => rw [hlk] at h0; cases h0
    | some x =>
      obtain ⟨κ', s, d', r'⟩ := x
      rw [hlk] at h0
      simp only at h0
      have all : ∀ b, κ' = κ ∧ newAt P b s = some (o, v b) ∧ d' = d ∧ r' = r := by
        intro b
        have hb := hl b
        unfold lookM at hb
        rw [hlk] at hb
        simp only at hb
        cases hn : newAt P b s with
        | none => rw [hn] at hb; cases hb
        | some y =>
          obtain ⟨o', u⟩ := y
          rw [hn] at hb
          simp only [Option.some.injEq, Prod.mk.injEq] at hb
          obtain ⟨rfl, rfl, h3, rfl, rfl⟩ := hb
          exact ⟨rfl, by rw [h3], rfl, rfl⟩
      obtain ⟨rfl, _, rfl, rfl⟩ := all 0
      exact ⟨s, rfl, fun b => (all b).2.1⟩
  obtain ⟨s, hl, hn⟩ := h1
  exact RW.makeS hl hκ (newAt_run hn w) ⟨rfl, rfl, rfl, by simp, fun k hk => by
    show (w.heap.push o)[k]? = _
    rw [Array.getElem?_push, if_neg (by omega)]⟩ (hk _ _ (Nat.le_refl _) (H.alloc o))

/-! ### Loads -/
def aggB (P : Program) (T : TypeId) : Bool := match P.underlying T with
  | some (.struct _) | some (.array _ _) => true
  | _ => false

/-- what lies at place k of a row of cells, read as a value of type T -/
def loadE (P : Program) (T : TypeId) (cs : List Value) (k : Nat) : Option Value :=
  match P.underlying T, P.info? T with
  | some _, some i => cond (aggB P T) (cond (Nat.ble (k + i.size) cs.length) (some (.agg ((cs.drop k).take i.size).toArray)) none) (cs[k]?)
  | _, _ => none

theorem addr_lit (b o j : Nat) : (⟨b, o, none⟩ : Addr).add j = ⟨b, o + j, none⟩ := by
  unfold Addr.add
  split <;> simp_all

theorem loadCellsFrom_run {b o : Nat} : ∀ (m i : Nat) (acc : Array Value) (cs : List Value) (w : World), cs.length = m → (∀ j v, cs[j]? = some v → w.cell? ⟨b, o + i + j, none⟩ = some v) →
    (loadCellsFrom ⟨b, o, none⟩ i m acc).run P w = .ok (acc ++ cs.toArray) w
  | 0, i, acc, cs, w, hl, _ => by
    have : cs = [] := List.eq_nil_of_length_eq_zero hl
    subst this
    simp [loadCellsFrom]
  | m + 1, i, acc, cs, w, hl, hc => by
    cases cs with
    | nil => simp at hl
    | cons v r =>
      have h0 := hc 0 v rfl
      simp only [Nat.add_zero] at h0
      have hr := loadCellsFrom_run m (i + 1) (acc.push v) r w (by simpa using hl) (fun j u hj => by
        have := hc (j + 1) u (by simpa using hj)
        rw [show o + (i + 1) + j = o + i + (j + 1) by omega]; exact this)
      simp [loadCellsFrom, addr_lit, h0, hr]

theorem loadAt_run {T : TypeId} {b o k o' : Nat} {cs : List Value} {v : Value} (hc : Cells w b o cs) (hk : o' = o + k) (he : loadE P T cs k = some v) : (Instr.loadAt T (.pointer (some ⟨b, o', none⟩))).run P w = .ok v w := by
  subst hk
  unfold loadE at he
  cases hu : P.underlying T with
  | none => rw [hu] at he; cases he
  | some dd =>
    cases hi : P.info? T with
    | none => rw [hu, hi] at he; cases he
    | some i =>
      rw [hu, hi] at he
      simp only at he
      have hagg : (isAgg T).run P w = .ok (aggB P T) w := by
        unfold isAgg aggB
        simp only [underlying, Sem.run_bind, run_program, Result.andThen_ok, hu, Sem.run_pure]
        cases dd <;> rfl
      cases hb : aggB P T with
      | false =>
        rw [hb] at he
        simp only [cond_false] at he
        have h1 := hc k v he
        simp [Instr.loadAt, Instr.sureAddr, loadVar, hagg, hb, h1]
      | true =>
        rw [hb] at he
        simp only [cond_true] at he
        cases hle : Nat.ble (k + i.size) cs.length with
        | false => rw [hle] at he; cases he
        | true =>
          rw [hle] at he
          simp only [cond_true, Option.some.injEq] at he
          have hle' := Nat.le_of_ble_eq_true hle
          have hlc := loadCellsFrom_run (P := P) (b := b) (o := o + k) i.size 0 #[] ((cs.drop k).take i.size) w (by simp; omega) (fun j u hj => by
            rw [List.getElem?_take] at hj
            split at hj
            · rw [List.getElem?_drop] at hj
              have := hc (k + j) u hj
              rw [show o + k + 0 + j = o + (k + j) by omega]; exact this
            · cases hj)
          simp [Instr.loadAt, Instr.sureAddr, loadVar, hagg, hb, sizeOf, typeInfo, hi, loadCells, hlc, ← he]

theorem RW.load {T : TypeId} {b o k o' : Nat} {cs : List Value} {v : Value} (hl : look P n ops l σ = some (κ, semV (Instr.loadAt T (.pointer (some ⟨b, o', none⟩))), d, r)) (hc : Cells w b o cs) (hk : o' = o + k) (he : loadE P T cs k = some v)
    (h : RW P ops n ds K r (putO d v σ) w) : RW P ops n ds K l σ w :=
  RW.readS hl (fun _ hE => semV_run (loadAt_run (hc.ext hE) hk he)) h

/-! ### Stores into a block of the call's own -/
theorem setRow_put {g : Nat} {c c' : Array Value} {T : TypeId} {fz : Nat × Nat} (hg : w.heap[g]? = some (.cells c T fz)) : w.setRow g c' = { w with heap := w.heap.setIfInBounds g (.cells c' T fz) } := by
  unfold World.setRow
  congr 1
  apply Array.ext_getElem?
  intro j
  rw [Array.getElem?_modify, Array.getElem?_setIfInBounds]
  have hlt : g < w.heap.size := (Array.getElem?_eq_some_iff.1 hg).1
  by_cases hj : g = j
  · subst hj
    rw [if_pos rfl, if_pos rfl, hg, if_pos hlt]
    rfl
  · rw [if_neg hj, if_neg hj]

theorem storeAt_run {T T' : TypeId} {b k : Nat} {c c' : Array Value} {v : Value} {i : TypeInfo} (hg : w.heap[b]? = some (.cells c T' (0, 0))) (hi : P.info? T = some i) (hs : v.cells.size = i.size) (h1 : v.cells.toList.all (·.oneCell') = true)
    (hfit : k + v.cells.size ≤ c.size) (hc : (c.toList.take k ++ v.cells.toList ++ c.toList.drop (k + v.cells.size)).toArray = c') :
    (Instr.storeAt T (.pointer (some ⟨b, k, none⟩)) v).run P w = .ok () { w with heap := w.heap.setIfInBounds b (.cells c' T' (0, 0)) } := by
  have hst := run_storeCells_at P b k T' v.cells.toList 0 c w hg (by simpa using hfit) (fun x hx => List.all_eq_true.1 h1 x hx)
  simp only [Nat.add_zero, Array.length_toList] at hst
  rw [hc, setRow_put hg] at hst
  simp [Instr.storeAt, Instr.sureAddr, storeVar, sizeOf, typeInfo, hi, hs, hst]

def storeE (P : Program) (T : TypeId) (k : Nat) (v : Value) (c : Array Value) : Option (Array Value) :=
  match P.info? T with
  | none => none
  | some i => cond (Nat.beq v.cells.toList.length i.size && v.cells.toList.all (·.oneCell') && Nat.ble (k + v.cells.toList.length) c.toList.length)
      (some (c.toList.take k ++ v.cells.toList ++ c.toList.drop (k + v.cells.toList.length)).toArray) none

theorem RW.store {w0 : World} {S : Nat → Prop} {O : List Nat} {M M' : Heap} {W : List OwnS} {G : List Fact} {T T' : TypeId} {b k : Nat} {c c' : Array Value} {v : Value} (hl : look P n ops l σ = some (.seq, semU (Instr.storeAt T (.pointer (some ⟨b, k, none⟩)) v), d, r))
    (H : Hp w0 S O M W G w) (i : Nat) (hm : M[i]? = some (b, .cells c T' (0, 0))) (hs : storeE P T k v c = some c') (hM : M.set i (b, .cells c' T' (0, 0)) = M')
    (h : ∀ w', Hp w0 S O M' W G w' → RW P ops n ds K r (putO d undef σ) w') : RW P ops n ds K l σ w := by
  subst hM
  have hg := (H.own _ (List.mem_of_getElem? hm)).1
  unfold storeE at hs
  cases hi : P.info? T with
  | none => rw [hi] at hs; cases hs
  | some ti =>
    rw [hi] at hs
    simp only at hs
    cases hb : Nat.beq v.cells.toList.length ti.size && v.cells.toList.all (·.oneCell') && Nat.ble (k + v.cells.toList.length) c.toList.length with
    | false => rw [hb] at hs; cases hs
    | true =>
      rw [hb] at hs
      simp only [cond_true, Option.some.injEq] at hs
      simp only [Bool.and_eq_true] at hb
      have h1 := Nat.eq_of_beq_eq_true hb.1.1
      have h3 := Nat.le_of_ble_eq_true hb.2
      simp only [Array.length_toList] at h1 h3 hs
      exact RW.actU hl (semU_run (storeAt_run hg hi h1 hb.1.2 h3 hs)) (h _ (H.put i hm _))
/-- .. and that nothing else turns -/
theorem RW.storeC {w0 : World} {S : Nat → Prop} {O : List Nat} {M M' : Heap} {W : List OwnS} {G : List Fact} {T T' : TypeId} {b k : Nat} {c c' : Array Value} {v : Value} (hl : look P n ops l σ = some (.seq, semU (Instr.storeAt T (.pointer (some ⟨b, k, none⟩)) v), d, r))
    (H : Hp w0 S O M W G w) (i : Nat) (hm : M[i]? = some (b, .cells c T' (0, 0))) (hs : storeE P T k v c = some c') (hM : M.set i (b, .cells c' T' (0, 0)) = M')
    (h : ∀ w', Chg w [b] w' → Hp w0 S O M' W G w' → RW P ops n ds K r (putO d undef σ) w') : RW P ops n ds K l σ w := by
  subst hM
  have hg := (H.own _ (List.mem_of_getElem? hm)).1
  unfold storeE at hs
  cases hi : P.info? T with
  | none => rw [hi] at hs; cases hs
  | some ti =>
    rw [hi] at hs
    simp only at hs
    cases hb : Nat.beq v.cells.toList.length ti.size && v.cells.toList.all (·.oneCell') && Nat.ble (k + v.cells.toList.length) c.toList.length with
    | false => rw [hb] at hs; cases hs
    | true =>
      rw [hb] at hs
      simp only [cond_true, Option.some.injEq] at hs
      simp only [Bool.and_eq_true] at hb
      have h1 := Nat.eq_of_beq_eq_true hb.1.1
      have h3 := Nat.le_of_ble_eq_true hb.2
      simp only [Array.length_toList] at h1 h3 hs
      exact RW.actU hl (semU_run (storeAt_run hg hi h1 hb.1.2 h3 hs)) (h _ ⟨rfl, rfl, rfl, by simp, fun q _ hq => (Array.getElem?_setIfInBounds_ne (fun e => hq (by simp [e])) : (w.heap.setIfInBounds b _)[q]? = _)⟩ (H.put i hm _))

/-! ### An element of a slice -/
def sliceE (P : Program) (T : TypeId) : Option (TypeId × Nat) := match P.underlying T with
  | some (.slice e) => (P.info? e).map fun i => (e, i.size)
  | _ => none

theorem sliceE_spec {T e : TypeId} {m : Nat} (h : sliceE P T = some (e, m)) : P.underlying T = some (.slice e) ∧ ∃ i, P.info? e = some i ∧ i.size = m := by
  unfold sliceE at h
  split at h
  · rename_i e' hu
    cases hi : P.info? e' with
    | none => rw [hi] at h; cases h
    | some i =>
      rw [hi] at h
      simp only [Option.map_some, Option.some.injEq, Prod.mk.injEq] at h
      obtain ⟨rfl, rfl⟩ := h
      exact ⟨hu, i, hi, rfl⟩
  · cases h

theorem indexAt_run {T e : TypeId} {m : Nat} (hT : sliceE P T = some (e, m)) {b o len cap : Nat} {ik : IntKind} {k : Nat} (hk : k < len) :
    (Instr.indexAt T (.slice (some ⟨b, o, none⟩) len cap) (.int ik (k : Int))).run P w = .ok (.pointer (some ⟨b, o + k * m, none⟩)) w := by
  obtain ⟨hu, i, hi, hm⟩ := sliceE_spec hT
  have h0 : ¬ len ≤ k := by omega
  simp [Instr.indexAt, asIntOf, run_underlying hu, sizeOf, typeInfo, hi, hm, h0, addr_lit]

theorem RW.index {w0 : World} {S : Nat → Prop} {O : List Nat} {M : Heap} {W : List OwnS} {G : List Fact} {α : Type} {sh : Shape α} {xs : List α} {x : α} {T e : TypeId} {a : Option Addr} {len cap : Nat} {ik : IntKind} {ix : Int}
    (hl : look P n ops l σ = some (κ, semV (Instr.indexAt T (.slice a len cap) (.int ik ix)), d, r)) (hT : sliceE P T = some (e, sh.size)) (H : Hp w0 S O M W G w) (g : Nat) (hg : G[g]? = some (Rp sh.slice [.slice a len cap] xs))
    (k : Nat) (hk : ix = (k : Int)) (hx : xs[k]? = some x)
    (h : ∀ b o es, sh.rep (Av S w0 O (idsOf M W)) w es x → Hp w0 S O M W (Fc b o es :: G) w → RW P ops n ds K r (putO d (.pointer (some ⟨b, o, none⟩)) σ) w) : RW P ops n ds K l σ w := by
  subst hk
  obtain ⟨rfl, h2, h3, hE⟩ := Shape.elems_of (H.rp g hg)
  obtain ⟨b, o, es, rfl, hS, hc, hr⟩ := hE k x hx
  have hlt : k < xs.length := (List.getElem?_eq_some_iff.1 hx).1
  refine RW.readS hl (fun w' _ => semV_run (indexAt_run hT hlt)) (h b (o + k * sh.size) es hr (H.add ⟨?_, hS, hc⟩))
  rw [sh.len hr]; exact sh.pos


/-! ### A pure value, said otherwise -/
def lookP (P : Program) (n : Nat) (ops : Array Oper) (l : List (Nat × Kd)) (σ : Env) : Option (Kd × Value × Option Tmp × List (Nat × Kd)) :=
  match look P n ops l σ with
  | some (κ, s, d, r) => match pureN P s with
    | some (.value v) => some (κ, v, d, r)
    | _ => none
  | none => none

theorem RW.pv {v v' : Value} (hl : lookP P n ops l σ = some (κ, v, d, r)) (hv : v = v') (h : RW P ops n ds K r (putO d v' σ) w) : RW P ops n ds K l σ w := by
  subst hv
  unfold lookP at hl
  cases hlk : look P n ops l σ with
  | none => rw [hlk] at hl; cases hl
  | some x =>
    obtain ⟨κ', s, d', r'⟩ := x
    rw [hlk] at hl
    simp only at hl
    cases hp : pureN P s with
    | none => rw [hp] at hl; cases hl
    | some y =>
      rw [hp] at hl
      cases y <;> simp only [reduceCtorEq, Option.some.injEq, Prod.mk.injEq] at hl
      obtain ⟨rfl, rfl, rfl, rfl⟩ := hl
      exact RW.readS hlk (fun w' _ => pureN_run hp w') h

theorem wrap64_id {x : Int} (h : -9223372036854775808 ≤ x ∧ x ≤ 9223372036854775807) : Value.int .i64 (IntKind.i64.wrap x) = .int .i64 x := by
  rw [IntKind.wrap_i64]; congr 1; omega

theorem RW.wr64 {t : Int} (hl : lookP P n ops l σ = some (κ, .int .i64 (IntKind.i64.wrap t), d, r)) (hb : -9223372036854775808 ≤ t ∧ t ≤ 9223372036854775807) (h : RW P ops n ds K r (putO d (.int .i64 t) σ) w) : RW P ops n ds K l σ w :=
  RW.pv hl (wrap64_id hb) h

theorem wr_i64 {x : Int} (h : -9223372036854775808 ≤ x ∧ x ≤ 9223372036854775807) : Value.int .i64 (IntKind.i64.wrap x) = .int .i64 x := wrap64_id h
theorem quo_i64 {x n : Int} (hn : 0 < n) (h : 0 ≤ x ∧ x ≤ 9223372036854775807) : Value.int .i64 (IntKind.i64.wrap (x.tdiv n)) = .int .i64 (x / n) := by
  rw [Int.tdiv_eq_ediv_of_nonneg h.1]
  have h1 : 0 ≤ x / n := Int.ediv_nonneg h.1 (by omega)
  have h2 : x / n ≤ x := Int.ediv_le_self _ h.1
  exact wr_i64 (by omega)
theorem rem_i64 {x n : Int} (hn : 0 < n) (h : 0 ≤ x ∧ x ≤ 9223372036854775807) : Value.int .i64 (IntKind.i64.wrap (x.tmod n)) = .int .i64 (x % n) := by
  rw [Int.tmod_eq_emod_of_nonneg h.1]
  have h1 : 0 ≤ x % n := Int.emod_nonneg _ (by omega)
  have h2 : x % n ≤ x := by
    have h3 := Int.mul_ediv_add_emod x n
    have h4 : 0 ≤ n * (x / n) := Int.mul_nonneg (by omega) (Int.ediv_nonneg h.1 (by omega))
    omega
  exact wr_i64 (by omega)
theorem wr_u64 {x : Int} (h : 0 ≤ x ∧ x ≤ 18446744073709551615) : Value.int .u64 (IntKind.u64.wrap x) = .int .u64 x := by
  have e : IntKind.u64.wrap x = x := by
    simp [IntKind.wrap, IntKind.bits, IntKind.signed]
    omega
  rw [e]
theorem quo_u64 {x n : Int} (hn : 0 < n) (h : 0 ≤ x ∧ x ≤ 18446744073709551615) : Value.int .u64 (IntKind.u64.wrap (x.tdiv n)) = .int .u64 (x / n) := by
  rw [Int.tdiv_eq_ediv_of_nonneg h.1]
  have h1 : 0 ≤ x / n := Int.ediv_nonneg h.1 (by omega)
  have h2 : x / n ≤ x := Int.ediv_le_self _ h.1
  exact wr_u64 (by omega)
theorem rem_u64 {x n : Int} (hn : 0 < n) (h : 0 ≤ x ∧ x ≤ 18446744073709551615) : Value.int .u64 (IntKind.u64.wrap (x.tmod n)) = .int .u64 (x % n) := by
  rw [Int.tmod_eq_emod_of_nonneg h.1]
  have h1 : 0 ≤ x % n := Int.emod_nonneg _ (by omega)
  have h2 : x % n ≤ x := by
    have h3 := Int.mul_ediv_add_emod x n
    have h4 : 0 ≤ n * (x / n) := Int.mul_nonneg (by omega) (Int.ediv_nonneg h.1 (by omega))
    omega
  exact wr_u64 (by omega)
theorem wr_u32 {x : Int} (h : 0 ≤ x ∧ x ≤ 4294967295) : Value.int .u32 (IntKind.u32.wrap x) = .int .u32 x := by
  have e : IntKind.u32.wrap x = x := by
    simp [IntKind.wrap, IntKind.bits, IntKind.signed]
    omega
  rw [e]
theorem quo_u32 {x n : Int} (hn : 0 < n) (h : 0 ≤ x ∧ x ≤ 4294967295) : Value.int .u32 (IntKind.u32.wrap (x.tdiv n)) = .int .u32 (x / n) := by
  rw [Int.tdiv_eq_ediv_of_nonneg h.1]
  have h1 : 0 ≤ x / n := Int.ediv_nonneg h.1 (by omega)
  have h2 : x / n ≤ x := Int.ediv_le_self _ h.1
  exact wr_u32 (by omega)
theorem rem_u32 {x n : Int} (hn : 0 < n) (h : 0 ≤ x ∧ x ≤ 4294967295) : Value.int .u32 (IntKind.u32.wrap (x.tmod n)) = .int .u32 (x % n) := by
  rw [Int.tmod_eq_emod_of_nonneg h.1]
  have h1 : 0 ≤ x % n := Int.emod_nonneg _ (by omega)
  have h2 : x % n ≤ x := by
    have h3 := Int.mul_ediv_add_emod x n
    have h4 : 0 ≤ n * (x / n) := Int.mul_nonneg (by omega) (Int.ediv_nonneg h.1 (by omega))
    omega
  exact wr_u32 (by omega)
theorem wr_u16 {x : Int} (h : 0 ≤ x ∧ x ≤ 65535) : Value.int .u16 (IntKind.u16.wrap x) = .int .u16 x := by
  have e : IntKind.u16.wrap x = x := by
    simp [IntKind.wrap, IntKind.bits, IntKind.signed]
    omega
  rw [e]
theorem quo_u16 {x n : Int} (hn : 0 < n) (h : 0 ≤ x ∧ x ≤ 65535) : Value.int .u16 (IntKind.u16.wrap (x.tdiv n)) = .int .u16 (x / n) := by
  rw [Int.tdiv_eq_ediv_of_nonneg h.1]
  have h1 : 0 ≤ x / n := Int.ediv_nonneg h.1 (by omega)
  have h2 : x / n ≤ x := Int.ediv_le_self _ h.1
  exact wr_u16 (by omega)
theorem rem_u16 {x n : Int} (hn : 0 < n) (h : 0 ≤ x ∧ x ≤ 65535) : Value.int .u16 (IntKind.u16.wrap (x.tmod n)) = .int .u16 (x % n) := by
  rw [Int.tmod_eq_emod_of_nonneg h.1]
  have h1 : 0 ≤ x % n := Int.emod_nonneg _ (by omega)
  have h2 : x % n ≤ x := by
    have h3 := Int.mul_ediv_add_emod x n
    have h4 : 0 ≤ n * (x / n) := Int.mul_nonneg (by omega) (Int.ediv_nonneg h.1 (by omega))
    omega
  exact wr_u16 (by omega)
theorem wr_u8 {x : Int} (h : 0 ≤ x ∧ x ≤ 255) : Value.int .u8 (IntKind.u8.wrap x) = .int .u8 x := by
  have e : IntKind.u8.wrap x = x := by
    simp [IntKind.wrap, IntKind.bits, IntKind.signed]
    omega
  rw [e]
theorem quo_u8 {x n : Int} (hn : 0 < n) (h : 0 ≤ x ∧ x ≤ 255) : Value.int .u8 (IntKind.u8.wrap (x.tdiv n)) = .int .u8 (x / n) := by
  rw [Int.tdiv_eq_ediv_of_nonneg h.1]
  have h1 : 0 ≤ x / n := Int.ediv_nonneg h.1 (by omega)
  have h2 : x / n ≤ x := Int.ediv_le_self _ h.1
  exact wr_u8 (by omega)
theorem rem_u8 {x n : Int} (hn : 0 < n) (h : 0 ≤ x ∧ x ≤ 255) : Value.int .u8 (IntKind.u8.wrap (x.tmod n)) = .int .u8 (x % n) := by
  rw [Int.tmod_eq_emod_of_nonneg h.1]
  have h1 : 0 ≤ x % n := Int.emod_nonneg _ (by omega)
  have h2 : x % n ≤ x := by
    have h3 := Int.mul_ediv_add_emod x n
    have h4 : 0 ≤ n * (x / n) := Int.mul_nonneg (by omega) (Int.ediv_nonneg h.1 (by omega))
    omega
  exact wr_u8 (by omega)

theorem shr_id {k : IntKind} {x m : Int} {n : Nat} (hm : (2 : Int) ^ n = m) (_h : 0 ≤ x) : Value.int k (x.fdiv (2 ^ n)) = .int k (x / m) := by
  subst hm
  rw [Int.fdiv_eq_ediv_of_nonneg _ (Int.pow_nonneg (by decide))]

/-! ### Results that lie in memory -/
def rvS (tmps : Array Value) : ResultVar → Sem Value
  | .tmp t => pure (tmps.getD t undef)
  | .cell a t => do loadVar t (← asAddr (tmps.getD a undef))
theorem results_eq (fn : Func) (tmps : Array Value) : results fn tmps = (do
    let vs ← fn.results.mapM (rvS tmps)
    pure (if h : vs.size = 1 then vs[0] else .tuple vs)) := by
  unfold results
  congr 1
def RV (P : Program) (n : Nat) (ds : List Deferred) (σ : Env) (w : World) (x : ResultVar) (v : Value) : Prop := ∀ a, Fits n σ ds a → (rvS a.tmps x).run P w = .ok v w
theorem RV.tmp {t : Nat} {v : Value} (h : find σ t = some v) : RV P n ds σ w (.tmp t) v := fun a ha => by
  have := ha.vals t v h
  simp [rvS, this]
theorem RV.cell {c T b o k o' : Nat} {cs : List Value} {v : Value} (h : find σ c = some (.pointer (some ⟨b, o', none⟩))) (hc : Cells w b o cs) (hk : o' = o + k) (he : loadE P T cs k = some v) : RV P n ds σ w (.cell c T) v := fun a ha => by
  have h1 := ha.vals c _ h
  have h2 := loadAt_run (P := P) hc hk he
  simp only [Instr.loadAt, Instr.sureAddr, Sem.run_bind, Sem.run_pure, Result.andThen_ok] at h2
  simp [rvS, h1, asAddr, h2]

theorem RV.res1 {fn : Func} {x : ResultVar} {v : Value} (hf : fn.results = #[x]) (h : RV P n ds σ w x v) : ∀ a, Fits n σ ds a → (results fn a.tmps).run P w = .ok v w := fun a ha => by
  have := h a ha
  rw [results_eq, hf]
  simp [this]
theorem RV.res2 {fn : Func} {x y : ResultVar} {v u : Value} (hf : fn.results = #[x, y]) (h : RV P n ds σ w x v) (k : RV P n ds σ w y u) : ∀ a, Fits n σ ds a → (results fn a.tmps).run P w = .ok (.tuple #[v, u]) w := fun a ha => by
  have h1 := h a ha
  have h2 := k a ha
  rw [results_eq, hf]
  simp [h1, h2]
theorem RV.res3 {fn : Func} {x y z : ResultVar} {v u t : Value} (hf : fn.results = #[x, y, z]) (h : RV P n ds σ w x v) (k : RV P n ds σ w y u) (j : RV P n ds σ w z t) : ∀ a, Fits n σ ds a → (results fn a.tmps).run P w = .ok (.tuple #[v, u, t]) w := fun a ha => by
  have h1 := h a ha
  have h2 := k a ha
  have h3 := j a ha
  rw [results_eq, hf]
  simp [h1, h2, h3]
end
end Go.BX
