/-
  THE ENGINE: equality of structs of plain values.
  No condition.
-/
import Derived.Test.YtppcdmbkgficiaaBxBv
import Derived.Laws.StructEq
namespace Go.BX

def pureS {α : Type} (P : Program) : Sem α → Option α
  | .pure v => some v
  | .program k => pureS P (k P)
  | _ => none
theorem pureS_run {α : Type} {P : Program} : ∀ {s : Sem α} {v : α}, pureS P s = some v → ∀ w, s.run P w = .ok v w := by
  intro s
  induction s with
  | pure a => intro v h w; simp only [pureS, Option.some.injEq] at h; subst h; rfl
  | program k ih => intro v h w; simp only [pureS] at h; simp only [Sem.run]; exact ih P h w
  | _ => intro v h; simp [pureS] at h

def eqFs (P : Program) (rc : TypeId → Value → Value → Option (List Bool)) (xs ys : Array Value) : List Field → Option (List Bool)
  | [] => some []
  | f :: fs => cond (f.name == "_") none (match pureS P (part f.type xs f.offset), pureS P (part f.type ys f.offset) with
    | some a, some b => match rc f.type a b, eqFs P rc xs ys fs with
      | some l, some m => some (l ++ m)
      | _, _ => none
    | _, _ => none)

/-- what is compared, one by one -/
def eqN (P : Program) : Nat → TypeId → Value → Value → Option (List Bool)
  | 0, _, _, _ => none
  | d + 1, t, x, y => match P.underlying t with
    | some (.int _) => match x, y with
      | .int k a, .int k' b => cond (k == k') (some [a == b]) none
      | _, _ => none
    | some .bool => match x, y with
      | .bool a, .bool b => some [a == b]
      | _, _ => none
    | some .string => match x, y with
      | .string a, .string b => some [a.toList == b.toList]
      | _, _ => none
    | some (.struct fs) => match x, y with
      | .agg xs, .agg ys => cond (P.stoodInHeld t) none (eqFs P (eqN P d) xs ys fs.toList)
      | _, _ => none
    | _ => none

theorem eqFs_run {P : Program} {d m : Nat} (ih : ∀ t x y l, eqN P d t x y = some l → ∀ w, (Op.equalIn (d + m) t x y).run P w = .ok (l.all id) w) {xs ys : Array Value} :
    ∀ (fs : List Field) (l : List Bool), eqFs P (eqN P d) xs ys fs = some l → ∀ w, (Op.eqFields (d + m) xs ys fs).run P w = .ok (l.all id) w
  | [], l, h, w => by
    simp only [eqFs, Option.some.injEq] at h
    subst h
    rfl
  | f :: fs, l, h, w => by
    simp only [eqFs] at h
    cases hn : (f.name == "_") with
    | true => rw [hn] at h; cases h
    | false =>
      rw [hn] at h
      simp only [cond_false] at h
      have hne : f.name ≠ "_" := by simpa using hn
      cases h1 : pureS P (part f.type xs f.offset) with
      | none => rw [h1] at h; cases h
      | some a =>
        cases h2 : pureS P (part f.type ys f.offset) with
        | none => rw [h1, h2] at h; cases h
        | some b =>
          rw [h1, h2] at h
          simp only at h
          cases h3 : eqN P d f.type a b with
          | none => rw [h3] at h; cases h
          | some l1 =>
            cases h4 : eqFs P (eqN P d) xs ys fs with
            | none => rw [h3, h4] at h; cases h
            | some l2 =>
              rw [h3, h4] at h
              simp only [Option.some.injEq] at h
              subst h
              have r1 := pureS_run h1 w
              have r2 := pureS_run h2 w
              have r3 := ih _ _ _ _ h3 w
              have r4 := eqFs_run ih fs l2 h4 w
              simp only [Op.eqFields, hne, ne_eq, not_false_eq_true, if_true, Sem.run_bind, r1, r2, r3, Result.andThen_ok, List.all_append]
              cases l1.all id
              · simp
              · simpa using r4

theorem eqN_run {P : Program} (m : Nat) : ∀ (d : Nat) (t : TypeId) (x y : Value) (l : List Bool), eqN P d t x y = some l → ∀ w, (Op.equalIn (d + m) t x y).run P w = .ok (l.all id) w
  | 0, t, x, y, l, h, w => by simp [eqN] at h
  | d + 1, t, x, y, l, h, w => by
    rw [show d + 1 + m = (d + m) + 1 by omega]
    simp only [eqN] at h
    split at h
    · rename_i q hu
      split at h
      · rename_i k a k' b
        cases hk : (k == k') with
        | false => rw [hk] at h; cases h
        | true =>
          rw [hk] at h
          simp only [cond_true, Option.some.injEq] at h
          subst h
          have : k = k' := by simpa using hk
          subst this
          rw [run_equalIn_int w (d + m) t k q a b hu]; simp
      · cases h
    · rename_i hu
      split at h
      · simp only [Option.some.injEq] at h
        subst h
        rw [run_equalIn_bool' w (d + m) t _ _ hu]; simp
      · cases h
    · rename_i hu
      split at h
      · simp only [Option.some.injEq] at h
        subst h
        rw [run_equalIn_string w (d + m) t _ _ hu]; simp
      · cases h
    · rename_i fs hu
      split at h
      · rename_i xs ys
        cases hs : P.stoodInHeld t with
        | true => rw [hs] at h; cases h
        | false =>
          rw [hs] at h
          simp only [cond_false] at h
          have hf : P.fieldsOf t = fs := by simp [Program.fieldsOf, hu]
          rw [run_equalIn_struct w (d + m) t xs ys (by rw [hf]; exact hu) hs, hf]
          exact eqFs_run (fun t x y l h w => eqN_run m d t x y l h w) fs.toList l h w
      · cases h
    · cases h

section
variable {P : Program} {n : Nat} {ds : List Deferred} {ops : Array Oper} {K : Env → World → Prop} {l r : List (Nat × Kd)} {σ : Env} {w : World} {κ : Kd} {d : Option Tmp}

/-- '==' of two structs -/
theorem RW.eqA {T : TypeId} {xs ys : Array Value} {ox oy : Operand} (bs : List Bool) (hl : look P n ops l σ = some (κ, semV (do eqGuard .eql T ox oy (.agg xs) (.agg ys); binOp .eql T (.agg xs) (.agg ys)), d, r)) (hg : P.eqGuardType P.depth T = false)
    (he : eqN P 8 T (.agg xs) (.agg ys) = some bs) (hk : RW P ops n ds K r (putO d (.bool (bs.all id)) σ) w) : RW P ops n ds K l σ w := by
  refine RW.readS hl (fun w' _ => semV_run ?_) hk
  have h1 := eqN_run 9992 8 T _ _ bs he w'
  simp only [Sem.run_bind, run_eqGuard_agg w' .eql T ox oy xs ys hg, Result.andThen_ok, run_eql_struct]
  rw [show (10000 : Nat) = 8 + 9992 from rfl, h1]; rfl
/-- '!=' -/
theorem RW.neA {T : TypeId} {xs ys : Array Value} {ox oy : Operand} (bs : List Bool) (hl : look P n ops l σ = some (κ, semV (do eqGuard .neq T ox oy (.agg xs) (.agg ys); binOp .neq T (.agg xs) (.agg ys)), d, r)) (hg : P.eqGuardType P.depth T = false)
    (he : eqN P 8 T (.agg xs) (.agg ys) = some bs) (hk : RW P ops n ds K r (putO d (.bool (!(bs.all id))) σ) w) : RW P ops n ds K l σ w := by
  refine RW.readS hl (fun w' _ => semV_run ?_) hk
  have h1 := eqN_run 9992 8 T _ _ bs he w'
  simp only [Sem.run_bind, run_eqGuard_agg w' .neq T ox oy xs ys hg, Result.andThen_ok, run_neq_struct]
  rw [show (10000 : Nat) = 8 + 9992 from rfl, h1]; rfl
end
end Go.BX
