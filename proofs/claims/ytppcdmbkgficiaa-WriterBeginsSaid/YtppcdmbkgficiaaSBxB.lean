import Derived.Test.YtppcdmbkgficiaaSBxA
import Derived.Laws.StructEq
import Derived.Defers
import Derived.Recover
import Derived.Laws.IdiomRangeMap
import Derived.MapKept
import Derived.Shelf.GgSortFunc.InsertionK
import Derived.ProofKit
import Derived.Deep.Slices
/-
  THE ENGINE: a judgement on a frame whose slots are known by a list, over any program; laws for each operation.
  No condition.
-/
/-
 THE ENGINE: equality of structs of plain values.
 No condition.
-/
namespace Go.BX
def pureS {α : Type} (P : Program) : Sem α → Option α
 | .pure v => some v
 | .program k => pureS P (k P)
 | _ => none
theorem pureS_run {α : Type} {P : Program} : ∀ {s : Sem α} {v : α}, pureS P s = some v → ∀ w, s.run P w = .ok v w := by
 intro s
 induction s with
 | pure a => intro v h w; simp only [pureS, Option.some.injEq] at h; subst h; rfl
 | program k ih => intro v h w; simp only [pureS] at h; simp only [Sem.run]; exact ih P h w
 | _ => intro v h; simp [pureS] at h
def eqFs (P : Program) (rc : TypeId → Value → Value → Option (List Bool)) (xs ys : Array Value) : List Field → Option (List Bool)
 | [] => some []
 | f :: fs => cond (f.name == "_") none (match pureS P (part f.type xs f.offset), pureS P (part f.type ys f.offset) with
  | some a, some b => match rc f.type a b, eqFs P rc xs ys fs with
   | some l, some m => some (l ++ m)
   | _, _ => none
  | _, _ => none)
def eqN (P : Program) : Nat → TypeId → Value → Value → Option (List Bool)
 | 0, _, _, _ => none
 | d + 1, t, x, y => match P.underlying t with
  | some (.int _) => match x, y with
   | .int k a, .int k' b => cond (k == k') (some [a == b]) none
   | _, _ => none
  | some .bool => match x, y with
   | .bool a, .bool b => some [a == b]
   | _, _ => none
  | some .string => match x, y with
   | .string a, .string b => some [a.toList == b.toList]
   | _, _ => none
  | some (.struct fs) => match x, y with
   | .agg xs, .agg ys => cond (P.stoodInHeld t) none (eqFs P (eqN P d) xs ys fs.toList)
   | _, _ => none
  | _ => none
theorem eqFs_run {P : Program} {d m : Nat} (ih : ∀ t x y l, eqN P d t x y = some l → ∀ w, (Op.equalIn (d + m) t x y).run P w = .ok (l.all id) w) {xs ys : Array Value} :
 ∀ (fs : List Field) (l : List Bool), eqFs P (eqN P d) xs ys fs = some l → ∀ w, (Op.eqFields (d + m) xs ys fs).run P w = .ok (l.all id) w
 | [], l, h, w => by
  simp only [eqFs, Option.some.injEq] at h
  subst h
  rfl
 | f :: fs, l, h, w => by
  simp only [eqFs] at h
  cases hn : (f.name == "_") with
  | true => rw [hn] at h; cases h
  | false =>
   rw [hn] at h
   simp only [cond_false] at h
   have hne : f.name ≠ "_" := by simpa using hn
   cases h1 : pureS P (part f.type xs f.offset) with
   | none => rw [h1] at h; cases h
   | some a =>
    cases h2 : pureS P (part f.type ys f.offset) with
    | none => rw [h1, h2] at h; cases h
    | some b =>
     rw [h1, h2] at h
     simp only at h
     cases h3 : eqN P d f.type a b with
     | none => rw [h3] at h; cases h
     | some l1 =>
      cases h4 : eqFs P (eqN P d) xs ys fs with
      | none => rw [h3, h4] at h; cases h
      | some l2 =>
       rw [h3, h4] at h
       simp only [Option.some.injEq] at h
       subst h
       have r1 := pureS_run h1 w
       have r2 := pureS_run h2 w
       have r3 := ih _ _ _ _ h3 w
       have r4 := eqFs_run ih fs l2 h4 w
       simp only [Op.eqFields, hne, ne_eq, not_false_eq_true, if_true, Sem.run_bind, r1, r2, r3, Result.andThen_ok, List.all_append]
       cases l1.all id
       · simp
       · simpa using r4
theorem eqN_run {P : Program} (m : Nat) : ∀ (d : Nat) (t : TypeId) (x y : Value) (l : List Bool), eqN P d t x y = some l → ∀ w, (Op.equalIn (d + m) t x y).run P w = .ok (l.all id) w
 | 0, t, x, y, l, h, w => by simp [eqN] at h
 | d + 1, t, x, y, l, h, w => by
  rw [show d + 1 + m = (d + m) + 1 by omega]
  simp only [eqN] at h
  split at h
  · rename_i q hu
    split at h
    · rename_i k a k' b
      cases hk : (k == k') with
      | false => rw [hk] at h; cases h
      | true =>
       rw [hk] at h
       simp only [cond_true, Option.some.injEq] at h
       subst h
       have : k = k' := by simpa using hk
       subst this
       rw [run_equalIn_int w (d + m) t k q a b hu]; simp
    · cases h
  · rename_i hu
    split at h
    · simp only [Option.some.injEq] at h
      subst h
      rw [run_equalIn_bool' w (d + m) t _ _ hu]; simp
    · cases h
  · rename_i hu
    split at h
    · simp only [Option.some.injEq] at h
      subst h
      rw [run_equalIn_string w (d + m) t _ _ hu]; simp
    · cases h
  · rename_i fs hu
    split at h
    · rename_i xs ys
      cases hs : P.stoodInHeld t with
      | true => rw [hs] at h; cases h
      | false =>
       rw [hs] at h
       simp only [cond_false] at h
       have hf : P.fieldsOf t = fs := by simp [Program.fieldsOf, hu]
       rw [run_equalIn_struct w (d + m) t xs ys (by rw [hf]; exact hu) hs, hf]
       exact eqFs_run (fun t x y l h w => eqN_run m d t x y l h w) fs.toList l h w
    · cases h
  · cases h
section
variable {P : Program} {n : Nat} {ds : List Deferred} {ops : Array Oper} {K : Env → World → Prop} {l r : List (Nat × Kd)} {σ : Env} {w : World} {κ : Kd} {d : Option Tmp}
theorem RW.neA {T : TypeId} {xs ys : Array Value} {ox oy : Operand} (bs : List Bool) (hl : look P n ops l σ = some (κ, semV (do eqGuard .neq T ox oy (.agg xs) (.agg ys); binOp .neq T (.agg xs) (.agg ys)), d, r)) (hg : P.eqGuardType P.depth T = false)
 (he : eqN P 8 T (.agg xs) (.agg ys) = some bs) (hk : RW P ops n ds K r (putO d (.bool (!(bs.all id))) σ) w) : RW P ops n ds K l σ w := by
 refine RW.readS hl (fun w' _ => semV_run ?_) hk
 have a := eqN_run 9992 8 T _ _ bs he w'
 simp only [Sem.run_bind, run_eqGuard_agg w' .neq T ox oy xs ys hg, Result.andThen_ok, run_neq_struct]
 rw [show (10000 : Nat) = 8 + 9992 from rfl, a]; rfl
end
end Go.BX

/-
 THE ENGINE's DEFERRED CALLS: a call that is put off, and made when the function returns; it turns nothing.
 No condition.
-/
namespace Go.BX
section
variable {P : Program} {f : FuncId} {n : Nat} {σ : Env} {ds ds' : List Deferred} {w : World} {R : Ending → World → Prop}
theorem WK.codeD {c : Code} {k : List Item}
 (h : ∀ a, Fits n σ ds a → c.wp P (fun e a' w' => match e with | .normal => ∃ σ', Fits n σ' ds' a' ∧ WK P f n k σ' ds' w' R | _ => False) a w) : WK P f n (.code c :: k) σ ds w R := by
 intro b a cs d g i
 obtain ⟨e, a', w', hq, harr⟩ := h a i b k cs
 cases e with
 | normal =>
  obtain ⟨σ', hf', hk⟩ := hq
  obtain ⟨e, w'', fr, r, hc, rest⟩ := hk b a' cs d g hf'
  exact ⟨e, w'', fr, r, .of_steps harr hc, rest⟩
 | _ => exact hq.elim
def deferE (P : Program) : Sem Next → Option Deferred
 | .pure (.defer d) => some d
 | .program k => deferE P (k P)
 | _ => none
theorem deferE_run : ∀ {s : Sem Next} {d : Deferred}, deferE P s = some d → ∀ w, s.run P w = .ok (.defer d) w := by
 intro s
 induction s with
 | pure a => intro d h w; cases a <;> simp [deferE] at h; subst h; rfl
 | program k ih => intro d h w; simp only [deferE] at h; simp only [Sem.run]; exact ih P h w
 | _ => intro d h; simp [deferE] at h
def op1 (c : Code) : Oper := match (opsOf c).toList with
 | o :: _ => o
 | [] => default
theorem WK.defer1 {c : Code} {k : List Item} {o : Oper} (d : Deferred) (hc : c = .region (idOf c) #[o] false) (hg : o.guard = none) (hd : o.dst = none) (hk : known σ o = true) (hp : deferE P (execOp (rho σ) o) = some d)
 (h : WK P f n k σ (d :: ds) w R) : WK P f n (.code c :: k) σ ds w R := by
 rw [hc]
 refine WK.codeD (ds' := d :: ds) fun a ha => wp_region ?_
 show wpOps P #[o] _ [0] a w
 rw [wpOps_cons]
 refine OW.wpOp (o := o) rfl ?_
 unfold OW
 have hw : Region.wanted o (yielded #[o] a.tmps) = true := by simp [Region.wanted, hg]
 rw [if_pos hw]
 unfold Oper.wp
 rw [execOp_rho ha hk, deferE_run hp]
 simp only [Oper.upon]
 exact ⟨σ, ⟨by simp [Act.put, hd, ha.size], by simp [Act.put, hd, ha.defers], fun t v hv => by simpa [Act.put, hd] using ha.vals t v hv⟩, h⟩
def Idle (P : Program) (d : Deferred) : Prop := ∃ fv cap g args, d.target = .fn fv cap ∧ (∀ w, (invoke d.target d.args).run P w = .ok (.enter g args) w) ∧
 ∀ w, CallsD P g args .returning w (fun e u' w' => e = .returned (.tuple #[]) ∧ u' = .returning ∧ w' = w)
theorem Idle.leaves {fn : Func} {tmps : Array Value} {d : Deferred} {v : Value} (hi : Idle P d) (hr : (results fn tmps).run P w = .ok v w) (h : R (.returned v) w) : Leaves P fn tmps R [d] .returning w := by
 obtain ⟨fv, cap, g, args, a, b, c⟩ := hi
 refine ⟨by simp, fv, cap, g, args, a, b w, (c w).mono ?_⟩
 rintro e u' w' ⟨rfl, rfl, rfl⟩
 exact ⟨v, hr, h⟩
theorem WK.retD {fn : Func} {c : Code} {k : List Item} {v : Value} {d : Deferred} (hf : P.funcs[f]? = some fn) (hc : c = .ret) (hi : Idle P d) (hr : ∀ a, Fits n σ [d] a → (results fn a.tmps).run P w = .ok v w) (h : R (.returned v) w) :
 WK P f n (.code c :: k) σ [d] w R := by
 subst hc
 intro b a cs g j i
 obtain ⟨e, w', fr', hR, hs, hfn, hl⟩ := leaves_steps [d] .returning w { b.at a (.code .ret :: k) with mode := .returning } cs rfl i.defers rfl (by simp only [Frame.at]; rw [g]; exact hf) j (hi.leaves (hr a i) h)
 exact ⟨e, w', fr', hR, .of_steps (.one step_ret) hs, hfn.trans g, hl⟩
end
end Go.BX

/-
 THE ENGINE: reads and writes of a row of the call's own, in a region that draws its order.
 No condition.
-/
namespace Go.BX
section
variable {P : Program} {n : Nat} {ds : List Deferred} {ops : Array Oper} {K : Env → World → Prop} {l r : List (Nat × Kd)} {σ : Env} {w w1 : World} {κ : Kd} {d : Option Tmp} {Bs : List Nat}
variable {w0 : World} {S : Nat → Prop} {O : List Nat} {M : Heap} {W : List OwnS} {G : List Fact}
theorem RH.indexW {α : Type} {sh : Shape α} {xs : List α} {T e T' : TypeId} {m : Nat} {a : Option Addr} {len cap : Nat} {ik : IntKind} {ix : Int}
 (hl : look P n ops l σ = some (.qui, semV (Instr.indexAt T (.slice a len cap) (.int ik ix)), d, r)) (hS : Chg w1 Bs w) (hT : sliceE P T = some (e, m)) (hm : m = sh.size) (H : Hp w0 S O M (⟨sh, T', .slice a len cap, xs⟩ :: W) G w)
 (k : Nat) (hk : ix = (k : Int)) (hx : k < xs.length) (hlen : len = xs.length)
 (h : ∀ b es, a = some ⟨b, 0, none⟩ → Cells w b (k * m) es → sh.rep (Av S w0 O (idsOf M (⟨sh, T', .slice a len cap, xs⟩ :: W))) w es xs[k] → RH P ops n ds w1 Bs K r (putO d (.pointer (some ⟨b, k * m, none⟩)) σ) w) : RH P ops n ds w1 Bs K l σ w := by
 subst hk
 subst hm
 obtain ⟨b, es, ha, hc, hr⟩ := H.ownCell k hx hlen
 have c := h b es ha hc hr
 subst ha
 refine RH.readS hl hS (fun w' _ => semV_run (indexAt_run hT (by omega))) ?_
 rw [Nat.zero_add]; exact c
theorem RW.storeWC {α : Type} {sh : Shape α} {xs : List α} {e T' : TypeId} {m : Nat} {a : Option Addr} {len cap k b : Nat} {v : Value}
 (hl : look P n ops l σ = some (.seq, semU (Instr.storeAt e (.pointer (some ⟨b, k * m, none⟩)) v), d, r)) (hm : m = sh.size) (ho : storeOk P e m v = true) (H : Hp w0 S O M (⟨sh, T', .slice a len cap, xs⟩ :: W) G w)
 (ha : a = some ⟨b, 0, none⟩) (hx : k < xs.length) (hlen : len = xs.length) (y : α) (hy : sh.rep (Av S w0 O (idsOf M (⟨sh, T', .slice a len cap, xs⟩ :: W))) w v.cells.toList y)
 (h : ∀ w', Chg w [b] w' → Hp w0 S O M (⟨sh, T', .slice a len cap, xs.set k y⟩ :: W) G w' → RW P ops n ds K r (putO d undef σ) w') : RW P ops n ds K l σ w := by
 subst hm
 subst ha
 obtain ⟨c, hg, hfit, f⟩ := (H.add (F := Rp sh v.cells.toList y) hy).putW hx hlen
 unfold storeOk at ho
 cases hi : P.info? e with
 | none => rw [hi] at ho; cases ho
 | some ti =>
  rw [hi] at ho
  simp only [Bool.and_eq_true] at ho
  have i := Nat.eq_of_beq_eq_true ho.1
  have g := Nat.eq_of_beq_eq_true ho.2
  simp only [Array.length_toList] at g hfit f
  exact RW.actU hl (semU_run (storeAt_run hg hi (by omega) (List.all_eq_true.2 (sh.ones hy)) hfit rfl)) (h _ ⟨rfl, rfl, rfl, by simp, fun q _ hq => (Array.getElem?_setIfInBounds_ne (fun e => hq (by simp [e])) : (w.heap.setIfInBounds b _)[q]? = _)⟩ f)
theorem Hp.neFW {α : Type} {sh : Shape α} {T : TypeId} {b o b' len cap : Nat} {cs : List Value} {xs : List α} (H : Hp w0 S O M W G w) (i : Nat) (h : G[i]? = some (Fc b o cs)) (j : Nat) (hj : W[j]? = some ⟨sh, T, .slice (some ⟨b', 0, none⟩) len cap, xs⟩) : b ≠ b' := by
 intro e
 subst e
 have a : Av S w0 O (idsOf M W) b := (H.fact i h).2.1
 exact a.2 (List.mem_append_right _ (List.mem_flatMap.2 ⟨_, List.mem_of_getElem? hj, by simp [OwnS.blk]⟩))
end
end Go.BX

/-
 THE ENGINE's MAPS: a map that the call has to itself, as a list of (key, element, stamp).
 No condition.
-/
namespace Go.BX
open Go.RowKit (Below)
section
variable {α β : Type} [DecidableEq α]
def mfind (x : α) : List (α × β × Nat) → Option β
 | [] => none
 | e :: l => if e.1 = x then some e.2.1 else mfind x l
def mset (x : α) (v : β) (c : Nat) : List (α × β × Nat) → List (α × β × Nat)
 | [] => [(x, v, c)]
 | e :: l => if e.1 = x then (x, v, e.2.2) :: l else e :: mset x v c l
def mclk (x : α) (c : Nat) (L : List (α × β × Nat)) : Nat := if (mfind x L).isSome then c else c + 1
end
structure KeyOk {α : Type} [DecidableEq α] (P : Program) (K : TypeId) (mk : α → Value) : Prop where
 und : ∃ d, P.underlying K = some d ∧ ∀ a b, Instr.sameNow d (mk a) (mk b) = some (decide (a = b))
 stays : ∀ a, Instr.sameBits 10000 (mk a) (mk a) = true
 check : ∀ (w : World) (b : Bool) (a : α), (Instr.checkKey b 10000 K (mk a)).run P w = .ok () w
theorem checkKey_int {P : Program} {K : TypeId} {k : IntKind} (h : P.underlying K = some (.int k)) : ∀ (n : Nat) (b : Bool) (a : Int) (w : World), (Instr.checkKey b (n + 1) K (.int k a)).run P w = .ok () w := fun n b a w => by
 simp [Instr.checkKey, run_underlying h]
theorem checkKey_str {P : Program} {K : TypeId} (h : P.underlying K = some .string) : ∀ (n : Nat) (b : Bool) (a : ByteArray) (w : World), (Instr.checkKey b (n + 1) K (.string a)).run P w = .ok () w := fun n b a w => by
 simp [Instr.checkKey, run_underlying h]
theorem beqB (a b : ByteArray) : (a == b) = decide (a = b) := by
 rw [Bool.eq_iff_iff, MapKept.bytes_beq, decide_eq_true_iff]
theorem KeyOk.int {P : Program} {K : TypeId} {k : IntKind} (h : P.underlying K = some (.int k)) : KeyOk P K (Value.int k) where
 und := ⟨_, h, fun a b => by simp [Instr.sameNow]; rfl⟩
 stays a := by simp [Instr.sameBits]
 check w b a := checkKey_int h 9999 b a w
theorem KeyOk.str {P : Program} {K : TypeId} (h : P.underlying K = some .string) : KeyOk P K Value.string where
 und := ⟨_, h, fun a b => congrArg some (beqB a b)⟩
 stays a := by simp only [Instr.sameBits, beqB, decide_true]
 check w b a := checkKey_str h 9999 b a w
section
variable {α β : Type} [DecidableEq α] {P : Program} {K : TypeId} {mk : α → Value} {vk : β → Value} {w : World}
end
section
variable {α β : Type} {P : Program} {n : Nat} {ds : List Deferred} {ops : Array Oper} {K : Env → World → Prop} {l r : List (Nat × Kd)} {σ : Env} {w : World} {κ : Kd} {d : Option Tmp}
variable {w0 : World} {S : Nat → Prop} {O : List Nat} {M M' : Heap} {W : List OwnS} {G : List Fact} {mk : α → Value} {vk : β → Value} {L : List (α × β × Nat)} {b c : Nat} {T : TypeId}
end
structure MOk {α β : Type} (L : List (α × β × Nat)) (c : Nat) : Prop where
 keys : (L.map (·.1)).Nodup
 borns : (L.map (·.2.2)).Nodup
 old : ∀ x ∈ L, x.2.2 < c
theorem MOk.nil {α β : Type} : MOk ([] : List (α × β × Nat)) 0 := ⟨List.nodup_nil, List.nodup_nil, fun x h => by cases h⟩
section
variable {α β : Type} [DecidableEq α]
theorem mfind_none {x : α} {L : List (α × β × Nat)} : mfind x L = none ↔ x ∉ L.map (·.1) := by
 induction L with
 | nil => simp [mfind]
 | cons e l ih =>
  simp only [mfind, List.map_cons, List.mem_cons, not_or]
  by_cases he : e.1 = x
  · simp [he]
  · rw [if_neg he, ih]
    exact ⟨fun h => ⟨fun hx => he hx.symm, h⟩, fun h => h.2⟩
theorem mset_keys (x : α) (v : β) (c : Nat) : ∀ (L : List (α × β × Nat)), (mset x v c L).map (·.1) = if x ∈ L.map (·.1) then L.map (·.1) else L.map (·.1) ++ [x]
 | [] => by simp [mset]
 | e :: l => by
  simp only [mset, List.map_cons, List.mem_cons]
  by_cases he : e.1 = x
  · simp [he]
  · have hx : ¬ x = e.1 := fun h => he h.symm
    rw [if_neg he]
    simp only [List.map_cons, mset_keys x v c l, hx, false_or]
    split <;> rfl
theorem mset_borns (x : α) (v : β) (c : Nat) : ∀ (L : List (α × β × Nat)), (mset x v c L).map (·.2.2) = if x ∈ L.map (·.1) then L.map (·.2.2) else L.map (·.2.2) ++ [c]
 | [] => by simp [mset]
 | e :: l => by
  simp only [mset, List.map_cons, List.mem_cons]
  by_cases he : e.1 = x
  · simp [he]
  · have hx : ¬ x = e.1 := fun h => he h.symm
    rw [if_neg he]
    simp only [List.map_cons, mset_borns x v c l, hx, false_or]
    split <;> rfl
theorem mclk_eq (x : α) (c : Nat) (L : List (α × β × Nat)) : mclk x c L = if x ∈ L.map (·.1) then c else c + 1 := by
 unfold mclk
 cases h : mfind x L with
 | none => simp [mfind_none.1 h]
 | some v =>
  have : x ∈ L.map (·.1) := by
   refine Classical.byContradiction fun hn => ?_
   rw [mfind_none.2 hn] at h
   cases h
  simp [this]
theorem MOk.set {L : List (α × β × Nat)} {c : Nat} (h : MOk L c) (x : α) (v : β) : MOk (mset x v c L) (mclk x c L) := by
 rw [mclk_eq]
 have ho : ∀ b ∈ L.map (·.2.2), b < c := fun b hb => by obtain ⟨e, he, rfl⟩ := List.mem_map.1 hb; exact h.old e he
 refine ⟨?_, ?_, fun e he => ?_⟩
 · rw [mset_keys]
   split
   · exact h.keys
   · exact List.nodup_append.2 ⟨h.keys, by simp, fun a ha b hb => by simp at hb; subst hb; intro e; subst e; contradiction⟩
 · rw [mset_borns]
   split
   · exact h.borns
   · exact List.nodup_append.2 ⟨h.borns, by simp, fun a ha b hb => by simp at hb; subst hb; have := ho a ha; omega⟩
 · have hb : e.2.2 ∈ (mset x v c L).map (·.2.2) := List.mem_map.2 ⟨e, he, rfl⟩
   rw [mset_borns] at hb
   split at hb <;> rename_i hx
   · rw [if_pos hx]; exact ho _ hb
   · rw [if_neg hx]
     rcases List.mem_append.1 hb with hb | hb
     · have := ho _ hb; omega
     · simp at hb; omega
end
theorem Hp.viewF {w0 w : World} {S : Nat → Prop} {O : List Nat} {M : Heap} {W : List OwnS} {G : List Fact} (H : Hp w0 S O M W G w) {F : Fact} (i : Nat) (h : G[i]? = some F) : F.p (fun _ => True) w :=
 F.step (H.fact i h) fun _ _ _ => ⟨trivial, rfl⟩
end Go.BX

/-
 THE ENGINE's slices.Delete: an append into the same block, and a clear, on a block of the call's own.
 No condition.
-/
namespace Go.BX
open Go.RowKit (Below)
section
variable {P : Program} {n : Nat} {ds : List Deferred} {ops : Array Oper} {K : Env → World → Prop} {l r : List (Nat × Kd)} {σ : Env} {w : World} {κ : Kd} {d : Option Tmp}
variable {w0 : World} {S : Nat → Prop} {O : List Nat} {M : Heap} {W : List OwnS} {G : List Fact}
end
end Go.BX

/-
 THE ENGINE's SORT: a row of the call's own, as the shelf's sort wants it, and as it leaves it.
 No condition.
-/
namespace Go.BX
open Go.RowKit (Below)
open Go.Sort Go.Proofs
section
variable {α : Type} [Inhabited α] {w0 w : World} {S : Nat → Prop} {O : List Nat} {M : Heap} {W : List OwnS} {G : List Fact} {sh : Shape α} {enc : α → List Value} {k : Nat} {T : TypeId} {b cap : Nat} {xs : List α}
end
def Gr (w w' : World) : Prop := ∃ q os, w' = grow (w.drewN q) os
theorem Gr.refl (w : World) : Gr w w := ⟨0, #[], by rw [grow_empty]; rfl⟩
theorem Gr.draw {w a : World} (h : Gr w a) : Gr w { a with drawn := a.drawn + 1 } := by
 obtain ⟨q, os, rfl⟩ := h
 exact ⟨q + 1, os, rfl⟩
theorem Gr.new {w a b : World} {o : Obj} (h : Gr w a) (hq : b = { a with heap := a.heap.push o }) : Gr w b := by
 obtain ⟨q, os, rfl⟩ := h
 subst hq
 refine ⟨q, os.push o, ?_⟩
 simp [grow]
section
variable {P : Program} {n : Nat} {ds : List Deferred} {ops : Array Oper} {K : Env → World → Prop} {l r : List (Nat × Kd)} {σ : Env} {w : World} {κ : Kd} {d : Option Tmp}
end
end Go.BX

/-
 THE ENGINE: a row of the call's own, read as another shape of the same cells.
 No condition.
-/
namespace Go.BX
section
variable {w0 w : World} {S : Nat → Prop} {O : List Nat} {M : Heap} {W : List OwnS} {G : List Fact}
end
end Go.BX

/-
 THE ENGINE: so many noughts appended to a nil slice.
 No condition.
-/
namespace Go.BX
section
variable {P : Program} {n : Nat} {ds : List Deferred} {ops : Array Oper} {K : Env → World → Prop} {l r : List (Nat × Kd)} {σ : Env} {w : World} {d : Option Tmp}
variable {w0 : World} {S : Nat → Prop} {O : List Nat} {M : Heap} {W : List OwnS} {G : List Fact}
end
end Go.BX

/-
 THE ENGINE, MORE: rows of bytes of the call's own that lie in a slice of its own: the slice holds bare values (Shape.raw), the rows stand behind in the list of own slices (rowsW); when they are written no more they are facts, and the slice is one of rows.
 No condition.
-/
namespace Go.BX
def Shape.raw : Shape Value where
 size := 1
 rep _ _ cs x := cs = [x] ∧ x.oneCell' = true
 pos := by decide
 len := fun h => by rw [h.1]; rfl
 ones := fun h v hv => by rw [h.1] at hv; simp at hv; subst hv; exact h.2
 step := fun h _ => h
structure RowD where
 a : Option Addr
 n : Nat
 c : Nat
 xs : List (BitVec 8)
def RowD.v (r : RowD) : Value := .slice r.a r.n r.c
def rowW (T : TypeId) (r : RowD) : OwnS := ⟨Shape.bv .u8 8, T, .slice r.a r.n r.c, r.xs⟩
def rowsW (T : TypeId) (R : List RowD) : List OwnS := R.map (rowW T)
theorem erase_perm {α : Type} : ∀ {l : List α} {i : Nat} {x : α}, l[i]? = some x → l.Perm (x :: l.eraseIdx i)
 | [], i, x, h => by simp at h
 | y :: l, 0, x, h => by
  simp only [List.getElem?_cons_zero, Option.some.injEq] at h
  subst h
  exact List.Perm.refl _
 | y :: l, i + 1, x, h => by
  have := erase_perm (l := l) (i := i) (x := x) (by simpa using h)
  exact (List.Perm.cons y this).trans (List.Perm.swap x y _)
theorem set_perm {α : Type} : ∀ {l : List α} {i : Nat} (x : α), i < l.length → (l.set i x).Perm (x :: l.eraseIdx i)
 | [], i, x, h => by simp at h
 | y :: l, 0, x, h => List.Perm.refl _
 | y :: l, i + 1, x, h => by
  have := set_perm (l := l) (i := i) x (by simpa using h)
  exact (List.Perm.cons y this).trans (List.Perm.swap x y _)
theorem rowsW_pick {T : TypeId} {R : List RowD} {i : Nat} {r : RowD} (h : R[i]? = some r) : (rowW T r :: rowsW T (R.eraseIdx i)).Perm (rowsW T R) := by
 have := ((erase_perm h).map (rowW T)).symm
 exact this
theorem rowsW_put {T : TypeId} {R : List RowD} {i : Nat} (r : RowD) (h : i < R.length) : (rowsW T (R.set i r)).Perm (rowW T r :: rowsW T (R.eraseIdx i)) := (set_perm r h).map (rowW T)
theorem rowsW_snoc {T : TypeId} {R : List RowD} {r : RowD} : (rowsW T (R ++ [r])).Perm (rowW T r :: rowsW T R) := by
 unfold rowsW
 rw [List.map_append]
 exact List.perm_append_comm
theorem rowsV_set {R : List RowD} {i : Nat} {r r' : RowD} (h : R[i]? = some r) (hv : r'.v = r.v) : R.map RowD.v = (R.set i r').map RowD.v := by
 rw [List.map_set, hv]
 apply List.ext_getElem?
 intro j
 rw [List.getElem?_set]
 split
 · rename_i e
   subst e
   rw [List.getElem?_map, h]
   simp only [List.length_map]
   rw [if_pos (List.getElem?_eq_some_iff.1 h).1]
   rfl
 · rfl
theorem rowsV_at {R : List RowD} {i : Nat} {r : RowD} (h : R[i]? = some r) (hi : i < (R.map RowD.v).length) : (R.map RowD.v)[i] = .slice r.a r.n r.c := by
 rw [List.getElem_map, (List.getElem?_eq_some_iff.1 h).2]
 rfl
theorem rowsX_set {R : List RowD} {i : Nat} {r' : RowD} : (R.set i r').map RowD.xs = (R.map RowD.xs).set i r'.xs := List.map_set
theorem rowsX_at {R : List RowD} {i : Nat} {r : RowD} {L : List (List (BitVec 8))} (h : R[i]? = some r) (hL : R.map RowD.xs = L) : L[i]? = some r.xs := by
 rw [← hL, List.getElem?_map, h]
 rfl
theorem rows_n {R : List RowD} {m i : Nat} {r r' : RowD} (h : ∀ r ∈ R, r.n = m) (hr : R[i]? = some r) (hn : r'.n = r.n) : ∀ q ∈ R.set i r', q.n = m := by
 intro q hq
 rcases List.mem_or_eq_of_mem_set hq with hq | rfl
 · exact h q hq
 · rw [hn]; exact h r (List.mem_of_getElem? hr)
section
variable {w0 w : World} {S : Nat → Prop} {O : List Nat} {M : Heap} {W : List OwnS} {G : List Fact}
theorem Hp.rowsFacts {o : OwnS} {T : TypeId} : ∀ {R : List RowD} {G : List Fact}, Hp w0 S O M (o :: (rowsW T R ++ W)) G w → Hp w0 S O M (o :: W) (R.map (fun r => Rp (Shape.slice (Shape.bv .u8 8)) [r.v] r.xs) ++ G) w
 | [], _, H => H
 | r :: R, G, H => by
  have h1 := H.freezeW 1 (sh := Shape.bv .u8 8) (T := T) (v := r.v) (xs := r.xs) rfl
  have h2 := Hp.rowsFacts (R := R) h1
  exact h2.facts_sub fun F hF => by
   simp only [List.map_cons, List.cons_append, List.mem_cons, List.mem_append] at hF ⊢
   rcases hF with h | h | h
   · exact .inr (.inl h)
   · exact .inl h
   · exact .inr (.inr h)
theorem Hp.freezeRows {T T2 : TypeId} {v : Value} {R : List RowD} {W : List OwnS} (H : Hp w0 S O M (⟨Shape.raw, T2, v, R.map RowD.v⟩ :: (rowsW T R ++ W)) G w) :
 Hp w0 S O M (⟨Shape.slice (Shape.bv .u8 8), T2, v, R.map RowD.xs⟩ :: W) G w := by
 have a := H.rowsFacts
 have hid : idsOf M ((⟨Shape.slice (Shape.bv .u8 8), T2, v, R.map RowD.xs⟩ : OwnS) :: W) = idsOf M ((⟨Shape.raw, T2, v, R.map RowD.v⟩ : OwnS) :: W) := rfl
 refine (a.reids (fun b => by rw [hid]) (by rw [hid]; exact a.nodup) (fun p hp => (a.own p hp).1) (fun o ho => ?_)).facts_sub fun F hF => List.mem_append_right _ hF
 rcases List.mem_cons.1 ho with rfl | ho
 · obtain ⟨cs, c, d, e⟩ := (a.slc _ (List.mem_cons_self ..)).1
   refine ⟨cs, ?_, d, fun i x hx => ?_⟩
   · simp only [List.length_map] at c ⊢
     exact c
   · obtain ⟨r, hr, rfl⟩ := by
      rw [List.getElem?_map] at hx
      exact Option.map_eq_some_iff.1 hx
     have hv := e i r.v (by show (R.map RowD.v)[i]? = _; rw [List.getElem?_map, hr]; rfl)
     have hf := a.facts (Rp (Shape.slice (Shape.bv .u8 8)) [r.v] r.xs) (List.mem_append_left _ (List.mem_map.2 ⟨r, List.mem_of_getElem? hr, rfl⟩))
     have f : (cs.drop (i * 1)).take 1 = [r.v] := hv.1
     show (Shape.slice (Shape.bv .u8 8)).rep _ w ((cs.drop (i * 1)).take 1) r.xs
     rw [f]
     exact hf
 · exact (a.slc o (List.mem_cons_of_mem _ ho)).1
theorem Hp.freezeRows0 {T T2 : TypeId} {v : Value} {R : List RowD} (H : Hp w0 S O M (⟨Shape.raw, T2, v, R.map RowD.v⟩ :: rowsW T R) G w) :
 Hp w0 S O M [⟨Shape.slice (Shape.bv .u8 8), T2, v, R.map RowD.xs⟩] G w := by
 rw [← List.append_nil (rowsW T R)] at H
 exact H.freezeRows
end
end Go.BX

/-
 THE ENGINE: shifts by an amount that is known at run time only.
 No condition.
-/
namespace Go.BX
theorem rem_nat {P : Program} {w : World} {x y : Int} {r : Nat} (hy : 0 < y) (hx : 0 ≤ x) (h : x % y = (r : Int)) : (Op.intDiv .rem .i64 x y).run P w = .ok (.int .i64 (r : Int)) w := by
 rw [rem_run_i64 hy hx, h]
theorem quo_nat {P : Program} {w : World} {x y : Int} {r : Nat} (hy : 0 < y) (hx : 0 ≤ x ∧ x ≤ 9223372036854775807) (h : x / y = (r : Int)) : (Op.intDiv .quo .i64 x y).run P w = .ok (.int .i64 (r : Int)) w := by
 rw [quo_run_i64 hy hx, h]
end Go.BX

/-
 THE ENGINE's BRIDGE: what a law's arguments read az, in the engine's shapes; what a law leaves.
 No condition.
-/
namespace Go.BX
open Go.RowKit
open Go.ChangeShapes Go.WideShapes Go.ChangeAt
def Reads {α : Type} (P : Program) (t : TypeId) (sh : Shape α) : Prop :=
 ∀ (H : Type) (enc : TypeId × Value → H) (w : World) (spare : Nat → Bool) (held : Bool) (fuel : Nat) (cs : List Value) (x : DataW H × List MemPlace),
  DataW.trod enc P w 0 spare held fuel t cs = some x → ∃ y, sh.rep (fun b => b < w.heap.size) w cs y
theorem Reads.int {P : Program} {t : TypeId} {k : IntKind} (ht : P.underlying t = some (.int k)) : Reads P t (Shape.int k) := by
 intro H enc w spare held fuel cs x h
 obtain ⟨n, rfl, _, hw⟩ := DataW.trod_int ht h
 simp only [Lit.wf, Bool.and_eq_true, decide_eq_true_eq] at hw
 exact ⟨n, rfl, hw⟩
theorem Reads.bool {P : Program} {t : TypeId} (ht : P.underlying t = some .bool) : Reads P t Shape.bool := by
 intro H enc w spare held fuel cs x h
 cases fuel with
 | zero => simp [DataW.trod] at h
 | succ n =>
  have hc : ∃ b, cs = [.bool b] := by
   unfold DataW.trod at h
   rw [ht] at h
   split at h <;> simp_all
  obtain ⟨b, rfl⟩ := hc
  exact ⟨b, rfl⟩
theorem Reads.str {P : Program} {t : TypeId} (ht : P.underlying t = some .string) : Reads P t Shape.str := by
 intro H enc w spare held fuel cs x h
 cases fuel with
 | zero => simp [DataW.trod] at h
 | succ n =>
  unfold DataW.trod at h
  rw [ht] at h
  split at h <;> simp_all
  exact ⟨_, rfl, h.1⟩
theorem exists_list {α : Type} {R : Nat → α → Prop} : ∀ (n : Nat), (∀ i, i < n → ∃ x, R i x) → ∃ xs : List α, xs.length = n ∧ ∀ i x, xs[i]? = some x → R i x
 | 0, _ => ⟨[], rfl, fun i x h => by simp at h⟩
 | n + 1, h => by
  obtain ⟨xs, hl, hr⟩ := exists_list n fun i hi => h i (by omega)
  obtain ⟨y, hy⟩ := h n (by omega)
  refine ⟨xs ++ [y], by simp [hl], fun i x hx => ?_⟩
  rcases Nat.lt_or_ge i xs.length with hlt | hge
  · rw [List.getElem?_append_left hlt] at hx; exact hr i x hx
  · rw [List.getElem?_append_right hge] at hx
    have h0 : i - xs.length = 0 := by
     have := (List.getElem?_eq_some_iff.1 hx).1
     simpa using this
    rw [h0] at hx
    cases hx
    obtain rfl : i = n := by omega
    exact hy
theorem Reads.slice {α : Type} {sh : Shape α} {P : Program} {t e : TypeId} (ht : P.underlying t = some (.slice e)) (hc : P.cellsOf e = sh.size) (hr : Reads P e sh) : Reads P t sh.slice := by
 intro H enc w spare held fuel cs x h
 rcases DataW.trod_slice ht h with ⟨rfl, _⟩ | ⟨a, len, cap, elems, rest, n, _, rfl, _, _, hl, hm, hlen, hel, _, _⟩
 · exact ⟨[], Shape.slice_nil⟩
 · have hsp : 0 < len → a.spot = none := fun k => by
    have d := hel 0 k
    rw [List.getElem?_eq_getElem (by omega)] at d
    obtain ⟨cs', f, _⟩ := Option.bind_eq_some_iff.1 d
    obtain ⟨_, g, hcell⟩ := World.cells?_some f
    have hpos : 0 < P.cellsOf e := by rw [hc]; exact sh.pos
    have c := hcell 0 hpos
    rw [List.getElem?_eq_getElem (by omega), Nat.zero_mul] at c
    have l : (a.add 0).add 0 = a := by simp [Addr.add]
    rw [l] at c
    unfold World.cell? at c
    split at c
    · split at c
      · cases c
      · rename_i hs
        simpa using hs
    · cases c
   have hi : ∀ i, i < len → ∃ y, ∃ es, Cells w a.block (a.off + i * sh.size) es ∧ sh.rep (fun b => b < w.heap.size) w es y ∧ a.spot = none := fun i hi => by
    have d := hel i hi
    rw [List.getElem?_eq_getElem (by omega)] at d
    obtain ⟨cs', f, c⟩ := Option.bind_eq_some_iff.1 d
    obtain ⟨y, hy⟩ := hr H enc w spare held n cs' _ c
    obtain ⟨_, g, hcell⟩ := World.cells?_some f
    have hpos : 0 < P.cellsOf e := by rw [hc]; exact sh.pos
    refine ⟨y, cs', fun j v hj => ?_, hy, hsp (by omega)⟩
    have hjl := (List.getElem?_eq_some_iff.1 hj).1
    have := hcell j (by omega)
    rw [hj, hc] at this
    have hsp := hsp (by omega)
    cases a with
    | mk ab ao az =>
     simp only at hsp
     subst hsp
     simpa [addr_lit, Nat.add_assoc] using this
   obtain ⟨xs, hxl, hxr⟩ := exists_list len hi
   subst hxl
   refine ⟨xs, some a, cap, rfl, hl, hm, fun i x hx => ?_⟩
   obtain ⟨es, d, f, c⟩ := hxr i x hx
   have hb : a.block < w.heap.size := d.lt (by rw [sh.len f]; exact sh.pos)
   cases a with
   | mk ab ao az =>
    simp only at c
    subst c
    exact ⟨ab, ao, es, rfl, hb, d, f⟩
def ReadsAt {α : Type} (P : Program) (fs : List Field) (o : Nat) (sh : Shape α) : Prop :=
 ∀ (H : Type) (enc : TypeId × Value → H) (w : World) (spare : Nat → Bool) (held : Bool) (fuel : Nat) (cs : List Value), cs.length = o + sh.size →
  (∀ f ∈ fs, ∃ y, DataW.trod enc P w 0 spare held fuel f.type ((cs.drop f.offset).take (P.cellsOf f.type)) = some y) → ∃ y, sh.rep (fun b => b < w.heap.size) w (cs.drop o) y
theorem ReadsAt.one {α : Type} {P : Program} {f : Field} {o : Nat} {sh : Shape α} (ho : f.offset = o) (hc : P.cellsOf f.type = sh.size) (hr : Reads P f.type sh) : ReadsAt P [f] o sh := by
 intro H enc w spare held fuel cs hl h
 obtain ⟨y, hy⟩ := h f (List.mem_cons_self ..)
 obtain ⟨z, hz⟩ := hr H enc w spare held fuel _ _ hy
 refine ⟨z, ?_⟩
 rw [ho, hc, List.take_of_length_le (by rw [List.length_drop]; omega)] at hz
 exact hz
theorem ReadsAt.cons {α β : Type} {P : Program} {f : Field} {fs : List Field} {o : Nat} {s : Shape α} {t : Shape β} (ho : f.offset = o) (hc : P.cellsOf f.type = s.size) (hr : Reads P f.type s) (hk : ReadsAt P fs (o + s.size) t) :
 ReadsAt P (f :: fs) o (Shape.pair s t) := by
 intro H enc w spare held fuel cs hl h
 obtain ⟨y, hy⟩ := h f (List.mem_cons_self ..)
 obtain ⟨z, hz⟩ := hr H enc w spare held fuel _ _ hy
 have hl' : cs.length = o + (s.size + t.size) := hl
 obtain ⟨u, hu⟩ := hk H enc w spare held fuel cs (by omega) fun f' hf' => h f' (List.mem_cons_of_mem _ hf')
 rw [ho, hc] at hz
 refine ⟨(z, u), (cs.drop o).take s.size, cs.drop (o + s.size), ?_, hz, hu⟩
 rw [← List.drop_drop, List.take_append_drop]
theorem Reads.struct {α : Type} {P : Program} {t : TypeId} {fs : Array Field} {sh : Shape α} (ht : P.underlying t = some (.struct fs)) (hc : P.cellsOf t = sh.size) (hr : ReadsAt P fs.toList 0 sh) : Reads P t sh := by
 intro H enc w spare held fuel cs x h
 obtain ⟨xs, n, _, rfl, hl, hlen, hf⟩ := DataW.trod_struct ht h
 obtain ⟨y, hy⟩ := hr H enc w spare held n cs (by omega) fun f hfm => by
  obtain ⟨i, hi, he⟩ := List.mem_iff_getElem.1 hfm
  have := hf i f (by rw [← he]; simp at hi ⊢)
  rw [this]
  have hix : i < xs.length := by simp at hi; omega
  exact ⟨xs[i], by simp [hix]⟩
 exact ⟨y, by simpa using hy⟩
theorem Reads.map {α β : Type} {P : Program} {t : TypeId} {s : Shape α} {f : β → α} (h : Reads P t s) (hf : ∀ a, ∃ b, f b = a) : Reads P t (s.map f) := by
 intro H enc w spare held fuel cs x hx
 obtain ⟨y, hy⟩ := h H enc w spare held fuel cs x hx
 obtain ⟨z, rfl⟩ := hf y
 exact ⟨z, hy⟩
section
variable {H : Type} {enc : TypeId × Value → H} {P : Program} {W W' : World}
theorem Reads.trod {α : Type} {sh : Shape α} {t : TypeId} {sp : Nat → Bool} {hd : Bool} {v : Value} {d : DataW H} {p : List MemPlace} (hr : Reads P t sh) (h : DataW.Trod enc P W 0 sp hd t v d p) : ∃ y, sh.rep (fun b => b < W.heap.size) W v.cells.toList y := by
 obtain ⟨n, hn⟩ := h
 exact hr H enc W sp hd n _ _ hn
theorem Reads.sliceArg {α : Type} {sh : Shape α} {t e : TypeId} {r : Reach} {base : Nat} {sp : Nat → Bool} {hd : Bool} {v : Value} {d : DataW H} {p : List MemPlace} (hr : Reads P t sh.slice) (ht : P.underlying t = some (.slice e)) (hval : Value.okWide P W r base t v) (h : DataW.Trod enc P W 0 sp hd t v d p) :
 ∃ (a : Option Addr) (xs : List α) (c : Nat), v = .slice a xs.length c ∧ sh.slice.rep (fun b => b < W.heap.size) W [.slice a xs.length c] xs := by
 obtain ⟨a, len, cap, rfl⟩ := okWide_slice ht hval
 obtain ⟨xs, hx⟩ := hr.trod h
 obtain ⟨a', c', he⟩ := Shape.slice_form hx
 simp only [Value.slice.injEq] at he
 obtain ⟨rfl, rfl, rfl⟩ := he
 exact ⟨a, xs, cap, rfl, hx⟩
theorem Reads.structArg {α : Type} {sh : Shape α} {t : TypeId} {fs : Array Field} {r : Reach} {base : Nat} {sp : Nat → Bool} {hd : Bool} {v : Value} {d : DataW H} {p : List MemPlace} (hr : Reads P t sh) (ht : P.underlying t = some (.struct fs)) (hval : Value.okWide P W r base t v) (h : DataW.Trod enc P W 0 sp hd t v d p) :
 ∃ (cs : List Value) (x : α), v = .agg cs.toArray ∧ sh.rep (fun b => b < W.heap.size) W cs x := by
 obtain ⟨cs, rfl, _⟩ := okWide_struct ht hval
 obtain ⟨x, hx⟩ := hr.trod h
 exact ⟨cs.toList, x, by simp, hx⟩
theorem trodAll_stays (hl : laidOutB P = true) (hb : Below W.heap.size W W') {sp : Nat → Bool} : ∀ {ts : List TypeId} {vs : List Value} {ds : List (DataW H)} {p : List MemPlace}, (∀ t ∈ ts, P.readableRec t = true ∧ t < P.types.size) → (∀ x ∈ p, x.block < W.heap.size) → (∀ x ∈ p, sp x.block = true) →
 DataW.TrodAll enc P W 0 (fun _ => true) true ts vs ds p → DataW.TrodAll enc P W' 0 sp true ts vs ds p
 | [], [], [], _, _, _, _, h => h
 | [], [], _ :: _, _, _, _, _, h => h.elim
 | [], _ :: _, _, _, _, _, _, h => h.elim
 | _ :: _, [], _, _, _, _, _, h => h.elim
 | _ :: _, _ :: _, [], _, _, _, _, h => h.elim
 | t :: ts, v :: vs, d :: ds, _, ht, hlt, hs, h => by
  obtain ⟨p, q, h1, h2, rfl⟩ := h
  exact ⟨p, q, WideElems.Trod_stays hl (ht t (List.mem_cons_self ..)).1 (ht t (List.mem_cons_self ..)).2 h1 (fun x hx => hb.same (hlt x (List.mem_append_left _ hx))) (fun x hx => hs x (List.mem_append_left _ hx)),
   trodAll_stays hl hb (fun t ht' => ht t (List.mem_cons_of_mem _ ht')) (fun x hx => hlt x (List.mem_append_right _ hx)) (fun x hx => hs x (List.mem_append_right _ hx)) h2, rfl⟩
theorem params_ok {ts : List TypeId} (h : (ts.all fun t => P.readableRec t && Nat.blt t P.types.size) = true) : ∀ t ∈ ts, P.readableRec t = true ∧ t < P.types.size := fun t ht => by
 have h1 := List.all_eq_true.1 h t ht
 simp only [Bool.and_eq_true, Nat.blt, Nat.ble_eq] at h1
 exact ⟨h1.1, h1.2⟩
theorem post_true {f : Func} {s : ChangeSpec} {fresh handsOn again : Bool} {args : Array Value} {ds gs : List (DataW H)} {before : List MemPlace} {tb : TypeId} (hl : laidOutB P = true)
 (hps : ∀ t ∈ f.params.toList, P.readableRec t = true ∧ t < P.types.size) (hv : s.vars = []) (hW : DataW.Whole enc P f.params.toList s.vars false W args.toList ds gs before) (hb : Ext W W')
 (hfn : s.fn H (ds ++ gs) = { results := [.lit (.bool true)], args := ds }) (hrt : f.resultTypes = #[tb]) (htb : P.underlying tb = some .bool) : s.post enc P f false fresh handsOn again W args (.bool true) W' := by
 have hW' := hW
 obtain ⟨p, q, hA, hV, rfl, hfz, hnd⟩ := hW
 rw [hv] at hV
 obtain ⟨rfl, rfl⟩ := trodVars_none hV
 have hlt : ∀ x ∈ p, x.block < W.heap.size := fun x hx => hW'.lt x (List.mem_append_left _ hx)
 have hres : ∀ (b : Nat) (sp : Nat → Bool) (hd : Bool), DataW.TrodAll enc P W' b sp hd f.resultTypes.toList ((Value.bool true).resultList f.resultTypes.size) (s.fn H (ds ++ [])).results [] := fun b sp hd => by
  rw [hfn, hrt]
  exact ⟨[], [], shut_bool htb true, rfl, rfl⟩
 have hargs : ∀ sp : Nat → Bool, (∀ x ∈ p, sp x.block = true) → DataW.TrodAll enc P W' 0 sp true f.params.toList args.toList (s.fn H (ds ++ [])).args p := fun sp hs => by
  rw [hfn]
  exact trodAll_stays hl hb hps hlt hs hA
 have hvars : ∀ sp : Nat → Bool, DataW.TrodVars enc P W' sp s.vars (s.fn H (ds ++ [])).vars [] := fun sp => by
  rw [hv, hfn]
  rfl
 rw [List.append_nil] at hW' hfz hnd
 refine ⟨ds, [], p, [], p, [], hW', hres _ _ _, hargs _ (fun x hx => by simpa using hlt x hx), hvars _, World.keptBut_mono (fun x hx => ⟨hx, .inr (.inl hx)⟩) (hb.frame _), fun _ => ?_⟩
 refine ⟨ok_one hrt rfl (okWide_bool_mk htb true), _, _, ([] ++ p) ++ [], ⟨[] ++ p, [], trodAll_append (hargs _ (fun _ _ => rfl)) (hres _ _ _), hvars _, rfl, ?_, ?_⟩, ?_⟩
 · intro b off hp
   have hp : MemPlace.cell b off ∈ p := by simpa using hp
   have hblk := hlt _ hp
   rw [hb.frozen (p := ⟨b, off, none⟩) hblk]
   exact hfz b off hp
 · intro h
   cases h
 · intro x hx _
   simpa using hx
end
end Go.BX

/-
 THE ENGINE's BRIDGE: numbers of 8 and 32 bits.
 No condition.
-/
namespace Go.BX
theorem Reads.bv8 {P : Program} {t : TypeId} (ht : P.underlying t = some (.int .u8)) : Reads P t (Shape.bv .u8 8) := by
 intro H enc w spare held fuel cs x h
 obtain ⟨n, rfl, a, b⟩ := Reads.int ht H enc w spare held fuel cs x h
 have h0' : 0 ≤ n := a
 have h1' : n ≤ 255 := b
 refine ⟨BitVec.ofInt 8 n, ?_⟩
 show [Value.int .u8 n] = [.int .u8 _]
 rw [BitVec.toNat_ofInt, Int.toNat_of_nonneg (Int.emod_nonneg _ (by decide))]
 congr 2
 simp only [Nat.reducePow]
 omega
end Go.BX

