/-
  THE ENGINE's MAPS: a map that the call has to itself, as a list of (key, element, stamp).
  No condition.
-/
import Derived.Test.YtppcdmbkgficiaaBxArr
import Derived.Laws.IdiomRangeMap
import Derived.MapKept
namespace Go.BX
open Go.RowKit (Below)

def ent {α β : Type} (mk : α → Value) (vk : β → Value) (x : α × β × Nat) : MapEntry := ⟨mk x.1, vk x.2.1, x.2.2⟩
def mapO {α β : Type} (mk : α → Value) (vk : β → Value) (L : List (α × β × Nat)) (c : Nat) : Obj := .map (L.map (ent mk vk)).toArray c
def iterO {α β : Type} (b since : Nat) (dn : List (α × β × Nat)) (last : Nat) : Obj := .mapIter (some b) since (dn.map (·.2.2)).toArray last

section
variable {α β : Type} [DecidableEq α]
def mfind (x : α) : List (α × β × Nat) → Option β
  | [] => none
  | e :: l => if e.1 = x then some e.2.1 else mfind x l
def mset (x : α) (v : β) (c : Nat) : List (α × β × Nat) → List (α × β × Nat)
  | [] => [(x, v, c)]
  | e :: l => if e.1 = x then (x, v, e.2.2) :: l else e :: mset x v c l
def mdel (x : α) : List (α × β × Nat) → List (α × β × Nat)
  | [] => []
  | e :: l => if e.1 = x then l else e :: mdel x l
def mclk (x : α) (c : Nat) (L : List (α × β × Nat)) : Nat := if (mfind x L).isSome then c else c + 1
def midx (x : α) : List (α × β × Nat) → Option Nat
  | [] => none
  | e :: l => if e.1 = x then some 0 else (midx x l).map (· + 1)
end

/-- keys of this type are told apart at sight -/
structure KeyOk {α : Type} [DecidableEq α] (P : Program) (K : TypeId) (mk : α → Value) : Prop where
  und : ∃ d, P.underlying K = some d ∧ ∀ a b, Instr.sameNow d (mk a) (mk b) = some (decide (a = b))
  stays : ∀ a, Instr.sameBits 10000 (mk a) (mk a) = true
  check : ∀ (w : World) (b : Bool) (a : α), (Instr.checkKey b 10000 K (mk a)).run P w = .ok () w

theorem checkKey_int {P : Program} {K : TypeId} {k : IntKind} (h : P.underlying K = some (.int k)) : ∀ (n : Nat) (b : Bool) (a : Int) (w : World), (Instr.checkKey b (n + 1) K (.int k a)).run P w = .ok () w := fun n b a w => by
  simp [Instr.checkKey, run_underlying h]
theorem checkKey_str {P : Program} {K : TypeId} (h : P.underlying K = some .string) : ∀ (n : Nat) (b : Bool) (a : ByteArray) (w : World), (Instr.checkKey b (n + 1) K (.string a)).run P w = .ok () w := fun n b a w => by
  simp [Instr.checkKey, run_underlying h]
theorem beqB (a b : ByteArray) : (a == b) = decide (a = b) := by
  rw [Bool.eq_iff_iff, MapKept.bytes_beq, decide_eq_true_iff]
theorem KeyOk.int {P : Program} {K : TypeId} {k : IntKind} (h : P.underlying K = some (.int k)) : KeyOk P K (Value.int k) where
  und := ⟨_, h, fun a b => by simp [Instr.sameNow]; rfl⟩
  stays a := by simp [Instr.sameBits]
  check w b a := checkKey_int h 9999 b a w
theorem KeyOk.str {P : Program} {K : TypeId} (h : P.underlying K = some .string) : KeyOk P K Value.string where
  und := ⟨_, h, fun a b => congrArg some (beqB a b)⟩
  stays a := by simp only [Instr.sameBits, beqB, decide_true]
  check w b a := checkKey_str h 9999 b a w

section
variable {α β : Type} [DecidableEq α] {P : Program} {K : TypeId} {mk : α → Value} {vk : β → Value} {w : World}

theorem findNow_mid {d : TypeDesc} (h : ∀ a b, Instr.sameNow d (mk a) (mk b) = some (decide (a = b))) (x : α) : ∀ (L : List (α × β × Nat)) (i : Nat),
    Instr.findNow d (mk x) (L.map (ent mk vk)) i = some ((midx x L).bind fun j => (mfind x L).map fun v => (i + j, vk v))
  | [], i => rfl
  | e :: l, i => by
    have hc := h x e.1
    simp only [List.map_cons, Instr.findNow, ent, hc, midx, mfind]
    by_cases he : e.1 = x
    · simp [he]
    · have hx : ¬ x = e.1 := fun hh => he hh.symm
      have ih := findNow_mid h x l (i + 1)
      simp only [he, hx, decide_false, if_false]
      change Instr.findNow d (mk x) (l.map (ent mk vk)) (i + 1) = _
      rw [ih]
      cases midx x l with
      | none => rfl
      | some j => cases mfind x l <;> simp [Nat.add_assoc, Nat.add_comm 1]

theorem midx_find (x : α) : ∀ (L : List (α × β × Nat)), (midx x L).isSome = (mfind x L).isSome
  | [] => rfl
  | e :: l => by
    simp only [midx, mfind]
    split
    · rfl
    · rw [Option.isSome_map, midx_find x l]

theorem findKey_run (hk : KeyOk P K mk) (x : α) (L : List (α × β × Nat)) (w : World) :
    (Instr.findKey K (mk x) (L.map (ent mk vk))).run P w = .ok ((midx x L).bind fun j => (mfind x L).map fun v => (j, vk v)) w := by
  obtain ⟨d, hd, hs⟩ := hk.und
  have := findNow_mid (vk := vk) hs x L 0
  simp only [Nat.zero_add] at this
  simp [Instr.findKey, run_underlying hd, this]

theorem modify_mset (x : α) (v : β) (c : Nat) : ∀ (L : List (α × β × Nat)) (i : Nat), midx x L = some i →
    (L.map (ent mk vk)).modify i (fun e => { e with key := mk x, val := vk v }) = (mset x v c L).map (ent mk vk)
  | e :: l, i, h => by
    simp only [midx, mset] at h ⊢
    by_cases he : e.1 = x
    · rw [if_pos he] at h ⊢
      cases h
      rfl
    · rw [if_neg he] at h ⊢
      cases hm : midx x l with
      | none => rw [hm] at h; cases h
      | some j =>
        rw [hm] at h
        cases h
        simp [modify_mset x v c l j hm]

theorem push_mset (x : α) (v : β) (c : Nat) : ∀ (L : List (α × β × Nat)), midx x L = none → mset x v c L = L ++ [(x, v, c)]
  | [], _ => rfl
  | e :: l, h => by
    simp only [midx, mset] at h ⊢
    by_cases he : e.1 = x
    · rw [if_pos he] at h; cases h
    · rw [if_neg he] at h ⊢
      rw [push_mset x v c l (by simpa using h)]; rfl

theorem erase_mdel (x : α) : ∀ (L : List (α × β × Nat)) (i : Nat), midx x L = some i → (L.map (ent mk vk)).eraseIdx i = (mdel x L).map (ent mk vk)
  | e :: l, i, h => by
    simp only [midx, mdel] at h ⊢
    by_cases he : e.1 = x
    · rw [if_pos he] at h ⊢
      cases h
      rfl
    · rw [if_neg he] at h ⊢
      cases hm : midx x l with
      | none => rw [hm] at h; cases h
      | some j =>
        rw [hm] at h
        cases h
        simp [erase_mdel x l j hm]

theorem mdel_none (x : α) : ∀ (L : List (α × β × Nat)), midx x L = none → mdel x L = L
  | [], _ => rfl
  | e :: l, h => by
    simp only [midx, mdel] at h ⊢
    by_cases he : e.1 = x
    · rw [if_pos he] at h; cases h
    · rw [if_neg he] at h ⊢
      rw [mdel_none x l (by simpa using h)]

theorem getObj_run {b : Nat} {es : Array MapEntry} {c : Nat} (h : w.heap[b]? = some (.map es c)) : (getObj b).run P w = .ok (.map es c) w := by
  simp [getObj, Sem.run, h]
theorem setObj_run {b : Nat} {es : Array MapEntry} {c : Nat} {o' : Obj} (h : w.heap[b]? = some (.map es c)) : (setObj b o').run P w = .ok () { w with heap := w.heap.setIfInBounds b o' } := by
  simp [setObj, Sem.run, h]

theorem lookup_run (hk : KeyOk P K mk) {T E : TypeId} (hT : P.underlying T = some (.map K E)) {z : β} (hz : ∀ w, (zeroValue E).run P w = .ok (vk z) w) {b c : Nat} {L : List (α × β × Nat)} (x : α) (ok : Bool) (hb : w.heap[b]? = some (mapO mk vk L c)) :
    (Instr.lookup T (.map (some b)) (mk x) ok).run P w = .ok (if ok then .tuple #[vk ((mfind x L).getD z), .bool (mfind x L).isSome] else vk ((mfind x L).getD z)) w := by
  have h1 := midx_find x L
  have h2 := findKey_run (vk := vk) hk x L w
  simp only [Instr.lookup, Sem.run_bind, run_underlying hT, Result.andThen_ok, getObj_run hb, mapO, hk.check, h2, Sem.run_pure]
  cases hm : mfind x L with
  | none =>
    rw [hm] at h1
    cases hi : midx x L with
    | none => simp [hz]
    | some j => rw [hi] at h1; cases h1
  | some v =>
    rw [hm] at h1
    cases hi : midx x L with
    | none => rw [hi] at h1; cases h1
    | some j => simp

theorem update_run (hk : KeyOk P K mk) {T E : TypeId} (hT : P.underlying T = some (.map K E)) {b c : Nat} {L : List (α × β × Nat)} (x : α) (v : β) (hb : w.heap[b]? = some (mapO mk vk L c)) :
    (Instr.mapUpdate T (.map (some b)) (mk x) (vk v)).run P w = .ok () { w with heap := w.heap.setIfInBounds b (mapO mk vk (mset x v c L) (mclk x c L)) } := by
  have h1 := midx_find x L
  have h2 := findKey_run (vk := vk) hk x L w
  simp only [Instr.mapUpdate, Sem.run_bind, run_underlying hT, Result.andThen_ok, getObj_run hb, mapO, hk.check, h2]
  unfold mclk
  cases hm : mfind x L with
  | none =>
    rw [hm] at h1
    cases hi : midx x L with
    | none =>
      simp only [Option.bind_none, Option.isSome_none, Bool.false_eq_true, if_false, setObj_run hb, push_mset x v c L hi]
      simp [ent]
    | some j => rw [hi] at h1; cases h1
  | some v0 =>
    rw [hm] at h1
    cases hi : midx x L with
    | none => rw [hi] at h1; cases h1
    | some j =>
      have hj : ∃ e, L[j]? = some e ∧ e.1 = x := by
        clear h1 h2 hm hb
        induction L generalizing j with
        | nil => cases hi
        | cons e l ih =>
          simp only [midx] at hi
          split at hi
          · cases hi; exact ⟨e, rfl, by assumption⟩
          · cases hm : midx x l with
            | none => rw [hm] at hi; cases hi
            | some i => rw [hm] at hi; cases hi; exact ih i hm
      obtain ⟨e, he, hex⟩ := hj
      have hs := hk.stays x
      have hmod : ((L.map (ent mk vk)).toArray.modify j fun e => { e with key := mk x, val := vk v }) = ((mset x v c L).map (ent mk vk)).toArray := by
        apply Array.toList_inj.1
        rw [Array.toList_modify]
        exact modify_mset x v c L j hi
      simp only [Option.bind_some, Option.map_some, List.getElem?_toArray, List.getElem?_map, he, ent, Option.getD_some, hex, Instr.keyThatStays, hs, if_true, Sem.run_pure, Result.andThen_ok, Option.isSome_some, setObj_run hb, pure_bind]
      simp only [← hmod, ent]

theorem delete_run (hk : KeyOk P K mk) {T E : TypeId} (hT : P.underlying T = some (.map K E)) {b c : Nat} {L : List (α × β × Nat)} (x : α) {ts : Array TypeId} (t : TypeId) (ht : ts[0]? = some T) (hb : w.heap[b]? = some (mapO mk vk L c)) :
    (Builtin.delete_ ts t #[.map (some b), mk x]).run P w = .ok (.tuple #[]) { w with heap := w.heap.setIfInBounds b (mapO mk vk (mdel x L) c) } := by
  have h1 := midx_find x L
  have h2 := findKey_run (vk := vk) hk x L w
  simp only [Builtin.delete_, ht, List.getElem?_toArray, List.getElem?_cons_zero, List.getElem?_cons_succ, Sem.run_bind, run_underlying hT, Result.andThen_ok, getObj_run hb, mapO, hk.check, h2]
  cases hm : mfind x L with
  | none =>
    rw [hm] at h1
    cases hi : midx x L with
    | none => simp [setObj_run hb, mdel_none x L hi]
    | some j => rw [hi] at h1; cases h1
  | some v0 =>
    rw [hm] at h1
    cases hi : midx x L with
    | none => rw [hi] at h1; cases h1
    | some j =>
      have he : (L.map (ent mk vk)).toArray.eraseIdxIfInBounds j = ((mdel x L).map (ent mk vk)).toArray := by
        apply Array.toList_inj.1
        rw [Array.toList_eraseIdxIfInBounds]
        exact erase_mdel x L j hi
      simp [setObj_run hb, he]

omit [DecidableEq α] in
theorem lenMap_run {T E : TypeId} (hT : P.underlying T = some (.map K E)) {b c : Nat} {L : List (α × β × Nat)} {ts : Array TypeId} (t : TypeId) (ht : ts[0]? = some T) (hb : w.heap[b]? = some (mapO mk vk L c)) :
    (Builtin.len_ ts t #[.map (some b)]).run P w = .ok (.int .i64 (L.length : Int)) w := by
  simp [Builtin.len_, ht, run_underlying hT, getObj_run hb, mapO, goInt]
end

/-! ### A range over a map -/
theorem next_run {P : Program} {w : World} {r bm since c0 clock : Nat} {seen : Array Nat} {es : Array MapEntry} (ty : TypeId) (hr : w.heap[r]? = some (.mapIter (some bm) since seen c0)) (hb : w.heap[bm]? = some (.map es clock)) (hold : ∀ x ∈ es.toList, x.born < since) (hsc : since ≤ c0) :
    ((leftOf es seen).size = 0 ∧ (Instr.next (.pointer (some ⟨r, 0, none⟩)) false ty).run P w = .ok (.tuple #[.bool false]) w) ∨
    ∃ e ∈ (leftOf es seen).toList, ∃ w1 : World, (w1 = w ∨ w1 = w.drew) ∧ (Instr.next (.pointer (some ⟨r, 0, none⟩)) false ty).run P w = .ok (.tuple #[.bool true, e.key, e.val]) { w1 with heap := w1.heap.setIfInBounds r (.mapIter (some bm) since (seen.push e.born) clock) } := by
  simp only [Instr.next, getObj, Sem.run_bind, Sem.run, hr, hb, Result.andThen, next_test_false seen es since c0 hold hsc, Bool.false_eq_true, if_false]
  unfold leftOf
  have hmem : ∀ x ∈ (Array.filter (fun e => !seen.contains e.born) es).toList, x.born < since := fun x hx => hold x (by simp at hx ⊢; exact hx.1)
  generalize Array.filter (fun e => !seen.contains e.born) es = L at hmem ⊢
  have e1 : L.filter (fun x => decide (x.born < since)) = L := Array.filter_eq_self.2 (fun x hx => by simpa using hmem x (by simpa using hx))
  have e2 : L.filter (fun x => decide (x.born ≥ since)) = #[] := by
    rw [Array.filter_eq_empty_iff]
    intro x hx
    have := hmem x (by simpa using hx)
    simp
    omega
  simp only [e1, e2, Array.append_empty]
  by_cases h0 : L.size = 0
  · left
    have : L = #[] := Array.eq_empty_of_size_eq_zero h0
    subst this
    refine ⟨rfl, ?_⟩
    simp [choose, Sem.run, Question.forced]
  · right
    have hne : L.isEmpty = false := by simp [Array.isEmpty, h0]
    simp only [hne, Bool.false_eq_true, if_false, Array.empty_append, Array.size_map]
    have hch : ∃ (j : Nat) (w1 : World), j < L.size ∧ (w1 = w ∨ w1 = w.drew) ∧ (choose (Question.mapNext L.size)).run P w = .ok j w1 := by
      by_cases hf : L.size ≤ 1
      · exact ⟨0, w, by omega, .inl rfl, by simp [choose, Sem.run, Question.forced, hf]⟩
      · exact ⟨_, w.drew, Nat.mod_lt _ (by omega), .inr rfl, by
          simp only [choose, Sem.run, Question.forced, decide_eq_true_eq, hf, if_false, Question.cut]
          rfl⟩
    obtain ⟨j, w1, hj, hal, hrun⟩ := hch
    refine ⟨L[j], by simp, w1, hal, ?_⟩
    have hr1 : w1.heap[r]? = some (.mapIter (some bm) since seen c0) := by rcases hal with rfl | rfl <;> exact hr
    simp only [hrun, Array.getElem?_map, Array.getElem?_eq_getElem hj, Option.map_some, Sem.run_bind, setObj, Sem.run, hr1, Result.andThen]
    rfl

theorem entry_run {P : Program} {w : World} {r bm since clock : Nat} {seen : Array Nat} {es : Array MapEntry} {e : MapEntry} (hr : w.heap[r]? = some (.mapIter (some bm) since (seen.push e.born) clock)) (hb : w.heap[bm]? = some (.map es clock)) (he : e ∈ es.toList) (hn : (es.toList.map (·.born)).Nodup) :
    (Instr.entry (.pointer (some ⟨r, 0, none⟩))).run P w = .ok (.tuple #[e.key, e.val]) w := by
  have hf : es.find? (·.born == e.born) = some e := by rw [← Array.find?_toList]; exact find_born e es.toList hn he
  simp only [Instr.entry, getObj, Sem.run_bind, Sem.run, hr, hb, Result.andThen, Array.back?_push, bne_self_eq_false, Bool.false_eq_true, if_false, hf]
  rfl

theorem cont_f (l : List Nat) (b : Nat) : (l.toArray.contains b = false) ↔ b ∉ l := by simp

theorem range_run {P : Program} {w : World} {T K E : TypeId} {bm clock : Nat} {es : Array MapEntry} (hT : P.underlying T = some (.map K E)) (hb : w.heap[bm]? = some (.map es clock)) :
    (Instr.range T (.map (some bm))).run P w = .ok (.pointer (some ⟨w.heap.size, 0, none⟩)) { w with heap := w.heap.push (.mapIter (some bm) clock #[] clock) } := by
  simp [Instr.range, run_underlying hT, getObj_run hb]

section
variable {α β : Type} {P : Program} {n : Nat} {ds : List Deferred} {ops : Array Oper} {K : Env → World → Prop} {l r : List (Nat × Kd)} {σ : Env} {w : World} {κ : Kd} {d : Option Tmp}
variable {w0 : World} {S : Nat → Prop} {O : List Nat} {M M' : Heap} {W : List OwnS} {G : List Fact} {mk : α → Value} {vk : β → Value} {L : List (α × β × Nat)} {b c : Nat} {T : TypeId}

theorem RW.mapGet [DecidableEq α] {Kt E : TypeId} {z : β} (x : α) (ok : Bool) (hl : look P n ops l σ = some (κ, semV (Instr.lookup T (.map (some b)) (mk x) ok), d, r)) (H : Hp w0 S O M W G w) (i : Nat) (hm : M[i]? = some (b, mapO mk vk L c))
    (hk : KeyOk P Kt mk) (hT : P.underlying T = some (.map Kt E)) (hz : ∀ w, (zeroValue E).run P w = .ok (vk z) w)
    (h : RW P ops n ds K r (putO d (if ok then .tuple #[vk ((mfind x L).getD z), .bool (mfind x L).isSome] else vk ((mfind x L).getD z)) σ) w) : RW P ops n ds K l σ w := by
  have hb := (H.own _ (List.mem_of_getElem? hm)).1
  have hlt := (Array.getElem?_eq_some_iff.1 hb).1
  exact RW.readS hl (fun w' he => semV_run (lookup_run hk hT hz x ok (by rw [Below.block he b hlt]; exact hb))) h

theorem RW.mapLen {E Kt : TypeId} {ts : Array TypeId} {t : TypeId} (hl : look P n ops l σ = some (κ, semV (Builtin.len_ ts t #[.map (some b)]), d, r)) (H : Hp w0 S O M W G w) (i : Nat) (hm : M[i]? = some (b, mapO mk vk L c))
    (ht : ts[0]? = some T) (hT : P.underlying T = some (.map Kt E))
    (h : RW P ops n ds K r (putO d (.int .i64 (L.length : Int)) σ) w) : RW P ops n ds K l σ w := by
  have hb := (H.own _ (List.mem_of_getElem? hm)).1
  have hlt := (Array.getElem?_eq_some_iff.1 hb).1
  exact RW.readS hl (fun w' he => semV_run (lenMap_run hT t ht (by rw [Below.block he b hlt]; exact hb))) h

theorem RW.mapSet [DecidableEq α] {Kt E : TypeId} (x : α) (v : β) (hl : look P n ops l σ = some (.seq, semU (Instr.mapUpdate T (.map (some b)) (mk x) (vk v)), d, r)) (H : Hp w0 S O M W G w) (i : Nat) (hm : M[i]? = some (b, mapO mk vk L c))
    (hk : KeyOk P Kt mk) (hT : P.underlying T = some (.map Kt E)) (hM : M.set i (b, mapO mk vk (mset x v c L) (mclk x c L)) = M')
    (h : ∀ w', Chg w [b] w' → Hp w0 S O M' W G w' → RW P ops n ds K r (putO d undef σ) w') : RW P ops n ds K l σ w := by
  subst hM
  have hb := (H.own _ (List.mem_of_getElem? hm)).1
  exact RW.actU hl (semU_run (update_run hk hT x v hb)) (h _ ⟨rfl, rfl, rfl, by simp, fun q _ hq => (Array.getElem?_setIfInBounds_ne (fun e => hq (by simp [e])) : (w.heap.setIfInBounds b _)[q]? = _)⟩ (H.put i hm _))

theorem RW.mapDel [DecidableEq α] {Kt E : TypeId} {ts : Array TypeId} {t : TypeId} (x : α) (hl : look P n ops l σ = some (.seq, semV (Builtin.delete_ ts t #[.map (some b), mk x]), d, r)) (H : Hp w0 S O M W G w) (i : Nat) (hm : M[i]? = some (b, mapO mk vk L c))
    (hk : KeyOk P Kt mk) (ht : ts[0]? = some T) (hT : P.underlying T = some (.map Kt E)) (hM : M.set i (b, mapO mk vk (mdel x L) c) = M')
    (h : ∀ w', Chg w [b] w' → Hp w0 S O M' W G w' → RW P ops n ds K r (putO d (.tuple #[]) σ) w') : RW P ops n ds K l σ w := by
  subst hM
  have hb := (H.own _ (List.mem_of_getElem? hm)).1
  exact RW.actV hl (semV_run (delete_run hk hT x t ht hb)) (h _ ⟨rfl, rfl, rfl, by simp, fun q _ hq => (Array.getElem?_setIfInBounds_ne (fun e => hq (by simp [e])) : (w.heap.setIfInBounds b _)[q]? = _)⟩ (H.put i hm _))

theorem RW.mapRange {Kt E : TypeId} (hl : look P n ops l σ = some (κ, semV (Instr.range T (.map (some b))), d, r)) (hκ : κ ≠ .qui) (H : Hp w0 S O M W G w) (i : Nat) (hm : M[i]? = some (b, mapO mk vk L c)) (hT : P.underlying T = some (.map Kt E))
    (h : ∀ q w', w.heap.size ≤ q → Hp w0 S O ((q, iterO (α := α) (β := β) b c [] c) :: M) W G w' → RW P ops n ds K r (putO d (.pointer (some ⟨q, 0, none⟩)) σ) w') : RW P ops n ds K l σ w := by
  have hb := (H.own _ (List.mem_of_getElem? hm)).1
  exact RW.makeS hl hκ (semV_run (range_run hT hb)) ⟨rfl, rfl, rfl, by simp, fun k hk => by
    show (w.heap.push _)[k]? = _
    rw [Array.getElem?_push, if_neg (by omega)]⟩ (h _ _ (Nat.le_refl _) (H.alloc _))

theorem RW.mapNext {q since last : Nat} {dn lf : List (α × β × Nat)} {ty : TypeId} (hl : look P n ops l σ = some (.seq, semV (Instr.next (.pointer (some ⟨q, 0, none⟩)) false ty), d, r)) (H : Hp w0 S O M W G w) (i : Nat) (hm : M[i]? = some (b, mapO mk vk L c))
    (j : Nat) (hj : M[j]? = some (q, iterO b since dn last)) (hp : (dn ++ lf).Perm L) (hn : (L.map (·.2.2)).Nodup) (hold : ∀ x ∈ L, x.2.2 < since) (hsc : since ≤ last)
    (hover : lf = [] → RW P ops n ds K r (putO d (.tuple #[.bool false]) σ) w)
    (hstep : ∀ e lf', lf.Perm (e :: lf') → ∀ w', Hp w0 S O (M.set j (q, iterO b since (dn ++ [e]) c)) W G w' → RW P ops n ds K r (putO d (.tuple #[.bool true, mk e.1, vk e.2.1]) σ) w') : RW P ops n ds K l σ w := by
  have hb := (H.own _ (List.mem_of_getElem? hm)).1
  have hr := (H.own _ (List.mem_of_getElem? hj)).1
  have hn' : ((dn ++ lf).map (·.2.2)).Nodup := (hp.map _).nodup_iff.2 hn
  have hlft : ∀ x : MapEntry, x ∈ (leftOf (L.map (ent mk vk)).toArray (dn.map (·.2.2)).toArray).toList ↔ ∃ e ∈ lf, ent mk vk e = x := by
    intro x
    unfold leftOf
    simp only [Array.toList_filter, List.mem_filter, List.mem_map, Bool.not_eq_true', cont_f]
    constructor
    · rintro ⟨⟨e, he, rfl⟩, hnot⟩
      refine ⟨e, ?_, rfl⟩
      rcases List.mem_append.1 (hp.mem_iff.2 he) with h | h
      · exact absurd ⟨e, h, rfl⟩ hnot
      · exact h
    · rintro ⟨e, he, rfl⟩
      refine ⟨⟨e, hp.mem_iff.1 (List.mem_append_right _ he), rfl⟩, ?_⟩
      rintro ⟨e', he', heq⟩
      rw [List.map_append, List.nodup_append] at hn'
      exact hn'.2.2 _ (List.mem_map.2 ⟨e', he', rfl⟩) _ (List.mem_map.2 ⟨e, he, rfl⟩) heq
  rcases next_run (P := P) ty hr hb (fun x hx => by
      obtain ⟨e, he, rfl⟩ := List.mem_map.1 hx
      exact hold e he) hsc with ⟨h0, hrun⟩ | ⟨x, hx, w1, hw1, hrun⟩
  · have hnil : lf = [] := by
      cases lf with
      | nil => rfl
      | cons e l' =>
        have := (hlft (ent mk vk e)).2 ⟨e, List.mem_cons_self .., rfl⟩
        have hz : (leftOf (L.map (ent mk vk)).toArray (dn.map (·.2.2)).toArray).toList = [] := by rw [← List.length_eq_zero_iff, Array.length_toList]; exact h0
        rw [hz] at this
        cases this
    exact RW.actV hl (semV_run hrun) (hover hnil)
  · obtain ⟨e, he, rfl⟩ := (hlft x).1 hx
    obtain ⟨s, t, rfl⟩ := List.append_of_mem he
    have hseen : ((dn.map (·.2.2)).toArray.push (ent mk vk e).born) = ((dn ++ [e]).map (·.2.2)).toArray := by simp [ent]
    rw [hseen] at hrun
    refine RW.actV hl (semV_run hrun) (hstep e (s ++ t) List.perm_middle _ ?_)
    rcases hw1 with rfl | rfl
    · exact H.put j hj _
    · exact H.draw.put j hj _

theorem RW.mapEntry {q since : Nat} {dn : List (α × β × Nat)} {e : α × β × Nat} (hl : look P n ops l σ = some (κ, semV (Instr.entry (.pointer (some ⟨q, 0, none⟩))), d, r)) (H : Hp w0 S O M W G w) (i : Nat) (hm : M[i]? = some (b, mapO mk vk L c))
    (j : Nat) (hj : M[j]? = some (q, iterO b since (dn ++ [e]) c)) (he : e ∈ L) (hn : (L.map (·.2.2)).Nodup)
    (h : RW P ops n ds K r (putO d (.tuple #[mk e.1, vk e.2.1]) σ) w) : RW P ops n ds K l σ w := by
  have hb := (H.own _ (List.mem_of_getElem? hm)).1
  have hlt := (Array.getElem?_eq_some_iff.1 hb).1
  have hr := (H.own _ (List.mem_of_getElem? hj)).1
  have hlr := (Array.getElem?_eq_some_iff.1 hr).1
  have hseen : ((dn ++ [e]).map (·.2.2)).toArray = ((dn.map (·.2.2)).toArray.push (ent mk vk e).born) := by simp [ent]
  exact RW.readS hl (fun w' hx => semV_run (entry_run (e := ent mk vk e) (seen := (dn.map (·.2.2)).toArray) (by rw [Below.block hx q hlr, ← hseen]; exact hr) (by rw [Below.block hx b hlt]; exact hb) (by simpa using List.mem_map.2 ⟨e, he, rfl⟩) (by simpa [ent, Function.comp_def] using hn))) h
end

def zeroE (P : Program) (E : TypeId) : Option Value := match P.info? E with
  | some i => i.zero
  | none => none
theorem zeroE_run {P : Program} {E : TypeId} {z : Value} (h : zeroE P E = some z) (w : World) : (zeroValue E).run P w = .ok z w := by
  unfold zeroE at h
  split at h
  · rename_i i hi
    simp [zeroValue, typeInfo, hi, h]
  · cases h

/-- a map's entries: no key twice, no stamp twice, each stamp of the past -/
structure MOk {α β : Type} (L : List (α × β × Nat)) (c : Nat) : Prop where
  keys : (L.map (·.1)).Nodup
  borns : (L.map (·.2.2)).Nodup
  old : ∀ x ∈ L, x.2.2 < c

theorem MOk.nil {α β : Type} : MOk ([] : List (α × β × Nat)) 0 := ⟨List.nodup_nil, List.nodup_nil, fun x h => by cases h⟩

section
variable {α β : Type} [DecidableEq α]
theorem mfind_none {x : α} {L : List (α × β × Nat)} : mfind x L = none ↔ x ∉ L.map (·.1) := by
  induction L with
  | nil => simp [mfind]
  | cons e l ih =>
    simp only [mfind, List.map_cons, List.mem_cons, not_or]
    by_cases he : e.1 = x
    · simp [he]
    · rw [if_neg he, ih]
      exact ⟨fun h => ⟨fun hx => he hx.symm, h⟩, fun h => h.2⟩
theorem mset_keys (x : α) (v : β) (c : Nat) : ∀ (L : List (α × β × Nat)), (mset x v c L).map (·.1) = if x ∈ L.map (·.1) then L.map (·.1) else L.map (·.1) ++ [x]
  | [] => by simp [mset]
  | e :: l => by
    simp only [mset, List.map_cons, List.mem_cons]
    by_cases he : e.1 = x
    · simp [he]
    · have hx : ¬ x = e.1 := fun h => he h.symm
      rw [if_neg he]
      simp only [List.map_cons, mset_keys x v c l, hx, false_or]
      split <;> rfl
theorem mset_borns (x : α) (v : β) (c : Nat) : ∀ (L : List (α × β × Nat)), (mset x v c L).map (·.2.2) = if x ∈ L.map (·.1) then L.map (·.2.2) else L.map (·.2.2) ++ [c]
  | [] => by simp [mset]
  | e :: l => by
    simp only [mset, List.map_cons, List.mem_cons]
    by_cases he : e.1 = x
    · simp [he]
    · have hx : ¬ x = e.1 := fun h => he h.symm
      rw [if_neg he]
      simp only [List.map_cons, mset_borns x v c l, hx, false_or]
      split <;> rfl
theorem mclk_eq (x : α) (c : Nat) (L : List (α × β × Nat)) : mclk x c L = if x ∈ L.map (·.1) then c else c + 1 := by
  unfold mclk
  cases h : mfind x L with
  | none => simp [mfind_none.1 h]
  | some v =>
    have : x ∈ L.map (·.1) := by
      refine Classical.byContradiction fun hn => ?_
      rw [mfind_none.2 hn] at h
      cases h
    simp [this]
theorem MOk.set {L : List (α × β × Nat)} {c : Nat} (h : MOk L c) (x : α) (v : β) : MOk (mset x v c L) (mclk x c L) := by
  rw [mclk_eq]
  have ho : ∀ b ∈ L.map (·.2.2), b < c := fun b hb => by obtain ⟨e, he, rfl⟩ := List.mem_map.1 hb; exact h.old e he
  refine ⟨?_, ?_, fun e he => ?_⟩
  · rw [mset_keys]
    split
    · exact h.keys
    · exact List.nodup_append.2 ⟨h.keys, by simp, fun a ha b hb => by simp at hb; subst hb; intro e; subst e; contradiction⟩
  · rw [mset_borns]
    split
    · exact h.borns
    · exact List.nodup_append.2 ⟨h.borns, by simp, fun a ha b hb => by simp at hb; subst hb; have := ho a ha; omega⟩
  · have hb : e.2.2 ∈ (mset x v c L).map (·.2.2) := List.mem_map.2 ⟨e, he, rfl⟩
    rw [mset_borns] at hb
    split at hb <;> rename_i hx
    · rw [if_pos hx]; exact ho _ hb
    · rw [if_neg hx]
      rcases List.mem_append.1 hb with hb | hb
      · have := ho _ hb; omega
      · simp at hb; omega
theorem mdel_sub (x : α) : ∀ (L : List (α × β × Nat)), (mdel x L).Sublist L
  | [] => .slnil
  | e :: l => by
    simp only [mdel]
    split
    · exact List.sublist_cons_self _ _
    · exact (mdel_sub x l).cons_cons _
theorem MOk.del {L : List (α × β × Nat)} {c : Nat} (h : MOk L c) (x : α) : MOk (mdel x L) c :=
  ⟨((mdel_sub x L).map _).nodup h.keys, ((mdel_sub x L).map _).nodup h.borns, fun e he => h.old e ((mdel_sub x L).subset he)⟩
theorem mfind_mem {x : α} {v : β} : ∀ {L : List (α × β × Nat)}, mfind x L = some v → ∃ e ∈ L, e.1 = x ∧ e.2.1 = v
  | e :: l, h => by
    simp only [mfind] at h
    split at h
    · rename_i he
      cases h
      exact ⟨e, List.mem_cons_self .., he, rfl⟩
    · obtain ⟨e', h1, h2⟩ := mfind_mem h
      exact ⟨e', List.mem_cons_of_mem _ h1, h2⟩
theorem mfind_set (x y : α) (v : β) (c : Nat) : ∀ (L : List (α × β × Nat)), mfind y (mset x v c L) = if x = y then some v else mfind y L
  | [] => by simp [mset, mfind]
  | e :: l => by
    simp only [mset]
    by_cases he : e.1 = x
    · rw [if_pos he]
      simp only [mfind]
      by_cases hy : x = y
      · simp [hy]
      · have : ¬ e.1 = y := fun h => hy (he ▸ h)
        simp [hy, this]
    · rw [if_neg he]
      simp only [mfind, mfind_set x y v c l]
      by_cases hy : e.1 = y
      · have : ¬ x = y := fun h => he (hy.trans h.symm)
        simp [hy, this]
      · simp [hy]
theorem mfind_del (x y : α) : ∀ {L : List (α × β × Nat)}, (L.map (·.1)).Nodup → mfind y (mdel x L) = if x = y then none else mfind y L
  | [], _ => by simp [mdel, mfind]
  | e :: l, hn => by
    have hn' : e.1 ∉ l.map (·.1) ∧ (l.map (·.1)).Nodup := List.nodup_cons.1 hn
    simp only [mdel]
    by_cases he : e.1 = x
    · rw [if_pos he]
      by_cases hy : x = y
      · rw [if_pos hy]
        exact mfind_none.2 (hy ▸ he ▸ hn'.1)
      · have : ¬ e.1 = y := fun h => hy (he ▸ h)
        simp [mfind, hy, this]
    · rw [if_neg he]
      simp only [mfind, mfind_del x y hn'.2]
      by_cases hy : e.1 = y
      · have : ¬ x = y := fun h => he (hy.trans h.symm)
        simp [hy, this]
      · simp [hy]
theorem mset_len (x : α) (v : β) (c : Nat) : ∀ (L : List (α × β × Nat)), (mset x v c L).length = if (mfind x L).isSome then L.length else L.length + 1
  | [] => by simp [mset, mfind]
  | e :: l => by
    simp only [mset, mfind]
    split
    · simp
    · simp only [List.length_cons, mset_len x v c l]
      split <;> rfl
end
theorem Hp.viewF {w0 w : World} {S : Nat → Prop} {O : List Nat} {M : Heap} {W : List OwnS} {G : List Fact} (H : Hp w0 S O M W G w) {F : Fact} (i : Nat) (h : G[i]? = some F) : F.p (fun _ => True) w :=
  F.step (H.fact i h) fun _ _ _ => ⟨trivial, rfl⟩
/-- a cell that holds a map: only which -/
def Shape.mref : Shape Nat where
  size := 1
  rep _ _ cs b := cs = [.map (some b)]
  pos := by decide
  len h := by rw [h]; rfl
  ones h v hv := by rw [h] at hv; simp at hv; subst hv; rfl
  step h _ := h
theorem Shape.mref_mk {S : Nat → Prop} {w : World} {b : Nat} : Shape.mref.rep S w [.map (some b)] b := rfl
theorem Shape.mref_at {S : Nat → Prop} {w : World} {b : Nat} {cs : List Value} (h : Shape.mref.rep S w cs b) : cs = [.map (some b)] := h
end Go.BX
