/-
 THE ENGINE's MAPS: a map that the call has to itself, as a list of (key, element, stamp).
 No condition.
-/
import Derived.Test.YtppcdmbkgficiaaGreatSBxArr
import Derived.Laws.IdiomRangeMap
import Derived.MapKept
namespace Go.BX
open Go.RowKit (Below)
def ent {α β : Type} (mk : α → Value) (vk : β → Value) (x : α × β × Nat) : MapEntry := ⟨mk x.1, vk x.2.1, x.2.2⟩
def mapO {α β : Type} (mk : α → Value) (vk : β → Value) (L : List (α × β × Nat)) (c : Nat) : Obj := .map (L.map (ent mk vk)).toArray c
section
variable {α β : Type} [DecidableEq α]
def mfind (x : α) : List (α × β × Nat) → Option β
 | [] => none
 | e :: l => if e.1 = x then some e.2.1 else mfind x l
def mset (x : α) (v : β) (c : Nat) : List (α × β × Nat) → List (α × β × Nat)
 | [] => [(x, v, c)]
 | e :: l => if e.1 = x then (x, v, e.2.2) :: l else e :: mset x v c l
def mclk (x : α) (c : Nat) (L : List (α × β × Nat)) : Nat := if (mfind x L).isSome then c else c + 1
def midx (x : α) : List (α × β × Nat) → Option Nat
 | [] => none
 | e :: l => if e.1 = x then some 0 else (midx x l).map (· + 1)
end
structure KeyOk {α : Type} [DecidableEq α] (P : Program) (K : TypeId) (mk : α → Value) : Prop where
 und : ∃ d, P.underlying K = some d ∧ ∀ a b, Instr.sameNow d (mk a) (mk b) = some (decide (a = b))
 stays : ∀ a, Instr.sameBits 10000 (mk a) (mk a) = true
 check : ∀ (w : World) (b : Bool) (a : α), (Instr.checkKey b 10000 K (mk a)).run P w = .ok () w
theorem checkKey_int {P : Program} {K : TypeId} {k : IntKind} (h : P.underlying K = some (.int k)) : ∀ (n : Nat) (b : Bool) (a : Int) (w : World), (Instr.checkKey b (n + 1) K (.int k a)).run P w = .ok () w := fun n b a w => by
 simp [Instr.checkKey, run_underlying h]
theorem checkKey_str {P : Program} {K : TypeId} (h : P.underlying K = some .string) : ∀ (n : Nat) (b : Bool) (a : ByteArray) (w : World), (Instr.checkKey b (n + 1) K (.string a)).run P w = .ok () w := fun n b a w => by
 simp [Instr.checkKey, run_underlying h]
theorem beqB (a b : ByteArray) : (a == b) = decide (a = b) := by
 rw [Bool.eq_iff_iff, MapKept.bytes_beq, decide_eq_true_iff]
theorem KeyOk.int {P : Program} {K : TypeId} {k : IntKind} (h : P.underlying K = some (.int k)) : KeyOk P K (Value.int k) where
 und := ⟨_, h, fun a b => by simp [Instr.sameNow]; rfl⟩
 stays a := by simp [Instr.sameBits]
 check w b a := checkKey_int h 9999 b a w
theorem KeyOk.str {P : Program} {K : TypeId} (h : P.underlying K = some .string) : KeyOk P K Value.string where
 und := ⟨_, h, fun a b => congrArg some (beqB a b)⟩
 stays a := by simp only [Instr.sameBits, beqB, decide_true]
 check w b a := checkKey_str h 9999 b a w
section
variable {α β : Type} [DecidableEq α] {P : Program} {K : TypeId} {mk : α → Value} {vk : β → Value} {w : World}
theorem findNow_mid {d : TypeDesc} (h : ∀ a b, Instr.sameNow d (mk a) (mk b) = some (decide (a = b))) (x : α) : ∀ (L : List (α × β × Nat)) (i : Nat),
 Instr.findNow d (mk x) (L.map (ent mk vk)) i = some ((midx x L).bind fun j => (mfind x L).map fun v => (i + j, vk v))
 | [], i => rfl
 | e :: l, i => by
  have hc := h x e.1
  simp only [List.map_cons, Instr.findNow, ent, hc, midx, mfind]
  by_cases he : e.1 = x
  · simp [he]
  · have hx : ¬ x = e.1 := fun hh => he hh.symm
    have ih := findNow_mid h x l (i + 1)
    simp only [he, hx, decide_false, if_false]
    change Instr.findNow d (mk x) (l.map (ent mk vk)) (i + 1) = _
    rw [ih]
    cases midx x l with
    | none => rfl
    | some j => cases mfind x l <;> simp [Nat.add_assoc, Nat.add_comm 1]
theorem midx_find (x : α) : ∀ (L : List (α × β × Nat)), (midx x L).isSome = (mfind x L).isSome
 | [] => rfl
 | e :: l => by
  simp only [midx, mfind]
  split
  · rfl
  · rw [Option.isSome_map, midx_find x l]
theorem findKey_run (hk : KeyOk P K mk) (x : α) (L : List (α × β × Nat)) (w : World) :
 (Instr.findKey K (mk x) (L.map (ent mk vk))).run P w = .ok ((midx x L).bind fun j => (mfind x L).map fun v => (j, vk v)) w := by
 obtain ⟨d, hd, hs⟩ := hk.und
 have := findNow_mid (vk := vk) hs x L 0
 simp only [Nat.zero_add] at this
 simp [Instr.findKey, run_underlying hd, this]
theorem modify_mset (x : α) (v : β) (c : Nat) : ∀ (L : List (α × β × Nat)) (i : Nat), midx x L = some i →
 (L.map (ent mk vk)).modify i (fun e => { e with key := mk x, val := vk v }) = (mset x v c L).map (ent mk vk)
 | e :: l, i, h => by
  simp only [midx, mset] at h ⊢
  by_cases he : e.1 = x
  · rw [if_pos he] at h ⊢
    cases h
    rfl
  · rw [if_neg he] at h ⊢
    cases hm : midx x l with
    | none => rw [hm] at h; cases h
    | some j =>
     rw [hm] at h
     cases h
     simp [modify_mset x v c l j hm]
theorem push_mset (x : α) (v : β) (c : Nat) : ∀ (L : List (α × β × Nat)), midx x L = none → mset x v c L = L ++ [(x, v, c)]
 | [], _ => rfl
 | e :: l, h => by
  simp only [midx, mset] at h ⊢
  by_cases he : e.1 = x
  · rw [if_pos he] at h; cases h
  · rw [if_neg he] at h ⊢
    rw [push_mset x v c l (by simpa using h)]; rfl
theorem getObj_run {b : Nat} {es : Array MapEntry} {c : Nat} (h : w.heap[b]? = some (.map es c)) : (getObj b).run P w = .ok (.map es c) w := by
 simp [getObj, Sem.run, h]
theorem setObj_run {b : Nat} {es : Array MapEntry} {c : Nat} {o' : Obj} (h : w.heap[b]? = some (.map es c)) : (setObj b o').run P w = .ok () { w with heap := w.heap.setIfInBounds b o' } := by
 simp [setObj, Sem.run, h]
theorem lookup_run (hk : KeyOk P K mk) {T E : TypeId} (hT : P.underlying T = some (.map K E)) {z : β} (hz : ∀ w, (zeroValue E).run P w = .ok (vk z) w) {b c : Nat} {L : List (α × β × Nat)} (x : α) (ok : Bool) (hb : w.heap[b]? = some (mapO mk vk L c)) :
 (Instr.lookup T (.map (some b)) (mk x) ok).run P w = .ok (if ok then .tuple #[vk ((mfind x L).getD z), .bool (mfind x L).isSome] else vk ((mfind x L).getD z)) w := by
 have h1 := midx_find x L
 have h2 := findKey_run (vk := vk) hk x L w
 simp only [Instr.lookup, Sem.run_bind, run_underlying hT, Result.andThen_ok, getObj_run hb, mapO, hk.check, h2, Sem.run_pure]
 cases hm : mfind x L with
 | none =>
  rw [hm] at h1
  cases hi : midx x L with
  | none => simp [hz]
  | some j => rw [hi] at h1; cases h1
 | some v =>
  rw [hm] at h1
  cases hi : midx x L with
  | none => rw [hi] at h1; cases h1
  | some j => simp
theorem update_run (hk : KeyOk P K mk) {T E : TypeId} (hT : P.underlying T = some (.map K E)) {b c : Nat} {L : List (α × β × Nat)} (x : α) (v : β) (hb : w.heap[b]? = some (mapO mk vk L c)) :
 (Instr.mapUpdate T (.map (some b)) (mk x) (vk v)).run P w = .ok () { w with heap := w.heap.setIfInBounds b (mapO mk vk (mset x v c L) (mclk x c L)) } := by
 have h1 := midx_find x L
 have h2 := findKey_run (vk := vk) hk x L w
 simp only [Instr.mapUpdate, Sem.run_bind, run_underlying hT, Result.andThen_ok, getObj_run hb, mapO, hk.check, h2]
 unfold mclk
 cases hm : mfind x L with
 | none =>
  rw [hm] at h1
  cases hi : midx x L with
  | none =>
   simp only [Option.bind_none, Option.isSome_none, Bool.false_eq_true, if_false, setObj_run hb, push_mset x v c L hi]
   simp [ent]
  | some j => rw [hi] at h1; cases h1
 | some v0 =>
  rw [hm] at h1
  cases hi : midx x L with
  | none => rw [hi] at h1; cases h1
  | some j =>
   have hj : ∃ e, L[j]? = some e ∧ e.1 = x := by
    clear h1 h2 hm hb
    induction L generalizing j with
    | nil => cases hi
    | cons e l ih =>
     simp only [midx] at hi
     split at hi
     · cases hi; exact ⟨e, rfl, by assumption⟩
     · cases hm : midx x l with
       | none => rw [hm] at hi; cases hi
       | some i => rw [hm] at hi; cases hi; exact ih i hm
   obtain ⟨e, he, hex⟩ := hj
   have hs := hk.stays x
   have hmod : ((L.map (ent mk vk)).toArray.modify j fun e => { e with key := mk x, val := vk v }) = ((mset x v c L).map (ent mk vk)).toArray := by
    apply Array.toList_inj.1
    rw [Array.toList_modify]
    exact modify_mset x v c L j hi
   simp only [Option.bind_some, Option.map_some, List.getElem?_toArray, List.getElem?_map, he, ent, Option.getD_some, hex, Instr.keyThatStays, hs, if_true, Sem.run_pure, Result.andThen_ok, Option.isSome_some, setObj_run hb, pure_bind]
   simp only [← hmod, ent]
end
section
variable {α β : Type} {P : Program} {n : Nat} {ds : List Deferred} {ops : Array Oper} {K : Env → World → Prop} {l r : List (Nat × Kd)} {σ : Env} {w : World} {κ : Kd} {d : Option Tmp}
variable {w0 : World} {S : Nat → Prop} {O : List Nat} {M M' : Heap} {W : List OwnS} {G : List Fact} {mk : α → Value} {vk : β → Value} {L : List (α × β × Nat)} {b c : Nat} {T : TypeId}
theorem RW.mapGet [DecidableEq α] {Kt E : TypeId} {z : β} (x : α) (ok : Bool) (hl : look P n ops l σ = some (κ, semV (Instr.lookup T (.map (some b)) (mk x) ok), d, r)) (H : Hp w0 S O M W G w) (i : Nat) (hm : M[i]? = some (b, mapO mk vk L c))
 (hk : KeyOk P Kt mk) (hT : P.underlying T = some (.map Kt E)) (hz : ∀ w, (zeroValue E).run P w = .ok (vk z) w)
 (h : RW P ops n ds K r (putO d (if ok then .tuple #[vk ((mfind x L).getD z), .bool (mfind x L).isSome] else vk ((mfind x L).getD z)) σ) w) : RW P ops n ds K l σ w := by
 have hb := (H.own _ (List.mem_of_getElem? hm)).1
 have hlt := (Array.getElem?_eq_some_iff.1 hb).1
 exact RW.readS hl (fun w' he => semV_run (lookup_run hk hT hz x ok (by rw [Below.block he b hlt]; exact hb))) h
theorem RW.mapSet [DecidableEq α] {Kt E : TypeId} (x : α) (v : β) (hl : look P n ops l σ = some (.seq, semU (Instr.mapUpdate T (.map (some b)) (mk x) (vk v)), d, r)) (H : Hp w0 S O M W G w) (i : Nat) (hm : M[i]? = some (b, mapO mk vk L c))
 (hk : KeyOk P Kt mk) (hT : P.underlying T = some (.map Kt E)) (hM : M.set i (b, mapO mk vk (mset x v c L) (mclk x c L)) = M')
 (h : ∀ w', Chg w [b] w' → Hp w0 S O M' W G w' → RW P ops n ds K r (putO d undef σ) w') : RW P ops n ds K l σ w := by
 subst hM
 have hb := (H.own _ (List.mem_of_getElem? hm)).1
 exact RW.actU hl (semU_run (update_run hk hT x v hb)) (h _ ⟨rfl, rfl, rfl, by simp, fun q _ hq => (Array.getElem?_setIfInBounds_ne (fun e => hq (by simp [e])) : (w.heap.setIfInBounds b _)[q]? = _)⟩ (H.put i hm _))
end
def zeroE (P : Program) (E : TypeId) : Option Value := match P.info? E with
 | some i => i.zero
 | none => none
theorem zeroE_run {P : Program} {E : TypeId} {z : Value} (h : zeroE P E = some z) (w : World) : (zeroValue E).run P w = .ok z w := by
 unfold zeroE at h
 split at h
 · rename_i i hi
   simp [zeroValue, typeInfo, hi, h]
 · cases h
structure MOk {α β : Type} (L : List (α × β × Nat)) (c : Nat) : Prop where
 keys : (L.map (·.1)).Nodup
 borns : (L.map (·.2.2)).Nodup
 old : ∀ x ∈ L, x.2.2 < c
theorem MOk.nil {α β : Type} : MOk ([] : List (α × β × Nat)) 0 := ⟨List.nodup_nil, List.nodup_nil, fun x h => by cases h⟩
section
variable {α β : Type} [DecidableEq α]
theorem mfind_none {x : α} {L : List (α × β × Nat)} : mfind x L = none ↔ x ∉ L.map (·.1) := by
 induction L with
 | nil => simp [mfind]
 | cons e l ih =>
  simp only [mfind, List.map_cons, List.mem_cons, not_or]
  by_cases he : e.1 = x
  · simp [he]
  · rw [if_neg he, ih]
    exact ⟨fun h => ⟨fun hx => he hx.symm, h⟩, fun h => h.2⟩
theorem mset_keys (x : α) (v : β) (c : Nat) : ∀ (L : List (α × β × Nat)), (mset x v c L).map (·.1) = if x ∈ L.map (·.1) then L.map (·.1) else L.map (·.1) ++ [x]
 | [] => by simp [mset]
 | e :: l => by
  simp only [mset, List.map_cons, List.mem_cons]
  by_cases he : e.1 = x
  · simp [he]
  · have hx : ¬ x = e.1 := fun h => he h.symm
    rw [if_neg he]
    simp only [List.map_cons, mset_keys x v c l, hx, false_or]
    split <;> rfl
theorem mset_borns (x : α) (v : β) (c : Nat) : ∀ (L : List (α × β × Nat)), (mset x v c L).map (·.2.2) = if x ∈ L.map (·.1) then L.map (·.2.2) else L.map (·.2.2) ++ [c]
 | [] => by simp [mset]
 | e :: l => by
  simp only [mset, List.map_cons, List.mem_cons]
  by_cases he : e.1 = x
  · simp [he]
  · have hx : ¬ x = e.1 := fun h => he h.symm
    rw [if_neg he]
    simp only [List.map_cons, mset_borns x v c l, hx, false_or]
    split <;> rfl
theorem mclk_eq (x : α) (c : Nat) (L : List (α × β × Nat)) : mclk x c L = if x ∈ L.map (·.1) then c else c + 1 := by
 unfold mclk
 cases h : mfind x L with
 | none => simp [mfind_none.1 h]
 | some v =>
  have : x ∈ L.map (·.1) := by
   refine Classical.byContradiction fun hn => ?_
   rw [mfind_none.2 hn] at h
   cases h
  simp [this]
theorem MOk.set {L : List (α × β × Nat)} {c : Nat} (h : MOk L c) (x : α) (v : β) : MOk (mset x v c L) (mclk x c L) := by
 rw [mclk_eq]
 have ho : ∀ b ∈ L.map (·.2.2), b < c := fun b hb => by obtain ⟨e, he, rfl⟩ := List.mem_map.1 hb; exact h.old e he
 refine ⟨?_, ?_, fun e he => ?_⟩
 · rw [mset_keys]
   split
   · exact h.keys
   · exact List.nodup_append.2 ⟨h.keys, by simp, fun a ha b hb => by simp at hb; subst hb; intro e; subst e; contradiction⟩
 · rw [mset_borns]
   split
   · exact h.borns
   · exact List.nodup_append.2 ⟨h.borns, by simp, fun a ha b hb => by simp at hb; subst hb; have := ho a ha; omega⟩
 · have hb : e.2.2 ∈ (mset x v c L).map (·.2.2) := List.mem_map.2 ⟨e, he, rfl⟩
   rw [mset_borns] at hb
   split at hb <;> rename_i hx
   · rw [if_pos hx]; exact ho _ hb
   · rw [if_neg hx]
     rcases List.mem_append.1 hb with hb | hb
     · have := ho _ hb; omega
     · simp at hb; omega
end
theorem Hp.viewF {w0 w : World} {S : Nat → Prop} {O : List Nat} {M : Heap} {W : List OwnS} {G : List Fact} (H : Hp w0 S O M W G w) {F : Fact} (i : Nat) (h : G[i]? = some F) : F.p (fun _ => True) w :=
 F.step (H.fact i h) fun _ _ _ => ⟨trivial, rfl⟩
end Go.BX
