import Derived.Test.YtppcdmbkgficiaaSBxA
import Derived.Laws.IdiomRangeMap
import Derived.MapKept
import Derived.Shelf.GgSortFunc.InsertionK
import Derived.ProofKit
import Derived.Deep.Slices
/-
  THE ENGINE: a judgement on a frame whose slots are known by a list, over any program; laws for each operation.
  No condition.
-/
/-
 THE ENGINE's MAPS: a map that the call has to itself, as a list of (key, element, stamp).
 No condition.
-/
namespace Go.BX
open Go.RowKit (Below)
def ent {α β : Type} (mk : α → Value) (vk : β → Value) (x : α × β × Nat) : MapEntry := ⟨mk x.1, vk x.2.1, x.2.2⟩
def mapO {α β : Type} (mk : α → Value) (vk : β → Value) (L : List (α × β × Nat)) (c : Nat) : Obj := .map (L.map (ent mk vk)).toArray c
section
variable {α β : Type} [DecidableEq α]
def mfind (x : α) : List (α × β × Nat) → Option β
 | [] => none
 | e :: l => if e.1 = x then some e.2.1 else mfind x l
def mset (x : α) (v : β) (c : Nat) : List (α × β × Nat) → List (α × β × Nat)
 | [] => [(x, v, c)]
 | e :: l => if e.1 = x then (x, v, e.2.2) :: l else e :: mset x v c l
def mclk (x : α) (c : Nat) (L : List (α × β × Nat)) : Nat := if (mfind x L).isSome then c else c + 1
def midx (x : α) : List (α × β × Nat) → Option Nat
 | [] => none
 | e :: l => if e.1 = x then some 0 else (midx x l).map (· + 1)
end
structure KeyOk {α : Type} [DecidableEq α] (P : Program) (K : TypeId) (mk : α → Value) : Prop where
 und : ∃ d, P.underlying K = some d ∧ ∀ a b, Instr.sameNow d (mk a) (mk b) = some (decide (a = b))
 stays : ∀ a, Instr.sameBits 10000 (mk a) (mk a) = true
 check : ∀ (w : World) (b : Bool) (a : α), (Instr.checkKey b 10000 K (mk a)).run P w = .ok () w
theorem checkKey_int {P : Program} {K : TypeId} {k : IntKind} (h : P.underlying K = some (.int k)) : ∀ (n : Nat) (b : Bool) (a : Int) (w : World), (Instr.checkKey b (n + 1) K (.int k a)).run P w = .ok () w := fun n b a w => by
 simp [Instr.checkKey, run_underlying h]
theorem KeyOk.int {P : Program} {K : TypeId} {k : IntKind} (h : P.underlying K = some (.int k)) : KeyOk P K (Value.int k) where
 und := ⟨_, h, fun a b => by simp [Instr.sameNow]; rfl⟩
 stays a := by simp [Instr.sameBits]
 check w b a := checkKey_int h 9999 b a w
section
variable {α β : Type} [DecidableEq α] {P : Program} {K : TypeId} {mk : α → Value} {vk : β → Value} {w : World}
theorem findNow_mid {d : TypeDesc} (h : ∀ a b, Instr.sameNow d (mk a) (mk b) = some (decide (a = b))) (x : α) : ∀ (L : List (α × β × Nat)) (i : Nat),
 Instr.findNow d (mk x) (L.map (ent mk vk)) i = some ((midx x L).bind fun j => (mfind x L).map fun v => (i + j, vk v))
 | [], i => rfl
 | e :: l, i => by
  have hc := h x e.1
  simp only [List.map_cons, Instr.findNow, ent, hc, midx, mfind]
  by_cases he : e.1 = x
  · simp [he]
  · have hx : ¬ x = e.1 := fun hh => he hh.symm
    have ih := findNow_mid h x l (i + 1)
    simp only [he, hx, decide_false, if_false]
    change Instr.findNow d (mk x) (l.map (ent mk vk)) (i + 1) = _
    rw [ih]
    cases midx x l with
    | none => rfl
    | some j => cases mfind x l <;> simp [Nat.add_assoc, Nat.add_comm 1]
theorem midx_find (x : α) : ∀ (L : List (α × β × Nat)), (midx x L).isSome = (mfind x L).isSome
 | [] => rfl
 | e :: l => by
  simp only [midx, mfind]
  split
  · rfl
  · rw [Option.isSome_map, midx_find x l]
theorem findKey_run (hk : KeyOk P K mk) (x : α) (L : List (α × β × Nat)) (w : World) :
 (Instr.findKey K (mk x) (L.map (ent mk vk))).run P w = .ok ((midx x L).bind fun j => (mfind x L).map fun v => (j, vk v)) w := by
 obtain ⟨d, hd, hs⟩ := hk.und
 have := findNow_mid (vk := vk) hs x L 0
 simp only [Nat.zero_add] at this
 simp [Instr.findKey, run_underlying hd, this]
theorem modify_mset (x : α) (v : β) (c : Nat) : ∀ (L : List (α × β × Nat)) (i : Nat), midx x L = some i →
 (L.map (ent mk vk)).modify i (fun e => { e with key := mk x, val := vk v }) = (mset x v c L).map (ent mk vk)
 | e :: l, i, h => by
  simp only [midx, mset] at h ⊢
  by_cases he : e.1 = x
  · rw [if_pos he] at h ⊢
    cases h
    rfl
  · rw [if_neg he] at h ⊢
    cases hm : midx x l with
    | none => rw [hm] at h; cases h
    | some j =>
     rw [hm] at h
     cases h
     simp [modify_mset x v c l j hm]
theorem push_mset (x : α) (v : β) (c : Nat) : ∀ (L : List (α × β × Nat)), midx x L = none → mset x v c L = L ++ [(x, v, c)]
 | [], _ => rfl
 | e :: l, h => by
  simp only [midx, mset] at h ⊢
  by_cases he : e.1 = x
  · rw [if_pos he] at h; cases h
  · rw [if_neg he] at h ⊢
    rw [push_mset x v c l (by simpa using h)]; rfl
theorem getObj_run {b : Nat} {es : Array MapEntry} {c : Nat} (h : w.heap[b]? = some (.map es c)) : (getObj b).run P w = .ok (.map es c) w := by
 simp [getObj, Sem.run, h]
theorem setObj_run {b : Nat} {es : Array MapEntry} {c : Nat} {o' : Obj} (h : w.heap[b]? = some (.map es c)) : (setObj b o').run P w = .ok () { w with heap := w.heap.setIfInBounds b o' } := by
 simp [setObj, Sem.run, h]
theorem lookup_run (hk : KeyOk P K mk) {T E : TypeId} (hT : P.underlying T = some (.map K E)) {z : β} (hz : ∀ w, (zeroValue E).run P w = .ok (vk z) w) {b c : Nat} {L : List (α × β × Nat)} (x : α) (ok : Bool) (hb : w.heap[b]? = some (mapO mk vk L c)) :
 (Instr.lookup T (.map (some b)) (mk x) ok).run P w = .ok (if ok then .tuple #[vk ((mfind x L).getD z), .bool (mfind x L).isSome] else vk ((mfind x L).getD z)) w := by
 have a := midx_find x L
 have d := findKey_run (vk := vk) hk x L w
 simp only [Instr.lookup, Sem.run_bind, run_underlying hT, Result.andThen_ok, getObj_run hb, mapO, hk.check, d, Sem.run_pure]
 cases hm : mfind x L with
 | none =>
  rw [hm] at a
  cases hi : midx x L with
  | none => simp [hz]
  | some j => rw [hi] at a; cases a
 | some v =>
  rw [hm] at a
  cases hi : midx x L with
  | none => rw [hi] at a; cases a
  | some j => simp
theorem update_run (hk : KeyOk P K mk) {T E : TypeId} (hT : P.underlying T = some (.map K E)) {b c : Nat} {L : List (α × β × Nat)} (x : α) (v : β) (hb : w.heap[b]? = some (mapO mk vk L c)) :
 (Instr.mapUpdate T (.map (some b)) (mk x) (vk v)).run P w = .ok () { w with heap := w.heap.setIfInBounds b (mapO mk vk (mset x v c L) (mclk x c L)) } := by
 have a := midx_find x L
 have d := findKey_run (vk := vk) hk x L w
 simp only [Instr.mapUpdate, Sem.run_bind, run_underlying hT, Result.andThen_ok, getObj_run hb, mapO, hk.check, d]
 unfold mclk
 cases hm : mfind x L with
 | none =>
  rw [hm] at a
  cases hi : midx x L with
  | none =>
   simp only [Option.bind_none, Option.isSome_none, Bool.false_eq_true, if_false, setObj_run hb, push_mset x v c L hi]
   simp [ent]
  | some j => rw [hi] at a; cases a
 | some v0 =>
  rw [hm] at a
  cases hi : midx x L with
  | none => rw [hi] at a; cases a
  | some j =>
   have hj : ∃ e, L[j]? = some e ∧ e.1 = x := by
    clear a d hm hb
    induction L generalizing j with
    | nil => cases hi
    | cons e l ih =>
     simp only [midx] at hi
     split at hi
     · cases hi; exact ⟨e, rfl, by assumption⟩
     · cases hm : midx x l with
       | none => rw [hm] at hi; cases hi
       | some i => rw [hm] at hi; cases hi; exact ih i hm
   obtain ⟨e, he, hex⟩ := hj
   have hs := hk.stays x
   have hmod : ((L.map (ent mk vk)).toArray.modify j fun e => { e with key := mk x, val := vk v }) = ((mset x v c L).map (ent mk vk)).toArray := by
    apply Array.toList_inj.1
    rw [Array.toList_modify]
    exact modify_mset x v c L j hi
   simp only [Option.bind_some, Option.map_some, List.getElem?_toArray, List.getElem?_map, he, ent, Option.getD_some, hex, Instr.keyThatStays, hs, if_true, Sem.run_pure, Result.andThen_ok, Option.isSome_some, setObj_run hb, pure_bind]
   simp only [← hmod, ent]
end
section
variable {α β : Type} {P : Program} {n : Nat} {ds : List Deferred} {ops : Array Oper} {K : Env → World → Prop} {l r : List (Nat × Kd)} {σ : Env} {w : World} {κ : Kd} {d : Option Tmp}
variable {w0 : World} {S : Nat → Prop} {O : List Nat} {M M' : Heap} {W : List OwnS} {G : List Fact} {mk : α → Value} {vk : β → Value} {L : List (α × β × Nat)} {b c : Nat} {T : TypeId}
theorem RW.mapGet [DecidableEq α] {Kt E : TypeId} {z : β} (x : α) (ok : Bool) (hl : look P n ops l σ = some (κ, semV (Instr.lookup T (.map (some b)) (mk x) ok), d, r)) (H : Hp w0 S O M W G w) (i : Nat) (hm : M[i]? = some (b, mapO mk vk L c))
 (hk : KeyOk P Kt mk) (hT : P.underlying T = some (.map Kt E)) (hz : ∀ w, (zeroValue E).run P w = .ok (vk z) w)
 (h : RW P ops n ds K r (putO d (if ok then .tuple #[vk ((mfind x L).getD z), .bool (mfind x L).isSome] else vk ((mfind x L).getD z)) σ) w) : RW P ops n ds K l σ w := by
 have hb := (H.own _ (List.mem_of_getElem? hm)).1
 have hlt := (Array.getElem?_eq_some_iff.1 hb).1
 exact RW.readS hl (fun w' he => semV_run (lookup_run hk hT hz x ok (by rw [Below.block he b hlt]; exact hb))) h
theorem RW.mapSet [DecidableEq α] {Kt E : TypeId} (x : α) (v : β) (hl : look P n ops l σ = some (.seq, semU (Instr.mapUpdate T (.map (some b)) (mk x) (vk v)), d, r)) (H : Hp w0 S O M W G w) (i : Nat) (hm : M[i]? = some (b, mapO mk vk L c))
 (hk : KeyOk P Kt mk) (hT : P.underlying T = some (.map Kt E)) (hM : M.set i (b, mapO mk vk (mset x v c L) (mclk x c L)) = M')
 (h : ∀ w', Chg w [b] w' → Hp w0 S O M' W G w' → RW P ops n ds K r (putO d undef σ) w') : RW P ops n ds K l σ w := by
 subst hM
 have hb := (H.own _ (List.mem_of_getElem? hm)).1
 exact RW.actU hl (semU_run (update_run hk hT x v hb)) (h _ ⟨rfl, rfl, rfl, by simp, fun q _ hq => (Array.getElem?_setIfInBounds_ne (fun e => hq (by simp [e])) : (w.heap.setIfInBounds b _)[q]? = _)⟩ (H.put i hm _))
end
def zeroE (P : Program) (E : TypeId) : Option Value := match P.info? E with
 | some i => i.zero
 | none => none
theorem zeroE_run {P : Program} {E : TypeId} {z : Value} (h : zeroE P E = some z) (w : World) : (zeroValue E).run P w = .ok z w := by
 unfold zeroE at h
 split at h
 · rename_i i hi
   simp [zeroValue, typeInfo, hi, h]
 · cases h
structure MOk {α β : Type} (L : List (α × β × Nat)) (c : Nat) : Prop where
 keys : (L.map (·.1)).Nodup
 borns : (L.map (·.2.2)).Nodup
 old : ∀ x ∈ L, x.2.2 < c
theorem MOk.nil {α β : Type} : MOk ([] : List (α × β × Nat)) 0 := ⟨List.nodup_nil, List.nodup_nil, fun x h => by cases h⟩
section
variable {α β : Type} [DecidableEq α]
theorem mfind_none {x : α} {L : List (α × β × Nat)} : mfind x L = none ↔ x ∉ L.map (·.1) := by
 induction L with
 | nil => simp [mfind]
 | cons e l ih =>
  simp only [mfind, List.map_cons, List.mem_cons, not_or]
  by_cases he : e.1 = x
  · simp [he]
  · rw [if_neg he, ih]
    exact ⟨fun h => ⟨fun hx => he hx.symm, h⟩, fun h => h.2⟩
theorem mset_keys (x : α) (v : β) (c : Nat) : ∀ (L : List (α × β × Nat)), (mset x v c L).map (·.1) = if x ∈ L.map (·.1) then L.map (·.1) else L.map (·.1) ++ [x]
 | [] => by simp [mset]
 | e :: l => by
  simp only [mset, List.map_cons, List.mem_cons]
  by_cases he : e.1 = x
  · simp [he]
  · have hx : ¬ x = e.1 := fun h => he h.symm
    rw [if_neg he]
    simp only [List.map_cons, mset_keys x v c l, hx, false_or]
    split <;> rfl
theorem mset_borns (x : α) (v : β) (c : Nat) : ∀ (L : List (α × β × Nat)), (mset x v c L).map (·.2.2) = if x ∈ L.map (·.1) then L.map (·.2.2) else L.map (·.2.2) ++ [c]
 | [] => by simp [mset]
 | e :: l => by
  simp only [mset, List.map_cons, List.mem_cons]
  by_cases he : e.1 = x
  · simp [he]
  · have hx : ¬ x = e.1 := fun h => he h.symm
    rw [if_neg he]
    simp only [List.map_cons, mset_borns x v c l, hx, false_or]
    split <;> rfl
theorem mclk_eq (x : α) (c : Nat) (L : List (α × β × Nat)) : mclk x c L = if x ∈ L.map (·.1) then c else c + 1 := by
 unfold mclk
 cases h : mfind x L with
 | none => simp [mfind_none.1 h]
 | some v =>
  have : x ∈ L.map (·.1) := by
   refine Classical.byContradiction fun hn => ?_
   rw [mfind_none.2 hn] at h
   cases h
  simp [this]
theorem MOk.set {L : List (α × β × Nat)} {c : Nat} (h : MOk L c) (x : α) (v : β) : MOk (mset x v c L) (mclk x c L) := by
 rw [mclk_eq]
 have ho : ∀ b ∈ L.map (·.2.2), b < c := fun b hb => by obtain ⟨e, he, rfl⟩ := List.mem_map.1 hb; exact h.old e he
 refine ⟨?_, ?_, fun e he => ?_⟩
 · rw [mset_keys]
   split
   · exact h.keys
   · exact List.nodup_append.2 ⟨h.keys, by simp, fun a ha b hb => by simp at hb; subst hb; intro e; subst e; contradiction⟩
 · rw [mset_borns]
   split
   · exact h.borns
   · exact List.nodup_append.2 ⟨h.borns, by simp, fun a ha b hb => by simp at hb; subst hb; have := ho a ha; omega⟩
 · have hb : e.2.2 ∈ (mset x v c L).map (·.2.2) := List.mem_map.2 ⟨e, he, rfl⟩
   rw [mset_borns] at hb
   split at hb <;> rename_i hx
   · rw [if_pos hx]; exact ho _ hb
   · rw [if_neg hx]
     rcases List.mem_append.1 hb with hb | hb
     · have := ho _ hb; omega
     · simp at hb; omega
end
theorem Hp.viewF {w0 w : World} {S : Nat → Prop} {O : List Nat} {M : Heap} {W : List OwnS} {G : List Fact} (H : Hp w0 S O M W G w) {F : Fact} (i : Nat) (h : G[i]? = some F) : F.p (fun _ => True) w :=
 F.step (H.fact i h) fun _ _ _ => ⟨trivial, rfl⟩
end Go.BX

/-
 THE ENGINE's slices.Delete: an append into the same block, and a clear, on a block of the call's own.
 No condition.
-/
namespace Go.BX
open Go.RowKit (Below)
section
variable {P : Program} {n : Nat} {ds : List Deferred} {ops : Array Oper} {K : Env → World → Prop} {l r : List (Nat × Kd)} {σ : Env} {w : World} {κ : Kd} {d : Option Tmp}
variable {w0 : World} {S : Nat → Prop} {O : List Nat} {M : Heap} {W : List OwnS} {G : List Fact}
theorem RW.clearR {T e Tb ty : TypeId} {m : Nat} {b o1 l1 c1 : Nat} {c : Array Value} (hl : look P n ops l σ = some (.seq, semV (Builtin.clear_ #[T] ty #[.slice (some ⟨b, o1, none⟩) l1 c1]), d, r)) (hT : sliceE P T = some (e, m)) (hz : zeroOk P e m = true)
 (H : Hp w0 S O M W G w) (i : Nat) (hi : M[i]? = some (b, .cells c Tb (0, 0))) (o : Nat) (hs : 0 < l1 → o1 = o) (hfit : o + l1 * m ≤ c.size)
 (h : ∀ (c' : Array Value) w', c'.size = c.size → c'.toList.take o = c.toList.take o → Hp w0 S O (M.set i (b, .cells c' Tb (0, 0))) W G w' → RW P ops n ds K r (putO d (.tuple #[]) σ) w') : RW P ops n ds K l σ w := by
 have hb := (H.own _ (List.mem_of_getElem? hi)).1
 obtain ⟨hu, ti, hti, hm⟩ := sliceE_spec hT
 by_cases h0 : l1 = 0
 · subst h0
   have hr : (Builtin.clear_ #[T] ty #[.slice (some ⟨b, o1, none⟩) 0 c1]).run P w = .ok (.tuple #[]) w := by
    simp [Builtin.clear_, run_underlying hu]
   have hset : M.set i (b, .cells c Tb (0, 0)) = M := by
    apply List.ext_getElem?
    intro j
    rw [List.getElem?_set]
    split
    · rename_i hij; subst hij; rw [if_pos (List.getElem?_eq_some_iff.1 hi).1, hi]
    · rfl
   exact RW.actV hl (semV_run hr) (h c w rfl rfl (by rw [hset]; exact H))
 · obtain rfl := hs (by omega)
   unfold zeroOk at hz
   rw [hti] at hz
   simp only at hz
   cases hzz : ti.zero with
   | none => rw [hzz] at hz; cases hz
   | some z =>
    rw [hzz] at hz
    simp only [Bool.and_eq_true] at hz
    have a := Nat.eq_of_beq_eq_true hz.1.2
    simp only [Array.length_toList] at a
    have hsz : (Builtin.zeroCells z.cells l1).toList.length = l1 * m := by rw [Array.length_toList, size_zeroCells, a]
    have hst := run_storeCells_at P b o1 Tb (Builtin.zeroCells z.cells l1).toList 0 c w hb (by rw [hsz]; omega) (zeroCells_ones hz.2)
    simp only [Nat.add_zero] at hst
    rw [setRow_put hb, hsz] at hst
    have hr : (Builtin.clear_ #[T] ty #[.slice (some ⟨b, o1, none⟩) l1 c1]).run P w = .ok (.tuple #[]) { w with heap := w.heap.setIfInBounds b (.cells (c.toList.take o1 ++ (Builtin.zeroCells z.cells l1).toList ++ c.toList.drop (o1 + l1 * m)).toArray Tb (0, 0)) } := by
     cases l1 with
     | zero => exact absurd rfl h0
     | succ l1 => simp [Builtin.clear_, run_underlying hu, zeroValue, typeInfo, hti, hzz, hst]
    have hcl : c.toList.length = c.size := by simp
    refine RW.actV hl (semV_run hr) (h _ _ ?_ ?_ (H.put i hi _))
    · rw [List.size_toArray, List.length_append, List.length_append, hsz, List.length_take, List.length_drop]; omega
    · rw [List.toList_toArray, List.append_assoc, List.take_append_of_le_length (by rw [List.length_take]; omega), List.take_take, Nat.min_self]
end
end Go.BX

/-
 THE ENGINE's SORT: a row of the call's own, as the shelf's sort wants it, and as it leaves it.
 No condition.
-/
namespace Go.BX
open Go.RowKit (Below)
open Go.Sort Go.Proofs
section
variable {α : Type} [Inhabited α] {w0 w : World} {S : Nat → Prop} {O : List Nat} {M : Heap} {W : List OwnS} {G : List Fact} {sh : Shape α} {enc : α → List Value} {k : Nat} {T : TypeId} {b cap : Nat} {xs : List α}
theorem row_cell {c : Array Value} (hk : sh.size = k) (h0 : 0 < k) (hE : ∀ x cs, sh.rep S w cs x → cs = enc x) (hs : EsP sh S w c.toList xs) {j : Nat} (hj : j < xs.length * k) (hl : xs.length * k ≤ c.size) :
 c[j]? = some ((enc xs[j / k]!)[j % k]!) := by
 have hd : j / k < xs.length := Nat.div_lt_of_lt_mul (by rw [Nat.mul_comm]; exact hj)
 have hm : j % k < k := Nat.mod_lt _ h0
 have hr := hs (j / k) xs[j / k] (List.getElem?_eq_getElem hd)
 have he := hE _ _ hr
 rw [hk] at he
 have hlen := sh.len hr
 rw [hk] at hlen
 have a : ((c.toList.drop (j / k * k)).take k)[j % k]? = c[j]? := by
  rw [List.getElem?_take, if_pos hm, List.getElem?_drop, Nat.div_add_mod']
  simp
 rw [← a, he]
 have hlt : j % k < (enc xs[j / k]).length := by rw [← he, hlen]; exact hm
 rw [getElem!_pos xs (j / k) hd, getElem!_pos _ (j % k) hlt, List.getElem?_eq_getElem hlt]
theorem Hp.holdsK (hk : sh.size = k) (h0 : 0 < k) (hE : ∀ (S : Nat → Prop) (w : World) x cs, sh.rep S w cs x → cs = enc x) (H : Hp w0 S O M (⟨sh, T, .slice (some ⟨b, 0, none⟩) xs.length cap, xs⟩ :: W) G w) (hp : 0 < xs.length) :
 HoldsK enc k w b 0 xs.toArray ∧ b < w.heap.size := by
 obtain ⟨b', c, hb, -, hcs, a, _, _, HR⟩ := H.toRaw1 hp
 obtain ⟨rfl⟩ : b = b' := by simpa using hb
 have hh := (HR.own _ (List.mem_cons_self ..)).1
 have hes := HR.es 0 rfl
 refine ⟨fun j hj => ?_, (Array.getElem?_eq_some_iff.1 hh).1⟩
 rw [size_flatK, List.size_toArray] at hj
 have hl : xs.length * k ≤ c.size := by rw [hcs, hk]; exact Nat.mul_le_mul_right _ a
 have hc := row_cell hk h0 (hE _ _) hes hj hl
 have hf := get_flatK enc k xs.toArray j (by rw [List.size_toArray]; exact hj)
 refine ⟨?_, ?_⟩
 · rw [cell_of_row w b (0 + j) c T (0, 0) hh, Nat.zero_add, hc, id, hf]
   simp
 · simp only [World.frozen?] at *
   rw [hh]
   simp
theorem Hp.sortedK (hk : sh.size = k) (h0 : 0 < k) (hE : ∀ (S : Nat → Prop) (w : World) x cs, sh.rep S w cs x → cs = enc x) (hlen : ∀ x, (enc x).length = k) (H : Hp w0 S O M (⟨sh, T, .slice (some ⟨b, 0, none⟩) xs.length cap, xs⟩ :: W) G w) (hp : 0 < xs.length)
 {d' : Array α} {n : Nat} {os : Array Obj} (hd : d'.toList.Perm xs) :
 Hp w0 S O M (⟨sh, T, .slice (some ⟨b, 0, none⟩) xs.length cap, d'.toList⟩ :: W) G (sortWorldK enc k w b 0 n d' os) := by
 obtain ⟨b', c, hb, -, hcs, d, g, _, HR⟩ := H.toRaw1 hp
 obtain ⟨rfl⟩ : b = b' := by simpa using hb
 have hh := (HR.own _ (List.mem_cons_self ..)).1
 have hes := HR.es 0 rfl
 have hbl := (Array.getElem?_eq_some_iff.1 hh).1
 have hsz : d'.size = xs.length := by have := hd.length_eq; simpa using this
 have hl : xs.length * k ≤ c.size := by rw [hcs, hk]; exact Nat.mul_le_mul_right _ d
 let c' : Array Value := putCells id 0 (flatK enc k d') c
 have hcl : c'.size = c.size := by simp [c', putCells]
 have hget : ∀ j, j < xs.length * k → c'[j]? = some ((enc d'[j / k]!)[j % k]!) := fun j hj => by
  have hjc : j < c.size := by omega
  have hf := get_flatK enc k d' j (by rw [hsz]; exact hj)
  simp only [c', putCells, Array.getElem?_mapIdx, Array.getElem?_eq_getElem hjc, Option.map_some, size_flatK, hsz]
  rw [if_pos ⟨Nat.zero_le _, by omega⟩, Nat.sub_zero, hf, id]
 have HP := HR.put 0 rfl (.cells c' T (0, 0))
 have hext : Ext { w with heap := w.heap.setIfInBounds b (.cells c' T (0, 0)) } (sortWorldK enc k w b 0 n d' os) := by
  have hheap : (sortWorldK enc k w b 0 n d' os).heap = w.heap.setIfInBounds b (.cells c' T (0, 0)) ++ os := by
   show (w.heap.modify b _) ++ os = _
   congr 1
   apply Array.ext_getElem?
   intro j
   rw [Array.getElem?_modify, Array.getElem?_setIfInBounds]
   by_cases hj : b = j
   · subst hj
     rw [if_pos rfl, if_pos rfl, if_pos hbl, hh]
     rfl
   · rw [if_neg hj, if_neg hj]
  refine ⟨rfl, rfl, rfl, ?_, fun q hq => ?_⟩
  · rw [hheap]; simp
  · rw [hheap, Array.getElem?_append_left hq]
 have HE := HP.ext hext
 simp only [List.set_cons_zero] at HE
 have hrow : ∀ i x, d'.toList[i]? = some x → (c'.toList.drop (i * k)).take k = enc x := fun i x hx => by
  have hi := (List.getElem?_eq_some_iff.1 hx).1
  rw [hd.length_eq] at hi
  have hik : i * k + k ≤ xs.length * k := by rw [← Nat.succ_mul]; exact Nat.mul_le_mul_right _ hi
  have hx! : d'[i]! = x := by
   have h' : i < d'.size := by omega
   rw [getElem!_pos d' i h']
   simpa [h'] using hx
  apply List.ext_getElem?
  intro t
  by_cases ht : t < k
  · rw [List.getElem?_take, if_pos ht, List.getElem?_drop]
    have hq := hget (i * k + t) (by omega)
    have a : (i * k + t) / k = i := by rw [Nat.mul_comm, Nat.mul_add_div h0, Nat.div_eq_of_lt ht, Nat.add_zero]
    have l : (i * k + t) % k = t := by rw [Nat.mul_comm, Nat.mul_add_mod, Nat.mod_eq_of_lt ht]
    rw [a, l, hx!] at hq
    have ht' : t < (enc x).length := by rw [hlen]; exact ht
    rw [Array.getElem?_toList, hq, getElem!_pos _ t ht', List.getElem?_eq_getElem ht']
  · rw [List.getElem?_take, if_neg ht, List.getElem?_eq_none (by rw [hlen]; omega)]
 have hrep : ∀ x, x ∈ d'.toList → sh.rep (Av S w0 O (idsOf ((b, .cells c' T (0, 0)) :: M) W)) (sortWorldK enc k w b 0 n d' os) (enc x) x := fun x hx => by
  have e := hd.mem_iff.1 hx
  obtain ⟨i, hi, rfl⟩ := List.mem_iff_getElem.1 e
  have h := HE.es 0 rfl i xs[i] (List.getElem?_eq_getElem hi)
  have := hE _ _ _ _ h
  rw [this] at h
  exact h
 have hes' : EsP sh (Av S w0 O (idsOf ((b, .cells c' T (0, 0)) :: M) W)) (sortWorldK enc k w b 0 n d' os) c'.toList d'.toList := fun i x hx => by
  rw [hk, hrow i x hx]
  exact hrep x (List.mem_of_getElem? hx)
 have hone : ∀ v ∈ c'.toList.take (d'.toList.length * sh.size), v.oneCell' = true := fun v hv => by
  obtain ⟨j, hj, rfl⟩ := List.mem_iff_getElem.1 hv
  have hj' : j < xs.length * k := by
   rw [List.length_take, hd.length_eq, hk] at hj
   omega
  have hjk : j / k < d'.size := by rw [hsz]; exact Nat.div_lt_of_lt_mul (by rw [Nat.mul_comm]; exact hj')
  have hm : j % k < (enc d'[j / k]!).length := by rw [hlen]; exact Nat.mod_lt _ h0
  have hq := hget j hj'
  rw [getElem!_pos _ (j % k) hm] at hq
  have f : (c'.toList.take (d'.toList.length * sh.size))[j] = (enc d'[j / k]!)[j % k] := by
   have a : (c'.toList.take (d'.toList.length * sh.size))[j]? = c'[j]? := by
    rw [List.getElem?_take, if_pos (by rw [hd.length_eq, hk]; exact hj')]
    simp
   rw [hq, List.getElem?_eq_getElem hj] at a
   exact Option.some.inj a
  rw [f]
  refine sh.ones (hrep d'[j / k]! ?_) _ (List.getElem_mem hm)
  rw [getElem!_pos d' (j / k) hjk]
  exact Array.mem_toList_iff.2 (Array.getElem_mem hjk)
 have hfin := (HE.toOwn (sh := sh) (cap := cap) (xs := d'.toList) (by rw [hcl]; exact hcs) (by rw [hd.length_eq]; exact d) g hone hes').facts_sub (G' := G) fun F hF => List.mem_cons_of_mem _ hF
 rw [hd.length_eq] at hfin
 exact hfin
end
def Gr (w w' : World) : Prop := ∃ q os, w' = grow (w.drewN q) os
theorem Gr.refl (w : World) : Gr w w := ⟨0, #[], by rw [grow_empty]; rfl⟩
theorem Gr.draw {w a : World} (h : Gr w a) : Gr w { a with drawn := a.drawn + 1 } := by
 obtain ⟨q, os, rfl⟩ := h
 exact ⟨q + 1, os, rfl⟩
theorem Gr.new {w a b : World} {o : Obj} (h : Gr w a) (hq : b = { a with heap := a.heap.push o }) : Gr w b := by
 obtain ⟨q, os, rfl⟩ := h
 subst hq
 refine ⟨q, os.push o, ?_⟩
 simp [grow]
section
variable {P : Program} {n : Nat} {ds : List Deferred} {ops : Array Oper} {K : Env → World → Prop} {l r : List (Nat × Kd)} {σ : Env} {w : World} {κ : Kd} {d : Option Tmp}
theorem RW.newG {w0 : World} {S : Nat → Prop} {O : List Nat} {M : Heap} {W : List OwnS} {G : List Fact} {o : Obj} {v : Nat → Value} (hl : ∀ b, lookM P n ops l σ b = some (κ, o, v b, d, r)) (hκ : κ ≠ .qui) (H : Hp w0 S O M W G w)
 (hk : ∀ b w', w' = { w with heap := w.heap.push o } → Hp w0 S O ((b, o) :: M) W G w' → RW P ops n ds K r (putO d (v b) σ) w') : RW P ops n ds K l σ w := by
 have c : ∃ s, look P n ops l σ = some (κ, s, d, r) ∧ ∀ b, newAt P b s = some (o, v b) := by
  have a := hl 0
  unfold lookM at a
  cases hlk : look P n ops l σ with
  | none => rw [hlk] at a; cases a
  | some x =>
   obtain ⟨κ', s, d', r'⟩ := x
   rw [hlk] at a
   simp only at a
   have all : ∀ b, κ' = κ ∧ newAt P b s = some (o, v b) ∧ d' = d ∧ r' = r := by
    intro b
    have hb := hl b
    unfold lookM at hb
    rw [hlk] at hb
    simp only at hb
    cases hn : newAt P b s with
    | none => rw [hn] at hb; cases hb
    | some y =>
     obtain ⟨o', u⟩ := y
     rw [hn] at hb
     simp only [Option.some.injEq, Prod.mk.injEq] at hb
     obtain ⟨rfl, rfl, e, rfl, rfl⟩ := hb
     exact ⟨rfl, by rw [e], rfl, rfl⟩
   obtain ⟨rfl, _, rfl, rfl⟩ := all 0
   exact ⟨s, rfl, fun b => (all b).2.1⟩
 obtain ⟨s, hl, hn⟩ := c
 exact RW.makeS hl hκ (newAt_run hn w) ⟨rfl, rfl, rfl, by simp, fun k hk => by
  show (w.heap.push o)[k]? = _
  rw [Array.getElem?_push, if_neg (by omega)]⟩ (hk _ _ rfl (H.alloc o))
end
end Go.BX

/-
 THE ENGINE: a row of the call's own, read as another shape of the same cells.
 No condition.
-/
namespace Go.BX
section
variable {w0 w : World} {S : Nat → Prop} {O : List Nat} {M : Heap} {W : List OwnS} {G : List Fact}
theorem Hp.shapeW {α β : Type} {sh : Shape α} {sh' : Shape β} {T : TypeId} {v : Value} {xs : List α} {ys : List β} (H : Hp w0 S O M (⟨sh, T, v, xs⟩ :: W) G w) (hz : sh'.size = sh.size) (hl : ys.length = xs.length)
 (hr : ∀ cs, cs.length = xs.length * sh.size → (∀ i x, xs[i]? = some x → sh.rep (Av S w0 O (idsOf M (⟨sh, T, v, xs⟩ :: W))) w ((cs.drop (i * sh.size)).take sh.size) x) → w.ownsRow 0 T sh.size v xs.length cs → ∀ i y, ys[i]? = some y → sh'.rep (Av S w0 O (idsOf M (⟨sh, T, v, xs⟩ :: W))) w ((cs.drop (i * sh.size)).take sh.size) y) :
 Hp w0 S O M (⟨sh', T, v, ys⟩ :: W) G w := by
 have hid : idsOf M (⟨sh', T, v, ys⟩ :: W) = idsOf M (⟨sh, T, v, xs⟩ :: W) := rfl
 refine ⟨H.below, H.own, fun o ho => ?_, by rw [hid]; exact H.nodup, by rw [hid]; exact H.facts⟩
 rcases List.mem_cons.1 ho with rfl | ho
 · have h := H.slc ⟨sh, T, v, xs⟩ (List.mem_cons_self ..)
   obtain ⟨cs, a, b, c⟩ := h.1
   refine ⟨⟨cs, ?_, b, fun i y hy => ?_⟩, h.2⟩
   · show w.ownsRow 0 T sh'.size v ys.length cs
     rw [hz, hl]
     exact a
   · show sh'.rep _ w ((cs.drop (i * sh'.size)).take sh'.size) y
     rw [hz, hid]
     exact hr cs a.1 c a i y hy
 · rw [hid]
   exact H.slc o (List.mem_cons_of_mem _ ho)
theorem Hp.liftW {α β : Type} {sh : Shape α} {sh' : Shape β} {T : TypeId} {v : Value} {xs : List α} (f : β → α) (H : Hp w0 S O M (⟨sh, T, v, xs⟩ :: W) G w) (hz : sh'.size = sh.size) (hf : ∀ (S : Nat → Prop) (w : World) cs x, sh.rep S w cs x → ∃ y, f y = x ∧ sh'.rep S w cs y) :
 ∃ ys : List β, ys.map f = xs ∧ Hp w0 S O M (⟨sh', T, v, ys⟩ :: W) G w := by
 obtain ⟨cs, b, c, d⟩ := (H.slc ⟨sh, T, v, xs⟩ (List.mem_cons_self ..)).1
 have hch : ∀ i : Nat, i < xs.length → ∃ y : β, (∀ x, xs[i]? = some x → f y = x) ∧ sh'.rep (Av S w0 O (idsOf M (⟨sh, T, v, xs⟩ :: W))) w ((cs.drop (i * sh.size)).take sh.size) y := fun i hi => by
  obtain ⟨y, hy, hr⟩ := hf _ _ _ _ (d i xs[i] (List.getElem?_eq_getElem hi))
  exact ⟨y, fun x hx => by rw [List.getElem?_eq_getElem hi] at hx; cases hx; exact hy, hr⟩
 have hlist : ∀ m, m ≤ xs.length → ∃ ys : List β, ys.length = m ∧ ∀ i y, ys[i]? = some y → (∀ x, xs[i]? = some x → f y = x) ∧ sh'.rep (Av S w0 O (idsOf M (⟨sh, T, v, xs⟩ :: W))) w ((cs.drop (i * sh.size)).take sh.size) y := by
  intro m
  induction m with
  | zero => intro _; exact ⟨[], rfl, fun i y h => by simp at h⟩
  | succ m ih =>
   intro hm
   obtain ⟨ys, hl, hy⟩ := ih (by omega)
   obtain ⟨y, a⟩ := hch m (by omega)
   refine ⟨ys ++ [y], by simp [hl], fun i z hz => ?_⟩
   rcases Nat.lt_or_ge i ys.length with hi | hi
   · rw [List.getElem?_append_left hi] at hz
     exact hy i z hz
   · rw [List.getElem?_append_right hi] at hz
     have : i = m := by
      have := (List.getElem?_eq_some_iff.1 hz).1
      simp at this
      omega
     subst this
     rw [hl] at hz
     simp at hz
     subst hz
     exact a
 obtain ⟨ys, hl, hy⟩ := hlist xs.length (Nat.le_refl _)
 refine ⟨ys, ?_, ?_⟩
 · apply List.ext_getElem (by simp [hl])
   intro i a e
   rw [List.getElem_map]
   exact (hy i ys[i] (List.getElem?_eq_getElem (by simpa using a))).1 xs[i] (List.getElem?_eq_getElem e)
 · have hid : idsOf M (⟨sh', T, v, ys⟩ :: W) = idsOf M (⟨sh, T, v, xs⟩ :: W) := rfl
   refine ⟨H.below, H.own, fun o ho => ?_, by rw [hid]; exact H.nodup, by rw [hid]; exact H.facts⟩
   rcases List.mem_cons.1 ho with rfl | ho
   · refine ⟨⟨cs, ?_, c, fun i y h => ?_⟩, (H.slc ⟨sh, T, v, xs⟩ (List.mem_cons_self ..)).2⟩
     · show w.ownsRow 0 T sh'.size v ys.length cs
       rw [hz, hl]
       exact b
     · show sh'.rep _ w ((cs.drop (i * sh'.size)).take sh'.size) y
       rw [hz, hid]
       exact (hy i y h).2
   · rw [hid]
     exact H.slc o (List.mem_cons_of_mem _ ho)
theorem Hp.mapW {α β : Type} {sh : Shape α} {sh' : Shape β} {T : TypeId} {v : Value} {ys : List β} (f : β → α) (H : Hp w0 S O M (⟨sh', T, v, ys⟩ :: W) G w) (hz : sh'.size = sh.size) (hf : ∀ (S : Nat → Prop) (w : World) cs y, sh'.rep S w cs y → sh.rep S w cs (f y)) :
 Hp w0 S O M (⟨sh, T, v, ys.map f⟩ :: W) G w :=
 H.shapeW hz.symm (by simp) fun cs _ hr _ i x hx => by
  rw [List.getElem?_map] at hx
  cases hy : ys[i]? with
  | none => rw [hy] at hx; cases hx
  | some y =>
   rw [hy] at hx
   simp at hx
   subst hx
   exact hf _ _ _ _ (hr i y hy)
end
end Go.BX

/-
 THE ENGINE: so many noughts appended to a nil slice.
 No condition.
-/
namespace Go.BX
section
variable {P : Program} {n : Nat} {ds : List Deferred} {ops : Array Oper} {K : Env → World → Prop} {l r : List (Nat × Kd)} {σ : Env} {w : World} {d : Option Tmp}
variable {w0 : World} {S : Nat → Prop} {O : List Nat} {M : Heap} {W : List OwnS} {G : List Fact}
theorem RW.appendZN {T TI ty e : TypeId} {m by_ : Nat} {ik : IntKind} {j : Nat} {t : Int} (hl : look P n ops l σ = some (.seq, semV (Builtin.append_ #[T, TI] ty #[.slice none 0 0, .int .i64 t]), d, r))
 (ht : t = (j : Int)) (hT : elemE P T = some (e, m, by_, true)) (hI : P.underlying TI = some (.int ik)) (H : Hp w0 S O M W G w) (hm : 0 < m) (hj : 0 < j) (h63 : j ≤ 9223372036854775807) (hby : j * by_ ≤ 140737488355328)
 (h : ∀ b' cc c' w', Hp w0 S O ((b', .cells c' e (0, 0)) :: M) W G w' → c'.size = cc * m → j ≤ cc → cc ≤ 9223372036854775807 →
  RW P ops n ds K r (putO d (.slice (some ⟨b', 0, none⟩) j cc) σ) w') : RW P ops n ds K l σ w := by
 subst ht
 obtain ⟨hu, ti, z, hti, hz, rfl, rfl, hzs⟩ := elemE_spec hT
 have hr : (Builtin.append_ #[T, TI] ty #[.slice none 0 0, .int .i64 (j : Int)]).run P w = .ok (.slice (some ⟨w.heap.size, 0, none⟩) j (grownCap w j 0 e))
  (w.drew.alloc (.cells (Builtin.zeroCells z.cells j ++ Builtin.zeroCells z.cells (grownCap w j 0 e - j)) e)) := by
  have hn : ¬ (j = 0) := by omega
  have h63' : ¬ (9223372036854775807 < (j : Int)) := by omega
  have h48' : ¬ (281474976710656 < Builtin.nextslicecap j 0 * ti.bytes) := by rw [nextslicecap_zero hj]; omega
  have hw : IntKind.i64.wrap (j : Int) = j := by rw [IntKind.wrap_i64]; omega
  have hbj : ¬ (281474976710656 < (j : Int) * (ti.bytes : Int)) := by
   have c : ((j * ti.bytes : Nat) : Int) ≤ 140737488355328 := by omega
   rw [Int.natCast_mul] at c
   omega
  have a : ¬ (ti.size = 0) := by omega
  have hneg : ¬ ((j : Int) < 0) := by omega
  simp [Builtin.append_, run_underlying hu, run_underlying hI, sizeOf, typeInfo, zeroValue, hti, hz, hn, h63', h48', Question.forced, run_firstCells_none, newRow, grownCap, asInt, asIntOf, hw, hbj, a, hneg]
  intro _
  have := Nat.mul_pos hj hm
  omega
 refine RW.actV hl (semV_run hr) (h _ (grownCap w j 0 e) _ _ (H.draw.alloc _) ?_ (grownCap_ge _ _ _ _) ?_)
 · have b : ∀ k, (Builtin.zeroCells z.cells k).size = k * ti.size := fun k => by
    rw [← hzs]; exact size_zeroCells _ _
   have hge := grownCap_ge w j 0 e
   rw [Array.size_append, b, b, ← Nat.add_mul]
   congr 1
   omega
 · have := grownCap_le_maxLen w j 0 e (by unfold maxLen; omega)
   unfold maxLen at this
   exact this
end
end Go.BX

/-
 THE ENGINE, MORE: rows of bytes of the call's own that lie in a slice of its own: the slice holds bare values (Shape.raw), the rows stand behind in the list of own slices (rowsW); when they are written no more they are facts, and the slice is one of rows.
 No condition.
-/
namespace Go.BX
def Shape.raw : Shape Value where
 size := 1
 rep _ _ cs x := cs = [x] ∧ x.oneCell' = true
 pos := by decide
 len := fun h => by rw [h.1]; rfl
 ones := fun h v hv => by rw [h.1] at hv; simp at hv; subst hv; exact h.2
 step := fun h _ => h
structure RowD where
 a : Option Addr
 n : Nat
 c : Nat
 xs : List (BitVec 8)
def RowD.v (r : RowD) : Value := .slice r.a r.n r.c
def rowW (T : TypeId) (r : RowD) : OwnS := ⟨Shape.bv .u8 8, T, .slice r.a r.n r.c, r.xs⟩
def rowsW (T : TypeId) (R : List RowD) : List OwnS := R.map (rowW T)
theorem erase_perm {α : Type} : ∀ {l : List α} {i : Nat} {x : α}, l[i]? = some x → l.Perm (x :: l.eraseIdx i)
 | [], i, x, h => by simp at h
 | y :: l, 0, x, h => by
  simp only [List.getElem?_cons_zero, Option.some.injEq] at h
  subst h
  exact List.Perm.refl _
 | y :: l, i + 1, x, h => by
  have := erase_perm (l := l) (i := i) (x := x) (by simpa using h)
  exact (List.Perm.cons y this).trans (List.Perm.swap x y _)
theorem set_perm {α : Type} : ∀ {l : List α} {i : Nat} (x : α), i < l.length → (l.set i x).Perm (x :: l.eraseIdx i)
 | [], i, x, h => by simp at h
 | y :: l, 0, x, h => List.Perm.refl _
 | y :: l, i + 1, x, h => by
  have := set_perm (l := l) (i := i) x (by simpa using h)
  exact (List.Perm.cons y this).trans (List.Perm.swap x y _)
theorem rowsW_pick {T : TypeId} {R : List RowD} {i : Nat} {r : RowD} (h : R[i]? = some r) : (rowW T r :: rowsW T (R.eraseIdx i)).Perm (rowsW T R) := by
 have := ((erase_perm h).map (rowW T)).symm
 exact this
theorem rowsW_put {T : TypeId} {R : List RowD} {i : Nat} (r : RowD) (h : i < R.length) : (rowsW T (R.set i r)).Perm (rowW T r :: rowsW T (R.eraseIdx i)) := (set_perm r h).map (rowW T)
theorem rowsW_snoc {T : TypeId} {R : List RowD} {r : RowD} : (rowsW T (R ++ [r])).Perm (rowW T r :: rowsW T R) := by
 unfold rowsW
 rw [List.map_append]
 exact List.perm_append_comm
theorem rowsV_set {R : List RowD} {i : Nat} {r r' : RowD} (h : R[i]? = some r) (hv : r'.v = r.v) : R.map RowD.v = (R.set i r').map RowD.v := by
 rw [List.map_set, hv]
 apply List.ext_getElem?
 intro j
 rw [List.getElem?_set]
 split
 · rename_i e
   subst e
   rw [List.getElem?_map, h]
   simp only [List.length_map]
   rw [if_pos (List.getElem?_eq_some_iff.1 h).1]
   rfl
 · rfl
theorem rowsV_at {R : List RowD} {i : Nat} {r : RowD} (h : R[i]? = some r) (hi : i < (R.map RowD.v).length) : (R.map RowD.v)[i] = .slice r.a r.n r.c := by
 rw [List.getElem_map, (List.getElem?_eq_some_iff.1 h).2]
 rfl
theorem rowsX_set {R : List RowD} {i : Nat} {r' : RowD} : (R.set i r').map RowD.xs = (R.map RowD.xs).set i r'.xs := List.map_set
theorem rowsX_at {R : List RowD} {i : Nat} {r : RowD} {L : List (List (BitVec 8))} (h : R[i]? = some r) (hL : R.map RowD.xs = L) : L[i]? = some r.xs := by
 rw [← hL, List.getElem?_map, h]
 rfl
theorem rows_n {R : List RowD} {m i : Nat} {r r' : RowD} (h : ∀ r ∈ R, r.n = m) (hr : R[i]? = some r) (hn : r'.n = r.n) : ∀ q ∈ R.set i r', q.n = m := by
 intro q hq
 rcases List.mem_or_eq_of_mem_set hq with hq | rfl
 · exact h q hq
 · rw [hn]; exact h r (List.mem_of_getElem? hr)
section
variable {w0 w : World} {S : Nat → Prop} {O : List Nat} {M : Heap} {W : List OwnS} {G : List Fact}
theorem Hp.rowsFacts {o : OwnS} {T : TypeId} : ∀ {R : List RowD} {G : List Fact}, Hp w0 S O M (o :: (rowsW T R ++ W)) G w → Hp w0 S O M (o :: W) (R.map (fun r => Rp (Shape.slice (Shape.bv .u8 8)) [r.v] r.xs) ++ G) w
 | [], _, H => H
 | r :: R, G, H => by
  have h1 := H.freezeW 1 (sh := Shape.bv .u8 8) (T := T) (v := r.v) (xs := r.xs) rfl
  have h2 := Hp.rowsFacts (R := R) h1
  exact h2.facts_sub fun F hF => by
   simp only [List.map_cons, List.cons_append, List.mem_cons, List.mem_append] at hF ⊢
   rcases hF with h | h | h
   · exact .inr (.inl h)
   · exact .inl h
   · exact .inr (.inr h)
theorem Hp.freezeRows {T T2 : TypeId} {v : Value} {R : List RowD} {W : List OwnS} (H : Hp w0 S O M (⟨Shape.raw, T2, v, R.map RowD.v⟩ :: (rowsW T R ++ W)) G w) :
 Hp w0 S O M (⟨Shape.slice (Shape.bv .u8 8), T2, v, R.map RowD.xs⟩ :: W) G w := by
 have a := H.rowsFacts
 have hid : idsOf M ((⟨Shape.slice (Shape.bv .u8 8), T2, v, R.map RowD.xs⟩ : OwnS) :: W) = idsOf M ((⟨Shape.raw, T2, v, R.map RowD.v⟩ : OwnS) :: W) := rfl
 refine (a.reids (fun b => by rw [hid]) (by rw [hid]; exact a.nodup) (fun p hp => (a.own p hp).1) (fun o ho => ?_)).facts_sub fun F hF => List.mem_append_right _ hF
 rcases List.mem_cons.1 ho with rfl | ho
 · obtain ⟨cs, c, d, e⟩ := (a.slc _ (List.mem_cons_self ..)).1
   refine ⟨cs, ?_, d, fun i x hx => ?_⟩
   · simp only [List.length_map] at c ⊢
     exact c
   · obtain ⟨r, hr, rfl⟩ := by
      rw [List.getElem?_map] at hx
      exact Option.map_eq_some_iff.1 hx
     have hv := e i r.v (by show (R.map RowD.v)[i]? = _; rw [List.getElem?_map, hr]; rfl)
     have hf := a.facts (Rp (Shape.slice (Shape.bv .u8 8)) [r.v] r.xs) (List.mem_append_left _ (List.mem_map.2 ⟨r, List.mem_of_getElem? hr, rfl⟩))
     have f : (cs.drop (i * 1)).take 1 = [r.v] := hv.1
     show (Shape.slice (Shape.bv .u8 8)).rep _ w ((cs.drop (i * 1)).take 1) r.xs
     rw [f]
     exact hf
 · exact (a.slc o (List.mem_cons_of_mem _ ho)).1
theorem Hp.freezeRows0 {T T2 : TypeId} {v : Value} {R : List RowD} (H : Hp w0 S O M (⟨Shape.raw, T2, v, R.map RowD.v⟩ :: rowsW T R) G w) :
 Hp w0 S O M [⟨Shape.slice (Shape.bv .u8 8), T2, v, R.map RowD.xs⟩] G w := by
 rw [← List.append_nil (rowsW T R)] at H
 exact H.freezeRows
end
end Go.BX

/-
 THE ENGINE, MORE: two matrices of rows of the call's own: one or two rows stand ahead, and go back.
 No condition.
-/
namespace Go.BX
abbrev RowD.to (q : RowD) (xs : List (BitVec 8)) : RowD := ⟨q.a, q.n, q.c, xs⟩
theorem rows_one {R : List RowD} {i : Nat} {r : RowD} (h : R[i]? = some r) : ∃ X, R.Perm (r :: X) ∧ ∀ r', (R.set i r').Perm (r' :: X) :=
 ⟨_, erase_perm h, fun r' => set_perm r' (List.getElem?_eq_some_iff.1 h).1⟩
theorem rows_two {R : List RowD} {i j : Nat} {r s : RowD} (hij : i ≠ j) (hr : R[i]? = some r) (hs : R[j]? = some s) : ∃ X, R.Perm (r :: s :: X) ∧ ∀ r', (R.set i r').Perm (r' :: s :: X) := by
 have b := erase_perm hr
 have c : ∃ q : Nat, (R.eraseIdx i)[q]? = some s := by
  rcases Nat.lt_or_gt_of_ne hij with h | h
  · refine ⟨j - 1, ?_⟩
    rw [List.getElem?_eraseIdx, if_neg (by omega), show j - 1 + 1 = j by omega, hs]
  · refine ⟨j, ?_⟩
    rw [List.getElem?_eraseIdx, if_pos h, hs]
 obtain ⟨q, hq⟩ := c
 have a := erase_perm hq
 exact ⟨_, b.trans (List.Perm.cons r a), fun r' => (set_perm r' (List.getElem?_eq_some_iff.1 hr).1).trans (List.Perm.cons r' a)⟩
section
variable {w0 w : World} {S : Nat → Prop} {O : List Nat} {M : Heap} {W : List OwnS} {G : List Fact} {T : TypeId}
theorem Hp.rowOut1 {pre : List OwnS} {R X : List RowD} {r : RowD} (H : Hp w0 S O M (pre ++ rowsW T R) G w) (h : R.Perm (r :: X)) : Hp w0 S O M (rowW T r :: (pre ++ rowsW T X)) G w :=
 H.perms (List.Perm.refl _) (List.perm_middle.symm.trans ((h.map (rowW T)).symm.append_left pre))
theorem Hp.rowIn1 {pre : List OwnS} {R X : List RowD} {r : RowD} (H : Hp w0 S O M (rowW T r :: (pre ++ rowsW T X)) G w) (h : R.Perm (r :: X)) : Hp w0 S O M (pre ++ rowsW T R) G w :=
 H.perms (List.Perm.refl _) (((h.map (rowW T)).append_left pre).trans List.perm_middle)
theorem Hp.rowOut2 {pre : List OwnS} {R X : List RowD} {r s : RowD} (H : Hp w0 S O M (pre ++ rowsW T R) G w) (h : R.Perm (r :: s :: X)) : Hp w0 S O M (rowW T r :: rowW T s :: (pre ++ rowsW T X)) G w := by
 have a := H.rowOut1 h
 refine a.perms (List.Perm.refl _) (List.Perm.cons _ ?_)
 exact List.perm_middle.symm
theorem Hp.rowIn2 {pre : List OwnS} {R X : List RowD} {r s : RowD} (H : Hp w0 S O M (rowW T r :: rowW T s :: (pre ++ rowsW T X)) G w) (h : R.Perm (r :: s :: X)) : Hp w0 S O M (pre ++ rowsW T R) G w := by
 refine Hp.rowIn1 (H.perms (List.Perm.refl _) (List.Perm.cons _ ?_)) h
 exact List.perm_middle
end
def swapR (A : List RowD) (i j : Nat) : List RowD := match A[i]?, A[j]? with
 | some p, some q => (A.set i q).set j p
 | _, _ => A
theorem swapR_eq {A : List RowD} {i j : Nat} {p q : RowD} (h1 : A[i]? = some p) (h2 : A[j]? = some q) : swapR A i j = (A.set i q).set j p := by
 unfold swapR
 rw [h1, h2]
theorem swap_perm {A : List RowD} {i j : Nat} {p q : RowD} (h1 : A[i]? = some p) (h2 : A[j]? = some q) : ((A.set i q).set j p).Perm A := by
 by_cases e : i = j
 · subst e
   have : p = q := Option.some.inj (h1.symm.trans h2)
   subst this
   obtain ⟨hi, hp⟩ := List.getElem?_eq_some_iff.1 h1
   have a : A.set i p = A := by rw [← hp]; exact List.set_getElem_self hi
   rw [a, a]
 · obtain ⟨X, hX, b⟩ := rows_two e h1 h2
   have hj : (A.set i q)[j]? = some q := by rw [List.getElem?_set, if_neg e, h2]
   have hi : (A.set i q)[i]? = some q := by rw [List.getElem?_set, if_pos rfl, if_pos (List.getElem?_eq_some_iff.1 h1).1]
   obtain ⟨Y, hY, c⟩ := rows_two (Ne.symm e) hj hi
   have d : (q :: q :: X).Perm (q :: q :: Y) := (b q).symm.trans hY
   have f : X.Perm Y := (List.perm_cons _).1 ((List.perm_cons _).1 d)
   exact (c p).trans (((f.symm.cons q).cons p).trans hX.symm)
theorem swapR_perm {A : List RowD} {i j : Nat} {p q : RowD} (h1 : A[i]? = some p) (h2 : A[j]? = some q) : (swapR A i j).Perm A := by
 rw [swapR_eq h1 h2]
 exact swap_perm h1 h2
theorem swapR_map {α : Type} (f : RowD → α) {A : List RowD} {i j : Nat} {p q : RowD} (h1 : A[i]? = some p) (h2 : A[j]? = some q) : (swapR A i j).map f = ((A.map f).set i (f q)).set j (f p) := by
 rw [swapR_eq h1 h2, List.map_set, List.map_set]
theorem rowsW_swap {T : TypeId} {A A' B : List RowD} (h : A'.Perm A) : (rowsW T (A' ++ B)).Perm (rowsW T (A ++ B)) := (h.append_right B).map _
theorem rowsW_swapB {T : TypeId} {A B B' : List RowD} (h : B'.Perm B) : (rowsW T (A ++ B')).Perm (rowsW T (A ++ B)) := (h.append_left A).map _
end Go.BX

/-
 THE ENGINE: shifts by an amount that is known at run time only.
 No condition.
-/
namespace Go.BX
theorem quo_nat {P : Program} {w : World} {x y : Int} {r : Nat} (hy : 0 < y) (hx : 0 ≤ x ∧ x ≤ 9223372036854775807) (h : x / y = (r : Int)) : (Op.intDiv .quo .i64 x y).run P w = .ok (.int .i64 (r : Int)) w := by
 rw [quo_run_i64 hy hx, h]
end Go.BX

/-
 THE ENGINE: slices.Clip, and append to a clipped row: always a new one.
 No condition.
-/
namespace Go.BX
open Go.RowKit (Below)
section
variable {P : Program} {n : Nat} {ds : List Deferred} {ops : Array Oper} {K : Env → World → Prop} {l r : List (Nat × Kd)} {σ : Env} {w w1 : World} {κ : Kd} {d : Option Tmp}
variable {w0 : World} {S : Nat → Prop} {O : List Nat} {M : Heap} {W : List OwnS} {G : List Fact}
end
end Go.BX

/-
 THE ENGINE's BRIDGE: what a laws arguments read as, in the engine's shapes; what a law leaves.
 No condition.
-/
namespace Go.BX
open Go.RowKit
open Go.ChangeShapes Go.WideShapes Go.ChangeAt
def Reads {α : Type} (P : Program) (t : TypeId) (sh : Shape α) : Prop :=
 ∀ (H : Type) (enc : TypeId × Value → H) (w : World) (spare : Nat → Bool) (held : Bool) (fuel : Nat) (cs : List Value) (x : DataW H × List MemPlace),
  DataW.trod enc P w 0 spare held fuel t cs = some x → ∃ y, sh.rep (fun b => b < w.heap.size) w cs y
theorem Reads.int {P : Program} {t : TypeId} {k : IntKind} (ht : P.underlying t = some (.int k)) : Reads P t (Shape.int k) := by
 intro H enc w spare held fuel cs x h
 obtain ⟨n, rfl, _, hw⟩ := DataW.trod_int ht h
 simp only [Lit.wf, Bool.and_eq_true, decide_eq_true_eq] at hw
 exact ⟨n, rfl, hw⟩
theorem Reads.bool {P : Program} {t : TypeId} (ht : P.underlying t = some .bool) : Reads P t Shape.bool := by
 intro H enc w spare held fuel cs x h
 cases fuel with
 | zero => simp [DataW.trod] at h
 | succ n =>
  have hc : ∃ b, cs = [.bool b] := by
   unfold DataW.trod at h
   rw [ht] at h
   split at h <;> simp_all
  obtain ⟨b, rfl⟩ := hc
  exact ⟨b, rfl⟩
theorem exists_list {α : Type} {R : Nat → α → Prop} : ∀ (n : Nat), (∀ i, i < n → ∃ x, R i x) → ∃ xs : List α, xs.length = n ∧ ∀ i x, xs[i]? = some x → R i x
 | 0, _ => ⟨[], rfl, fun i x h => by simp at h⟩
 | n + 1, h => by
  obtain ⟨xs, hl, hr⟩ := exists_list n fun i hi => h i (by omega)
  obtain ⟨y, hy⟩ := h n (by omega)
  refine ⟨xs ++ [y], by simp [hl], fun i x hx => ?_⟩
  rcases Nat.lt_or_ge i xs.length with hlt | hge
  · rw [List.getElem?_append_left hlt] at hx; exact hr i x hx
  · rw [List.getElem?_append_right hge] at hx
    have h0 : i - xs.length = 0 := by
     have := (List.getElem?_eq_some_iff.1 hx).1
     simpa using this
    rw [h0] at hx
    cases hx
    obtain rfl : i = n := by omega
    exact hy
theorem Reads.slice {α : Type} {sh : Shape α} {P : Program} {t e : TypeId} (ht : P.underlying t = some (.slice e)) (hc : P.cellsOf e = sh.size) (hr : Reads P e sh) : Reads P t sh.slice := by
 intro H enc w spare held fuel cs x h
 rcases DataW.trod_slice ht h with ⟨rfl, _⟩ | ⟨a, len, cap, elems, rest, n, _, rfl, _, _, hl, hm, hlen, hel, _, _⟩
 · exact ⟨[], Shape.slice_nil⟩
 · have hsp : 0 < len → a.spot = none := fun k => by
    have d := hel 0 k
    rw [List.getElem?_eq_getElem (by omega)] at d
    obtain ⟨cs', f, _⟩ := Option.bind_eq_some_iff.1 d
    obtain ⟨_, g, hcell⟩ := World.cells?_some f
    have hpos : 0 < P.cellsOf e := by rw [hc]; exact sh.pos
    have c := hcell 0 hpos
    rw [List.getElem?_eq_getElem (by omega), Nat.zero_mul] at c
    have l : (a.add 0).add 0 = a := by simp [Addr.add]
    rw [l] at c
    unfold World.cell? at c
    split at c
    · split at c
      · cases c
      · rename_i hs
        simpa using hs
    · cases c
   have hi : ∀ i, i < len → ∃ y, ∃ es, Cells w a.block (a.off + i * sh.size) es ∧ sh.rep (fun b => b < w.heap.size) w es y ∧ a.spot = none := fun i hi => by
    have d := hel i hi
    rw [List.getElem?_eq_getElem (by omega)] at d
    obtain ⟨cs', f, c⟩ := Option.bind_eq_some_iff.1 d
    obtain ⟨y, hy⟩ := hr H enc w spare held n cs' _ c
    obtain ⟨_, g, hcell⟩ := World.cells?_some f
    have hpos : 0 < P.cellsOf e := by rw [hc]; exact sh.pos
    refine ⟨y, cs', fun j v hj => ?_, hy, hsp (by omega)⟩
    have hjl := (List.getElem?_eq_some_iff.1 hj).1
    have := hcell j (by omega)
    rw [hj, hc] at this
    have hsp := hsp (by omega)
    cases a with
    | mk ab ao az =>
     simp only at hsp
     subst hsp
     simpa [addr_lit, Nat.add_assoc] using this
   obtain ⟨xs, hxl, hxr⟩ := exists_list len hi
   subst hxl
   refine ⟨xs, some a, cap, rfl, hl, hm, fun i x hx => ?_⟩
   obtain ⟨es, d, f, c⟩ := hxr i x hx
   have hb : a.block < w.heap.size := d.lt (by rw [sh.len f]; exact sh.pos)
   cases a with
   | mk ab ao az =>
    simp only at c
    subst c
    exact ⟨ab, ao, es, rfl, hb, d, f⟩
def ReadsAt {α : Type} (P : Program) (fs : List Field) (o : Nat) (sh : Shape α) : Prop :=
 ∀ (H : Type) (enc : TypeId × Value → H) (w : World) (spare : Nat → Bool) (held : Bool) (fuel : Nat) (cs : List Value), cs.length = o + sh.size →
  (∀ f ∈ fs, ∃ y, DataW.trod enc P w 0 spare held fuel f.type ((cs.drop f.offset).take (P.cellsOf f.type)) = some y) → ∃ y, sh.rep (fun b => b < w.heap.size) w (cs.drop o) y
theorem ReadsAt.one {α : Type} {P : Program} {f : Field} {o : Nat} {sh : Shape α} (ho : f.offset = o) (hc : P.cellsOf f.type = sh.size) (hr : Reads P f.type sh) : ReadsAt P [f] o sh := by
 intro H enc w spare held fuel cs hl h
 obtain ⟨y, hy⟩ := h f (List.mem_cons_self ..)
 obtain ⟨z, hz⟩ := hr H enc w spare held fuel _ _ hy
 refine ⟨z, ?_⟩
 rw [ho, hc, List.take_of_length_le (by rw [List.length_drop]; omega)] at hz
 exact hz
theorem ReadsAt.cons {α β : Type} {P : Program} {f : Field} {fs : List Field} {o : Nat} {s : Shape α} {t : Shape β} (ho : f.offset = o) (hc : P.cellsOf f.type = s.size) (hr : Reads P f.type s) (hk : ReadsAt P fs (o + s.size) t) :
 ReadsAt P (f :: fs) o (Shape.pair s t) := by
 intro H enc w spare held fuel cs hl h
 obtain ⟨y, hy⟩ := h f (List.mem_cons_self ..)
 obtain ⟨z, hz⟩ := hr H enc w spare held fuel _ _ hy
 have hl' : cs.length = o + (s.size + t.size) := hl
 obtain ⟨u, hu⟩ := hk H enc w spare held fuel cs (by omega) fun f' hf' => h f' (List.mem_cons_of_mem _ hf')
 rw [ho, hc] at hz
 refine ⟨(z, u), (cs.drop o).take s.size, cs.drop (o + s.size), ?_, hz, hu⟩
 rw [← List.drop_drop, List.take_append_drop]
theorem Reads.struct {α : Type} {P : Program} {t : TypeId} {fs : Array Field} {sh : Shape α} (ht : P.underlying t = some (.struct fs)) (hc : P.cellsOf t = sh.size) (hr : ReadsAt P fs.toList 0 sh) : Reads P t sh := by
 intro H enc w spare held fuel cs x h
 obtain ⟨xs, n, _, rfl, hl, hlen, hf⟩ := DataW.trod_struct ht h
 obtain ⟨y, hy⟩ := hr H enc w spare held n cs (by omega) fun f hfm => by
  obtain ⟨i, hi, he⟩ := List.mem_iff_getElem.1 hfm
  have := hf i f (by rw [← he]; simp at hi ⊢)
  rw [this]
  have hix : i < xs.length := by simp at hi; omega
  exact ⟨xs[i], by simp [hix]⟩
 exact ⟨y, by simpa using hy⟩
theorem Reads.map {α β : Type} {P : Program} {t : TypeId} {s : Shape α} {f : β → α} (h : Reads P t s) (hf : ∀ a, ∃ b, f b = a) : Reads P t (s.map f) := by
 intro H enc w spare held fuel cs x hx
 obtain ⟨y, hy⟩ := h H enc w spare held fuel cs x hx
 obtain ⟨z, rfl⟩ := hf y
 exact ⟨z, hy⟩
section
variable {H : Type} {enc : TypeId × Value → H} {P : Program} {W W' : World}
theorem Reads.trod {α : Type} {sh : Shape α} {t : TypeId} {sp : Nat → Bool} {hd : Bool} {v : Value} {d : DataW H} {p : List MemPlace} (hr : Reads P t sh) (h : DataW.Trod enc P W 0 sp hd t v d p) : ∃ y, sh.rep (fun b => b < W.heap.size) W v.cells.toList y := by
 obtain ⟨n, hn⟩ := h
 exact hr H enc W sp hd n _ _ hn
theorem Reads.sliceArg {α : Type} {sh : Shape α} {t e : TypeId} {r : Reach} {base : Nat} {sp : Nat → Bool} {hd : Bool} {v : Value} {d : DataW H} {p : List MemPlace} (hr : Reads P t sh.slice) (ht : P.underlying t = some (.slice e)) (hval : Value.okWide P W r base t v) (h : DataW.Trod enc P W 0 sp hd t v d p) :
 ∃ (a : Option Addr) (xs : List α) (c : Nat), v = .slice a xs.length c ∧ sh.slice.rep (fun b => b < W.heap.size) W [.slice a xs.length c] xs := by
 obtain ⟨a, len, cap, rfl⟩ := okWide_slice ht hval
 obtain ⟨xs, hx⟩ := hr.trod h
 obtain ⟨a', c', he⟩ := Shape.slice_form hx
 simp only [Value.slice.injEq] at he
 obtain ⟨rfl, rfl, rfl⟩ := he
 exact ⟨a, xs, cap, rfl, hx⟩
theorem Reads.structArg {α : Type} {sh : Shape α} {t : TypeId} {fs : Array Field} {r : Reach} {base : Nat} {sp : Nat → Bool} {hd : Bool} {v : Value} {d : DataW H} {p : List MemPlace} (hr : Reads P t sh) (ht : P.underlying t = some (.struct fs)) (hval : Value.okWide P W r base t v) (h : DataW.Trod enc P W 0 sp hd t v d p) :
 ∃ (cs : List Value) (x : α), v = .agg cs.toArray ∧ sh.rep (fun b => b < W.heap.size) W cs x := by
 obtain ⟨cs, rfl, _⟩ := okWide_struct ht hval
 obtain ⟨x, hx⟩ := hr.trod h
 exact ⟨cs.toList, x, by simp, hx⟩
theorem trodAll_stays (hl : laidOutB P = true) (hb : Below W.heap.size W W') {sp : Nat → Bool} : ∀ {ts : List TypeId} {vs : List Value} {ds : List (DataW H)} {p : List MemPlace}, (∀ t ∈ ts, P.readableRec t = true ∧ t < P.types.size) → (∀ x ∈ p, x.block < W.heap.size) → (∀ x ∈ p, sp x.block = true) →
 DataW.TrodAll enc P W 0 (fun _ => true) true ts vs ds p → DataW.TrodAll enc P W' 0 sp true ts vs ds p
 | [], [], [], _, _, _, _, h => h
 | [], [], _ :: _, _, _, _, _, h => h.elim
 | [], _ :: _, _, _, _, _, _, h => h.elim
 | _ :: _, [], _, _, _, _, _, h => h.elim
 | _ :: _, _ :: _, [], _, _, _, _, h => h.elim
 | t :: ts, v :: vs, d :: ds, _, ht, hlt, hs, h => by
  obtain ⟨p, q, h1, h2, rfl⟩ := h
  exact ⟨p, q, WideElems.Trod_stays hl (ht t (List.mem_cons_self ..)).1 (ht t (List.mem_cons_self ..)).2 h1 (fun x hx => hb.same (hlt x (List.mem_append_left _ hx))) (fun x hx => hs x (List.mem_append_left _ hx)),
   trodAll_stays hl hb (fun t ht' => ht t (List.mem_cons_of_mem _ ht')) (fun x hx => hlt x (List.mem_append_right _ hx)) (fun x hx => hs x (List.mem_append_right _ hx)) h2, rfl⟩
theorem params_ok {ts : List TypeId} (h : (ts.all fun t => P.readableRec t && Nat.blt t P.types.size) = true) : ∀ t ∈ ts, P.readableRec t = true ∧ t < P.types.size := fun t ht => by
 have h1 := List.all_eq_true.1 h t ht
 simp only [Bool.and_eq_true, Nat.blt, Nat.ble_eq] at h1
 exact ⟨h1.1, h1.2⟩
theorem post_true {f : Func} {s : ChangeSpec} {fresh handsOn again : Bool} {args : Array Value} {ds gs : List (DataW H)} {before : List MemPlace} {tb : TypeId} (hl : laidOutB P = true)
 (hps : ∀ t ∈ f.params.toList, P.readableRec t = true ∧ t < P.types.size) (hv : s.vars = []) (hW : DataW.Whole enc P f.params.toList s.vars false W args.toList ds gs before) (hb : Ext W W')
 (hfn : s.fn H (ds ++ gs) = { results := [.lit (.bool true)], args := ds }) (hrt : f.resultTypes = #[tb]) (htb : P.underlying tb = some .bool) : s.post enc P f false fresh handsOn again W args (.bool true) W' := by
 have hW' := hW
 obtain ⟨p, q, hA, hV, rfl, hfz, hnd⟩ := hW
 rw [hv] at hV
 obtain ⟨rfl, rfl⟩ := trodVars_none hV
 have hlt : ∀ x ∈ p, x.block < W.heap.size := fun x hx => hW'.lt x (List.mem_append_left _ hx)
 have hres : ∀ (b : Nat) (sp : Nat → Bool) (hd : Bool), DataW.TrodAll enc P W' b sp hd f.resultTypes.toList ((Value.bool true).resultList f.resultTypes.size) (s.fn H (ds ++ [])).results [] := fun b sp hd => by
  rw [hfn, hrt]
  exact ⟨[], [], shut_bool htb true, rfl, rfl⟩
 have hargs : ∀ sp : Nat → Bool, (∀ x ∈ p, sp x.block = true) → DataW.TrodAll enc P W' 0 sp true f.params.toList args.toList (s.fn H (ds ++ [])).args p := fun sp hs => by
  rw [hfn]
  exact trodAll_stays hl hb hps hlt hs hA
 have hvars : ∀ sp : Nat → Bool, DataW.TrodVars enc P W' sp s.vars (s.fn H (ds ++ [])).vars [] := fun sp => by
  rw [hv, hfn]
  rfl
 rw [List.append_nil] at hW' hfz hnd
 refine ⟨ds, [], p, [], p, [], hW', hres _ _ _, hargs _ (fun x hx => by simpa using hlt x hx), hvars _, World.keptBut_mono (fun x hx => ⟨hx, .inr (.inl hx)⟩) (hb.frame _), fun _ => ?_⟩
 refine ⟨ok_one hrt rfl (okWide_bool_mk htb true), _, _, ([] ++ p) ++ [], ⟨[] ++ p, [], trodAll_append (hargs _ (fun _ _ => rfl)) (hres _ _ _), hvars _, rfl, ?_, ?_⟩, ?_⟩
 · intro b off hp
   have hp : MemPlace.cell b off ∈ p := by simpa using hp
   have hblk := hlt _ hp
   rw [hb.frozen (p := ⟨b, off, none⟩) hblk]
   exact hfz b off hp
 · intro h
   cases h
 · intro x hx _
   simpa using hx
end
end Go.BX

/-
 THE ENGINE's BRIDGE: numbers of 8 and 32 bits.
 No condition.
-/
namespace Go.BX
theorem Reads.bv8 {P : Program} {t : TypeId} (ht : P.underlying t = some (.int .u8)) : Reads P t (Shape.bv .u8 8) := by
 intro H enc w spare held fuel cs x h
 obtain ⟨n, rfl, a, b⟩ := Reads.int ht H enc w spare held fuel cs x h
 have h0' : 0 ≤ n := a
 have h1' : n ≤ 255 := b
 refine ⟨BitVec.ofInt 8 n, ?_⟩
 show [Value.int .u8 n] = [.int .u8 _]
 rw [BitVec.toNat_ofInt, Int.toNat_of_nonneg (Int.emod_nonneg _ (by decide))]
 congr 2
 simp only [Nat.reducePow]
 omega
theorem Reads.bv32 {P : Program} {t : TypeId} (ht : P.underlying t = some (.int .u32)) : Reads P t (Shape.bv .u32 32) := by
 intro H enc w spare held fuel cs x h
 obtain ⟨n, rfl, a, b⟩ := Reads.int ht H enc w spare held fuel cs x h
 have h0' : 0 ≤ n := a
 have h1' : n ≤ 4294967295 := b
 refine ⟨BitVec.ofInt 32 n, ?_⟩
 show [Value.int .u32 n] = [.int .u32 _]
 rw [BitVec.toNat_ofInt, Int.toNat_of_nonneg (Int.emod_nonneg _ (by decide))]
 congr 2
 simp only [Nat.reducePow]
 omega
end Go.BX

