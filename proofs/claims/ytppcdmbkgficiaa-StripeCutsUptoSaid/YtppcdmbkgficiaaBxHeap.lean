/-
  THE ENGINE's HEAP: shapes (how Go's data read as Lean's), the one hypothesis 'Hp' on the world, and the operations that read or make memory.
  No condition.
-/
import Derived.Test.YtppcdmbkgficiaaBxCore
namespace Go.BX
open Go.RowKit (Below)

/-! ## Cells -/
def Cells (w : World) (b o : Nat) (cs : List Value) : Prop := ∀ j v, cs[j]? = some v → w.cell? ⟨b, o + j, none⟩ = some v

theorem cell_of_block {w w' : World} {a : Addr} (h : w'.heap[a.block]? = w.heap[a.block]?) : w'.cell? a = w.cell? a := by
  simp only [World.cell?, h]

theorem block_lt_of_cell {w : World} {a : Addr} {v : Value} (hc : w.cell? a = some v) : a.block < w.heap.size := by
  rcases Nat.lt_or_ge a.block w.heap.size with h' | h'
  · exact h'
  · simp [World.cell?, Array.getElem?_eq_none h'] at hc

theorem Cells.lt {w : World} {b o : Nat} {cs : List Value} (h : Cells w b o cs) (hn : 0 < cs.length) : b < w.heap.size :=
  block_lt_of_cell (h 0 cs[0] (by simp))

theorem Cells.step {w w' : World} {b o : Nat} {cs : List Value} (h : Cells w b o cs) (hb : w'.heap[b]? = w.heap[b]?) : Cells w' b o cs :=
  fun j v hj => by rw [cell_of_block hb]; exact h j v hj

theorem Cells.ext {w w' : World} {b o : Nat} {cs : List Value} (h : Cells w b o cs) (he : Ext w w') : Cells w' b o cs := fun j v hj => he.cell (h j v hj)

theorem Cells.of_block {w : World} {b : Nat} {c : Array Value} {T : TypeId} {fz : Nat × Nat} (h : w.heap[b]? = some (.cells c T fz)) : Cells w b 0 c.toList := by
  intro j v hj
  simp only [World.cell?, h, Nat.zero_add]
  simpa using hj

/-! ## Shapes -/
structure Shape (α : Type) where
  size : Nat
  rep : (Nat → Prop) → World → List Value → α → Prop
  pos : 0 < size
  len : ∀ {S w cs x}, rep S w cs x → cs.length = size
  ones : ∀ {S w cs x}, rep S w cs x → ∀ v ∈ cs, v.oneCell' = true
  step : ∀ {S S' : Nat → Prop} {w w' : World} {cs x}, rep S w cs x → (∀ b, S b → b < w.heap.size → S' b ∧ w'.heap[b]? = w.heap[b]?) → rep S' w' cs x

namespace Shape
variable {α β : Type}

def int (k : IntKind) : Shape Int where
  size := 1
  rep _ _ cs x := cs = [.int k x] ∧ k.min ≤ x ∧ x ≤ k.max
  pos := by decide
  len h := by rw [h.1]; rfl
  ones h v hv := by rw [h.1] at hv; simp at hv; subst hv; rfl
  step h _ := h

def bool : Shape Bool where
  size := 1
  rep _ _ cs x := cs = [.bool x]
  pos := by decide
  len h := by rw [h]; rfl
  ones h v hv := by rw [h] at hv; simp at hv; subst hv; rfl
  step h _ := h

def str : Shape ByteArray where
  size := 1
  rep _ _ cs x := cs = [.string x] ∧ x.size ≤ maxLen
  pos := by decide
  len h := by rw [h.1]; rfl
  ones h v hv := by rw [h.1] at hv; simp at hv; subst hv; rfl
  step h _ := h

/-- what the elements of a slice are -/
def Elems (sh : Shape α) (S : Nat → Prop) (w : World) (a : Option Addr) (xs : List α) : Prop :=
  ∀ i x, xs[i]? = some x → ∃ b o es, a = some ⟨b, o, none⟩ ∧ S b ∧ Cells w b (o + i * sh.size) es ∧ sh.rep S w es x

theorem Elems.step {sh : Shape α} {S S' : Nat → Prop} {w w' : World} {a : Option Addr} {xs : List α} (h : Elems sh S w a xs)
    (hs : ∀ b, S b → b < w.heap.size → S' b ∧ w'.heap[b]? = w.heap[b]?) : Elems sh S' w' a xs := by
  intro i x hx
  obtain ⟨b, o, es, ha, hS, hc, hr⟩ := h i x hx
  have hlt := hc.lt (by rw [sh.len hr]; exact sh.pos)
  obtain ⟨hS', hb⟩ := hs b hS hlt
  exact ⟨b, o, es, ha, hS', hc.step hb, sh.step hr hs⟩

def slice (sh : Shape α) : Shape (List α) where
  size := 1
  rep S w cs xs := ∃ a cap, cs = [.slice a xs.length cap] ∧ xs.length ≤ cap ∧ cap ≤ maxLen ∧ Elems sh S w a xs
  pos := by decide
  len h := by obtain ⟨a, cap, h, _⟩ := h; rw [h]; rfl
  ones h v hv := by obtain ⟨a, cap, h, _⟩ := h; rw [h] at hv; simp at hv; subst hv; rfl
  step h hs := by
    obtain ⟨a, cap, h1, h2, h3, h4⟩ := h
    exact ⟨a, cap, h1, h2, h3, h4.step hs⟩

def pair (s : Shape α) (t : Shape β) : Shape (α × β) where
  size := s.size + t.size
  rep S w cs x := ∃ c d, cs = c ++ d ∧ s.rep S w c x.1 ∧ t.rep S w d x.2
  pos := by have := s.pos; omega
  len h := by obtain ⟨c, d, h, h1, h2⟩ := h; rw [h, List.length_append, s.len h1, t.len h2]
  ones h v hv := by
    obtain ⟨c, d, h, h1, h2⟩ := h
    rw [h] at hv
    rcases List.mem_append.1 hv with hv | hv
    · exact s.ones h1 v hv
    · exact t.ones h2 v hv
  step h hs := by
    obtain ⟨c, d, h, h1, h2⟩ := h
    exact ⟨c, d, h, s.step h1 hs, t.step h2 hs⟩

def map (s : Shape α) (f : β → α) : Shape β where
  size := s.size
  rep S w cs x := s.rep S w cs (f x)
  pos := s.pos
  len h := s.len h
  ones h := s.ones h
  step h hs := s.step h hs

/-- an array of so many elements -/
def arrRep (s : Shape α) (S : Nat → Prop) (w : World) : Nat → List Value → List α → Prop
  | 0, cs, xs => cs = [] ∧ xs = []
  | n + 1, cs, xs => ∃ c d x r, cs = c ++ d ∧ xs = x :: r ∧ s.rep S w c x ∧ arrRep s S w n d r

theorem arrRep_len {s : Shape α} {S : Nat → Prop} {w : World} : ∀ {n : Nat} {cs : List Value} {xs : List α}, arrRep s S w n cs xs → cs.length = n * s.size
  | 0, cs, xs, h => by rw [h.1]; simp
  | _ + 1, cs, xs, ⟨c, d, x, r, h, _, h1, h2⟩ => by rw [h, List.length_append, s.len h1, arrRep_len h2, Nat.succ_mul]; omega
theorem arrRep_ones {s : Shape α} {S : Nat → Prop} {w : World} : ∀ {n : Nat} {cs : List Value} {xs : List α}, arrRep s S w n cs xs → ∀ v ∈ cs, v.oneCell' = true
  | 0, cs, xs, h, v, hv => by rw [h.1] at hv; cases hv
  | _ + 1, cs, xs, ⟨c, d, x, r, h, _, h1, h2⟩, v, hv => by
    rw [h] at hv
    rcases List.mem_append.1 hv with hv | hv
    · exact s.ones h1 v hv
    · exact arrRep_ones h2 v hv
theorem arrRep_step {s : Shape α} {S S' : Nat → Prop} {w w' : World} (hs : ∀ b, S b → b < w.heap.size → S' b ∧ w'.heap[b]? = w.heap[b]?) :
    ∀ {n : Nat} {cs : List Value} {xs : List α}, arrRep s S w n cs xs → arrRep s S' w' n cs xs
  | 0, _, _, h => h
  | _ + 1, _, _, ⟨c, d, x, r, h, h', h1, h2⟩ => ⟨c, d, x, r, h, h', s.step h1 hs, arrRep_step hs h2⟩

def arr (s : Shape α) (n : Nat) (hn : 0 < n) : Shape (List α) where
  size := n * s.size
  rep S w cs xs := arrRep s S w n cs xs
  pos := Nat.mul_pos hn s.pos
  len h := arrRep_len h
  ones h := arrRep_ones h
  step h hs := arrRep_step hs h

theorem slice_form {sh : Shape α} {S : Nat → Prop} {w : World} {v : Value} {xs : List α} (h : sh.slice.rep S w [v] xs) : ∃ a cap, v = .slice a xs.length cap := by
  obtain ⟨a, cap, h, _⟩ := h
  exact ⟨a, cap, by simpa using h⟩
theorem slice_form' {sh : Shape α} {S : Nat → Prop} {w : World} {cs : List Value} {xs : List α} (h : sh.slice.rep S w cs xs) : ∃ a cap, cs = [.slice a xs.length cap] := by
  obtain ⟨a, cap, h, _⟩ := h
  exact ⟨a, cap, h⟩
theorem slice_len {sh : Shape α} {S : Nat → Prop} {w : World} {cs : List Value} {xs : List α} (h : sh.slice.rep S w cs xs) : xs.length ≤ 9223372036854775807 := by
  obtain ⟨a, cap, _, h1, h2, _⟩ := h
  unfold maxLen at h2
  omega
theorem slice_nil {sh : Shape α} {S : Nat → Prop} {w : World} : sh.slice.rep S w [.slice none 0 0] [] :=
  ⟨none, 0, rfl, Nat.le_refl _, Nat.zero_le _, fun i x h => by simp at h⟩
theorem elems_of {sh : Shape α} {S : Nat → Prop} {w : World} {a : Option Addr} {l cap : Nat} {xs : List α} (h : sh.slice.rep S w [.slice a l cap] xs) : l = xs.length ∧ xs.length ≤ cap ∧ cap ≤ maxLen ∧ Elems sh S w a xs := by
  obtain ⟨a', cap', h1, h2, h3, h4⟩ := h
  simp only [List.cons.injEq, Value.slice.injEq, and_true] at h1
  obtain ⟨rfl, rfl, rfl⟩ := h1
  exact ⟨rfl, h2, h3, h4⟩
theorem int_mk {k : IntKind} {S : Nat → Prop} {w : World} {x : Int} (h : k.min ≤ x ∧ x ≤ k.max) : (int k).rep S w [.int k x] x := ⟨rfl, h⟩
theorem bool_mk {S : Nat → Prop} {w : World} {x : Bool} : bool.rep S w [.bool x] x := rfl
theorem pair_mk {s : Shape α} {t : Shape β} {S : Nat → Prop} {w : World} {c d : List Value} {x : α} {y : β} (h1 : s.rep S w c x) (h2 : t.rep S w d y) : (pair s t).rep S w (c ++ d) (x, y) := ⟨c, d, rfl, h1, h2⟩
theorem i64_bd {S : Nat → Prop} {w : World} {cs : List Value} {x : Int} (h : (int .i64).rep S w cs x) : -9223372036854775808 ≤ x ∧ x ≤ 9223372036854775807 := h.2
theorem u64_bd {S : Nat → Prop} {w : World} {cs : List Value} {x : Int} (h : (int .u64).rep S w cs x) : 0 ≤ x ∧ x ≤ 18446744073709551615 := h.2
theorem u32_bd {S : Nat → Prop} {w : World} {cs : List Value} {x : Int} (h : (int .u32).rep S w cs x) : 0 ≤ x ∧ x ≤ 4294967295 := h.2
theorem u8_bd {S : Nat → Prop} {w : World} {cs : List Value} {x : Int} (h : (int .u8).rep S w cs x) : 0 ≤ x ∧ x ≤ 255 := h.2
end Shape

/-! ## Facts that last -/
structure Fact where
  p : (Nat → Prop) → World → Prop
  step : ∀ {S S' : Nat → Prop} {w w' : World}, p S w → (∀ b, S b → b < w.heap.size → S' b ∧ w'.heap[b]? = w.heap[b]?) → p S' w'

def Rp {α : Type} (sh : Shape α) (cs : List Value) (x : α) : Fact := ⟨fun S w => sh.rep S w cs x, fun h hs => sh.step h hs⟩
def Fc (b o : Nat) (cs : List Value) : Fact :=
  ⟨fun S w => 0 < cs.length ∧ S b ∧ Cells w b o cs, fun h hs => ⟨h.1, (hs b h.2.1 (h.2.2.lt h.1)).1, h.2.2.step (hs b h.2.1 (h.2.2.lt h.1)).2⟩⟩

/-- a slice of the call's own, still growing: nil, or the head of a block of its own -/
structure OwnS where
  {α : Type}
  sh : Shape α
  T : TypeId
  v : Value
  xs : List α

def OwnS.blk (o : OwnS) : List Nat := match o.v with
  | .slice (some a) _ _ => [a.block]
  | _ => []

def OwnS.ok (o : OwnS) (S : Nat → Prop) (w : World) : Prop :=
  ∃ cs, w.ownsRow 0 o.T o.sh.size o.v o.xs.length cs ∧ (∀ v ∈ cs, v.oneCell' = true) ∧ ∀ i x, o.xs[i]? = some x → o.sh.rep S w ((cs.drop (i * o.sh.size)).take o.sh.size) x

abbrev Heap := List (Nat × Obj)
def idsOf (M : Heap) (W : List OwnS) : List Nat := M.map (·.1) ++ W.flatMap (·.blk)
/-- what the call may write: what it has made, and the blocks 'O' that it was handed for that -/
def Mine (w0 : World) (O : List Nat) (b : Nat) : Prop := w0.heap.size ≤ b ∨ b ∈ O
def Av (S : Nat → Prop) (w0 : World) (O : List Nat) (ids : List Nat) : Nat → Prop := fun b => (S b ∨ Mine w0 O b) ∧ b ∉ ids
def Nw (S : Nat → Prop) (w : World) : Nat → Prop := fun b => S b ∨ w.heap.size ≤ b

/-- nothing has turned but the blocks 'O' (and what is new) -/
structure Chg (w0 : World) (O : List Nat) (w : World) : Prop where
  os : w.os = w0.os
  tape : w.tape = w0.tape
  output : w.output = w0.output
  size : w0.heap.size ≤ w.heap.size
  block : ∀ k, k < w0.heap.size → k ∉ O → w.heap[k]? = w0.heap[k]?

theorem Chg.refl (w : World) (O : List Nat) : Chg w O w := ⟨rfl, rfl, rfl, Nat.le_refl _, fun _ _ _ => rfl⟩
theorem Chg.ext {w : World} {O : List Nat} {w1 w2 : World} (h : Chg w O w1) (he : Ext w1 w2) : Chg w O w2 :=
  ⟨he.os.trans h.os, he.tape.trans h.tape, he.output.trans h.output, Nat.le_trans h.size (Below.size he), fun k hk ho => (Below.block he k (Nat.lt_of_lt_of_le hk h.size)).trans (h.block k hk ho)⟩
theorem Chg.toExt {w w' : World} (h : Chg w [] w') : Ext w w' := ⟨h.os, h.tape, h.output, h.size, fun k hk => h.block k hk (by simp)⟩
theorem Chg.ofExt {w w' : World} (h : Ext w w') (O : List Nat) : Chg w O w' := (Chg.refl w O).ext h

/-- ALL THAT IS KNOWN OF THE WORLD: since 'w0' nothing old has turned but the blocks 'O'; the blocks of the call's own, what they hold; the slices of its own; the facts on all other memory. -/
structure Hp (w0 : World) (S : Nat → Prop) (O : List Nat) (M : Heap) (W : List OwnS) (G : List Fact) (w : World) : Prop where
  below : Chg w0 O w
  own : ∀ p ∈ M, w.heap[p.1]? = some p.2 ∧ Mine w0 O p.1
  slc : ∀ o ∈ W, o.ok (Av S w0 O (idsOf M W)) w ∧ ∀ b ∈ o.blk, Mine w0 O b
  nodup : (idsOf M W).Nodup
  facts : ∀ F ∈ G, F.p (Av S w0 O (idsOf M W)) w

section
variable {w0 w w' : World} {S : Nat → Prop} {O : List Nat} {M : Heap} {W : List OwnS} {G : List Fact}

theorem OwnS.mem_blk {o : OwnS} {b : Nat} : b ∈ o.blk ↔ o.v.ownBlock = some b := by
  unfold OwnS.blk Value.ownBlock
  rcases o.v with _ | _ | _ | _ | _ | _ | ⟨_ | a, _, _⟩ | _ | _ | _ | _ | _ | _ | _ | _ <;> simp [eq_comm]

theorem OwnS.blk_lt {o : OwnS} {S : Nat → Prop} {w : World} (h : o.ok S w) : ∀ b ∈ o.blk, b < w.heap.size := by
  intro b hb
  obtain ⟨cs, h, _⟩ := h
  exact (h.lt b (OwnS.mem_blk.1 hb)).2

theorem Hp.ids_lt (H : Hp w0 S O M W G w) : ∀ b ∈ idsOf M W, b < w.heap.size ∧ Mine w0 O b := by
  intro b hb
  rcases List.mem_append.1 hb with hb | hb
  · obtain ⟨p, hp, rfl⟩ := List.mem_map.1 hb
    exact ⟨(Array.getElem?_eq_some_iff.1 (H.own p hp).1).1, (H.own p hp).2⟩
  · obtain ⟨o, ho, hb⟩ := List.mem_flatMap.1 hb
    exact ⟨OwnS.blk_lt (H.slc o ho).1 b hb, (H.slc o ho).2 b hb⟩

theorem ownsRow_step {w w' : World} {e : TypeId} {size : Nat} {v : Value} {n : Nat} {cs : List Value} (h : w.ownsRow 0 e size v n cs) (hb : ∀ b, v.ownBlock = some b → w'.heap[b]? = w.heap[b]?) : w'.ownsRow 0 e size v n cs := by
  obtain ⟨h1, h2⟩ := h
  refine ⟨h1, ?_⟩
  rcases h2 with h2 | ⟨g, cap, cur, hv, h0, hh, r⟩
  · exact .inl h2
  · exact .inr ⟨g, cap, cur, hv, h0, by rw [hb g (by simp [hv, Value.ownBlock])]; exact hh, r⟩

theorem OwnS.ok_step {o : OwnS} {S S' : Nat → Prop} {w w' : World} (h : o.ok S w) (hb : ∀ b ∈ o.blk, w'.heap[b]? = w.heap[b]?)
    (hs : ∀ b, S b → b < w.heap.size → S' b ∧ w'.heap[b]? = w.heap[b]?) : o.ok S' w' := by
  obtain ⟨cs, h1, h2, h3⟩ := h
  exact ⟨cs, ownsRow_step h1 fun b hv => hb b (OwnS.mem_blk.2 hv), h2, fun i x hx => o.sh.step (h3 i x hx) hs⟩

/-- a change that leaves the call's own blocks and all that is avoided alone -/
theorem Hp.keep (H : Hp w0 S O M W G w) (hw : Chg w0 O w') (hb : ∀ b, b < w.heap.size → (Mine w0 O b ∨ S b) → w'.heap[b]? = w.heap[b]?) : Hp w0 S O M W G w' := by
  have hs : ∀ b, Av S w0 O (idsOf M W) b → b < w.heap.size → Av S w0 O (idsOf M W) b ∧ w'.heap[b]? = w.heap[b]? := fun b h hlt => ⟨h, hb b hlt h.1.symm⟩
  refine ⟨hw, fun p hp => ⟨?_, (H.own p hp).2⟩, fun o ho => ⟨OwnS.ok_step (H.slc o ho).1 (fun b hb' => ?_) hs, (H.slc o ho).2⟩, H.nodup, fun F hF => F.step (H.facts F hF) hs⟩
  · have hid := H.ids_lt p.1 (List.mem_append_left _ (List.mem_map.2 ⟨p, hp, rfl⟩))
    rw [hb p.1 hid.1 (.inl hid.2)]; exact (H.own p hp).1
  · have hid := H.ids_lt b (List.mem_append_right _ (List.mem_flatMap.2 ⟨o, ho, hb'⟩))
    exact hb b hid.1 (.inl hid.2)

theorem Hp.ext (H : Hp w0 S O M W G w) (he : Ext w w') : Hp w0 S O M W G w' :=
  H.keep (H.below.ext he) fun b hb _ => Below.block he b hb

theorem Hp.draw (H : Hp w0 S O M W G w) : Hp w0 S O M W G { w with drawn := w.drawn + 1 } := H.ext (Ext.drew w)

theorem Hp.fact (H : Hp w0 S O M W G w) {F : Fact} (i : Nat) (h : G[i]? = some F) : F.p (Av S w0 O (idsOf M W)) w := H.facts F (List.mem_of_getElem? h)
theorem Hp.rp (H : Hp w0 S O M W G w) {α : Type} {sh : Shape α} {cs : List Value} {x : α} (i : Nat) (h : G[i]? = some (Rp sh cs x)) : sh.rep (Av S w0 O (idsOf M W)) w cs x := H.fact i h

theorem Hp.add (H : Hp w0 S O M W G w) {F : Fact} (h : F.p (Av S w0 O (idsOf M W)) w) : Hp w0 S O M W (F :: G) w :=
  ⟨H.below, H.own, H.slc, H.nodup, fun F' hF => by
    rcases List.mem_cons.1 hF with rfl | hF
    · exact h
    · exact H.facts F' hF⟩

/-- what came out of a call: of memory that it was handed, or new -/
theorem Hp.addN (H : Hp w0 S O M W G w) (he : Ext w w') {F : Fact} (h : F.p (Nw (Av S w0 O (idsOf M W)) w) w') : Hp w0 S O M W (F :: G) w' := by
  refine (H.ext he).add (F.step h fun b hb _ => ⟨?_, rfl⟩)
  rcases hb with hb | hb
  · exact hb
  · exact ⟨.inr (.inl (Nat.le_trans H.below.size hb)), fun hid => by have := (H.ids_lt b hid).1; omega⟩

theorem Hp.facts_sub (H : Hp w0 S O M W G w) {G' : List Fact} (h : ∀ F ∈ G', F ∈ G) : Hp w0 S O M W G' w :=
  ⟨H.below, H.own, H.slc, H.nodup, fun F hF => H.facts F (h F hF)⟩

def pickG (G : List Fact) (l : List Nat) : List Fact := l.filterMap (G[·]?)
theorem Hp.pick (H : Hp w0 S O M W G w) (l : List Nat) {G' : List Fact} (h : pickG G l = G') : Hp w0 S O M W G' w :=
  H.facts_sub fun F hF => by
    subst h
    obtain ⟨i, _, hi⟩ := List.mem_filterMap.1 hF
    exact List.mem_of_getElem? hi

theorem Hp.cells (H : Hp w0 S O M W G w) {b : Nat} {c : Array Value} {T : TypeId} {fz : Nat × Nat} (i : Nat) (h : M[i]? = some (b, .cells c T fz)) : Cells w b 0 c.toList :=
  Cells.of_block (H.own _ (List.mem_of_getElem? h)).1

theorem Hp.fc (H : Hp w0 S O M W G w) {b o : Nat} {cs : List Value} (i : Nat) (h : G[i]? = some (Fc b o cs)) : Cells w b o cs := (H.fact i h).2.2

/-- what is handed back -/
theorem Hp.out (_H : Hp w0 S [] M W G w) {α : Type} {sh : Shape α} {cs : List Value} {x : α} (h : sh.rep (Av S w0 [] (idsOf M W)) w cs x) : sh.rep (Nw S w0) w cs x :=
  sh.step h fun _ hb _ => ⟨hb.1.imp id (fun h => h.elim id (fun h => by cases h)), rfl⟩
theorem Hp.done (H : Hp w0 S [] M W G w) : Ext w0 w := H.below.toExt

/-- a new block -/
theorem Hp.alloc (H : Hp w0 S O M W G w) (o : Obj) : Hp w0 S O ((w.heap.size, o) :: M) W G { w with heap := w.heap.push o } := by
  have hsz := H.below.size
  have hlt : ∀ b, b < w.heap.size → (w.heap.push o)[b]? = w.heap[b]? := fun b hb => by rw [Array.getElem?_push, if_neg (by omega)]
  have hs : ∀ b, Av S w0 O (idsOf M W) b → b < w.heap.size → Av S w0 O (idsOf ((w.heap.size, o) :: M) W) b ∧ (w.heap.push o)[b]? = w.heap[b]? := fun b h hb =>
    ⟨⟨h.1, fun hid => by
      simp only [idsOf, List.map_cons, List.cons_append, List.mem_cons] at hid
      rcases hid with hid | hid
      · omega
      · exact h.2 hid⟩, hlt b hb⟩
  have he : Ext w { w with heap := w.heap.push o } := ⟨rfl, rfl, rfl, by simp, fun k hk => hlt k hk⟩
  refine ⟨H.below.ext he, fun p hp => ?_, fun o' ho => ⟨OwnS.ok_step (w' := { w with heap := w.heap.push o }) (H.slc o' ho).1 (fun b hb => hlt b (OwnS.blk_lt (H.slc o' ho).1 b hb)) hs, (H.slc o' ho).2⟩, ?_, fun F hF => F.step (w' := { w with heap := w.heap.push o }) (H.facts F hF) hs⟩
  · rcases List.mem_cons.1 hp with rfl | hp
    · exact ⟨by simp, .inl hsz⟩
    · have := H.own p hp
      exact ⟨by show (w.heap.push o)[p.1]? = _; rw [hlt _ (Array.getElem?_eq_some_iff.1 this.1).1]; exact this.1, this.2⟩
  · show (w.heap.size :: idsOf M W).Nodup
    exact List.nodup_cons.2 ⟨fun h => by have := (H.ids_lt _ h).1; omega, H.nodup⟩

theorem nodup_inj {l : List Nat} (h : l.Nodup) {i j : Nat} (hi : i < l.length) (hj : j < l.length) (e : l[i] = l[j]) : i = j := by
  rcases Nat.lt_trichotomy i j with hlt | heq | hgt
  · exact absurd e (List.pairwise_iff_getElem.1 h i j hi hj hlt)
  · exact heq
  · exact absurd e.symm (List.pairwise_iff_getElem.1 h j i hj hi hgt)

theorem sublist_flatMap {α β : Type _} {l l' : List α} (f : α → List β) (h : l.Sublist l') : (l.flatMap f).Sublist (l'.flatMap f) := by
  induction h with
  | slnil => exact List.Sublist.refl _
  | cons a _ ih => simp only [List.flatMap_cons]; exact List.Sublist.trans ih (List.sublist_append_right _ _)
  | cons_cons a _ ih => simp only [List.flatMap_cons]; exact List.Sublist.append (List.Sublist.refl _) ih

theorem mem_set_cases {α : Type _} {l : List α} {i : Nat} {x y : α} (h : y ∈ l.set i x) : y = x ∨ ∃ j, j ≠ i ∧ l[j]? = some y := by
  obtain ⟨j, hj, hjy⟩ := List.mem_iff_getElem.1 h
  rw [List.getElem_set] at hjy
  split at hjy
  · exact .inl hjy.symm
  · rename_i hne
    refine .inr ⟨j, fun e => hne e.symm, ?_⟩
    rw [List.length_set] at hj
    rw [List.getElem?_eq_getElem hj, hjy]

theorem ids_set {M : Heap} {W : List OwnS} {i b : Nat} {o o' : Obj} (h : M[i]? = some (b, o)) : idsOf (M.set i (b, o')) W = idsOf M W := by
  unfold idsOf
  congr 1
  apply List.ext_getElem?
  intro j
  simp only [List.getElem?_map, List.getElem?_set]
  by_cases hij : i = j
  · subst hij
    have : i < M.length := (List.getElem?_eq_some_iff.1 h).1
    have e := (List.getElem?_eq_some_iff.1 h).2
    simp [this, e]
  · simp [hij]

/-- what is kept through a call that may write blocks of ours -/
theorem Hp.chg (H : Hp w0 S O M W G w) {O1 : List Nat} (hO : ∀ b ∈ O1, b ∈ idsOf M W) (hc : Chg w O1 w') {M' : Heap} {W' : List OwnS}
    (hids : ∀ b ∈ idsOf M' W', b ∈ idsOf M W ∨ w.heap.size ≤ b) (hnd : (idsOf M' W').Nodup) (hO' : ∀ b ∈ O1, b ∈ idsOf M' W' ∨ ∀ c, Av S w0 O (idsOf M W) c → c ≠ b)
    (hM : ∀ p ∈ M', w'.heap[p.1]? = some p.2) (hW : ∀ o ∈ W', o.ok (Av S w0 O (idsOf M' W')) w') : Hp w0 S O M' W' G w' := by
  have hs : ∀ b, Av S w0 O (idsOf M W) b → b < w.heap.size → Av S w0 O (idsOf M' W') b ∧ w'.heap[b]? = w.heap[b]? := fun b h hb =>
    ⟨⟨h.1, fun hid => by rcases hids b hid with h' | h'; exact h.2 h'; omega⟩, hc.block b hb fun ho => h.2 (hO b ho)⟩
  have mine : ∀ b ∈ idsOf M' W', Mine w0 O b := fun b hb => by
    rcases hids b hb with h | h
    · exact (H.ids_lt b h).2
    · exact .inl (Nat.le_trans H.below.size h)
  have _ := hO'
  refine ⟨⟨hc.os.trans H.below.os, hc.tape.trans H.below.tape, hc.output.trans H.below.output, Nat.le_trans H.below.size hc.size, fun k hk ho => ?_⟩, fun p hp => ⟨hM p hp, mine _ (List.mem_append_left _ (List.mem_map.2 ⟨p, hp, rfl⟩))⟩,
    fun o ho => ⟨hW o ho, fun b hb => mine b (List.mem_append_right _ (List.mem_flatMap.2 ⟨o, ho, hb⟩))⟩, hnd, fun F hF => F.step (H.facts F hF) hs⟩
  rw [hc.block k (Nat.lt_of_lt_of_le hk H.below.size) fun h1 => ?_]
  · exact H.below.block k hk ho
  · rcases (H.ids_lt k (hO k h1)).2 with h | h
    · omega
    · exact ho h

theorem own_ne (H : Hp w0 S O M W G w) {b : Nat} {o : Obj} {i : Nat} (h : M[i]? = some (b, o)) : (∀ p, ∀ j, j ≠ i → M[j]? = some p → p.1 ≠ b) ∧ ∀ o1 ∈ W, b ∉ o1.blk := by
  have hnd := H.nodup
  have hm := List.mem_of_getElem? h
  constructor
  · intro p j hj hp e
    have h1 : (M.map (·.1)).Nodup := (List.nodup_append.1 hnd).1
    have hi' : i < (M.map (·.1)).length := by simpa using (List.getElem?_eq_some_iff.1 h).1
    have hj' : j < (M.map (·.1)).length := by simpa using (List.getElem?_eq_some_iff.1 hp).1
    have e1 : (M.map (·.1))[i] = b := by
      have := (List.getElem?_eq_some_iff.1 h).2
      simp [this]
    have e2 : (M.map (·.1))[j] = b := by
      have := (List.getElem?_eq_some_iff.1 hp).2
      simp [this, e]
    exact hj (nodup_inj h1 hj' hi' (e2.trans e1.symm))
  · intro o1 ho hb
    exact (List.nodup_append.1 hnd).2.2 b (List.mem_map.2 ⟨_, hm, rfl⟩) b (List.mem_flatMap.2 ⟨o1, ho, hb⟩) rfl

/-- a block of the call's own is written -/
theorem Hp.put (H : Hp w0 S O M W G w) {b : Nat} {o : Obj} (i : Nat) (h : M[i]? = some (b, o)) (o' : Obj) : Hp w0 S O (M.set i (b, o')) W G { w with heap := w.heap.setIfInBounds b o' } := by
  have hm := List.mem_of_getElem? h
  have hb := H.own _ hm
  have hlt : b < w.heap.size := (Array.getElem?_eq_some_iff.1 hb.1).1
  have hne : ∀ k, k ≠ b → (w.heap.setIfInBounds b o')[k]? = w.heap[k]? := fun k hk => by rw [Array.getElem?_setIfInBounds_ne (Ne.symm hk)]
  have hid := ids_set (W := W) (o' := o') h
  have hbid : b ∈ idsOf M W := List.mem_append_left _ (List.mem_map.2 ⟨_, hm, rfl⟩)
  obtain ⟨n1, n2⟩ := own_ne H h
  have hc : Chg w [b] { w with heap := w.heap.setIfInBounds b o' } := ⟨rfl, rfl, rfl, by simp, fun k _ hk => hne k (by simpa using hk)⟩
  refine H.chg (O1 := [b]) (fun c hc => by rw [List.mem_singleton.1 hc]; exact hbid) hc (fun c hc => .inl (by rw [hid] at hc; exact hc)) (by rw [hid]; exact H.nodup) (fun c hc => .inl (by rw [hid, List.mem_singleton.1 hc]; exact hbid)) (fun p hp => ?_) (fun o1 ho => ?_)
  · rcases mem_set_cases hp with rfl | ⟨j, hj, hp⟩
    · simp [hlt]
    · show (w.heap.setIfInBounds b o')[p.1]? = _
      rw [hne p.1 (n1 p j hj hp)]; exact (H.own p (List.mem_of_getElem? hp)).1
  · rw [hid]
    exact OwnS.ok_step (w' := { w with heap := w.heap.setIfInBounds b o' }) (H.slc o1 ho).1 (fun k hk => hne k fun e => n2 o1 ho (e ▸ hk)) fun k hk _ => ⟨hk, hne k fun e => hk.2 (e ▸ hbid)⟩

theorem Hp.drop (H : Hp w0 S O M W G w) {M' : Heap} {W' : List OwnS} (hM : M'.Sublist M) (hW : W'.Sublist W) : Hp w0 S O M' W' G w := by
  have hids : (idsOf M' W').Sublist (idsOf M W) := List.Sublist.append (hM.map _) (sublist_flatMap _ hW)
  have hs : ∀ b, Av S w0 O (idsOf M W) b → b < w.heap.size → Av S w0 O (idsOf M' W') b ∧ w.heap[b]? = w.heap[b]? := fun b h _ => ⟨⟨h.1, fun hid => h.2 (hids.subset hid)⟩, rfl⟩
  exact ⟨H.below, fun p hp => H.own p (hM.subset hp), fun o ho => ⟨OwnS.ok_step (H.slc o (hW.subset ho)).1 (fun _ _ => rfl) hs, (H.slc o (hW.subset ho)).2⟩, H.nodup.sublist hids, fun F hF => F.step (H.facts F hF) hs⟩

theorem Hp.perm (H : Hp w0 S O M W G w) {M' : Heap} (hM : M'.Perm M) : Hp w0 S O M' W G w := by
  have hids : (idsOf M' W).Perm (idsOf M W) := (hM.map _).append_right _
  have hs : ∀ b, Av S w0 O (idsOf M W) b → b < w.heap.size → Av S w0 O (idsOf M' W) b ∧ w.heap[b]? = w.heap[b]? := fun b h _ => ⟨⟨h.1, fun hid => h.2 (hids.mem_iff.1 hid)⟩, rfl⟩
  exact ⟨H.below, fun p hp => H.own p (hM.mem_iff.1 hp), fun o ho => ⟨OwnS.ok_step (H.slc o ho).1 (fun _ _ => rfl) hs, (H.slc o ho).2⟩, hids.nodup_iff.2 H.nodup, fun F hF => F.step (H.facts F hF) hs⟩

def Facts (S : Nat → Prop) (w : World) (G : List Fact) : Prop := ∀ F ∈ G, F.p S w
theorem Facts.nil {S : Nat → Prop} {w : World} : Facts S w [] := fun _ h => (by cases h)
theorem Facts.cons {S : Nat → Prop} {w : World} {F : Fact} {G : List Fact} (h : F.p S w) (k : Facts S w G) : Facts S w (F :: G) := fun F' hF => by
  rcases List.mem_cons.1 hF with rfl | hF
  · exact h
  · exact k F' hF
theorem Facts.rp {S : Nat → Prop} {w : World} {α : Type} {sh : Shape α} {cs : List Value} {x : α} {G : List Fact} (h : sh.rep S w cs x) (k : Facts S w G) : Facts S w (Rp sh cs x :: G) := k.cons h
theorem Hp.startF {w : World} {S : Nat → Prop} {G : List Fact} (h : Facts S w G) : Hp w S [] [] [] G w :=
  ⟨Chg.refl _ _, fun _ h => (by cases h), fun _ h => (by cases h), List.nodup_nil, fun F hF => F.step (h F hF) fun b hb _ => ⟨⟨.inl hb, fun hid => by cases hid⟩, rfl⟩⟩
/-- .. with blocks that it was handed to write -/
theorem Hp.startM {w : World} {S : Nat → Prop} {M : Heap} {W : List OwnS} {G : List Fact} (h : Facts S w G) (hM : ∀ p ∈ M, w.heap[p.1]? = some p.2) (hW : ∀ o ∈ W, o.ok S w) (hn : (idsOf M W).Nodup) (hS : ∀ b ∈ idsOf M W, ¬ S b) : Hp w S (idsOf M W) M W G w := by
  have hs : ∀ b, S b → b < w.heap.size → Av S w (idsOf M W) (idsOf M W) b ∧ w.heap[b]? = w.heap[b]? := fun b hb _ => ⟨⟨.inl hb, fun hid => hS b hid hb⟩, rfl⟩
  exact ⟨Chg.refl _ _, fun p hp => ⟨hM p hp, .inr (List.mem_append_left _ (List.mem_map.2 ⟨p, hp, rfl⟩))⟩, fun o ho => ⟨OwnS.ok_step (hW o ho) (fun _ _ => rfl) hs, fun b hb => .inr (List.mem_append_right _ (List.mem_flatMap.2 ⟨o, ho, hb⟩))⟩, hn, fun F hF => F.step (h F hF) hs⟩
end
end Go.BX
