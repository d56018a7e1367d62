/-
  THE ENGINE's SORT: a row of the call's own, as the shelf's sort wants it, and as it leaves it.
  No condition.
-/
import Derived.Test.YtppcdmbkgficiaaBxDel
import Derived.Shelf.GgSortFunc.InsertionK
namespace Go.BX
open Go.RowKit (Below)
open Go.Sort Go.Proofs

section
variable {α : Type} [Inhabited α] {w0 w : World} {S : Nat → Prop} {O : List Nat} {M : Heap} {W : List OwnS} {G : List Fact} {sh : Shape α} {enc : α → List Value} {k : Nat} {T : TypeId} {b cap : Nat} {xs : List α}

theorem row_cell {c : Array Value} (hk : sh.size = k) (h0 : 0 < k) (hE : ∀ x cs, sh.rep S w cs x → cs = enc x) (hs : EsP sh S w c.toList xs) {j : Nat} (hj : j < xs.length * k) (hl : xs.length * k ≤ c.size) :
    c[j]? = some ((enc xs[j / k]!)[j % k]!) := by
  have hd : j / k < xs.length := Nat.div_lt_of_lt_mul (by rw [Nat.mul_comm]; exact hj)
  have hm : j % k < k := Nat.mod_lt _ h0
  have hr := hs (j / k) xs[j / k] (List.getElem?_eq_getElem hd)
  have he := hE _ _ hr
  rw [hk] at he
  have hlen := sh.len hr
  rw [hk] at hlen
  have e1 : ((c.toList.drop (j / k * k)).take k)[j % k]? = c[j]? := by
    rw [List.getElem?_take, if_pos hm, List.getElem?_drop, Nat.div_add_mod']
    simp
  rw [← e1, he]
  have hlt : j % k < (enc xs[j / k]).length := by rw [← he, hlen]; exact hm
  rw [getElem!_pos xs (j / k) hd, getElem!_pos _ (j % k) hlt, List.getElem?_eq_getElem hlt]

theorem Hp.holdsK (hk : sh.size = k) (h0 : 0 < k) (hE : ∀ (S : Nat → Prop) (w : World) x cs, sh.rep S w cs x → cs = enc x) (H : Hp w0 S O M (⟨sh, T, .slice (some ⟨b, 0, none⟩) xs.length cap, xs⟩ :: W) G w) (hp : 0 < xs.length) :
    HoldsK enc k w b 0 xs.toArray ∧ b < w.heap.size := by
  obtain ⟨b', c, hb, -, hcs, h1, h2, h3, HR⟩ := H.toRaw1 hp
  obtain ⟨rfl⟩ : b = b' := by simpa using hb
  have hh := (HR.own _ (List.mem_cons_self ..)).1
  have hes := HR.es 0 rfl
  refine ⟨fun j hj => ?_, (Array.getElem?_eq_some_iff.1 hh).1⟩
  rw [size_flatK, List.size_toArray] at hj
  have hl : xs.length * k ≤ c.size := by rw [hcs, hk]; exact Nat.mul_le_mul_right _ h1
  have hc := row_cell hk h0 (hE _ _) hes hj hl
  have hf := get_flatK enc k xs.toArray j (by rw [List.size_toArray]; exact hj)
  refine ⟨?_, ?_⟩
  · rw [cell_of_row w b (0 + j) c T (0, 0) hh, Nat.zero_add, hc, id, hf]
    simp
  · simp only [World.frozen?] at *
    rw [hh]
    simp

theorem Hp.sortedK (hk : sh.size = k) (h0 : 0 < k) (hE : ∀ (S : Nat → Prop) (w : World) x cs, sh.rep S w cs x → cs = enc x) (hlen : ∀ x, (enc x).length = k) (H : Hp w0 S O M (⟨sh, T, .slice (some ⟨b, 0, none⟩) xs.length cap, xs⟩ :: W) G w) (hp : 0 < xs.length)
    {d' : Array α} {n : Nat} {os : Array Obj} (hd : d'.toList.Perm xs) :
    Hp w0 S O M (⟨sh, T, .slice (some ⟨b, 0, none⟩) xs.length cap, d'.toList⟩ :: W) G (sortWorldK enc k w b 0 n d' os) := by
  obtain ⟨b', c, hb, -, hcs, h1, h2, h3, HR⟩ := H.toRaw1 hp
  obtain ⟨rfl⟩ : b = b' := by simpa using hb
  have hh := (HR.own _ (List.mem_cons_self ..)).1
  have hes := HR.es 0 rfl
  have hbl := (Array.getElem?_eq_some_iff.1 hh).1
  have hsz : d'.size = xs.length := by have := hd.length_eq; simpa using this
  have hl : xs.length * k ≤ c.size := by rw [hcs, hk]; exact Nat.mul_le_mul_right _ h1
  let c' : Array Value := putCells id 0 (flatK enc k d') c
  have hcl : c'.size = c.size := by simp [c', putCells]
  have hget : ∀ j, j < xs.length * k → c'[j]? = some ((enc d'[j / k]!)[j % k]!) := fun j hj => by
    have hjc : j < c.size := by omega
    have hf := get_flatK enc k d' j (by rw [hsz]; exact hj)
    simp only [c', putCells, Array.getElem?_mapIdx, Array.getElem?_eq_getElem hjc, Option.map_some, size_flatK, hsz]
    rw [if_pos ⟨Nat.zero_le _, by omega⟩, Nat.sub_zero, hf, id]
  have HP := HR.put 0 rfl (.cells c' T (0, 0))
  have hext : Ext { w with heap := w.heap.setIfInBounds b (.cells c' T (0, 0)) } (sortWorldK enc k w b 0 n d' os) := by
    have hheap : (sortWorldK enc k w b 0 n d' os).heap = w.heap.setIfInBounds b (.cells c' T (0, 0)) ++ os := by
      show (w.heap.modify b _) ++ os = _
      congr 1
      apply Array.ext_getElem?
      intro j
      rw [Array.getElem?_modify, Array.getElem?_setIfInBounds]
      by_cases hj : b = j
      · subst hj
        rw [if_pos rfl, if_pos rfl, if_pos hbl, hh]
        rfl
      · rw [if_neg hj, if_neg hj]
    refine ⟨rfl, rfl, rfl, ?_, fun q hq => ?_⟩
    · rw [hheap]; simp
    · rw [hheap, Array.getElem?_append_left hq]
  have HE := HP.ext hext
  simp only [List.set_cons_zero] at HE
  have hrow : ∀ i x, d'.toList[i]? = some x → (c'.toList.drop (i * k)).take k = enc x := fun i x hx => by
    have hi := (List.getElem?_eq_some_iff.1 hx).1
    rw [hd.length_eq] at hi
    have hik : i * k + k ≤ xs.length * k := by rw [← Nat.succ_mul]; exact Nat.mul_le_mul_right _ hi
    have hx! : d'[i]! = x := by
      have h' : i < d'.size := by omega
      rw [getElem!_pos d' i h']
      simpa [h'] using hx
    apply List.ext_getElem?
    intro t
    by_cases ht : t < k
    · rw [List.getElem?_take, if_pos ht, List.getElem?_drop]
      have hq := hget (i * k + t) (by omega)
      have e1 : (i * k + t) / k = i := by rw [Nat.mul_comm, Nat.mul_add_div h0, Nat.div_eq_of_lt ht, Nat.add_zero]
      have e2 : (i * k + t) % k = t := by rw [Nat.mul_comm, Nat.mul_add_mod, Nat.mod_eq_of_lt ht]
      rw [e1, e2, hx!] at hq
      have ht' : t < (enc x).length := by rw [hlen]; exact ht
      rw [Array.getElem?_toList, hq, getElem!_pos _ t ht', List.getElem?_eq_getElem ht']
    · rw [List.getElem?_take, if_neg ht, List.getElem?_eq_none (by rw [hlen]; omega)]
  have hrep : ∀ x, x ∈ d'.toList → sh.rep (Av S w0 O (idsOf ((b, .cells c' T (0, 0)) :: M) W)) (sortWorldK enc k w b 0 n d' os) (enc x) x := fun x hx => by
    have hx2 := hd.mem_iff.1 hx
    obtain ⟨i, hi, rfl⟩ := List.mem_iff_getElem.1 hx2
    have h := HE.es 0 rfl i xs[i] (List.getElem?_eq_getElem hi)
    have := hE _ _ _ _ h
    rw [this] at h
    exact h
  have hes' : EsP sh (Av S w0 O (idsOf ((b, .cells c' T (0, 0)) :: M) W)) (sortWorldK enc k w b 0 n d' os) c'.toList d'.toList := fun i x hx => by
    rw [hk, hrow i x hx]
    exact hrep x (List.mem_of_getElem? hx)
  have hone : ∀ v ∈ c'.toList.take (d'.toList.length * sh.size), v.oneCell' = true := fun v hv => by
    obtain ⟨j, hj, rfl⟩ := List.mem_iff_getElem.1 hv
    have hj' : j < xs.length * k := by
      rw [List.length_take, hd.length_eq, hk] at hj
      omega
    have hjk : j / k < d'.size := by rw [hsz]; exact Nat.div_lt_of_lt_mul (by rw [Nat.mul_comm]; exact hj')
    have hm : j % k < (enc d'[j / k]!).length := by rw [hlen]; exact Nat.mod_lt _ h0
    have hq := hget j hj'
    rw [getElem!_pos _ (j % k) hm] at hq
    have hv2 : (c'.toList.take (d'.toList.length * sh.size))[j] = (enc d'[j / k]!)[j % k] := by
      have e1 : (c'.toList.take (d'.toList.length * sh.size))[j]? = c'[j]? := by
        rw [List.getElem?_take, if_pos (by rw [hd.length_eq, hk]; exact hj')]
        simp
      rw [hq, List.getElem?_eq_getElem hj] at e1
      exact Option.some.inj e1
    rw [hv2]
    refine sh.ones (hrep d'[j / k]! ?_) _ (List.getElem_mem hm)
    rw [getElem!_pos d' (j / k) hjk]
    exact Array.mem_toList_iff.2 (Array.getElem_mem hjk)
  have hfin := (HE.toOwn (sh := sh) (cap := cap) (xs := d'.toList) (by rw [hcl]; exact hcs) (by rw [hd.length_eq]; exact h1) h2 hone hes').facts_sub (G' := G) fun F hF => List.mem_cons_of_mem _ hF
  rw [hd.length_eq] at hfin
  exact hfin
end

theorem Hp.ownAddr {α : Type} {w0 w : World} {S : Nat → Prop} {O : List Nat} {M : Heap} {W : List OwnS} {G : List Fact} {sh : Shape α} {T : TypeId} {a : Option Addr} {len cap : Nat} {xs : List α} (H : Hp w0 S O M (⟨sh, T, .slice a len cap, xs⟩ :: W) G w) (h : 0 < len) : ∃ b, a = some ⟨b, 0, none⟩ := by
  obtain ⟨b, c, h, _⟩ := H.toRaw1 h
  exact ⟨b, h⟩

/-- nothing but draws and new blocks -/
def Gr (w w' : World) : Prop := ∃ q os, w' = grow (w.drewN q) os
theorem Gr.refl (w : World) : Gr w w := ⟨0, #[], by rw [grow_empty]; rfl⟩
theorem Gr.draw {w a : World} (h : Gr w a) : Gr w { a with drawn := a.drawn + 1 } := by
  obtain ⟨q, os, rfl⟩ := h
  exact ⟨q + 1, os, rfl⟩
theorem Gr.new {w a b : World} {o : Obj} (h : Gr w a) (hq : b = { a with heap := a.heap.push o }) : Gr w b := by
  obtain ⟨q, os, rfl⟩ := h
  subst hq
  refine ⟨q, os.push o, ?_⟩
  simp [grow]

section
variable {P : Program} {n : Nat} {ds : List Deferred} {ops : Array Oper} {K : Env → World → Prop} {l r : List (Nat × Kd)} {σ : Env} {w : World} {κ : Kd} {d : Option Tmp}
/-- .. and just how the world has grown -/
theorem RW.newG {w0 : World} {S : Nat → Prop} {O : List Nat} {M : Heap} {W : List OwnS} {G : List Fact} {o : Obj} {v : Nat → Value} (hl : ∀ b, lookM P n ops l σ b = some (κ, o, v b, d, r)) (hκ : κ ≠ .qui) (H : Hp w0 S O M W G w)
    (hk : ∀ b w', w' = { w with heap := w.heap.push o } → Hp w0 S O ((b, o) :: M) W G w' → RW P ops n ds K r (putO d (v b) σ) w') : RW P ops n ds K l σ w := by
  have h1 : ∃ s, look P n ops l σ = some (κ, s, d, r) ∧ ∀ b, newAt P b s = some (o, v b) := by
    have h0 := hl 0
    unfold lookM at h0
    cases hlk : look P n ops l σ with
    | none => rw [hlk] at h0; cases h0
    | some x =>
      obtain ⟨κ', s, d', r'⟩ := x
      rw [hlk] at h0
      simp only at h0
      have all : ∀ b, κ' = κ ∧ newAt P b s = some (o, v b) ∧ d' = d ∧ r' = r := by
        intro b
        have hb := hl b
        unfold lookM at hb
        rw [hlk] at hb
        simp only at hb
        cases hn : newAt P b s with
        | none => rw [hn] at hb; cases hb
        | some y =>
          obtain ⟨o', u⟩ := y
          rw [hn] at hb
          simp only [Option.some.injEq, Prod.mk.injEq] at hb
          obtain ⟨rfl, rfl, h3, rfl, rfl⟩ := hb
          exact ⟨rfl, by rw [h3], rfl, rfl⟩
      obtain ⟨rfl, _, rfl, rfl⟩ := all 0
      exact ⟨s, rfl, fun b => (all b).2.1⟩
  obtain ⟨s, hl, hn⟩ := h1
  exact RW.makeS hl hκ (newAt_run hn w) ⟨rfl, rfl, rfl, by simp, fun k hk => by
    show (w.heap.push o)[k]? = _
    rw [Array.getElem?_push, if_neg (by omega)]⟩ (hk _ _ rfl (H.alloc o))
end
end Go.BX
