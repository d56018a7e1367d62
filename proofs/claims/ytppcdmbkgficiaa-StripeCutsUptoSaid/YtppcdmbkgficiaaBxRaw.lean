/-
  THE ENGINE's RAW BLOCKS: a slice of the call's own as a block with its cells; copy, slices of it, append of zeros.
  No condition.
-/
import Derived.Test.YtppcdmbkgficiaaBxSlices
namespace Go.BX
open Go.RowKit (Below)

/-- a row of cells reads as so many elements -/
def EsP {α : Type} (sh : Shape α) (S : Nat → Prop) (w : World) (cs : List Value) (xs : List α) : Prop := ∀ j x, xs[j]? = some x → sh.rep S w ((cs.drop (j * sh.size)).take sh.size) x
def Es {α : Type} (sh : Shape α) (cs : List Value) (xs : List α) : Fact := ⟨fun S w => EsP sh S w cs xs, fun h hs j x hx => sh.step (h j x hx) hs⟩

theorem EsP.app {α : Type} {sh : Shape α} {S : Nat → Prop} {w : World} {cs ds : List Value} {xs ys : List α} (hl : cs.length = xs.length * sh.size) (h1 : EsP sh S w cs xs) (h2 : EsP sh S w ds ys) : EsP sh S w (cs ++ ds) (xs ++ ys) := by
  intro j x hx
  rcases Nat.lt_or_ge j xs.length with hlt | hge
  · rw [List.getElem?_append_left hlt] at hx
    rw [drop_take_append (by rw [hl, ← Nat.succ_mul]; exact Nat.mul_le_mul_right _ hlt)]
    exact h1 j x hx
  · rw [List.getElem?_append_right hge] at hx
    rw [List.drop_append, List.drop_of_length_le (l := cs) (by rw [hl]; exact Nat.mul_le_mul_right _ hge), List.nil_append, hl, ← Nat.sub_mul]
    exact h2 _ x hx
theorem EsP.take {α : Type} {sh : Shape α} {S : Nat → Prop} {w : World} {cs : List Value} {xs : List α} (h : EsP sh S w cs xs) (k : Nat) (hk : k ≤ xs.length) (hl : xs.length * sh.size ≤ cs.length) : EsP sh S w (cs.take (k * sh.size)) (xs.take k) := by
  intro j x hx
  rw [List.getElem?_take] at hx
  split at hx
  · rename_i hj
    have := h j x hx
    rw [List.drop_take, List.take_take]
    have e : min sh.size (k * sh.size - j * sh.size) = sh.size := by
      rw [← Nat.sub_mul]
      have : 1 * sh.size ≤ (k - j) * sh.size := Nat.mul_le_mul_right _ (by omega)
      omega
    have _ := hk
    have _ := hl
    rw [e]; exact this
  · cases hx
theorem EsP.drop {α : Type} {sh : Shape α} {S : Nat → Prop} {w : World} {cs : List Value} {xs : List α} (h : EsP sh S w cs xs) (k : Nat) : EsP sh S w (cs.drop (k * sh.size)) (xs.drop k) := by
  intro j x hx
  rw [List.getElem?_drop] at hx
  have := h _ x hx
  rw [List.drop_drop, ← Nat.add_mul]
  exact this
theorem EsP.one {α : Type} {sh : Shape α} {S : Nat → Prop} {w : World} {cs : List Value} {x : α} (h : sh.rep S w cs x) : EsP sh S w cs [x] := by
  intro j y hy
  have hj : j = 0 := by have := (List.getElem?_eq_some_iff.1 hy).1; simp at this; exact this
  subst hj
  simp only [List.getElem?_cons_zero, Option.some.injEq] at hy
  subst hy
  simp only [Nat.zero_mul, List.drop_zero]
  rw [← sh.len h, List.take_length]; exact h
theorem EsP.nil {α : Type} {sh : Shape α} {S : Nat → Prop} {w : World} {cs : List Value} : EsP sh S w cs ([] : List α) := fun j x hx => by simp at hx
theorem EsP.cons {α : Type} {sh : Shape α} {S : Nat → Prop} {w : World} {c cs : List Value} {x : α} {xs : List α} (h : sh.rep S w c x) (k : EsP sh S w cs xs) : EsP sh S w (c ++ cs) (x :: xs) := by
  have e := EsP.app (sh := sh) (xs := [x]) (by rw [sh.len h]; simp) (EsP.one h) k
  exact e
theorem EsP.pre {α : Type} {sh : Shape α} {S : Nat → Prop} {w : World} {cs ds : List Value} {xs : List α} (hl : xs.length * sh.size ≤ cs.length) (h : EsP sh S w cs xs) : EsP sh S w (cs ++ ds) xs := by
  intro j x hx
  have hlt := (List.getElem?_eq_some_iff.1 hx).1
  rw [drop_take_append (by
    have : (j + 1) * sh.size ≤ xs.length * sh.size := Nat.mul_le_mul_right _ hlt
    rw [Nat.succ_mul] at this; omega)]
  exact h j x hx

section
variable {w0 w w' : World} {S : Nat → Prop} {O : List Nat} {M : Heap} {W : List OwnS} {G : List Fact}

theorem Hp.reids (H : Hp w0 S O M W G w) {M' : Heap} {W' : List OwnS} (hid : ∀ b, b ∈ idsOf M' W' ↔ b ∈ idsOf M W) (hnd : (idsOf M' W').Nodup) (hM : ∀ p ∈ M', w.heap[p.1]? = some p.2)
    (hW : ∀ o ∈ W', o.ok (Av S w0 O (idsOf M W)) w) : Hp w0 S O M' W' G w := by
  have hs : ∀ b, Av S w0 O (idsOf M W) b → b < w.heap.size → Av S w0 O (idsOf M' W') b ∧ w.heap[b]? = w.heap[b]? := fun b h _ => ⟨⟨h.1, fun hi => h.2 ((hid b).1 hi)⟩, rfl⟩
  have mine : ∀ b ∈ idsOf M' W', Mine w0 O b := fun b hb => (H.ids_lt b ((hid b).1 hb)).2
  exact ⟨H.below, fun p hp => ⟨hM p hp, mine _ (List.mem_append_left _ (List.mem_map.2 ⟨p, hp, rfl⟩))⟩, fun o ho => ⟨OwnS.ok_step (hW o ho) (fun _ _ => rfl) hs, fun b hb => mine b (List.mem_append_right _ (List.mem_flatMap.2 ⟨o, ho, hb⟩))⟩, hnd, fun F hF => F.step (H.facts F hF) hs⟩

/-- the one slice of the call's own, its block laid open -/
theorem Hp.toRaw {α : Type} {sh : Shape α} {T : TypeId} {a : Addr} {len cap : Nat} {xs : List α} {W : List OwnS} (H : Hp w0 S O M (⟨sh, T, .slice (some a) len cap, xs⟩ :: W) G w) :
    ∃ b c, a = ⟨b, 0, none⟩ ∧ len = xs.length ∧ c.size = cap * sh.size ∧ xs.length ≤ cap ∧ cap ≤ maxLen ∧ (∀ v ∈ c.toList.take (xs.length * sh.size), v.oneCell' = true) ∧
      Hp w0 S O ((b, .cells c T (0, 0)) :: M) W (Es sh c.toList xs :: G) w := by
  obtain ⟨⟨cs, h1, h2, h3⟩, _⟩ := H.slc _ (List.mem_cons_self ..)
  simp only at h1 h3
  rcases h1.2 with ⟨hv, _⟩ | ⟨g, cap', cur, hv, _, hh, hnc, hcm, hcs, htk⟩
  · cases hv
  · simp only [Value.slice.injEq, Option.some.injEq] at hv
    obtain ⟨rfl, rfl, rfl⟩ := hv
    have hid : ∀ b, b ∈ idsOf ((g, Obj.cells cur T (0, 0)) :: M) W ↔ b ∈ idsOf M (⟨sh, T, .slice (some ⟨g, 0, none⟩) xs.length cap, xs⟩ :: W) := fun b => by
      simp [idsOf, OwnS.blk]
      constructor
      · rintro (h | h | h)
        · exact .inr (.inl h)
        · exact .inl h
        · exact .inr (.inr h)
      · rintro (h | h | h)
        · exact .inr (.inl h)
        · exact .inl h
        · exact .inr (.inr h)
    have hnd : (idsOf ((g, Obj.cells cur T (0, 0)) :: M) W).Nodup := by
      have := H.nodup
      simp only [idsOf, List.flatMap_cons, OwnS.blk, List.map_cons, List.cons_append, List.nil_append] at this ⊢
      exact List.perm_middle.nodup_iff.1 this
    have H1 := H.reids (M' := (g, Obj.cells cur T (0, 0)) :: M) (W' := W) hid hnd (fun p hp => by
      rcases List.mem_cons.1 hp with rfl | hp
      · exact hh
      · exact (H.own p hp).1) (fun o ho => (H.slc o (List.mem_cons_of_mem _ ho)).1)
    refine ⟨g, cur, rfl, rfl, hcs, hnc, hcm, by rw [htk]; exact h2, H1.add ?_⟩
    show EsP sh _ w cur.toList xs
    intro j x hx
    have hj := (List.getElem?_eq_some_iff.1 hx).1
    have hr := sh.step (S' := Av S w0 O (idsOf ((g, Obj.cells cur T (0, 0)) :: M) W)) (w' := w) (h3 j x hx) fun b hb _ => ⟨⟨hb.1, fun hi => hb.2 ((hid b).1 hi)⟩, rfl⟩
    rw [← htk, List.drop_take, List.take_take] at hr
    have e : min sh.size (xs.length * sh.size - j * sh.size) = sh.size := by
      rw [← Nat.sub_mul]
      have : 1 * sh.size ≤ (xs.length - j) * sh.size := Nat.mul_le_mul_right _ (by omega)
      omega
    rw [e] at hr; exact hr

/-- .. and back -/
theorem Hp.toOwn {α : Type} {sh : Shape α} {T : TypeId} {b cap : Nat} {c : Array Value} {xs : List α} (H : Hp w0 S O ((b, .cells c T (0, 0)) :: M) W G w) (hc : c.size = cap * sh.size) (h1 : xs.length ≤ cap) (h2 : cap ≤ maxLen)
    (h3 : ∀ v ∈ c.toList.take (xs.length * sh.size), v.oneCell' = true) (hE : EsP sh (Av S w0 O (idsOf ((b, .cells c T (0, 0)) :: M) W)) w c.toList xs) :
    Hp w0 S O M (⟨sh, T, .slice (some ⟨b, 0, none⟩) xs.length cap, xs⟩ :: W) G w := by
  have hid : ∀ k, k ∈ idsOf M (⟨sh, T, .slice (some ⟨b, 0, none⟩) xs.length cap, xs⟩ :: W) ↔ k ∈ idsOf ((b, Obj.cells c T (0, 0)) :: M) W := fun k => by
    simp [idsOf, OwnS.blk]
    constructor
    · rintro (h | h | h)
      · exact .inr (.inl h)
      · exact .inl h
      · exact .inr (.inr h)
    · rintro (h | h | h)
      · exact .inr (.inl h)
      · exact .inl h
      · exact .inr (.inr h)
  have hnd : (idsOf M (⟨sh, T, .slice (some ⟨b, 0, none⟩) xs.length cap, xs⟩ :: W)).Nodup := by
    have := H.nodup
    simp only [idsOf, List.flatMap_cons, OwnS.blk, List.map_cons, List.cons_append, List.nil_append] at this ⊢
    exact List.perm_middle.nodup_iff.2 this
  have hb := (H.own _ (List.mem_cons_self ..)).1
  simp only at hb
  refine H.reids hid hnd (fun p hp => (H.own p (List.mem_cons_of_mem _ hp)).1) (fun o ho => ?_)
  rcases List.mem_cons.1 ho with rfl | ho
  · have hle : xs.length * sh.size ≤ c.toList.length := by
      have hcl : c.toList.length = cap * sh.size := by simpa using hc
      rw [hcl]; exact Nat.mul_le_mul_right _ h1
    refine ⟨c.toList.take (xs.length * sh.size), ⟨by simp only [List.length_take]; omega, .inr ⟨b, cap, c, rfl, Nat.zero_le _, hb, h1, h2, hc, rfl⟩⟩, h3, fun j x hx => ?_⟩
    have := (EsP.take hE xs.length (Nat.le_refl _) hle) j x (by rw [List.take_length]; exact hx)
    exact this
  · exact (H.slc o ho).1
end

section
variable {P : Program} {n : Nat} {ds : List Deferred} {ops : Array Oper} {K : Env → World → Prop} {l r : List (Nat × Kd)} {σ : Env} {w : World} {κ : Kd} {d : Option Tmp}
variable {w0 : World} {S : Nat → Prop} {O : List Nat} {M : Heap} {W : List OwnS} {G : List Fact}

/-- a slice of a slice whose block is known -/
theorem RW.sliceR {T e m : Nat} {b o len cap : Nat} {lv hv : Option Value} (hl : look P n ops l σ = some (κ, semV (Instr.sliceAt T (.slice (some ⟨b, o, none⟩) len cap) lv hv none), d, r))
    (hT : sliceE P T = some (e, m)) (lo hi : Nat) (h1 : loOk lv lo) (h2 : hiOk hv len hi) (hlh : lo ≤ hi) (hhc : hi ≤ cap)
    (h : ∀ o', (lo < cap → o' = o + lo * m) → RW P ops n ds K r (putO d (.slice (some ⟨b, o', none⟩) (hi - lo) (cap - lo)) σ) w) : RW P ops n ds K l σ w := by
  have hr := fun w' => sliceAt_run (P := P) (w := w') hT (a := some ⟨b, o, none⟩) h1 h2 hlh hhc
  by_cases hcl : cap = lo
  · subst hcl
    simp only [if_pos] at hr
    exact RW.readS hl (fun w' _ => semV_run (hr w')) (h o fun hlt => by omega)
  · simp only [if_neg hcl, Option.map_some, addr_lit] at hr
    exact RW.readS hl (fun w' _ => semV_run (hr w')) (h _ fun _ => rfl)

theorem copy_run {T T2 e ty : TypeId} {m : Nat} (hT : sliceE P T = some (e, m)) {b o1 dl dc : Nat} {sb o2 sl sc : Nat} {c : Array Value} {Tb : TypeId} (hb : w.heap[b]? = some (.cells c Tb (0, 0)))
    {o so : Nat} {news : List Value} (hn : news.length = min sl dl * m) (hc : Cells w sb so news) (h1 : ∀ v ∈ news, v.oneCell' = true) (hd : 0 < min sl dl → o1 = o) (hs : 0 < min sl dl → o2 = so) (hfit : o + news.length ≤ c.size) (hle : o ≤ c.size) :
    (Builtin.copy_ #[T, T2] ty #[.slice (some ⟨b, o1, none⟩) dl dc, .slice (some ⟨sb, o2, none⟩) sl sc]).run P w =
      .ok (goInt (min sl dl : Nat)) { w with heap := w.heap.setIfInBounds b (.cells (c.toList.take o ++ news ++ c.toList.drop (o + news.length)).toArray Tb (0, 0)) } := by
  obtain ⟨hu, i, hi, hm⟩ := sliceE_spec hT
  have hmin : Nat.min sl dl = min sl dl := rfl
  by_cases h0 : 0 < min sl dl
  · obtain rfl := hd h0
    obtain rfl := hs h0
    have hf : (Builtin.firstCells i.size (min sl dl) (.slice (some ⟨sb, o2, none⟩) sl sc)).run P w = .ok news.toArray w :=
      run_firstCells_some (P := P) w i.size (min sl dl) ⟨sb, o2, none⟩ sl sc news (by rw [hm]; exact hn) (fun j v hj => by rw [addr_lit]; exact hc j v hj)
    have hst := run_storeCells_at P b o1 Tb news 0 c w hb (by simpa using hfit) h1
    simp only [Nat.add_zero] at hst
    rw [setRow_put hb] at hst
    simp [Builtin.copy_, run_underlying hu, sizeOf, typeInfo, hi, Builtin.lenOf, hmin, hf, hst]
  · have hz : min sl dl = 0 := by omega
    have hnil : news = [] := List.eq_nil_of_length_eq_zero (by rw [hn, hz]; simp)
    subst hnil
    have hsame : ({ w with heap := w.heap.setIfInBounds b (.cells (c.toList.take o ++ [] ++ c.toList.drop (o + ([] : List Value).length)).toArray Tb (0, 0)) } : World) = w := by
      have : w.heap.setIfInBounds b (.cells (c.toList.take o ++ [] ++ c.toList.drop (o + ([] : List Value).length)).toArray Tb (0, 0)) = w.heap := by
        apply Array.ext_getElem?
        intro j
        rw [Array.getElem?_setIfInBounds]
        split
        · rename_i hj; subst hj
          have hlt := (Array.getElem?_eq_some_iff.1 hb).1
          rw [if_pos hlt, hb]
          simp
        · rfl
      rw [this]
    have _ := hle
    rw [hsame]
    simp [Builtin.copy_, run_underlying hu, sizeOf, typeInfo, hi, Builtin.lenOf, hmin, hz, Builtin.firstCells, loadCells, loadCellsFrom, storeCells]

/-- copy into a block of the call's own -/
theorem RW.copyR {T T2 e ty : TypeId} {m : Nat} {b o1 dl dc sb o2 sl sc : Nat} {c : Array Value} {Tb : TypeId} (hl : look P n ops l σ = some (.seq, semV (Builtin.copy_ #[T, T2] ty #[.slice (some ⟨b, o1, none⟩) dl dc, .slice (some ⟨sb, o2, none⟩) sl sc]), d, r))
    (hT : sliceE P T = some (e, m)) (H : Hp w0 S O M W G w) (i : Nat) (hi : M[i]? = some (b, .cells c Tb (0, 0))) (o so : Nat) (news : List Value) (hn : news.length = min sl dl * m) (hc : Cells w sb so news) (h1 : ∀ v ∈ news, v.oneCell' = true)
    (hd : 0 < min sl dl → o1 = o) (hs : 0 < min sl dl → o2 = so) (hfit : o + news.length ≤ c.size) (c' : List Value) (hc' : c.toList.take o ++ news ++ c.toList.drop (o + news.length) = c')
    (h : ∀ w', Hp w0 S O (M.set i (b, .cells c'.toArray Tb (0, 0))) W G w' → RW P ops n ds K r (putO d (goInt (min sl dl : Nat)) σ) w') : RW P ops n ds K l σ w := by
  subst hc'
  have hb := (H.own _ (List.mem_of_getElem? hi)).1
  exact RW.actV hl (semV_run (copy_run hT hb hn hc h1 hd hs hfit (by omega))) (h _ (H.put i hi _))

theorem Cells.sub {w : World} {b o : Nat} {cs : List Value} (h : Cells w b o cs) (k j : Nat) : Cells w b (o + k) ((cs.drop k).take j) := by
  intro i v hi
  rw [List.getElem?_take] at hi
  split at hi
  · rw [List.getElem?_drop] at hi
    rw [Nat.add_assoc]; exact h _ v hi
  · cases hi

/-- append(s[:k], make(S, j)...) where there is no room: a new block -/
theorem append_zeros_run {T TI ty e : TypeId} {i : TypeInfo} {z : Value} {k : IntKind} (hu : P.underlying T = some (.slice e)) (hI : P.underlying TI = some (.int k)) (hi : P.info? e = some i) (hz : i.zero = some z)
    {b len cap j : Nat} {olds : List Value} (hlo : olds.length = len * i.size) (holds : Cells w b 0 olds) (hg : cap < len + j) (h63 : len + j ≤ 9223372036854775807) (hby : (len + j) * i.bytes ≤ 140737488355328) (hj : 0 < j * i.size) :
    ∃ cc, (Builtin.append_ #[T, TI] ty #[.slice (some ⟨b, 0, none⟩) len cap, .int .i64 (j : Int)]).run P w = .ok (.slice (some ⟨w.heap.size, 0, none⟩) (len + j) cc)
      (w.drew.alloc (.cells (olds.toArray ++ Builtin.zeroCells z.cells j ++ Builtin.zeroCells z.cells (cc - (len + j))) e)) ∧ len + j ≤ cc ∧ cc ≤ maxLen := by
  refine ⟨grownCap w (len + j) cap e, ?_, grownCap_ge _ _ _ _, grownCap_le_maxLen _ _ _ _ (by unfold maxLen; omega)⟩
  have hfit := growslice_fits (need := len + j) (old := cap) (bytes := i.bytes) hg hby
  have hn : ¬ (len + j ≤ cap) := by omega
  have h63' : ¬ (9223372036854775807 < ((len : Int) + (j : Int))) := by omega
  have h48' : ¬ (281474976710656 < Builtin.nextslicecap (len + j) cap * i.bytes) := by omega
  have hw : IntKind.i64.wrap (j : Int) = j := by rw [IntKind.wrap_i64]; omega
  have hbj : ¬ (281474976710656 < (j : Int) * (i.bytes : Int)) := by
    have : j * i.bytes ≤ (len + j) * i.bytes := Nat.mul_le_mul_right _ (by omega)
    have h2 : ((j * i.bytes : Nat) : Int) ≤ 140737488355328 := by omega
    rw [Int.natCast_mul] at h2
    omega
  have hj0 : ¬ (j * i.size = 0) := by omega
  have hfo := run_firstCells_some (P := P) w.drew i.size len ⟨b, 0, none⟩ len cap olds hlo (fun q v hq => by rw [addr_lit]; simpa using holds q v hq)
  have hneg : ¬ ((j : Int) < 0) := by omega
  simp [Builtin.append_, run_underlying hu, run_underlying hI, sizeOf, typeInfo, zeroValue, hi, hz, hn, h63', h48', Question.forced, hfo, newRow, grownCap, asInt, asIntOf, hw, hbj, hj0, hneg]
end
end Go.BX
