/-
  THE ENGINE's OWN SLICES: their elements read and written, cleared, cut short; seen as facts.
  No condition.
-/
import Derived.Test.YtppcdmbkgficiaaBxIns
namespace Go.BX
open Go.RowKit (Below)

section
variable {w0 w w' : World} {S : Nat → Prop} {O : List Nat} {M : Heap} {W : List OwnS} {G : List Fact}

/-- for a callee that only reads: all memory may be read -/
theorem Hp.view (H : Hp w0 S O M W G w) (i : Nat) {α : Type} {sh : Shape α} {T : TypeId} {v : Value} {xs : List α} (h : W[i]? = some ⟨sh, T, v, xs⟩) : sh.slice.rep (fun _ => True) w [v] xs :=
  sh.slice.step ((H.freezeW i h).rp 0 rfl) fun _ _ _ => ⟨trivial, rfl⟩
theorem Hp.viewR (H : Hp w0 S O M W G w) {α : Type} {sh : Shape α} {cs : List Value} {x : α} (i : Nat) (h : G[i]? = some (Rp sh cs x)) : sh.rep (fun _ => True) w cs x :=
  sh.step (H.rp i h) fun _ _ _ => ⟨trivial, rfl⟩
theorem Hp.viewM (H : Hp w0 S O M W G w) {b : Nat} {c : Array Value} {T : TypeId} {fz : Nat × Nat} (i : Nat) (h : M[i]? = some (b, .cells c T fz)) (hc : 0 < c.toList.length) : (Fc b 0 c.toList).p (fun _ => True) w :=
  ⟨hc, trivial, H.cells i h⟩

theorem EsP.at {α : Type} {sh : Shape α} {cs : List Value} {xs : List α} (h : EsP sh S w cs xs) {k : Nat} (hk : k < xs.length) : sh.rep S w ((cs.drop (k * sh.size)).take sh.size) xs[k] := h k _ (List.getElem?_eq_getElem hk)

theorem Hp.ownCell {α : Type} {sh : Shape α} {T : TypeId} {a : Option Addr} {len cap : Nat} {xs : List α} (H : Hp w0 S O M (⟨sh, T, .slice a len cap, xs⟩ :: W) G w) (k : Nat) (hk : k < xs.length) (hl : len = xs.length) :
    ∃ b es, a = some ⟨b, 0, none⟩ ∧ Cells w b (k * sh.size) es ∧ sh.rep (Av S w0 O (idsOf M (⟨sh, T, .slice a len cap, xs⟩ :: W))) w es xs[k] := by
  obtain ⟨b, c, rfl, -, hcs, h1, h2, h3, HR⟩ := H.toRaw1 (by omega)
  refine ⟨b, _, rfl, ?_, sh.step ((HR.es 0 rfl).at hk) fun q hq _ => ⟨⟨hq.1, fun hi => hq.2 ?_⟩, rfl⟩⟩
  · have := (HR.cells 0 rfl).sub (k * sh.size) sh.size
    rwa [Nat.zero_add] at this
  · simp only [idsOf, List.map_cons, List.cons_append, List.mem_cons, List.mem_append, List.flatMap_cons, OwnS.blk] at hi ⊢
    simp only [List.not_mem_nil, or_false] at hi
    rcases hi with h | h | h
    · exact .inr (.inl h)
    · exact .inl h
    · exact .inr (.inr (by simpa using h))

theorem Hp.reW {α : Type} {sh : Shape α} {T : TypeId} {v v' : Value} {xs ys : List α} (H : Hp w0 S O M (⟨sh, T, v, xs⟩ :: W) G w) (h : xs = ys) (hv : v = v' := by rfl) : Hp w0 S O M (⟨sh, T, v', ys⟩ :: W) G w := by
  subst h
  subst hv
  exact H

/-! deleting in place -/
def delAt (x : Int) (xs : List Int) (i j : Nat) : List Int := (xs.take j).filter (fun y => y != x) ++ xs.drop i
theorem take_succ' {α : Type} {xs : List α} {j : Nat} (h : j < xs.length) : xs.take (j + 1) = xs.take j ++ [xs[j]] := List.take_succ_eq_append_getElem h
theorem delAt_start {x : Int} {xs : List Int} {k : Nat} (h : k < xs.length) (hx : xs[k] = x) (hn : x ∉ xs.take k) : ((xs.take (k + 1)).filter (fun y => y != x)).length = k ∧ xs = delAt x xs k (k + 1) := by
  have e : (xs.take (k + 1)).filter (fun y => y != x) = xs.take k := by
    rw [take_succ' h, List.filter_append, List.filter_eq_self.2 fun y (hy : y ∈ xs.take k) => bne_iff_ne.2 fun (e : y = x) => hn (e ▸ hy)]
    simp [hx]
  refine ⟨by rw [e, List.length_take]; omega, ?_⟩
  unfold delAt
  rw [e, List.take_append_drop]
theorem delAt_len {x : Int} {xs : List Int} {i j : Nat} (h : ((xs.take j).filter (fun y => y != x)).length = i) (hi : i ≤ xs.length) : (delAt x xs i j).length = xs.length := by
  unfold delAt
  rw [List.length_append, List.length_drop, h]; omega
theorem delAt_get {x : Int} {xs : List Int} {i j : Nat} (h : ((xs.take j).filter (fun y => y != x)).length = i) (hi : i ≤ j) (hj : j < xs.length) (hk : j < (delAt x xs i j).length) : (delAt x xs i j)[j] = xs[j] := by
  have e : (delAt x xs i j)[j]? = xs[j]? := by
    unfold delAt
    rw [List.getElem?_append_right (by omega), List.getElem?_drop]
    congr 1; omega
  rw [List.getElem?_eq_getElem hk, List.getElem?_eq_getElem hj] at e
  exact Option.some.inj e
theorem delAt_keep {x : Int} {xs : List Int} {i j : Nat} (h : ((xs.take j).filter (fun y => y != x)).length = i) (hi : i ≤ j) (hj : j < xs.length) (hx : xs[j] ≠ x) :
    ((xs.take (j + 1)).filter (fun y => y != x)).length = i + 1 ∧ (delAt x xs i j).set i xs[j] = delAt x xs (i + 1) (j + 1) := by
  have e : (xs.take (j + 1)).filter (fun y => y != x) = (xs.take j).filter (fun y => y != x) ++ [xs[j]] := by
    rw [take_succ' hj, List.filter_append]
    simp [hx]
  refine ⟨by rw [e, List.length_append, h]; rfl, ?_⟩
  unfold delAt
  rw [e, List.set_append_right _ _ (by omega), h, Nat.sub_self, List.drop_eq_getElem_cons (by omega : i < xs.length), List.set_cons_zero, List.append_assoc]
  rfl
theorem delAt_skip {x : Int} {xs : List Int} {j : Nat} (hj : j < xs.length) (hx : xs[j] = x) : (xs.take (j + 1)).filter (fun y => y != x) = (xs.take j).filter (fun y => y != x) := by
  rw [take_succ' hj, List.filter_append]
  simp [hx]
theorem delAt_end {x : Int} {xs : List Int} {i j : Nat} (h : ((xs.take j).filter (fun y => y != x)).length = i) (hj : xs.length ≤ j) : (delAt x xs i j).take i = xs.filter (fun y => y != x) := by
  unfold delAt
  rw [List.take_left' h, List.take_of_length_le hj]

theorem set_take_drop {α : Type} {xs : List α} {k : Nat} {y : α} (h : k < xs.length) : xs.set k y = xs.take k ++ y :: xs.drop (k + 1) := by
  rw [List.set_eq_take_append_cons_drop, if_pos h]

theorem EsP.set {α : Type} {sh : Shape α} {C yc : List Value} {xs : List α} {y : α} {k : Nat} (h : EsP sh S w C xs) (hC : xs.length * sh.size ≤ C.length) (hk : k < xs.length) (hy : sh.rep S w yc y) :
    EsP sh S w (C.take (k * sh.size) ++ yc ++ C.drop (k * sh.size + yc.length)) (xs.set k y) := by
  have h1 : (k + 1) * sh.size ≤ xs.length * sh.size := Nat.mul_le_mul_right _ hk
  rw [Nat.succ_mul] at h1
  rw [set_take_drop hk, sh.len hy, ← Nat.succ_mul, List.append_assoc]
  refine EsP.app ?_ (EsP.take h k (by omega) hC) (EsP.cons hy (EsP.drop h (k + 1)))
  rw [List.length_take, List.length_take, Nat.min_eq_left (by omega), Nat.min_eq_left (by omega)]

theorem ones_set {C yc : List Value} {p q : Nat} (h1 : ∀ v ∈ C.take q, v.oneCell' = true) (h2 : ∀ v ∈ yc, v.oneCell' = true) (hp : p + yc.length ≤ q) (hq : q ≤ C.length) :
    ∀ v ∈ (C.take p ++ yc ++ C.drop (p + yc.length)).take q, v.oneCell' = true := by
  intro v hv
  have hl : (C.take p ++ yc).length = p + yc.length := by rw [List.length_append, List.length_take, Nat.min_eq_left (by omega)]
  rw [show q = (C.take p ++ yc).length + (q - (p + yc.length)) by omega, List.take_length_add_append] at hv
  rcases List.mem_append.1 hv with hv | hv
  · rcases List.mem_append.1 hv with hv | hv
    · refine h1 v ?_
      have : C.take p = (C.take q).take p := by rw [List.take_take, Nat.min_eq_left (by omega)]
      rw [this] at hv
      exact List.mem_of_mem_take hv
    · exact h2 v hv
  · refine h1 v ?_
    rw [← List.drop_take] at hv
    exact List.mem_of_mem_drop hv

/-- the block of the head slice is written at one element -/
theorem Hp.putW {α : Type} {sh : Shape α} {T : TypeId} {b len cap k : Nat} {xs : List α} {y : α} {yc : List Value} (H : Hp w0 S O M (⟨sh, T, .slice (some ⟨b, 0, none⟩) len cap, xs⟩ :: W) (Rp sh yc y :: G) w) (hk : k < xs.length) (hl : len = xs.length) :
    ∃ c, w.heap[b]? = some (.cells c T (0, 0)) ∧ k * sh.size + yc.length ≤ c.size ∧
      Hp w0 S O M (⟨sh, T, .slice (some ⟨b, 0, none⟩) len cap, xs.set k y⟩ :: W) G { w with heap := w.heap.setIfInBounds b (.cells (c.toList.take (k * sh.size) ++ yc ++ c.toList.drop (k * sh.size + yc.length)).toArray T (0, 0)) } := by
  obtain ⟨b', c, hb, -, hcs, h1, h2, h3, HR⟩ := H.toRaw1 (by omega)
  simp only [Option.some.injEq, Addr.mk.injEq, and_true] at hb
  subst hb
  have hyl := sh.len (HR.rp 1 rfl)
  have hcl : c.toList.length = cap * sh.size := by simpa using hcs
  have hm1 : (k + 1) * sh.size ≤ xs.length * sh.size := Nat.mul_le_mul_right _ hk
  have hm2 : xs.length * sh.size ≤ cap * sh.size := Nat.mul_le_mul_right _ h1
  rw [Nat.succ_mul] at hm1
  have HP := HR.put 0 rfl (.cells (c.toList.take (k * sh.size) ++ yc ++ c.toList.drop (k * sh.size + yc.length)).toArray T (0, 0))
  refine ⟨c, (HR.own _ (List.mem_cons_self ..)).1, by omega, ?_⟩
  have hE := EsP.set (HP.es 0 rfl) (by omega) hk (HP.rp 1 rfl)
  have hone := ones_set (p := k * sh.size) h3 (sh.ones (HP.rp 1 rfl)) (by omega) (by omega)
  have hlen : (c.toList.take (k * sh.size) ++ yc ++ c.toList.drop (k * sh.size + yc.length)).length = cap * sh.size := by
    simp only [List.length_append, List.length_take, List.length_drop]; omega
  subst hl
  have := Hp.toOwn (sh := sh) (xs := xs.set k y) (cap := cap) (b := b) (T := T) (M := M) (W := W) HP (by rw [List.size_toArray, hlen]) (by rw [List.length_set]; exact h1) h2 (by rw [List.length_set]; exact hone) hE
  rw [List.length_set] at this
  exact this.facts_sub fun F hF => List.mem_cons_of_mem _ (List.mem_cons_of_mem _ hF)

/-- a slice of the call's own, cut short; its block's other cells may be anything -/
theorem Hp.cutW {α : Type} {sh : Shape α} {T : TypeId} {b cap k : Nat} {c : Array Value} {xs : List α} (H : Hp w0 S O ((b, .cells c T (0, 0)) :: M) W (Es sh c.toList xs :: G) w) (hc : c.size = cap * sh.size) (hk : k ≤ xs.length) (h1 : xs.length ≤ cap) (h2 : cap ≤ maxLen)
    (h3 : ∀ v ∈ c.toList.take (xs.length * sh.size), v.oneCell' = true) (R : List Value) (hR : R.length + k * sh.size = cap * sh.size) :
    Hp w0 S O M (⟨sh, T, .slice (some ⟨b, 0, none⟩) k cap, xs.take k⟩ :: W) G { w with heap := w.heap.setIfInBounds b (.cells (c.toList.take (k * sh.size) ++ R).toArray T (0, 0)) } := by
  have hcl : c.toList.length = cap * sh.size := by simpa using hc
  have hm1 : k * sh.size ≤ xs.length * sh.size := Nat.mul_le_mul_right _ hk
  have hm2 : xs.length * sh.size ≤ cap * sh.size := Nat.mul_le_mul_right _ h1
  have HP := H.put 0 rfl (.cells (c.toList.take (k * sh.size) ++ R).toArray T (0, 0))
  have htk : (xs.take k).length = k := by rw [List.length_take]; omega
  have hck : (c.toList.take (k * sh.size)).length = k * sh.size := by rw [List.length_take]; omega
  have hE : EsP sh _ _ (c.toList.take (k * sh.size) ++ R) (xs.take k) := EsP.pre (by rw [htk, hck]; exact Nat.le_refl _) (EsP.take (HP.es 0 rfl) k hk (by omega))
  have := Hp.toOwn (sh := sh) (xs := xs.take k) (cap := cap) (b := b) (T := T) (M := M) (W := W) HP (by rw [List.size_toArray, List.length_append, hck]; omega) (by omega) h2 (fun v hv => by
    rw [htk, List.take_left' hck] at hv
    refine h3 v ?_
    have e : c.toList.take (k * sh.size) = (c.toList.take (xs.length * sh.size)).take (k * sh.size) := by rw [List.take_take, Nat.min_eq_left hm1]
    rw [e] at hv
    exact List.mem_of_mem_take hv) hE
  rw [htk] at this
  exact this.facts_sub fun F hF => List.mem_cons_of_mem _ hF

theorem Hp.cutN {α : Type} {sh : Shape α} {T : TypeId} {a : Option Addr} {len cap : Nat} {xs : List α} (H : Hp w0 S O M (⟨sh, T, .slice a len cap, xs⟩ :: W) G w) (k : Nat) (hk : k ≤ xs.length) (hl : len = xs.length) (hpos : 0 < len) :
    Hp w0 S O M (⟨sh, T, .slice a k cap, xs.take k⟩ :: W) G w := by
  obtain ⟨b, c, rfl, -, hcs, h1, h2, h3, HR⟩ := H.toRaw1 hpos
  have hcl : c.toList.length = cap * sh.size := by simpa using hcs
  have hm1 : k * sh.size ≤ xs.length * sh.size := Nat.mul_le_mul_right _ hk
  have hm2 : xs.length * sh.size ≤ cap * sh.size := Nat.mul_le_mul_right _ h1
  have := HR.cutW (k := k) hcs hk h1 h2 h3 (c.toList.drop (k * sh.size)) (by rw [List.length_drop]; omega)
  rw [List.take_append_drop] at this
  have hg := (HR.own _ (List.mem_cons_self ..)).1
  have e : w.heap.setIfInBounds b (.cells c.toList.toArray T (0, 0)) = w.heap := by
    apply Array.ext_getElem?
    intro j
    rw [Array.getElem?_setIfInBounds]
    split
    · rename_i hj; subst hj
      rw [if_pos (Array.getElem?_eq_some_iff.1 hg).1, hg]
    · rfl
  rw [e] at this
  exact this
end

section
variable {P : Program} {n : Nat} {ds : List Deferred} {ops : Array Oper} {K : Env → World → Prop} {l r : List (Nat × Kd)} {σ : Env} {w : World} {κ : Kd} {d : Option Tmp}
variable {w0 : World} {S : Nat → Prop} {O : List Nat} {M : Heap} {W : List OwnS} {G : List Fact}

theorem RW.indexW {α : Type} {sh : Shape α} {xs : List α} {T e T' : TypeId} {m : Nat} {a : Option Addr} {len cap : Nat} {ik : IntKind} {ix : Int}
    (hl : look P n ops l σ = some (κ, semV (Instr.indexAt T (.slice a len cap) (.int ik ix)), d, r)) (hT : sliceE P T = some (e, m)) (hm : m = sh.size) (H : Hp w0 S O M (⟨sh, T', .slice a len cap, xs⟩ :: W) G w)
    (k : Nat) (hk : ix = (k : Int)) (hx : k < xs.length) (hlen : len = xs.length)
    (h : ∀ b es, a = some ⟨b, 0, none⟩ → Cells w b (k * m) es → sh.rep (Av S w0 O (idsOf M (⟨sh, T', .slice a len cap, xs⟩ :: W))) w es xs[k] → RW P ops n ds K r (putO d (.pointer (some ⟨b, k * m, none⟩)) σ) w) : RW P ops n ds K l σ w := by
  subst hk
  subst hm
  obtain ⟨b, es, ha, hc, hr⟩ := H.ownCell k hx hlen
  have h2 := h b es ha hc hr
  subst ha
  refine RW.readS hl (fun w' _ => semV_run (indexAt_run hT (by omega))) ?_
  rw [Nat.zero_add]; exact h2

def storeOk (P : Program) (T : TypeId) (m : Nat) (v : Value) : Bool := match P.info? T with
  | some i => Nat.beq i.size m && Nat.beq v.cells.toList.length m
  | none => false

theorem RW.storeW {α : Type} {sh : Shape α} {xs : List α} {e T' : TypeId} {m : Nat} {a : Option Addr} {len cap k b : Nat} {v : Value}
    (hl : look P n ops l σ = some (.seq, semU (Instr.storeAt e (.pointer (some ⟨b, k * m, none⟩)) v), d, r)) (hm : m = sh.size) (ho : storeOk P e m v = true) (H : Hp w0 S O M (⟨sh, T', .slice a len cap, xs⟩ :: W) G w)
    (ha : a = some ⟨b, 0, none⟩) (hx : k < xs.length) (hlen : len = xs.length) (y : α) (hy : sh.rep (Av S w0 O (idsOf M (⟨sh, T', .slice a len cap, xs⟩ :: W))) w v.cells.toList y)
    (h : ∀ w', Hp w0 S O M (⟨sh, T', .slice a len cap, xs.set k y⟩ :: W) G w' → RW P ops n ds K r (putO d undef σ) w') : RW P ops n ds K l σ w := by
  subst hm
  subst ha
  obtain ⟨c, hg, hfit, H2⟩ := (H.add (F := Rp sh v.cells.toList y) hy).putW hx hlen
  unfold storeOk at ho
  cases hi : P.info? e with
  | none => rw [hi] at ho; cases ho
  | some ti =>
    rw [hi] at ho
    simp only [Bool.and_eq_true] at ho
    have e1 := Nat.eq_of_beq_eq_true ho.1
    have e2 := Nat.eq_of_beq_eq_true ho.2
    simp only [Array.length_toList] at e2 hfit H2
    exact RW.actU hl (semU_run (storeAt_run hg hi (by omega) (List.all_eq_true.2 (sh.ones hy)) hfit rfl)) (h _ H2)

def zeroOk (P : Program) (T : TypeId) (m : Nat) : Bool := match P.info? T with
  | some i => match i.zero with
    | some z => Nat.beq i.size m && Nat.beq z.cells.toList.length m && z.cells.toList.all (·.oneCell')
    | none => false
  | none => false

theorem zeroCells_ones {z : Array Value} {n : Nat} (h : z.toList.all (·.oneCell') = true) : ∀ v ∈ (Builtin.zeroCells z n).toList, v.oneCell' = true := by
  intro v hv
  simp only [Builtin.zeroCells, Array.toList_map, Array.toList_range, List.mem_map, List.mem_range] at hv
  obtain ⟨i, hi, rfl⟩ := hv
  have hpos : 0 < z.size := by
    rcases Nat.eq_zero_or_pos z.size with h0 | h0
    · rw [h0, Nat.mul_zero] at hi; omega
    · exact h0
  have hlt : i % z.size < z.size := Nat.mod_lt _ hpos
  rw [getElem!_pos z _ hlt]
  exact List.all_eq_true.1 h _ (by simp)

/-- clear(s[k:]), and then s[:k] -/
theorem RW.clearW {α : Type} {sh : Shape α} {xs : List α} {T e T' ty : TypeId} {m : Nat} {a a1 : Option Addr} {len cap k l1 c1 : Nat}
    (hl : look P n ops l σ = some (.seq, semV (Builtin.clear_ #[T] ty #[.slice a1 l1 c1]), d, r)) (hT : sliceE P T = some (e, m)) (hm : m = sh.size) (hz : zeroOk P e m = true) (H : Hp w0 S O M (⟨sh, T', .slice a len cap, xs⟩ :: W) G w)
    (ha1 : 0 < l1 → a1 = a.map (·.add (k * m))) (hk : k + l1 = xs.length) (hlen : len = xs.length) (hpos : 0 < len)
    (h : ∀ w', Hp w0 S O M (⟨sh, T', .slice a k cap, xs.take k⟩ :: W) G w' → RW P ops n ds K r (putO d (.tuple #[]) σ) w') : RW P ops n ds K l σ w := by
  subst hm
  obtain ⟨hu, ti, hti, hts⟩ := sliceE_spec hT
  by_cases h0 : l1 = 0
  · subst h0
    have hr : (Builtin.clear_ #[T] ty #[.slice a1 0 c1]).run P w = .ok (.tuple #[]) w := by
      cases a1 <;> simp [Builtin.clear_, run_underlying hu]
    exact RW.actV hl (semV_run hr) (h w (H.cutN k (by omega) hlen hpos))
  · have ha1 := ha1 (by omega)
    obtain ⟨b, c, rfl, -, hcs, h1, h2, h3, HR⟩ := H.toRaw1 hpos
    subst ha1
    unfold zeroOk at hz
    rw [hti] at hz
    simp only at hz
    cases hzz : ti.zero with
    | none => rw [hzz] at hz; cases hz
    | some z =>
      rw [hzz] at hz
      simp only [Bool.and_eq_true] at hz
      have e1 := Nat.eq_of_beq_eq_true hz.1.2
      simp only [Array.length_toList] at e1
      have hcl : c.toList.length = cap * sh.size := by simpa using hcs
      have hsz : (Builtin.zeroCells z.cells l1).toList.length = l1 * sh.size := by rw [Array.length_toList, size_zeroCells, e1]
      have hm2 : xs.length * sh.size ≤ cap * sh.size := Nat.mul_le_mul_right _ h1
      have hm3 : k * sh.size + l1 * sh.size = xs.length * sh.size := by rw [← Nat.add_mul, hk]
      have hg := (HR.own _ (List.mem_cons_self ..)).1
      have hst := run_storeCells_at P b (k * sh.size) T' (Builtin.zeroCells z.cells l1).toList 0 c w hg (by rw [hsz]; omega) (zeroCells_ones hz.2)
      simp only [Nat.add_zero] at hst
      rw [setRow_put hg, hsz] at hst
      have hn0 : ∀ {β : Type} (A B : β), (if l1 = 0 then A else B) = B := fun A B => if_neg h0
      have hr : (Builtin.clear_ #[T] ty #[.slice (some ⟨b, k * sh.size, none⟩) l1 c1]).run P w = .ok (.tuple #[]) { w with heap := w.heap.setIfInBounds b (.cells (c.toList.take (k * sh.size) ++ (Builtin.zeroCells z.cells l1).toList ++ c.toList.drop (k * sh.size + l1 * sh.size)).toArray T' (0, 0)) } := by
        cases l1 with
        | zero => exact absurd rfl h0
        | succ l1 => simp [Builtin.clear_, run_underlying hu, zeroValue, typeInfo, hti, hzz, hst]
      have e2 : (Option.map (fun x : Addr => x.add (k * sh.size)) (some ⟨b, 0, none⟩) : Option Addr) = some ⟨b, k * sh.size, none⟩ := by simp [addr_lit]
      rw [e2] at hl
      refine RW.actV hl (semV_run hr) (h _ ?_)
      rw [List.append_assoc]
      exact HR.cutW (k := k) hcs (by omega) h1 h2 h3 _ (by rw [List.length_append, List.length_drop, hsz]; omega)
end
end Go.BX
