import Derived.Test.YtkjkmogipidkiaaGreatSBxA
import Derived.ProofKit
import Derived.Deep.Slices
/-
  THE ENGINE: a judgement on a frame whose slots are known by a list, over any program; laws for each operation.
  No condition.
-/
/-
 THE ENGINE: one cell of an element of a row of the call's own is written.
 No condition.
-/
namespace Go.BX
section
variable {P : Program} {n : Nat} {ds : List Deferred} {ops : Array Oper} {K : Env → World → Prop} {l r : List (Nat × Kd)} {σ : Env} {w w1 : World} {κ : Kd} {d : Option Tmp} {Bs : List Nat}
variable {w0 : World} {S : Nat → Prop} {O : List Nat} {M : Heap} {W : List OwnS} {G : List Fact}
theorem WK.again {f : FuncId} {b : Code} {k : List Item} {R : Ending → World → Prop} (h : WK P f n (.code b :: .inLoop b :: k) σ ds w R) : WK P f n (.inLoop b :: k) σ ds w R :=
 WK.steps (fun _ a _ _ _ hf => ⟨a, hf, .one step_inLoop⟩) h
theorem set_mid {α : Type} {c es : List α} {p f : Nat} {v : α} (h : ∀ j x, es[j]? = some x → c[p + j]? = some x) (hf : f < es.length) (hp : p + es.length ≤ c.length) :
 c.take p ++ es.set f v ++ c.drop (p + (es.set f v).length) = c.take (p + f) ++ [v] ++ c.drop (p + f + 1) := by
 have he : es = (c.drop p).take es.length := by
  refine List.ext_getElem? fun j => ?_
  rcases Nat.lt_or_ge j es.length with hj | hj
  · rw [List.getElem?_take_of_lt hj, List.getElem?_drop, h j _ (List.getElem?_eq_getElem hj), List.getElem?_eq_getElem hj]
  · rw [List.getElem?_eq_none hj, List.getElem?_eq_none (by rw [List.length_take]; omega)]
 rw [List.length_set, List.set_eq_take_append_cons_drop, if_pos hf]
 have a : es.take f = (c.drop p).take f := by rw [he, List.take_take, Nat.min_eq_left (by omega)]
 have b : es.drop (f + 1) = (c.drop (p + f + 1)).take (es.length - (f + 1)) := by
  have d := congrArg (List.drop (f + 1)) he
  rw [d, List.drop_take, List.drop_drop, Nat.add_assoc]
 have e : c.take p ++ (c.drop p).take f = c.take (p + f) := by rw [List.take_add]
 have g : (c.drop (p + f + 1)).take (es.length - (f + 1)) ++ c.drop (p + es.length) = c.drop (p + f + 1) := by
  have : c.drop (p + es.length) = (c.drop (p + f + 1)).drop (es.length - (f + 1)) := by rw [List.drop_drop]; congr 1; omega
  rw [this, List.take_append_drop]
 rw [a, b, ← List.append_assoc, e, List.append_assoc, List.cons_append, g, List.append_assoc, List.singleton_append]
theorem Hp.putWF {α : Type} {sh : Shape α} {T : TypeId} {b len cap k f : Nat} {xs : List α} (y : α) {v : Value} (H : Hp w0 S O M (⟨sh, T, .slice (some ⟨b, 0, none⟩) len cap, xs⟩ :: W) G w) (hk : k < xs.length) (hl : len = xs.length)
 (hf : f < sh.size) (hy : ∀ (S : Nat → Prop) es, sh.rep S w es xs[k] → sh.rep S w (es.set f v) y) :
 ∃ c, w.heap[b]? = some (.cells c T (0, 0)) ∧ k * sh.size + f + 1 ≤ c.size ∧ v.oneCell' = true ∧
  Hp w0 S O M (⟨sh, T, .slice (some ⟨b, 0, none⟩) len cap, xs.set k y⟩ :: W) G { w with heap := w.heap.setIfInBounds b (.cells (c.toList.take (k * sh.size + f) ++ [v] ++ c.toList.drop (k * sh.size + f + 1)).toArray T (0, 0)) } := by
 obtain ⟨b', es, ha, hc, hr⟩ := H.ownCell k hk hl
 have hy' := hy _ es hr
 have hel := sh.len hr
 obtain ⟨c, hg, hfit, a⟩ := (H.add (F := Rp sh (es.set f v) y) hy').putW hk hl
 simp only [Option.some.injEq, Addr.mk.injEq, and_true] at ha
 subst ha
 rw [List.length_set] at hfit
 have hm := set_mid (c := c.toList) (es := es) (p := k * sh.size) (f := f) (v := v) (fun j x hj => by
  have := hc j x hj
  simp only [World.cell?, hg] at this
  simpa using this) (by omega) (by simpa using hfit)
 rw [hm] at a
 exact ⟨c, hg, by omega, (sh.ones hy') v (List.mem_of_getElem? (i := f) (by rw [List.getElem?_set]; simp; omega)), a⟩
theorem Hp.ownAtB {α : Type} {sh : Shape α} {T : TypeId} {a : Option Addr} {b len cap : Nat} {xs : List α} (H : Hp w0 S O M (⟨sh, T, .slice a len cap, xs⟩ :: W) G w) (ha : a = some ⟨b, 0, none⟩) (k : Nat) (hk : k < xs.length) (hl : len = xs.length) :
 ∃ es, Cells w b (k * sh.size) es ∧ sh.rep (Av S w0 O (idsOf M (⟨sh, T, .slice a len cap, xs⟩ :: W))) w es xs[k] := by
 subst ha
 exact H.ownAt k hk hl
theorem Hp.neMWB {α : Type} {sh : Shape α} {T : TypeId} {a : Option Addr} {b b' len cap : Nat} {ob : Obj} {xs : List α} (H : Hp w0 S O M W G w) (i : Nat) (h : M[i]? = some (b, ob)) (j : Nat) (hj : W[j]? = some ⟨sh, T, .slice a len cap, xs⟩) (ha : a = some ⟨b', 0, none⟩) : b ≠ b' := by
 subst ha
 exact H.neMW i h j hj
theorem RW.storeWFC {α : Type} {sh : Shape α} {xs : List α} {e T' : TypeId} {m : Nat} {a : Option Addr} {len cap k f b : Nat} {v : Value}
 (hl : look P n ops l σ = some (.seq, semU (Instr.storeAt e (.pointer (some ⟨b, k * m + f, none⟩)) v), d, r)) (hm : m = sh.size) (hf : f < m) (ho : storeOk P e 1 v = true) (hv : v.cells.toList = [v]) (H : Hp w0 S O M (⟨sh, T', .slice a len cap, xs⟩ :: W) G w)
 (ha : a = some ⟨b, 0, none⟩) (hx : k < xs.length) (hlen : len = xs.length) (y : α) (hy : ∀ (S : Nat → Prop) es, sh.rep S w es xs[k] → sh.rep S w (es.set f v) y)
 (h : ∀ w', Chg w [b] w' → Hp w0 S O M (⟨sh, T', .slice a len cap, xs.set k y⟩ :: W) G w' → RW P ops n ds K r (putO d undef σ) w') : RW P ops n ds K l σ w := by
 subst hm
 subst ha
 obtain ⟨c, hg, hfit, hone, g⟩ := H.putWF y hx hlen hf hy
 unfold storeOk at ho
 cases hi : P.info? e with
 | none => rw [hi] at ho; cases ho
 | some ti =>
  rw [hi] at ho
  simp only [Bool.and_eq_true] at ho
  have o := Nat.eq_of_beq_eq_true ho.1
  have i := Nat.eq_of_beq_eq_true ho.2
  have j : v.cells.size = 1 := by rw [← Array.length_toList]; exact i
  exact RW.actU hl (semU_run (storeAt_run hg hi (by omega) (List.all_eq_true.2 (by rw [hv]; simpa using hone)) (by omega) rfl)) (h _ ⟨rfl, rfl, rfl, by simp, fun q _ hq => (Array.getElem?_setIfInBounds_ne (fun e => hq (by simp [e])) : (w.heap.setIfInBounds b _)[q]? = _)⟩ (by rw [hv, j]; exact g))
end
end Go.BX

/-
 THE ENGINE's BRIDGE: what a laws arguments read as, in the engine's shapes; what a law leaves.
 No condition.
-/
namespace Go.BX
open Go.RowKit
open Go.ChangeShapes Go.WideShapes Go.ChangeAt
def Reads {α : Type} (P : Program) (t : TypeId) (sh : Shape α) : Prop :=
 ∀ (H : Type) (enc : TypeId × Value → H) (w : World) (spare : Nat → Bool) (held : Bool) (fuel : Nat) (cs : List Value) (x : DataW H × List MemPlace),
  DataW.trod enc P w 0 spare held fuel t cs = some x → ∃ y, sh.rep (fun b => b < w.heap.size) w cs y
theorem Reads.int {P : Program} {t : TypeId} {k : IntKind} (ht : P.underlying t = some (.int k)) : Reads P t (Shape.int k) := by
 intro H enc w spare held fuel cs x h
 obtain ⟨n, rfl, _, hw⟩ := DataW.trod_int ht h
 simp only [Lit.wf, Bool.and_eq_true, decide_eq_true_eq] at hw
 exact ⟨n, rfl, hw⟩
theorem Reads.bool {P : Program} {t : TypeId} (ht : P.underlying t = some .bool) : Reads P t Shape.bool := by
 intro H enc w spare held fuel cs x h
 cases fuel with
 | zero => simp [DataW.trod] at h
 | succ n =>
  have hc : ∃ b, cs = [.bool b] := by
   unfold DataW.trod at h
   rw [ht] at h
   split at h <;> simp_all
  obtain ⟨b, rfl⟩ := hc
  exact ⟨b, rfl⟩
theorem Reads.str {P : Program} {t : TypeId} (ht : P.underlying t = some .string) : Reads P t Shape.str := by
 intro H enc w spare held fuel cs x h
 cases fuel with
 | zero => simp [DataW.trod] at h
 | succ n =>
  unfold DataW.trod at h
  rw [ht] at h
  split at h <;> simp_all
  exact ⟨_, rfl, h.1⟩
theorem exists_list {α : Type} {R : Nat → α → Prop} : ∀ (n : Nat), (∀ i, i < n → ∃ x, R i x) → ∃ xs : List α, xs.length = n ∧ ∀ i x, xs[i]? = some x → R i x
 | 0, _ => ⟨[], rfl, fun i x h => by simp at h⟩
 | n + 1, h => by
  obtain ⟨xs, hl, hr⟩ := exists_list n fun i hi => h i (by omega)
  obtain ⟨y, hy⟩ := h n (by omega)
  refine ⟨xs ++ [y], by simp [hl], fun i x hx => ?_⟩
  rcases Nat.lt_or_ge i xs.length with hlt | hge
  · rw [List.getElem?_append_left hlt] at hx; exact hr i x hx
  · rw [List.getElem?_append_right hge] at hx
    have h0 : i - xs.length = 0 := by
     have := (List.getElem?_eq_some_iff.1 hx).1
     simpa using this
    rw [h0] at hx
    cases hx
    obtain rfl : i = n := by omega
    exact hy
theorem Reads.slice {α : Type} {sh : Shape α} {P : Program} {t e : TypeId} (ht : P.underlying t = some (.slice e)) (hc : P.cellsOf e = sh.size) (hr : Reads P e sh) : Reads P t sh.slice := by
 intro H enc w spare held fuel cs x h
 rcases DataW.trod_slice ht h with ⟨rfl, _⟩ | ⟨a, len, cap, elems, rest, n, _, rfl, _, _, hl, hm, hlen, hel, _, _⟩
 · exact ⟨[], Shape.slice_nil⟩
 · have hsp : 0 < len → a.spot = none := fun k => by
    have d := hel 0 k
    rw [List.getElem?_eq_getElem (by omega)] at d
    obtain ⟨cs', f, _⟩ := Option.bind_eq_some_iff.1 d
    obtain ⟨_, g, hcell⟩ := World.cells?_some f
    have hpos : 0 < P.cellsOf e := by rw [hc]; exact sh.pos
    have c := hcell 0 hpos
    rw [List.getElem?_eq_getElem (by omega), Nat.zero_mul] at c
    have l : (a.add 0).add 0 = a := by simp [Addr.add]
    rw [l] at c
    unfold World.cell? at c
    split at c
    · split at c
      · cases c
      · rename_i hs
        simpa using hs
    · cases c
   have hi : ∀ i, i < len → ∃ y, ∃ es, Cells w a.block (a.off + i * sh.size) es ∧ sh.rep (fun b => b < w.heap.size) w es y ∧ a.spot = none := fun i hi => by
    have d := hel i hi
    rw [List.getElem?_eq_getElem (by omega)] at d
    obtain ⟨cs', f, c⟩ := Option.bind_eq_some_iff.1 d
    obtain ⟨y, hy⟩ := hr H enc w spare held n cs' _ c
    obtain ⟨_, g, hcell⟩ := World.cells?_some f
    have hpos : 0 < P.cellsOf e := by rw [hc]; exact sh.pos
    refine ⟨y, cs', fun j v hj => ?_, hy, hsp (by omega)⟩
    have hjl := (List.getElem?_eq_some_iff.1 hj).1
    have := hcell j (by omega)
    rw [hj, hc] at this
    have hsp := hsp (by omega)
    cases a with
    | mk ab ao az =>
     simp only at hsp
     subst hsp
     simpa [addr_lit, Nat.add_assoc] using this
   obtain ⟨xs, hxl, hxr⟩ := exists_list len hi
   subst hxl
   refine ⟨xs, some a, cap, rfl, hl, hm, fun i x hx => ?_⟩
   obtain ⟨es, d, f, c⟩ := hxr i x hx
   have hb : a.block < w.heap.size := d.lt (by rw [sh.len f]; exact sh.pos)
   cases a with
   | mk ab ao az =>
    simp only at c
    subst c
    exact ⟨ab, ao, es, rfl, hb, d, f⟩
def ReadsAt {α : Type} (P : Program) (fs : List Field) (o : Nat) (sh : Shape α) : Prop :=
 ∀ (H : Type) (enc : TypeId × Value → H) (w : World) (spare : Nat → Bool) (held : Bool) (fuel : Nat) (cs : List Value), cs.length = o + sh.size →
  (∀ f ∈ fs, ∃ y, DataW.trod enc P w 0 spare held fuel f.type ((cs.drop f.offset).take (P.cellsOf f.type)) = some y) → ∃ y, sh.rep (fun b => b < w.heap.size) w (cs.drop o) y
theorem ReadsAt.one {α : Type} {P : Program} {f : Field} {o : Nat} {sh : Shape α} (ho : f.offset = o) (hc : P.cellsOf f.type = sh.size) (hr : Reads P f.type sh) : ReadsAt P [f] o sh := by
 intro H enc w spare held fuel cs hl h
 obtain ⟨y, hy⟩ := h f (List.mem_cons_self ..)
 obtain ⟨z, hz⟩ := hr H enc w spare held fuel _ _ hy
 refine ⟨z, ?_⟩
 rw [ho, hc, List.take_of_length_le (by rw [List.length_drop]; omega)] at hz
 exact hz
theorem ReadsAt.cons {α β : Type} {P : Program} {f : Field} {fs : List Field} {o : Nat} {s : Shape α} {t : Shape β} (ho : f.offset = o) (hc : P.cellsOf f.type = s.size) (hr : Reads P f.type s) (hk : ReadsAt P fs (o + s.size) t) :
 ReadsAt P (f :: fs) o (Shape.pair s t) := by
 intro H enc w spare held fuel cs hl h
 obtain ⟨y, hy⟩ := h f (List.mem_cons_self ..)
 obtain ⟨z, hz⟩ := hr H enc w spare held fuel _ _ hy
 have hl' : cs.length = o + (s.size + t.size) := hl
 obtain ⟨u, hu⟩ := hk H enc w spare held fuel cs (by omega) fun f' hf' => h f' (List.mem_cons_of_mem _ hf')
 rw [ho, hc] at hz
 refine ⟨(z, u), (cs.drop o).take s.size, cs.drop (o + s.size), ?_, hz, hu⟩
 rw [← List.drop_drop, List.take_append_drop]
theorem Reads.struct {α : Type} {P : Program} {t : TypeId} {fs : Array Field} {sh : Shape α} (ht : P.underlying t = some (.struct fs)) (hc : P.cellsOf t = sh.size) (hr : ReadsAt P fs.toList 0 sh) : Reads P t sh := by
 intro H enc w spare held fuel cs x h
 obtain ⟨xs, n, _, rfl, hl, hlen, hf⟩ := DataW.trod_struct ht h
 obtain ⟨y, hy⟩ := hr H enc w spare held n cs (by omega) fun f hfm => by
  obtain ⟨i, hi, he⟩ := List.mem_iff_getElem.1 hfm
  have := hf i f (by rw [← he]; simp at hi ⊢)
  rw [this]
  have hix : i < xs.length := by simp at hi; omega
  exact ⟨xs[i], by simp [hix]⟩
 exact ⟨y, by simpa using hy⟩
theorem Reads.map {α β : Type} {P : Program} {t : TypeId} {s : Shape α} {f : β → α} (h : Reads P t s) (hf : ∀ a, ∃ b, f b = a) : Reads P t (s.map f) := by
 intro H enc w spare held fuel cs x hx
 obtain ⟨y, hy⟩ := h H enc w spare held fuel cs x hx
 obtain ⟨z, rfl⟩ := hf y
 exact ⟨z, hy⟩
section
variable {H : Type} {enc : TypeId × Value → H} {P : Program} {W W' : World}
theorem Reads.trod {α : Type} {sh : Shape α} {t : TypeId} {sp : Nat → Bool} {hd : Bool} {v : Value} {d : DataW H} {p : List MemPlace} (hr : Reads P t sh) (h : DataW.Trod enc P W 0 sp hd t v d p) : ∃ y, sh.rep (fun b => b < W.heap.size) W v.cells.toList y := by
 obtain ⟨n, hn⟩ := h
 exact hr H enc W sp hd n _ _ hn
theorem Reads.structArg {α : Type} {sh : Shape α} {t : TypeId} {fs : Array Field} {r : Reach} {base : Nat} {sp : Nat → Bool} {hd : Bool} {v : Value} {d : DataW H} {p : List MemPlace} (hr : Reads P t sh) (ht : P.underlying t = some (.struct fs)) (hval : Value.okWide P W r base t v) (h : DataW.Trod enc P W 0 sp hd t v d p) :
 ∃ (cs : List Value) (x : α), v = .agg cs.toArray ∧ sh.rep (fun b => b < W.heap.size) W cs x := by
 obtain ⟨cs, rfl, _⟩ := okWide_struct ht hval
 obtain ⟨x, hx⟩ := hr.trod h
 exact ⟨cs.toList, x, by simp, hx⟩
theorem trodAll_stays (hl : laidOutB P = true) (hb : Below W.heap.size W W') {sp : Nat → Bool} : ∀ {ts : List TypeId} {vs : List Value} {ds : List (DataW H)} {p : List MemPlace}, (∀ t ∈ ts, P.readableRec t = true ∧ t < P.types.size) → (∀ x ∈ p, x.block < W.heap.size) → (∀ x ∈ p, sp x.block = true) →
 DataW.TrodAll enc P W 0 (fun _ => true) true ts vs ds p → DataW.TrodAll enc P W' 0 sp true ts vs ds p
 | [], [], [], _, _, _, _, h => h
 | [], [], _ :: _, _, _, _, _, h => h.elim
 | [], _ :: _, _, _, _, _, _, h => h.elim
 | _ :: _, [], _, _, _, _, _, h => h.elim
 | _ :: _, _ :: _, [], _, _, _, _, h => h.elim
 | t :: ts, v :: vs, d :: ds, _, ht, hlt, hs, h => by
  obtain ⟨p, q, h1, h2, rfl⟩ := h
  exact ⟨p, q, WideElems.Trod_stays hl (ht t (List.mem_cons_self ..)).1 (ht t (List.mem_cons_self ..)).2 h1 (fun x hx => hb.same (hlt x (List.mem_append_left _ hx))) (fun x hx => hs x (List.mem_append_left _ hx)),
   trodAll_stays hl hb (fun t ht' => ht t (List.mem_cons_of_mem _ ht')) (fun x hx => hlt x (List.mem_append_right _ hx)) (fun x hx => hs x (List.mem_append_right _ hx)) h2, rfl⟩
theorem params_ok {ts : List TypeId} (h : (ts.all fun t => P.readableRec t && Nat.blt t P.types.size) = true) : ∀ t ∈ ts, P.readableRec t = true ∧ t < P.types.size := fun t ht => by
 have h1 := List.all_eq_true.1 h t ht
 simp only [Bool.and_eq_true, Nat.blt, Nat.ble_eq] at h1
 exact ⟨h1.1, h1.2⟩
theorem post_true {f : Func} {s : ChangeSpec} {fresh handsOn again : Bool} {args : Array Value} {ds gs : List (DataW H)} {before : List MemPlace} {tb : TypeId} (hl : laidOutB P = true)
 (hps : ∀ t ∈ f.params.toList, P.readableRec t = true ∧ t < P.types.size) (hv : s.vars = []) (hW : DataW.Whole enc P f.params.toList s.vars false W args.toList ds gs before) (hb : Ext W W')
 (hfn : s.fn H (ds ++ gs) = { results := [.lit (.bool true)], args := ds }) (hrt : f.resultTypes = #[tb]) (htb : P.underlying tb = some .bool) : s.post enc P f false fresh handsOn again W args (.bool true) W' := by
 have hW' := hW
 obtain ⟨p, q, hA, hV, rfl, hfz, hnd⟩ := hW
 rw [hv] at hV
 obtain ⟨rfl, rfl⟩ := trodVars_none hV
 have hlt : ∀ x ∈ p, x.block < W.heap.size := fun x hx => hW'.lt x (List.mem_append_left _ hx)
 have hres : ∀ (b : Nat) (sp : Nat → Bool) (hd : Bool), DataW.TrodAll enc P W' b sp hd f.resultTypes.toList ((Value.bool true).resultList f.resultTypes.size) (s.fn H (ds ++ [])).results [] := fun b sp hd => by
  rw [hfn, hrt]
  exact ⟨[], [], shut_bool htb true, rfl, rfl⟩
 have hargs : ∀ sp : Nat → Bool, (∀ x ∈ p, sp x.block = true) → DataW.TrodAll enc P W' 0 sp true f.params.toList args.toList (s.fn H (ds ++ [])).args p := fun sp hs => by
  rw [hfn]
  exact trodAll_stays hl hb hps hlt hs hA
 have hvars : ∀ sp : Nat → Bool, DataW.TrodVars enc P W' sp s.vars (s.fn H (ds ++ [])).vars [] := fun sp => by
  rw [hv, hfn]
  rfl
 rw [List.append_nil] at hW' hfz hnd
 refine ⟨ds, [], p, [], p, [], hW', hres _ _ _, hargs _ (fun x hx => by simpa using hlt x hx), hvars _, World.keptBut_mono (fun x hx => ⟨hx, .inr (.inl hx)⟩) (hb.frame _), fun _ => ?_⟩
 refine ⟨ok_one hrt rfl (okWide_bool_mk htb true), _, _, ([] ++ p) ++ [], ⟨[] ++ p, [], trodAll_append (hargs _ (fun _ _ => rfl)) (hres _ _ _), hvars _, rfl, ?_, ?_⟩, ?_⟩
 · intro b off hp
   have hp : MemPlace.cell b off ∈ p := by simpa using hp
   have hblk := hlt _ hp
   rw [hb.frozen (p := ⟨b, off, none⟩) hblk]
   exact hfz b off hp
 · intro h
   cases h
 · intro x hx _
   simpa using hx
end
end Go.BX

/-
 THE ENGINE's BRIDGE: numbers of 8 and 32 bits.
 No condition.
-/
namespace Go.BX
theorem Reads.bv8 {P : Program} {t : TypeId} (ht : P.underlying t = some (.int .u8)) : Reads P t (Shape.bv .u8 8) := by
 intro H enc w spare held fuel cs x h
 obtain ⟨n, rfl, a, b⟩ := Reads.int ht H enc w spare held fuel cs x h
 have h0' : 0 ≤ n := a
 have h1' : n ≤ 255 := b
 refine ⟨BitVec.ofInt 8 n, ?_⟩
 show [Value.int .u8 n] = [.int .u8 _]
 rw [BitVec.toNat_ofInt, Int.toNat_of_nonneg (Int.emod_nonneg _ (by decide))]
 congr 2
 simp only [Nat.reducePow]
 omega
theorem Reads.bv32 {P : Program} {t : TypeId} (ht : P.underlying t = some (.int .u32)) : Reads P t (Shape.bv .u32 32) := by
 intro H enc w spare held fuel cs x h
 obtain ⟨n, rfl, a, b⟩ := Reads.int ht H enc w spare held fuel cs x h
 have h0' : 0 ≤ n := a
 have h1' : n ≤ 4294967295 := b
 refine ⟨BitVec.ofInt 32 n, ?_⟩
 show [Value.int .u32 n] = [.int .u32 _]
 rw [BitVec.toNat_ofInt, Int.toNat_of_nonneg (Int.emod_nonneg _ (by decide))]
 congr 2
 simp only [Nat.reducePow]
 omega
end Go.BX

/-
 THE ENGINE's BRIDGE, WITH A MEASURE: a row is not longer than the measure of what it reads as.
 No condition.
-/
namespace Go.BX
open Go.ChangeShapes Go.WideShapes Go.ChangeAt Go.RowKit
structure Bulk where
 one : ∀ {H : Type}, DataW H → Nat
 all : ∀ {H : Type}, List (DataW H) → Nat
 cons : ∀ {H : Type} (d : DataW H) r, all (d :: r) = one d + all r
 pos : ∀ {H : Type} (d : DataW H), 1 ≤ one d
 slice : ∀ {H : Type} (a b : List (DataW H)), one (.slice a b) = all a + all b + 1
 agg : ∀ {H : Type} (a : List (DataW H)), one (.agg a) = all a + 1
theorem Bulk.len (B : Bulk) {H : Type} : ∀ l : List (DataW H), l.length ≤ B.all l
 | [] => Nat.zero_le _
 | d :: r => by
  rw [B.cons, List.length_cons]
  have := B.len r
  have := B.pos d
  omega
theorem Bulk.get (B : Bulk) {H : Type} : ∀ {l : List (DataW H)} {i : Nat} {d : DataW H}, l[i]? = some d → B.one d ≤ B.all l
 | [], i, d, h => by simp at h
 | x :: r, 0, d, h => by
  rw [B.cons]
  simp only [List.getElem?_cons_zero, Option.some.injEq] at h
  subst h; omega
 | x :: r, i + 1, d, h => by
  rw [B.cons]
  have := B.get (l := r) (i := i) (by simpa using h)
  omega
section
variable {H : Type} {enc : TypeId × Value → H} {P : Program} {W : World}
theorem Bulk.slice_le (B : Bulk) {t e : TypeId} {sp : Nat → Bool} {hd : Bool} {n : Nat} {a : Option Addr} {len cap : Nat} {x : DataW H × List MemPlace} (ht : P.underlying t = some (.slice e))
 (h : DataW.trod enc P W 0 sp hd n t [.slice a len cap] = some x) : len ≤ B.one x.1 := by
 rcases DataW.trod_slice ht h with ⟨he, _⟩ | ⟨a', len', cap', elems, rest, n', _, he, rfl, _, _, _, _, hlen, _⟩
 · simp only [List.cons.injEq, Value.slice.injEq, and_true] at he
   obtain ⟨-, rfl, -⟩ := he
   exact Nat.zero_le _
 · simp only [List.cons.injEq, Value.slice.injEq, and_true] at he
   obtain ⟨-, rfl, -⟩ := he
   have := B.len (elems.map (·.1))
   rw [List.length_map] at this
   show len ≤ B.one (.slice _ _)
   rw [B.slice]; omega
theorem Bulk.field_le (B : Bulk) {t : TypeId} {fs : Array Field} {sp : Nat → Bool} {hd : Bool} {n : Nat} {cs : List Value} {x : DataW H × List MemPlace} (ht : P.underlying t = some (.struct fs))
 (h : DataW.trod enc P W 0 sp hd n t cs = some x) (i : Nat) {f : Field} (hf : fs[i]? = some f) :
 ∃ m y, DataW.trod enc P W 0 sp hd m f.type ((cs.drop f.offset).take (P.cellsOf f.type)) = some y ∧ B.one y.1 ≤ B.one x.1 := by
 obtain ⟨xs, m, _, rfl, _, hlen, hall⟩ := DataW.trod_struct ht h
 have hi : i < xs.length := by
  have := (Array.getElem?_eq_some_iff.1 hf).1
  omega
 refine ⟨m, xs[i], by rw [hall i f hf, List.getElem?_eq_getElem hi], ?_⟩
 show B.one xs[i].1 ≤ B.one (.agg _)
 rw [B.agg]
 have := B.get (l := xs.map (·.1)) (i := i) (d := xs[i].1) (by simp [hi])
 omega
theorem Bulk.elem_le (B : Bulk) {α : Type} {sh : Shape α} {S : Nat → Prop} {t e : TypeId} {sp : Nat → Bool} {hd : Bool} {n : Nat} {a : Option Addr} {len cap : Nat} {x : DataW H × List MemPlace} {xs : List α} (ht : P.underlying t = some (.slice e)) (hc : P.cellsOf e = sh.size)
 (h : DataW.trod enc P W 0 sp hd n t [.slice a len cap] = some x) (hr : sh.slice.rep S W [.slice a len cap] xs) {k : Nat} {y : α} (hk : xs[k]? = some y) :
 ∃ m z cs, DataW.trod enc P W 0 sp hd m e cs = some z ∧ B.one z.1 ≤ B.one x.1 ∧ sh.rep S W cs y := by
 obtain ⟨hl, -, -, hE⟩ := Shape.elems_of hr
 obtain ⟨b, o, es, rfl, -, hcs, hes⟩ := hE k y hk
 have hkl := (List.getElem?_eq_some_iff.1 hk).1
 rcases DataW.trod_slice ht h with ⟨he, _⟩ | ⟨a', len', cap', elems, rest, n', _, he, rfl, _, _, _, hln, hel, _⟩
 · cases he
 · simp only [List.cons.injEq, Value.slice.injEq, Option.some.injEq, and_true] at he
   obtain ⟨rfl, rfl, rfl⟩ := he
   have c := hel k (by omega)
   have hke : k < elems.length := by omega
   rw [List.getElem?_eq_getElem hke] at c
   obtain ⟨cs', f, g⟩ := Option.bind_eq_some_iff.1 c
   obtain ⟨_, _, hcell⟩ := World.cells?_some f
   have hsz := sh.len hes
   have p : cs' = es := by
    refine List.ext_getElem? fun j => ?_
    rcases Nat.lt_or_ge j es.length with hj | hj
    · have q := hcs j _ (List.getElem?_eq_getElem hj)
      have r := hcell j (by omega)
      rw [List.getElem?_eq_getElem hj, ← r, hc, ← q]
      simp [addr_lit, Nat.add_assoc]
    · rw [List.getElem?_eq_none hj, List.getElem?_eq_none (by omega)]
   subst p
   refine ⟨n', elems[k], cs', g, ?_, hes⟩
   show B.one elems[k].1 ≤ B.one (.slice _ _)
   rw [B.slice]
   have := B.get (l := elems.map (·.1)) (i := k) (d := elems[k].1) (by simp [hke])
   omega
end
end Go.BX

