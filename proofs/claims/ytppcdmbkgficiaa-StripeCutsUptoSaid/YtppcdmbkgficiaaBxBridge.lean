/-
  THE ENGINE's BRIDGE: what a law's arguments read as, in the engine's shapes; what a law leaves.
  No condition.
-/
import Derived.Test.YtppcdmbkgficiaaBxOwn
import Derived.ProofKit
import Derived.Deep.Slices
namespace Go.BX
open Go.RowKit
open Go.ChangeShapes Go.WideShapes Go.ChangeAt

def Reads {α : Type} (P : Program) (t : TypeId) (sh : Shape α) : Prop :=
  ∀ (H : Type) (enc : TypeId × Value → H) (w : World) (spare : Nat → Bool) (held : Bool) (fuel : Nat) (cs : List Value) (x : DataW H × List MemPlace),
    DataW.trod enc P w 0 spare held fuel t cs = some x → ∃ y, sh.rep (fun b => b < w.heap.size) w cs y

theorem Reads.int {P : Program} {t : TypeId} {k : IntKind} (ht : P.underlying t = some (.int k)) : Reads P t (Shape.int k) := by
  intro H enc w spare held fuel cs x h
  obtain ⟨n, rfl, _, hw⟩ := DataW.trod_int ht h
  simp only [Lit.wf, Bool.and_eq_true, decide_eq_true_eq] at hw
  exact ⟨n, rfl, hw⟩

theorem Reads.bool {P : Program} {t : TypeId} (ht : P.underlying t = some .bool) : Reads P t Shape.bool := by
  intro H enc w spare held fuel cs x h
  cases fuel with
  | zero => simp [DataW.trod] at h
  | succ n =>
    have hc : ∃ b, cs = [.bool b] := by
      unfold DataW.trod at h
      rw [ht] at h
      split at h <;> simp_all
    obtain ⟨b, rfl⟩ := hc
    exact ⟨b, rfl⟩

theorem Reads.str {P : Program} {t : TypeId} (ht : P.underlying t = some .string) : Reads P t Shape.str := by
  intro H enc w spare held fuel cs x h
  cases fuel with
  | zero => simp [DataW.trod] at h
  | succ n =>
    unfold DataW.trod at h
    rw [ht] at h
    split at h <;> simp_all
    exact ⟨_, rfl, h.1⟩

theorem exists_list {α : Type} {R : Nat → α → Prop} : ∀ (n : Nat), (∀ i, i < n → ∃ x, R i x) → ∃ xs : List α, xs.length = n ∧ ∀ i x, xs[i]? = some x → R i x
  | 0, _ => ⟨[], rfl, fun i x h => by simp at h⟩
  | n + 1, h => by
    obtain ⟨xs, hl, hr⟩ := exists_list n fun i hi => h i (by omega)
    obtain ⟨y, hy⟩ := h n (by omega)
    refine ⟨xs ++ [y], by simp [hl], fun i x hx => ?_⟩
    rcases Nat.lt_or_ge i xs.length with hlt | hge
    · rw [List.getElem?_append_left hlt] at hx; exact hr i x hx
    · rw [List.getElem?_append_right hge] at hx
      have h0 : i - xs.length = 0 := by
        have := (List.getElem?_eq_some_iff.1 hx).1
        simpa using this
      rw [h0] at hx
      cases hx
      obtain rfl : i = n := by omega
      exact hy

theorem Reads.slice {α : Type} {sh : Shape α} {P : Program} {t e : TypeId} (ht : P.underlying t = some (.slice e)) (hc : P.cellsOf e = sh.size) (hr : Reads P e sh) : Reads P t sh.slice := by
  intro H enc w spare held fuel cs x h
  rcases DataW.trod_slice ht h with ⟨rfl, _⟩ | ⟨a, len, cap, elems, rest, n, _, rfl, _, _, hl, hm, hlen, hel, _, _⟩
  · exact ⟨[], Shape.slice_nil⟩
  · have hsp : 0 < len → a.spot = none := fun h0 => by
      have h1 := hel 0 h0
      rw [List.getElem?_eq_getElem (by omega)] at h1
      obtain ⟨cs', h2, _⟩ := Option.bind_eq_some_iff.1 h1
      obtain ⟨_, hl2, hcell⟩ := World.cells?_some h2
      have hpos : 0 < P.cellsOf e := by rw [hc]; exact sh.pos
      have h3 := hcell 0 hpos
      rw [List.getElem?_eq_getElem (by omega), Nat.zero_mul] at h3
      have e0 : (a.add 0).add 0 = a := by simp [Addr.add]
      rw [e0] at h3
      unfold World.cell? at h3
      split at h3
      · split at h3
        · cases h3
        · rename_i hs
          simpa using hs
      · cases h3
    have hi : ∀ i, i < len → ∃ y, ∃ es, Cells w a.block (a.off + i * sh.size) es ∧ sh.rep (fun b => b < w.heap.size) w es y ∧ a.spot = none := fun i hi => by
      have h1 := hel i hi
      rw [List.getElem?_eq_getElem (by omega)] at h1
      obtain ⟨cs', h2, h3⟩ := Option.bind_eq_some_iff.1 h1
      obtain ⟨y, hy⟩ := hr H enc w spare held n cs' _ h3
      obtain ⟨_, hl2, hcell⟩ := World.cells?_some h2
      have hpos : 0 < P.cellsOf e := by rw [hc]; exact sh.pos
      refine ⟨y, cs', fun j v hj => ?_, hy, hsp (by omega)⟩
      have hjl := (List.getElem?_eq_some_iff.1 hj).1
      have := hcell j (by omega)
      rw [hj, hc] at this
      have hsp := hsp (by omega)
      cases a with
      | mk ab ao as =>
        simp only at hsp
        subst hsp
        simpa [addr_lit, Nat.add_assoc] using this
    obtain ⟨xs, hxl, hxr⟩ := exists_list len hi
    subst hxl
    refine ⟨xs, some a, cap, rfl, hl, hm, fun i x hx => ?_⟩
    obtain ⟨es, h1, h2, h3⟩ := hxr i x hx
    have hb : a.block < w.heap.size := h1.lt (by rw [sh.len h2]; exact sh.pos)
    cases a with
    | mk ab ao as =>
      simp only at h3
      subst h3
      exact ⟨ab, ao, es, rfl, hb, h1, h2⟩

def ReadsAt {α : Type} (P : Program) (fs : List Field) (o : Nat) (sh : Shape α) : Prop :=
  ∀ (H : Type) (enc : TypeId × Value → H) (w : World) (spare : Nat → Bool) (held : Bool) (fuel : Nat) (cs : List Value), cs.length = o + sh.size →
    (∀ f ∈ fs, ∃ y, DataW.trod enc P w 0 spare held fuel f.type ((cs.drop f.offset).take (P.cellsOf f.type)) = some y) → ∃ y, sh.rep (fun b => b < w.heap.size) w (cs.drop o) y

theorem ReadsAt.one {α : Type} {P : Program} {f : Field} {o : Nat} {sh : Shape α} (ho : f.offset = o) (hc : P.cellsOf f.type = sh.size) (hr : Reads P f.type sh) : ReadsAt P [f] o sh := by
  intro H enc w spare held fuel cs hl h
  obtain ⟨y, hy⟩ := h f (List.mem_cons_self ..)
  obtain ⟨z, hz⟩ := hr H enc w spare held fuel _ _ hy
  refine ⟨z, ?_⟩
  rw [ho, hc, List.take_of_length_le (by rw [List.length_drop]; omega)] at hz
  exact hz

theorem ReadsAt.cons {α β : Type} {P : Program} {f : Field} {fs : List Field} {o : Nat} {s : Shape α} {t : Shape β} (ho : f.offset = o) (hc : P.cellsOf f.type = s.size) (hr : Reads P f.type s) (hk : ReadsAt P fs (o + s.size) t) :
    ReadsAt P (f :: fs) o (Shape.pair s t) := by
  intro H enc w spare held fuel cs hl h
  obtain ⟨y, hy⟩ := h f (List.mem_cons_self ..)
  obtain ⟨z, hz⟩ := hr H enc w spare held fuel _ _ hy
  have hl' : cs.length = o + (s.size + t.size) := hl
  obtain ⟨u, hu⟩ := hk H enc w spare held fuel cs (by omega) fun f' hf' => h f' (List.mem_cons_of_mem _ hf')
  rw [ho, hc] at hz
  refine ⟨(z, u), (cs.drop o).take s.size, cs.drop (o + s.size), ?_, hz, hu⟩
  rw [← List.drop_drop, List.take_append_drop]

theorem Reads.struct {α : Type} {P : Program} {t : TypeId} {fs : Array Field} {sh : Shape α} (ht : P.underlying t = some (.struct fs)) (hc : P.cellsOf t = sh.size) (hr : ReadsAt P fs.toList 0 sh) : Reads P t sh := by
  intro H enc w spare held fuel cs x h
  obtain ⟨xs, n, _, rfl, hl, hlen, hf⟩ := DataW.trod_struct ht h
  obtain ⟨y, hy⟩ := hr H enc w spare held n cs (by omega) fun f hfm => by
    obtain ⟨i, hi, he⟩ := List.mem_iff_getElem.1 hfm
    have := hf i f (by rw [← he]; simp at hi ⊢)
    rw [this]
    have hix : i < xs.length := by simp at hi; omega
    exact ⟨xs[i], by simp [hix]⟩
  exact ⟨y, by simpa using hy⟩

theorem Reads.map {α β : Type} {P : Program} {t : TypeId} {s : Shape α} {f : β → α} (h : Reads P t s) (hf : ∀ a, ∃ b, f b = a) : Reads P t (s.map f) := by
  intro H enc w spare held fuel cs x hx
  obtain ⟨y, hy⟩ := h H enc w spare held fuel cs x hx
  obtain ⟨z, rfl⟩ := hf y
  exact ⟨z, hy⟩

section
variable {H : Type} {enc : TypeId × Value → H} {P : Program} {W W' : World}

theorem Reads.trod {α : Type} {sh : Shape α} {t : TypeId} {sp : Nat → Bool} {hd : Bool} {v : Value} {d : DataW H} {p : List MemPlace} (hr : Reads P t sh) (h : DataW.Trod enc P W 0 sp hd t v d p) : ∃ y, sh.rep (fun b => b < W.heap.size) W v.cells.toList y := by
  obtain ⟨n, hn⟩ := h
  exact hr H enc W sp hd n _ _ hn

/-- an argument that is a slice -/
theorem Reads.sliceArg {α : Type} {sh : Shape α} {t e : TypeId} {r : Reach} {base : Nat} {sp : Nat → Bool} {hd : Bool} {v : Value} {d : DataW H} {p : List MemPlace} (hr : Reads P t sh.slice) (ht : P.underlying t = some (.slice e)) (hval : Value.okWide P W r base t v) (h : DataW.Trod enc P W 0 sp hd t v d p) :
    ∃ (a : Option Addr) (xs : List α) (c : Nat), v = .slice a xs.length c ∧ sh.slice.rep (fun b => b < W.heap.size) W [.slice a xs.length c] xs := by
  obtain ⟨a, len, cap, rfl⟩ := okWide_slice ht hval
  obtain ⟨xs, hx⟩ := hr.trod h
  obtain ⟨a', c', he⟩ := Shape.slice_form hx
  simp only [Value.slice.injEq] at he
  obtain ⟨rfl, rfl, rfl⟩ := he
  exact ⟨a, xs, cap, rfl, hx⟩
/-- .. a struct -/
theorem Reads.structArg {α : Type} {sh : Shape α} {t : TypeId} {fs : Array Field} {r : Reach} {base : Nat} {sp : Nat → Bool} {hd : Bool} {v : Value} {d : DataW H} {p : List MemPlace} (hr : Reads P t sh) (ht : P.underlying t = some (.struct fs)) (hval : Value.okWide P W r base t v) (h : DataW.Trod enc P W 0 sp hd t v d p) :
    ∃ (cs : List Value) (x : α), v = .agg cs.toArray ∧ sh.rep (fun b => b < W.heap.size) W cs x := by
  obtain ⟨cs, rfl, _⟩ := okWide_struct ht hval
  obtain ⟨x, hx⟩ := hr.trod h
  exact ⟨cs.toList, x, by simp, hx⟩

theorem trodAll_stays (hl : laidOutB P = true) (hb : Below W.heap.size W W') {sp : Nat → Bool} : ∀ {ts : List TypeId} {vs : List Value} {ds : List (DataW H)} {p : List MemPlace}, (∀ t ∈ ts, P.readableRec t = true ∧ t < P.types.size) → (∀ x ∈ p, x.block < W.heap.size) → (∀ x ∈ p, sp x.block = true) →
    DataW.TrodAll enc P W 0 (fun _ => true) true ts vs ds p → DataW.TrodAll enc P W' 0 sp true ts vs ds p
  | [], [], [], _, _, _, _, h => h
  | [], [], _ :: _, _, _, _, _, h => h.elim
  | [], _ :: _, _, _, _, _, _, h => h.elim
  | _ :: _, [], _, _, _, _, _, h => h.elim
  | _ :: _, _ :: _, [], _, _, _, _, h => h.elim
  | t :: ts, v :: vs, d :: ds, _, ht, hlt, hs, h => by
    obtain ⟨p, q, h1, h2, rfl⟩ := h
    exact ⟨p, q, WideElems.Trod_stays hl (ht t (List.mem_cons_self ..)).1 (ht t (List.mem_cons_self ..)).2 h1 (fun x hx => hb.same (hlt x (List.mem_append_left _ hx))) (fun x hx => hs x (List.mem_append_left _ hx)),
      trodAll_stays hl hb (fun t ht' => ht t (List.mem_cons_of_mem _ ht')) (fun x hx => hlt x (List.mem_append_right _ hx)) (fun x hx => hs x (List.mem_append_right _ hx)) h2, rfl⟩

theorem params_ok {ts : List TypeId} (h : (ts.all fun t => P.readableRec t && Nat.blt t P.types.size) = true) : ∀ t ∈ ts, P.readableRec t = true ∧ t < P.types.size := fun t ht => by
  have h1 := List.all_eq_true.1 h t ht
  simp only [Bool.and_eq_true, Nat.blt, Nat.ble_eq] at h1
  exact ⟨h1.1, h1.2⟩

/-- WHAT A LAW LEAVES: true; nothing old has turned -/
theorem post_true {f : Func} {s : ChangeSpec} {fresh handsOn again : Bool} {args : Array Value} {ds gs : List (DataW H)} {before : List MemPlace} {tb : TypeId} (hl : laidOutB P = true)
    (hps : ∀ t ∈ f.params.toList, P.readableRec t = true ∧ t < P.types.size) (hv : s.vars = []) (hW : DataW.Whole enc P f.params.toList s.vars false W args.toList ds gs before) (hb : Ext W W')
    (hfn : s.fn H (ds ++ gs) = { results := [.lit (.bool true)], args := ds }) (hrt : f.resultTypes = #[tb]) (htb : P.underlying tb = some .bool) : s.post enc P f false fresh handsOn again W args (.bool true) W' := by
  have hW' := hW
  obtain ⟨p, q, hA, hV, rfl, hfz, hnd⟩ := hW
  rw [hv] at hV
  obtain ⟨rfl, rfl⟩ := trodVars_none hV
  have hlt : ∀ x ∈ p, x.block < W.heap.size := fun x hx => hW'.lt x (List.mem_append_left _ hx)
  have hres : ∀ (b : Nat) (sp : Nat → Bool) (hd : Bool), DataW.TrodAll enc P W' b sp hd f.resultTypes.toList ((Value.bool true).resultList f.resultTypes.size) (s.fn H (ds ++ [])).results [] := fun b sp hd => by
    rw [hfn, hrt]
    exact ⟨[], [], shut_bool htb true, rfl, rfl⟩
  have hargs : ∀ sp : Nat → Bool, (∀ x ∈ p, sp x.block = true) → DataW.TrodAll enc P W' 0 sp true f.params.toList args.toList (s.fn H (ds ++ [])).args p := fun sp hs => by
    rw [hfn]
    exact trodAll_stays hl hb hps hlt hs hA
  have hvars : ∀ sp : Nat → Bool, DataW.TrodVars enc P W' sp s.vars (s.fn H (ds ++ [])).vars [] := fun sp => by
    rw [hv, hfn]
    rfl
  rw [List.append_nil] at hW' hfz hnd
  refine ⟨ds, [], p, [], p, [], hW', hres _ _ _, hargs _ (fun x hx => by simpa using hlt x hx), hvars _, World.keptBut_mono (fun x hx => ⟨hx, .inr (.inl hx)⟩) (hb.frame _), fun _ => ?_⟩
  refine ⟨ok_one hrt rfl (okWide_bool_mk htb true), _, _, ([] ++ p) ++ [], ⟨[] ++ p, [], trodAll_append (hargs _ (fun _ _ => rfl)) (hres _ _ _), hvars _, rfl, ?_, ?_⟩, ?_⟩
  · intro b off hp
    have hp : MemPlace.cell b off ∈ p := by simpa using hp
    have hblk := hlt _ hp
    rw [hb.frozen (p := ⟨b, off, none⟩) hblk]
    exact hfz b off hp
  · intro h
    cases h
  · intro x hx _
    simpa using hx
end
end Go.BX
