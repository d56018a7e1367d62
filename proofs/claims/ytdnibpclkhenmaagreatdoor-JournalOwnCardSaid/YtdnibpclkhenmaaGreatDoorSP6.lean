import Derived.Test.YtdnibpclkhenmaaGreatDoorSP5
namespace Go.Proofs.YtdnibpclkhenmaaGreatDoor
open Go.BX
def strm (D : DiskD) (p : Nat) : Bs := match D.files.find? (fun f => f.p == p) with
 | some f => readG (gX f.now) f.size.toNat 0
 | none => []
theorem strm_of {D : DiskD} (hd : DI D) {f : FileD} (hf : f ∈ D.files) : strm D f.p = readG (gX f.now) f.size.toNat 0 := by
 unfold strm
 cases h : D.files.find? (fun g => g.p == f.p) with
 | none =>
  have := List.find?_eq_none.1 h f hf
  simp at this
 | some g =>
  have a := List.find?_some h
  have b := List.mem_of_find?_eq_some h
  rw [hd.one b hf (by simpa using a)]
theorem strm_sync (D : DiskD) (q p : Nat) : strm (syncD D q) p = strm D p := by
 unfold strm
 show (match (D.files.map fun f => if f.p = q then syncF q D.steps f else f).find? (fun f => f.p == p) with | some f => readG (gX f.now) f.size.toNat 0 | none => []) = _
 rw [List.find?_map]
 have e : ((fun f : FileD => f.p == p) ∘ fun f => if f.p = q then syncF q D.steps f else f) = fun f : FileD => f.p == p := by
  funext f
  show ((if f.p = q then syncF q D.steps f else f).p == p) = _
  split <;> rfl
 rw [e]
 cases D.files.find? (fun f => f.p == p) with
 | none => rfl
 | some f =>
  show readG (gX (if f.p = q then syncF q D.steps f else f).now) (if f.p = q then syncF q D.steps f else f).size.toNat 0 = _
  split <;> rfl
theorem NowA.read {D : DiskD} (hd : DI D) {p k : Nat} {A : SP} (h : NowA D p A) {x : ByteArray} (hx : mfind x (nmAt D k) = some (some p)) : ∃ g n, (∀ i, A i (g i)) ∧ (∀ j, n ≤ j → g j = zeroSec) ∧ strm D p = readG g n 0 := by
 obtain ⟨f, hf, rfl, hA⟩ := h
 exact ⟨_, _, hA, hd.zero hf hx, strm_of hd hf⟩
theorem FilA.fix {D : DiskD} (hd : DI D) {p k : Nat} {x : ByteArray} (hx : mfind x (nmAt D k) = some (some p)) : ∃ A, FilA (syncD D p) p A ∧ SegA A (allW (strm D p)) (allW (strm D p)) := by
 obtain ⟨f, hf, rfl⟩ := hd.fileAt hx
 refine ⟨FixA f.now, FilA.synced (hd.nsAt hx) ⟨f, hf, rfl, fun i => rfl⟩, ?_⟩
 rw [strm_of hd hf]
 exact segA_fix (hd.zero hf hx)
structure PV (D : DiskD) (nm : ByteArray) (V : VV) : Prop where
 nowN : NV nm (nmAt D D.steps.length) V
 wf : WfV V
 segs : ∀ s ∈ V.segs, ∃ A, NowA D s.p A ∧ SegA A s.lo s.hi
 base : V.last ≠ 0 → ∃ A, FilA D V.pc A ∧ BaseA A V.B
 emp : V.segs = [] → ∀ k, NV nm (nmAt D k) V
theorem PV.baseRd {D : DiskD} (hd : DI D) {nm : ByteArray} {V : VV} (h : PV D nm V) (h0 : V.last ≠ 0) : (nextF (strm D V.pc)).getD [] = V.B := by
 obtain ⟨A, a, b⟩ := h.base h0
 have hx := h.nowN.c2 h0
 obtain ⟨g, n, c, d, e⟩ := (a.now (hd.nsAt hx)).read hd hx
 rw [e]
 exact b g n c d
theorem PV.segRd {D : DiskD} (hd : DI D) {nm : ByteArray} {V : VV} (h : PV D nm V) {s : Sg} (hs : s ∈ V.segs) : s.lo <+: allW (strm D s.p) ∧ allW (strm D s.p) <+: s.hi := by
 obtain ⟨A, a, b⟩ := h.segs s hs
 obtain ⟨g, n, c, d, e⟩ := a.read hd (h.nowN.s2 s hs)
 rw [e]
 exact b g n c d
def recsV (D : DiskD) (V : VV) : List Bs := V.segs.flatMap fun s => allW (strm D s.p)
theorem flat_btw {f : Sg → List Bs} : ∀ {l : List Sg}, (∀ s ∈ l, s.lo <+: f s ∧ f s <+: s.hi) → (∀ s ∈ l.dropLast, s.lo = s.hi) → l.flatMap (·.lo) <+: l.flatMap f ∧ l.flatMap f <+: l.flatMap (·.hi)
 | [], _, _ => ⟨List.prefix_refl _, List.prefix_refl _⟩
 | [s], h, _ => by
  simpa using h s (List.mem_cons_self ..)
 | s :: t :: l, h, he => by
  have e := he s (by rw [List.dropLast_cons_cons]; exact List.mem_cons_self ..)
  obtain ⟨h1, h2⟩ := h s (List.mem_cons_self ..)
  have e2 : f s = s.hi := h2.eq_of_length (Nat.le_antisymm h2.length_le (e ▸ h1.length_le))
  obtain ⟨k1, k2⟩ := flat_btw (f := f) (l := t :: l) (fun u hu => h u (List.mem_cons_of_mem _ hu)) (fun u hu => he u (by rw [List.dropLast_cons_cons]; exact List.mem_cons_of_mem _ hu))
  refine ⟨?_, ?_⟩
  · rw [List.flatMap_cons (x := s), List.flatMap_cons (x := s), e, e2]; exact (List.prefix_append_right_inj _).2 k1
  · rw [List.flatMap_cons (x := s), List.flatMap_cons (x := s), e2]; exact (List.prefix_append_right_inj _).2 k2
theorem PV.recs {D : DiskD} (hd : DI D) {nm : ByteArray} {V : VV} (h : PV D nm V) : V.lo <+: recsV D V ∧ recsV D V <+: V.hi := flat_btw (fun s hs => h.segRd hd hs) h.wf.ex
def gV (V : VV) : Nat := ((V.segs.getLast?).map (·.n)).getD V.last
def fixV (D : DiskD) (V : VV) : VV := { V with segs := V.segs.map fun s => ⟨s.n, s.p, allW (strm D s.p), allW (strm D s.p)⟩ }
theorem fixV_hi (D : DiskD) (V : VV) : (fixV D V).hi = recsV D V := by
 unfold fixV VV.hi recsV
 rw [List.flatMap_map]
structure FdS (D0 : DiskD) (nm : ByteArray) (V : VV) (G : Nat) (P : Bs → List Bs → List Bs → Prop) (n m : Nat) (D : DiskD) : Prop where
 di : DI D
 al : Al D n
 stp : Stp nm D0 D
 cp : Cp 1 D0 D
 pv : PV D nm V
 same : ∀ p, strm D p = strm D0 p
 fix : ∀ s ∈ V.segs.take m, ∃ A, FilA D s.p A ∧ SegA A (allW (strm D0 s.p)) (allW (strm D0 s.p))
 nms : 0 < m → ∀ k, NV nm (nmAt D k) V
 js : JS D nm G P
 now : nmAt D D.steps.length = nmAt D0 D0.steps.length
 nw : D.now = D0.now
theorem FdS.start {D : DiskD} (hd : DI D) {nm : ByteArray} {V : VV} {G n : Nat} {P : Bs → List Bs → List Bs → Prop} (ha : Al D n) (h : PV D nm V) (hj : JS D nm G P) : FdS D nm V G P n 0 D :=
 ⟨hd, ha, Stp.refl _ _, Cp.refl _ _, h, fun _ => rfl, fun s hs => (by cases hs), fun h0 => absurd h0 (Nat.lt_irrefl 0), hj, rfl, rfl⟩
theorem FdS.sync {D0 D D' : DiskD} {nm : ByteArray} {V : VV} {G n m : Nat} {P : Bs → List Bs → List Bs → Prop} (h : FdS D0 nm V G P n m D) {s : Sg} (hm : V.segs[m]? = some s) {e : Int} (hs : SyncR D (sN nm s.n) e D') :
 (e = 70 ∧ Dd D0 D' nm G P) ∨ (e = 0 ∧ FdS D0 nm V G P n (m + 1) D') := by
 have hmem : s ∈ V.segs := List.mem_of_getElem? hm
 have hx := h.pv.nowN.s2 s hmem
 rcases sync_out h.di h.al hx hs with ⟨rfl, rfl, har⟩ | ⟨rfl, ha', hd', rfl⟩
 · exact .inl ⟨rfl, Dd.of h.di h.al h.js h.stp h.cp har⟩
 · refine .inr ⟨rfl, hd', ha', h.stp.trans (Stp.sync nm _), h.cp.then (Cp.sync _ _), ⟨by rw [len_sync]; exact h.pv.nowN, h.pv.wf, fun t ht => ?_, fun c => ?_, fun e => ?_⟩, fun p => by rw [strm_sync, h.same], fun t ht => ?_, fun _ k => by rw [nmAt_sync]; exact h.pv.nowN, h.js.sync _, by rw [len_sync, h.now], h.nw⟩
   · obtain ⟨A, a, b⟩ := h.pv.segs t ht
     exact ⟨A, a.sync _, b⟩
   · obtain ⟨A, a, b⟩ := h.pv.base c
     exact ⟨A, a.sync _, b⟩
   · rw [e] at hmem; cases hmem
   · rw [List.take_add_one, hm] at ht
     rcases List.mem_append.1 ht with ht | ht
     · obtain ⟨A, a, b⟩ := h.fix t ht
       exact ⟨A, a.sync _, b⟩
     · have : t = s := by simpa using ht
       subst this
       have := FilA.fix h.di hx
       rwa [h.same] at this
theorem FdS.done {D0 D : DiskD} {nm : ByteArray} {V : VV} {G n : Nat} {P : Bs → List Bs → List Bs → Prop} (h : FdS D0 nm V G P n V.segs.length D) : LV D nm (fixV D0 V) none (gV V) := by
 have hNV : ∀ {N}, NV nm N V → NV nm N (fixV D0 V) := fun {N} a => by
  refine ⟨a.c1, a.c2, fun k hk hx => ?_, fun s hs => ?_⟩
  · obtain ⟨s, hs, e⟩ := a.s1 k hk hx
    exact ⟨_, List.mem_map.2 ⟨s, hs, rfl⟩, e⟩
  · obtain ⟨t, ht, rfl⟩ := List.mem_map.1 hs
    exact a.s2 t ht
 have hwf : WfV (fixV D0 V) := by
  refine ⟨fun s hs => ?_, ?_, fun s hs => ?_, h.pv.wf.b0⟩
  · obtain ⟨t, ht, rfl⟩ := List.mem_map.1 hs
    exact h.pv.wf.gt t ht
  · exact List.pairwise_map.2 h.pv.wf.asc
  · obtain ⟨t, ht, rfl⟩ := List.mem_map.1 ((List.dropLast_sublist _).subset hs)
    rfl
 refine ⟨fun k => .inl ?_, by rw [VV.addO_none]; exact hNV h.pv.nowN, hwf, fun s hs => ?_, ⟨fun s hs => ?_, h.pv.base⟩, ?_, fun c hc => (by cases hc)⟩
 · cases hl : V.segs with
   | nil => exact hNV (h.pv.emp hl k)
   | cons s l => exact hNV (h.nms (by rw [hl]; exact Nat.succ_pos _) k)
 · obtain ⟨t, ht, rfl⟩ := List.mem_map.1 hs
   rfl
 · obtain ⟨t, ht, rfl⟩ := List.mem_map.1 hs
   exact h.fix t (by rw [List.take_length]; exact ht)
 · have key : ∀ (l : List Sg) (b : Nat), l.Pairwise (fun s t => s.n < t.n) → (∀ s ∈ l, b < s.n) → b ≤ ((l.getLast?).map (·.n)).getD b ∧ ∀ s ∈ l, s.n ≤ ((l.getLast?).map (·.n)).getD b := fun l => by
    induction l with
    | nil => exact fun b _ _ => ⟨Nat.le_refl _, fun s hs => (by cases hs)⟩
    | cons s l ih =>
     intro b hp hb
     obtain ⟨a, g⟩ := List.pairwise_cons.1 hp
     obtain ⟨d, f⟩ := ih s.n g a
     have e : (((s :: l).getLast?).map (·.n)).getD b = ((l.getLast?).map (·.n)).getD s.n := by
      cases l with
      | nil => rfl
      | cons t l => rw [List.getLast?_cons_cons]; cases ht : (t :: l).getLast? with
       | none => rw [List.getLast?_eq_none_iff] at ht; cases ht
       | some u => rfl
     rw [e]
     have := hb s (List.mem_cons_self ..)
     refine ⟨by omega, fun t ht => ?_⟩
     rcases List.mem_cons.1 ht with rfl | ht
     · exact d
     · exact f t ht
   obtain ⟨d, f⟩ := key V.segs V.last h.pv.wf.asc h.pv.wf.gt
   refine ⟨d, fun s hs => ?_⟩
   obtain ⟨t, ht, rfl⟩ := List.mem_map.1 hs
   exact f t ht
theorem JS.pv {D : DiskD} (hd : DI D) {nm : ByteArray} {G : Nat} {P : Bs → List Bs → List Bs → Prop} (h : JS D nm G P) (hs : D.steps = []) : ∃ V, PV D nm V ∧ (V.last ≤ G ∧ ∀ s ∈ V.segs, s.n ≤ G) ∧ P V.B V.lo V.hi := by
 obtain ⟨V, a, c, b, d, f⟩ := h D.steps.length
 refine ⟨V, ⟨a, c, fun s hs => ?_, b.base, fun _ k => ?_⟩, d, f⟩
 · obtain ⟨A, g, i⟩ := b.segs s hs
   exact ⟨A, g.now (hd.nsAt (a.s2 s hs)), i⟩
 · have e : nmAt D k = nmAt D D.steps.length := by
    unfold nmAt nmL
    rw [hs, List.take_nil, List.take_nil]
   rw [e]; exact a
theorem JS.rs {D : DiskD} {nm : ByteArray} {G : Nat} {P : Bs → List Bs → List Bs → Prop} (h : JS D nm G P) (hs : D.steps = []) : ∃ V, RS D nm V ∧ (V.last ≤ G ∧ ∀ s ∈ V.segs, s.n ≤ G) ∧ P V.B V.lo V.hi := by
 obtain ⟨V, a, b, c, d, f⟩ := h D.steps.length
 refine ⟨V, ⟨fun k => ?_, b, c⟩, d, f⟩
 have e : nmAt D k = nmAt D D.steps.length := by
  unfold nmAt nmL
  rw [hs, List.take_nil, List.take_nil]
 rw [e]; exact a
theorem RS.pv {D : DiskD} (hd : DI D) {nm : ByteArray} {V : VV} (h : RS D nm V) : PV D nm V :=
 ⟨h.names _, h.wf, fun s hs => by obtain ⟨A, k1, k2⟩ := h.fv.segs s hs; exact ⟨A, k1.now (hd.nsAt ((h.names D.steps.length).s2 s hs)), k2⟩, h.fv.base, fun _ k => h.names k⟩
theorem RS.js {D : DiskD} {nm : ByteArray} {V : VV} {G : Nat} (h : RS D nm V) (h1 : V.last ≤ G) (h2 : ∀ s ∈ V.segs, s.n ≤ G) : JS D nm G fun B lo hi => B = V.B ∧ lo = V.lo ∧ hi = V.hi :=
 fun k => ⟨V, h.names k, h.wf, h.fv, ⟨h1, h2⟩, rfl, rfl, rfl⟩
def hiC : Option Sg → Option Sg
 | none => none
 | some c => some ⟨c.n, c.p, c.hi, c.hi⟩
theorem LJ.pv {D : DiskD} (hd : DI D) {nm : ByteArray} {V : VV} {cur : Option Sg} {g : Nat} (h : LJ D nm V cur g) : PV D nm (V.addO (hiC cur)) := by
 cases cur with
 | none =>
  rw [show hiC none = none from rfl, VV.addO_none]
  have b := h.lv.nowN
  rw [VV.addO_none] at b
  refine ⟨b, h.lv.wf, fun s hs => ?_, h.lv.fv.base, fun _ k => ?_⟩
  · obtain ⟨A, d, f⟩ := h.lv.fv.segs s hs
    exact ⟨A, d.now (hd.nsAt (b.s2 s hs)), f⟩
  · rcases h.lv.names k with a | a
    · exact a
    · rwa [VV.addO_none] at a
 | some c =>
  obtain ⟨_, _, _, i, _⟩ := h.lv.cur c rfl
  have hseg := h.lv.segN
  have hN : NV nm (nmAt D D.steps.length) (V.addO (hiC (some c))) := by
   have a := h.lv.nowN
   refine ⟨a.c1, a.c2, fun n hn hx => ?_, fun s hs => ?_⟩
   · obtain ⟨s, hs, e⟩ := a.s1 n hn hx
     rcases List.mem_append.1 hs with hs | hs
     · exact ⟨s, List.mem_append_left _ hs, e⟩
     · have : s = c := by simpa using hs
       subst this
       exact ⟨_, List.mem_append_right _ (List.mem_singleton_self _), e⟩
   · rcases List.mem_append.1 hs with hs | hs
     · exact a.s2 s (List.mem_append_left _ hs)
     · have : s = ⟨c.n, c.p, c.hi, c.hi⟩ := by simpa [hiC] using hs
       subst this
       exact a.s2 c (List.mem_append_right _ (List.mem_singleton_self _))
  refine ⟨hN, ?_, fun s hs => ?_, h.lv.fv.base, fun e => ?_⟩
  · have hw := h.lv.wfO
    refine ⟨fun s hs => ?_, ?_, fun s hs => ?_, hw.b0⟩
    · rcases List.mem_append.1 hs with hs | hs
      · exact hw.gt s (List.mem_append_left _ hs)
      · have : s = ⟨c.n, c.p, c.hi, c.hi⟩ := by simpa [hiC] using hs
        subst this
        exact hw.gt c (List.mem_append_right _ (List.mem_singleton_self _))
    · have := hw.asc
      change (V.segs ++ [c]).Pairwise _ at this
      show (V.segs ++ [_]).Pairwise _
      obtain ⟨j, -, l⟩ := List.pairwise_append.1 this
      refine List.pairwise_append.2 ⟨j, List.pairwise_singleton _ _, fun s hs t ht => ?_⟩
      rw [List.mem_singleton.1 ht]
      exact l s hs c (List.mem_singleton_self _)
    · have e : (V.addO (hiC (some c))).segs.dropLast = V.segs := List.dropLast_concat
      rw [e] at hs
      exact h.lv.ex s hs
  · rcases List.mem_append.1 hs with hs | hs
    · obtain ⟨A, d, f⟩ := h.lv.fv.segs s hs
      exact ⟨A, d.now (hd.nsAt (hN.s2 s (List.mem_append_left _ hs))), f⟩
    · have : s = ⟨c.n, c.p, c.hi, c.hi⟩ := by simpa [hiC] using hs
      subst this
      exact ⟨_, h.now c rfl, segA_btw i (List.prefix_refl _)⟩
  · have : (V.addO (hiC (some c))).segs = V.segs ++ [_] := rfl
    rw [this] at e
    simp at e
open Classical in
noncomputable def numB (nm kd x : ByteArray) : Nat := if h : ∃ n, 1 ≤ n ∧ x = fN nm kd n then Classical.choose h else 0
theorem numB_yes {nm kd : ByteArray} (hp : PlainB nm) (hk : kd = kS ∨ kd = kC) {n : Nat} (h1 : 1 ≤ n) : numB nm kd (fN nm kd n) = n := by
 have h : ∃ m, 1 ≤ m ∧ fN nm kd n = fN nm kd m := ⟨n, h1, rfl⟩
 unfold numB
 rw [dif_pos h]
 exact (fN_inj hp hp hk hk (Classical.choose_spec h).2).2.2.symm
theorem numB_no {nm kd x : ByteArray} (h : ∀ n, 1 ≤ n → x ≠ fN nm kd n) : numB nm kd x = 0 := by
 unfold numB
 rw [dif_neg]
 rintro ⟨n, a, e⟩
 exact h n a e
theorem numB_of {nm kd x : ByteArray} {n : Nat} (h : numB nm kd x = n) (h1 : 1 ≤ n) : x = fN nm kd n := by
 unfold numB at h
 split at h
 · rename_i hh
   rw [← h]
   exact (Classical.choose_spec hh).2
 · omega
noncomputable def lastF (nm : ByteArray) (l : List ByteArray) : Nat := l.foldl (fun a x => max a (numB nm kC x)) 0
theorem lastF_snoc (nm : ByteArray) (l : List ByteArray) (x : ByteArray) : lastF nm (l ++ [x]) = max (lastF nm l) (numB nm kC x) := by
 unfold lastF
 rw [List.foldl_append]; rfl
theorem lastF_spec (nm : ByteArray) (l : List ByteArray) : (∀ x ∈ l, numB nm kC x ≤ lastF nm l) ∧ (lastF nm l = 0 ∨ ∃ x ∈ l, numB nm kC x = lastF nm l) := by
 have key : ∀ (l : List ByteArray) (a : Nat), a ≤ l.foldl (fun a x => max a (numB nm kC x)) a ∧ (∀ x ∈ l, numB nm kC x ≤ l.foldl (fun a x => max a (numB nm kC x)) a) ∧ (l.foldl (fun a x => max a (numB nm kC x)) a = a ∨ ∃ x ∈ l, numB nm kC x = l.foldl (fun a x => max a (numB nm kC x)) a) := fun l => by
  induction l with
  | nil => exact fun a => ⟨Nat.le_refl _, fun x hx => (by cases hx), .inl rfl⟩
  | cons y l ih =>
   intro a
   obtain ⟨_, b, c⟩ := ih (max a (numB nm kC y))
   rw [List.foldl_cons]
   refine ⟨by omega, fun x hx => ?_, ?_⟩
   · rcases List.mem_cons.1 hx with rfl | hx
     · omega
     · exact b x hx
   · rcases c with h | ⟨x, hx, h⟩
     · rw [h]
       rcases Nat.le_total a (numB nm kC y) with q | q
       · exact .inr ⟨y, List.mem_cons_self .., by omega⟩
       · exact .inl (by omega)
     · exact .inr ⟨x, List.mem_cons_of_mem _ hx, h⟩
 obtain ⟨-, d, e⟩ := key l 0
 exact ⟨d, e⟩
theorem lastF_eq {D : DiskD} (hd : DI D) {nm : ByteArray} (hp : PlainB nm) {V : VV} (h : NV nm (nmAt D D.steps.length) V) {ns : List ByteArray} (hns : ∀ x, x ∈ ns ↔ mfind x (nmAt D D.steps.length) ≠ none) : lastF nm ns = V.last := by
 obtain ⟨a, b⟩ := lastF_spec nm ns
 apply Nat.le_antisymm
 · rcases b with e | ⟨x, hx, e⟩
   · omega
   · rcases Nat.eq_zero_or_pos (lastF nm ns) with q | q
     · omega
     · have c := numB_of e q
       rw [c] at hx
       exact h.c1 _ ((hns _).1 hx)
 · rcases Nat.eq_zero_or_pos V.last with q | q
   · omega
   · have := a (cN nm V.last) ((hns _).2 (by rw [h.c2 (by omega)]; nofun))
     rwa [numB_yes hp (.inr rfl) q] at this
noncomputable def segF (nm : ByteArray) (b : Nat) (l : List ByteArray) : List Nat := l.filterMap fun x => if b < numB nm kS x then some (numB nm kS x) else none
theorem segF_snoc (nm : ByteArray) (b : Nat) (l : List ByteArray) (x : ByteArray) : segF nm b (l ++ [x]) = segF nm b l ++ if b < numB nm kS x then [numB nm kS x] else [] := by
 unfold segF
 rw [List.filterMap_append]
 congr 1
 rw [List.filterMap_cons]
 split <;> rename_i h <;> split at h <;> first | cases h | skip
 · rename_i h2; rw [if_neg h2]; rfl
 · rename_i h2; rw [if_pos h2]; rfl
theorem segF_perm {D : DiskD} (hd : DI D) {nm : ByteArray} (hp : PlainB nm) {V : VV} (hw : WfV V) (h : NV nm (nmAt D D.steps.length) V) {ns : List ByteArray} (hnd : ns.Nodup) (hns : ∀ x, x ∈ ns ↔ mfind x (nmAt D D.steps.length) ≠ none) : (segF nm V.last ns).Perm (V.segs.map (·.n)) := by
 have hm : ∀ n, n ∈ segF nm V.last ns ↔ n ∈ V.segs.map (·.n) := fun n => by
  unfold segF
  rw [List.mem_filterMap, List.mem_map]
  constructor
  · rintro ⟨x, hx, e⟩
    split at e
    · rename_i hl
      injection e with e
      rw [e] at hl
      have g := numB_of e (by omega)
      rw [g] at hx
      obtain ⟨s, hs, i⟩ := h.s1 n hl ((hns _).1 hx)
      exact ⟨s, hs, i⟩
    · cases e
  · rintro ⟨s, hs, rfl⟩
    have c := hw.gt s hs
    refine ⟨sN nm s.n, (hns _).2 (by rw [h.s2 s hs]; nofun), ?_⟩
    rw [numB_yes hp (.inl rfl) (by omega), if_pos c]
 have d : (segF nm V.last ns).Nodup := by
  unfold segF
  refine List.Pairwise.filterMap _ (S := fun a b => a ≠ b) (fun a a' hne b hb b' hb' => ?_) hnd
  rintro rfl
  split at hb
  · rename_i c
    injection hb with hb
    split at hb'
    · rename_i h2
      injection hb' with hb'
      exact hne ((numB_of hb (by omega)).trans (numB_of hb' (by omega)).symm)
    · cases hb'
  · cases hb
 have f : (V.segs.map (·.n)).Nodup := List.pairwise_map.2 (hw.asc.imp fun h => Nat.ne_of_lt h)
 exact (List.perm_ext_iff_of_nodup d f).2 hm
def leastF (g : Nat) (l : List Nat) : Nat := l.foldl (fun a n => if g < n ∧ (a = 0 ∨ n < a) then n else a) 0
theorem leastF_snoc (g : Nat) (l : List Nat) (n : Nat) : leastF g (l ++ [n]) = if g < n ∧ (leastF g l = 0 ∨ n < leastF g l) then n else leastF g l := by
 unfold leastF
 rw [List.foldl_append]; rfl
theorem leastF_spec {g m : Nat} : ∀ {l : List Nat}, m ∈ l → g < m → (∀ n ∈ l, g < n → m ≤ n) → leastF g l = m := by
 have key : ∀ (l : List Nat) (a : Nat), (a = 0 ∨ g < a) → (a ≠ 0 → m ≤ a) → g < m → (∀ n ∈ l, g < n → m ≤ n) → (m ∈ l ∨ a = m) → l.foldl (fun a n => if g < n ∧ (a = 0 ∨ n < a) then n else a) a = m := fun l => by
  induction l with
  | nil =>
   intro a _ _ _ _ h
   rcases h with h | h
   · cases h
   · exact h
  | cons n l ih =>
   intro a f b hg hl h
   rw [List.foldl_cons]
   have hln := hl n (List.mem_cons_self ..)
   split
   · rename_i hc
     refine ih n (.inr hc.1) (fun _ => hln hc.1) hg (fun k hk => hl k (List.mem_cons_of_mem _ hk)) ?_
     rcases h with h | h
     · rcases List.mem_cons.1 h with e | h
       · exact .inr e.symm
       · exact .inl h
     · right
       have := hln hc.1
       have c := hc.2
       omega
   · rename_i hc
     refine ih a f b hg (fun k hk => hl k (List.mem_cons_of_mem _ hk)) ?_
     rcases h with h | h
     · rcases List.mem_cons.1 h with e | h
       · right
         subst e
         have d : ¬ (a = 0 ∨ m < a) := fun q => hc ⟨hg, q⟩
         have c := b (by omega)
         omega
       · exact .inl h
     · exact .inr h
 intro l b d c
 exact key l 0 (.inl rfl) (fun h => absurd rfl h) d c (.inl b)
def gAt (V : VV) : Nat → Nat
 | 0 => V.last
 | m + 1 => ((V.segs[m]?).map (·.n)).getD 0
theorem leastF_seg {V : VV} (hw : WfV V) {sl : List Nat} (hp : sl.Perm (V.segs.map (·.n))) {m : Nat} {s : Sg} (hm : V.segs[m]? = some s) : leastF (gAt V m) sl = s.n := by
 have hmem : s ∈ V.segs := List.mem_of_getElem? hm
 have hlt : ∀ {i j : Nat} {a b : Sg}, V.segs[i]? = some a → V.segs[j]? = some b → i < j → a.n < b.n := fun {i j a b} hi hj hij => by
  obtain ⟨d, rfl⟩ := List.getElem?_eq_some_iff.1 hi
  obtain ⟨c, rfl⟩ := List.getElem?_eq_some_iff.1 hj
  exact List.pairwise_iff_getElem.1 hw.asc i j d c hij
 have hg : gAt V m < s.n := by
  cases m with
  | zero => exact hw.gt s hmem
  | succ k =>
   obtain ⟨d, -⟩ := List.getElem?_eq_some_iff.1 hm
   have c : V.segs[k]? = some V.segs[k] := List.getElem?_eq_getElem (by omega)
   show ((V.segs[k]?).map (·.n)).getD 0 < s.n
   rw [c]
   exact hlt c hm (Nat.lt_succ_self k)
 refine leastF_spec (hp.mem_iff.2 (List.mem_map.2 ⟨s, hmem, rfl⟩)) hg fun n hn hgn => ?_
 obtain ⟨t, ht, rfl⟩ := List.mem_map.1 (hp.mem_iff.1 hn)
 obtain ⟨j, hj⟩ := List.getElem?_of_mem ht
 rcases Nat.lt_trichotomy j m with h | rfl | h
 · exfalso
   cases m with
   | zero => omega
   | succ k =>
    obtain ⟨d, -⟩ := List.getElem?_eq_some_iff.1 hm
    have c : V.segs[k]? = some V.segs[k] := List.getElem?_eq_getElem (by omega)
    change ((V.segs[k]?).map (·.n)).getD 0 < t.n at hgn
    rw [c] at hgn
    change V.segs[k].n < t.n at hgn
    rcases Nat.lt_or_ge j k with q | q
    · have := hlt hj c q; omega
    · have : j = k := by omega
      subst this
      have e : some V.segs[j] = some t := c.symm.trans hj
      injection e with e
      rw [e] at hgn
      omega
 · have : some s = some t := hm.symm.trans hj
   injection this with this
   rw [this]
   exact Nat.le_refl _
 · exact Nat.le_of_lt (hlt hm hj h)
theorem gAt_end (V : VV) : gAt V V.segs.length = gV V := by
 unfold gV
 rw [List.getLast?_eq_getElem?]
 cases h : V.segs with
 | nil => show gAt V 0 = _; rfl
 | cons s l =>
  show gAt V (l.length + 1) = _
  unfold gAt
  rw [h, List.length_cons, Nat.add_sub_cancel]
  rw [List.getElem?_eq_getElem (l := s :: l) (i := l.length) (by simp)]
  show ((s :: l)[l.length]?.map (·.n)).getD 0 = _
  rw [List.getElem?_eq_getElem (l := s :: l) (i := l.length) (by simp)]
  rfl
theorem readG_len {g : Nat → Sec} : ∀ {n i : Nat}, (readG g n i).length ≤ 63 * n
 | 0, _ => Nat.le_refl _
 | n + 1, i => by
  rw [readG]
  split
  · exact Nat.zero_le _
  · rename_i h
    have h1 : (bytesS (g i) (cntS (g i))).length ≤ 63 := by
     unfold bytesS
     rw [List.length_take]; omega
    split
    · rw [List.append_nil]; omega
    · have := readG_len (g := g) (n := n) (i := i + 1)
      rw [List.length_append]; omega
theorem DI.fsz {D : DiskD} (h : DI D) {f : FileD} (hf : f ∈ D.files) : ∃ sz : Nat, f.size = (sz : Int) ∧ sz ≤ 65536 ∧ f.size.toNat = sz := by
 obtain ⟨-, -, -, -, _, _⟩ := h.ok.cr.files f hf
 exact ⟨f.size.toNat, by omega, by omega, rfl⟩
theorem PV.rdC {D : DiskD} (hd : DI D) {nm : ByteArray} {V : VV} (h : PV D nm V) (h0 : V.last ≠ 0) : ∃ (f : FileD) (sz : Nat), f ∈ D.files ∧ mfind (cN nm V.last) D.now = some (some f.p) ∧ f.size = (sz : Int) ∧ sz ≤ 65536 ∧ (nextF (readG (gX f.now) sz 0)).getD [] = V.B ∧ (readG (gX f.now) sz 0).length ≤ 100000000 := by
 have hx := h.nowN.c2 h0
 obtain ⟨f, hf, e⟩ := hd.fileAt hx
 obtain ⟨sz, a, b, c⟩ := hd.fsz hf
 have := h.baseRd hd h0
 rw [← e, strm_of hd hf, c] at this
 have hl := readG_len (g := gX f.now) (n := sz) (i := 0)
 exact ⟨f, sz, hf, by rw [nm_now hd.ok, e]; exact hx, a, b, this, by omega⟩
theorem PV.rdS {D : DiskD} (hd : DI D) {nm : ByteArray} {V : VV} (h : PV D nm V) {s : Sg} (hs : s ∈ V.segs) : ∃ (f : FileD) (sz : Nat), f ∈ D.files ∧ mfind (sN nm s.n) D.now = some (some f.p) ∧ f.size = (sz : Int) ∧ sz ≤ 65536 ∧ readG (gX f.now) sz 0 = strm D s.p ∧ (readG (gX f.now) sz 0).length ≤ 100000000 := by
 have hx := h.nowN.s2 s hs
 obtain ⟨f, hf, e⟩ := hd.fileAt hx
 obtain ⟨sz, a, b, c⟩ := hd.fsz hf
 have := strm_of hd hf
 rw [e, c] at this
 have hl := readG_len (g := gX f.now) (n := sz) (i := 0)
 exact ⟨f, sz, hf, by rw [nm_now hd.ok, e]; exact hx, a, b, this.symm, by omega⟩
theorem PV.bds {D : DiskD} (hd : DI D) {nm : ByteArray} (hp : PlainB nm) {V : VV} (h : PV D nm V) : V.last ≤ 1000000 ∧ ∀ s ∈ V.segs, s.n ≤ 1000000 := by
 refine ⟨?_, fun s hs => ?_⟩
 · rcases Nat.eq_zero_or_pos V.last with q | q
   · omega
   · exact (FForm.pos hp (.inr rfl) (hd.form _ _ _ (h.nowN.c2 (by omega)))).2
 · exact (FForm.pos hp (.inl rfl) (hd.form _ _ _ (h.nowN.s2 s hs))).2
theorem snoc_take {α : Type} {l : List α} {i : Nat} (h : i < l.length) : l.take (i + 1) = l.take i ++ [l[i]] := by
 rw [List.take_add_one, List.getElem?_eq_getElem h]; rfl
theorem recs_snoc {D : DiskD} {V : VV} {m : Nat} {s : Sg} (hm : V.segs[m]? = some s) : (V.segs.take (m + 1)).flatMap (fun s => allW (strm D s.p)) = (V.segs.take m).flatMap (fun s => allW (strm D s.p)) ++ allW (strm D s.p) := by
 rw [List.take_add_one, hm, List.flatMap_append]
 simp
theorem mem_names {D : DiskD} (hd : DI D) {ns : List ByteArray} (h : ns.Perm (D.now.map (·.1))) : ∀ x, x ∈ ns ↔ mfind x (nmAt D D.steps.length) ≠ none := fun x => by
 rw [← nm_now hd.ok, h.mem_iff]
 exact ⟨fun hx q => mfind_none.1 q hx, fun q => Classical.byContradiction fun hx => q (mfind_none.2 hx)⟩
theorem names_ff {D : DiskD} (hd : DI D) {ns : List ByteArray} (h : ns.Perm (D.now.map (·.1))) {i : Nat} (hi : i < ns.length) : FForm ns[i] := by
 obtain ⟨o, ho⟩ := Option.ne_none_iff_exists'.1 ((mem_names hd h _).1 (List.getElem_mem hi))
 exact hd.form _ _ _ ho
theorem names_nd {D : DiskD} (hd : DI D) {ns : List ByteArray} (h : ns.Perm (D.now.map (·.1))) : ns.Nodup := h.nodup_iff.2 hd.ok.mnow.keys
theorem numB_le {nm kd x : ByteArray} (hp : PlainB nm) (hk : kd = kS ∨ kd = kC) (hx : FForm x) : numB nm kd x ≤ 1000000 := by
 rcases Nat.eq_zero_or_pos (numB nm kd x) with h | h
 · omega
 · have e := numB_of rfl h
   rw [e] at hx
   exact (FForm.pos hp hk hx).2
theorem segF_len (nm : ByteArray) (b : Nat) (l : List ByteArray) : (segF nm b l).length ≤ l.length := List.length_filterMap_le _ _
end Go.Proofs.YtdnibpclkhenmaaGreatDoor
