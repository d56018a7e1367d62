import Derived.Test.YtdnibpclkhenmaaGreatDoorSP2
namespace Go.Proofs.YtdnibpclkhenmaaGreatDoor
open Go.BX
structure Sg where
 n : Nat
 p : Nat
 lo : List Bs
 hi : List Bs
structure VV where
 last : Nat
 pc : Nat
 B : Bs
 segs : List Sg
def VV.lo (V : VV) : List Bs := V.segs.flatMap (·.lo)
def VV.hi (V : VV) : List Bs := V.segs.flatMap (·.hi)
def VV.addO (V : VV) (o : Option Sg) : VV := { V with segs := V.segs ++ o.toList }
def loO : Option Sg → List Bs
 | none => []
 | some c => c.lo
def hiO : Option Sg → List Bs
 | none => []
 | some c => c.hi
theorem VV.addO_lo (V : VV) (o : Option Sg) : (V.addO o).lo = V.lo ++ loO o := by
 cases o <;> simp [VV.lo, VV.addO, loO]
theorem VV.addO_hi (V : VV) (o : Option Sg) : (V.addO o).hi = V.hi ++ hiO o := by
 cases o <;> simp [VV.hi, VV.addO, hiO]
theorem VV.addO_none (V : VV) : V.addO none = V := by
 cases V; simp [VV.addO]
structure NV (nm : ByteArray) (N : NameL) (V : VV) : Prop where
 c1 : ∀ n, mfind (cN nm n) N ≠ none → n ≤ V.last
 c2 : V.last ≠ 0 → mfind (cN nm V.last) N = some (some V.pc)
 s1 : ∀ n, V.last < n → mfind (sN nm n) N ≠ none → ∃ s ∈ V.segs, s.n = n
 s2 : ∀ s ∈ V.segs, mfind (sN nm s.n) N = some (some s.p)
structure WfV (V : VV) : Prop where
 gt : ∀ s ∈ V.segs, V.last < s.n
 asc : V.segs.Pairwise (fun s t => s.n < t.n)
 ex : ∀ s ∈ V.segs.dropLast, s.lo = s.hi
 b0 : V.last = 0 → V.B = []
structure FV (F : Nat → SP → Prop) (V : VV) : Prop where
 segs : ∀ s ∈ V.segs, ∃ A, F s.p A ∧ SegA A s.lo s.hi
 base : V.last ≠ 0 → ∃ A, F V.pc A ∧ BaseA A V.B
theorem FV.step {F F' : Nat → SP → Prop} {V : VV} (h : FV F V) (hF : ∀ s ∈ V.segs, ∀ A, F s.p A → F' s.p A) (hB : V.last ≠ 0 → ∀ A, F V.pc A → F' V.pc A) : FV F' V :=
 ⟨fun s hs => by obtain ⟨A, h1, h2⟩ := h.segs s hs; exact ⟨A, hF s hs A h1, h2⟩, fun h0 => by obtain ⟨A, h1, h2⟩ := h.base h0; exact ⟨A, hB h0 A h1, h2⟩⟩
def Neu (nm : ByteArray) (last : Nat) (x : ByteArray) : Prop := (∀ n, x = cN nm n → n < last) ∧ ∀ n, x = sN nm n → n ≤ last
theorem NV.cong {nm : ByteArray} {N N' : NameL} {V : VV} (hw : WfV V) (h : NV nm N V) (hp : PlainB nm) (he : ∀ x, ¬ Neu nm V.last x → mfind x N' = mfind x N) : NV nm N' V := by
 have nc : ∀ n, V.last ≤ n → ¬ Neu nm V.last (cN nm n) := fun n hn q => by have := q.1 n rfl; omega
 have nS : ∀ n, V.last < n → ¬ Neu nm V.last (sN nm n) := fun n hn q => by have := q.2 n rfl; omega
 refine ⟨fun n hn => ?_, fun b => ?_, fun n hn hx => ?_, fun s hs => ?_⟩
 · rcases Nat.lt_or_ge V.last n with a | a
   · rw [he _ (nc n (Nat.le_of_lt a))] at hn
     exact h.c1 n hn
   · exact a
 · rw [he _ (nc _ (Nat.le_refl _))]; exact h.c2 b
 · rw [he _ (nS n hn)] at hx
   exact h.s1 n hn hx
 · rw [he _ (nS _ (hw.gt s hs))]; exact h.s2 s hs
def JS (D : DiskD) (nm : ByteArray) (G : Nat) (P : Bs → List Bs → List Bs → Prop) : Prop := ∀ k, ∃ V, NV nm (nmAt D k) V ∧ WfV V ∧ FV (FilA D) V ∧ (V.last ≤ G ∧ ∀ s ∈ V.segs, s.n ≤ G) ∧ P V.B V.lo V.hi
theorem JS.mono {D : DiskD} {nm : ByteArray} {G G' : Nat} {P P' : Bs → List Bs → List Bs → Prop} (h : JS D nm G P) (hG : G ≤ G') (hP : ∀ B lo hi, P B lo hi → P' B lo hi) : JS D nm G' P' := fun k => by
 obtain ⟨V, h1, h2, h3, ⟨h4, h5⟩, h6⟩ := h k
 exact ⟨V, h1, h2, h3, ⟨Nat.le_trans h4 hG, fun s hs => Nat.le_trans (h5 s hs) hG⟩, hP _ _ _ h6⟩
theorem JS.step {D D' : DiskD} {nm : ByteArray} {G : Nat} {P : Bs → List Bs → List Bs → Prop} (h : JS D nm G P) (hn : ∀ k', ∃ k, ∀ V, WfV V → NV nm (nmAt D k) V → NV nm (nmAt D' k') V) (hf : ∀ q A, FilA D q A → FilA D' q A) : JS D' nm G P := fun k' => by
 obtain ⟨k, hk⟩ := hn k'
 obtain ⟨V, h1, h2, h3, h4, h6⟩ := h k
 exact ⟨V, hk V h2 h1, h2, h3.step (fun s _ A => hf s.p A) (fun _ A => hf V.pc A), h4, h6⟩
theorem FilA.stop {D : DiskD} {q : Nat} {A : SP} (h : FilA D q A) : FilA (stopD D) q A := ⟨h.safe, h.wr⟩
theorem JS.stop {D : DiskD} {nm : ByteArray} {G : Nat} {P : Bs → List Bs → List Bs → Prop} (h : JS D nm G P) : JS (stopD D) nm G P := h.step (fun k => ⟨k, fun _ _ h => h⟩) fun _ _ h => h.stop
theorem JS.sync {D : DiskD} {nm : ByteArray} {G : Nat} {P : Bs → List Bs → List Bs → Prop} (h : JS D nm G P) (p : Nat) : JS (syncD D p) nm G P := h.step (fun k => ⟨D.steps.length, fun _ _ h => by rw [nmAt_sync]; exact h⟩) fun _ _ h => h.sync p
theorem JS.crash {D : DiskD} {nm : ByteArray} {G : Nat} {P : Bs → List Bs → List Bs → Prop} (h : JS D nm G P) (xs : List (BitVec 8)) (ns : Nat → Nat) (nb : Nat) : JS (crashD D xs ns nb) nm G P := by
 obtain ⟨m, hm⟩ := nmAt_crash (D := D) xs ns nb
 exact h.step (fun k => ⟨m, fun _ _ h => by rw [hm]; exact h⟩) fun _ _ h => h.crash xs ns nb
structure LV (D : DiskD) (nm : ByteArray) (V : VV) (cur : Option Sg) (g : Nat) : Prop where
 names : ∀ k, NV nm (nmAt D k) V ∨ NV nm (nmAt D k) (V.addO cur)
 nowN : NV nm (nmAt D D.steps.length) (V.addO cur)
 wf : WfV V
 ex : ∀ s ∈ V.segs, s.lo = s.hi
 fv : FV (FilA D) V
 top : V.last ≤ g ∧ ∀ s ∈ V.segs, s.n ≤ g
 cur : ∀ c, cur = some c → (c.n = g ∧ V.last < g ∧ ∀ s ∈ V.segs, s.n < g) ∧ FilA D c.p (BtwA (framesF c.lo) (framesF c.hi)) ∧ c.lo <+: c.hi ∧ (∀ b ∈ c.hi, b.length ≤ 4194304) ∧ (c.lo ≠ [] → ∀ k, NV nm (nmAt D k) (V.addO cur))
theorem LV.lohi {D : DiskD} {nm : ByteArray} {V : VV} {cur : Option Sg} {g : Nat} (h : LV D nm V cur g) : V.lo = V.hi := by
 unfold VV.lo VV.hi
 have : ∀ l : List Sg, (∀ s ∈ l, s.lo = s.hi) → l.flatMap (·.lo) = l.flatMap (·.hi) := fun l => by
  induction l with
  | nil => intro _; rfl
  | cons s l ih => intro hl; rw [List.flatMap_cons, List.flatMap_cons, hl s (List.mem_cons_self ..), ih fun t ht => hl t (List.mem_cons_of_mem _ ht)]
 exact this _ h.ex
theorem LV.wfO {D : DiskD} {nm : ByteArray} {V : VV} {cur : Option Sg} {g : Nat} (h : LV D nm V cur g) : WfV (V.addO cur) := by
 cases hc : cur with
 | none => rw [VV.addO_none]; exact h.wf
 | some c =>
  obtain ⟨⟨a, _, b⟩, -⟩ := h.cur c hc
  refine ⟨fun s hs => ?_, ?_, fun s hs => ?_, h.wf.b0⟩
  · rcases List.mem_append.1 hs with hs | hs
    · exact h.wf.gt s hs
    · have := List.mem_singleton.1 hs
      subst this
      show V.last < s.n
      omega
  · show (V.segs ++ [c]).Pairwise _
    refine List.pairwise_append.2 ⟨h.wf.asc, List.pairwise_singleton _ _, fun s hs t ht => ?_⟩
    rw [List.mem_singleton.1 ht, a]
    exact b s hs
  · have : (V.addO (some c)).segs.dropLast = V.segs := List.dropLast_concat
    rw [this] at hs
    exact h.ex s hs
theorem LV.js {D : DiskD} {nm : ByteArray} {V : VV} {cur : Option Sg} {g : Nat} (h : LV D nm V cur g) : JS D nm g fun B lo hi => B = V.B ∧ V.hi ++ loO cur <+: lo ∧ hi <+: V.hi ++ hiO cur := fun k => by
 have hadd : NV nm (nmAt D k) (V.addO cur) → ∃ W, NV nm (nmAt D k) W ∧ WfV W ∧ FV (FilA D) W ∧ (W.last ≤ g ∧ ∀ s ∈ W.segs, s.n ≤ g) ∧ W.B = V.B ∧ V.hi ++ loO cur <+: W.lo ∧ W.hi <+: V.hi ++ hiO cur := fun hN => by
  refine ⟨V.addO cur, hN, h.wfO, ⟨fun s hs => ?_, h.fv.base⟩, ⟨h.top.1, fun s hs => ?_⟩, rfl, by rw [VV.addO_lo, h.lohi]; exact List.prefix_refl _, by rw [VV.addO_hi]; exact List.prefix_refl _⟩
  · rcases List.mem_append.1 hs with hs | hs
    · exact h.fv.segs s hs
    · obtain ⟨-, h1, h2, h3, -⟩ := h.cur s (by simpa using hs)
      exact ⟨_, h1, segA_btw h3 h2⟩
  · rcases List.mem_append.1 hs with hs | hs
    · exact h.top.2 s hs
    · obtain ⟨⟨h1, -⟩, -⟩ := h.cur s (by simpa using hs)
      omega
 rcases h.names k with hN | hN
 · by_cases hl : loO cur = []
   · refine ⟨V, hN, h.wf, h.fv, h.top, rfl, by rw [hl, List.append_nil, h.lohi]; exact List.prefix_refl _, List.prefix_append _ _⟩
   · cases hc : cur with
     | none => rw [hc] at hl; exact absurd rfl hl
     | some c =>
      obtain ⟨-, -, -, -, h4⟩ := h.cur c hc
      rw [hc] at hl
      have := hadd (h4 hl k)
      rw [hc] at this
      exact this
 · exact hadd hN
theorem LV.step {D D' : DiskD} {nm : ByteArray} {V : VV} {cur : Option Sg} {g : Nat} (h : LV D nm V cur g) (hp : PlainB nm) (hn : ∀ k', ∃ k, ∀ x, ¬ Neu nm V.last x → mfind x (nmAt D' k') = mfind x (nmAt D k))
 (hl : ∀ x, ¬ Neu nm V.last x → mfind x (nmAt D' D'.steps.length) = mfind x (nmAt D D.steps.length))
 (hf : ∀ q A x, ¬ Neu nm V.last x → mfind x (nmAt D D.steps.length) = some (some q) → FilA D q A → FilA D' q A) : LV D' nm V cur g := by
 have hseg : ∀ s ∈ (V.addO cur).segs, ∀ A, FilA D s.p A → FilA D' s.p A := fun s hs A => hf _ A (sN nm s.n) (fun q => by have := q.2 _ rfl; have := h.wfO.gt s hs; change V.last < s.n at this; omega) (h.nowN.s2 s hs)
 refine ⟨fun k' => ?_, h.nowN.cong h.wfO hp hl, h.wf, h.ex, h.fv.step (fun s hs => hseg s (List.mem_append_left _ hs)) (fun b A => hf _ A (cN nm V.last) (fun q => by have := q.1 _ rfl; omega) (h.nowN.c2 b)), h.top, fun c hc => ?_⟩
 · obtain ⟨k, hk⟩ := hn k'
   rcases h.names k with a | a
   · exact .inl (a.cong h.wf hp hk)
   · exact .inr (a.cong h.wfO hp hk)
 · obtain ⟨a, d, e, f, i⟩ := h.cur c hc
   refine ⟨a, hseg c (by rw [hc]; simp [VV.addO]) _ d, e, f, fun b k' => ?_⟩
   obtain ⟨k, hk⟩ := hn k'
   exact (i b k).cong h.wfO hp hk
theorem LV.tk {D : DiskD} {nm : ByteArray} {V : VV} {cur : Option Sg} {g : Nat} (h : LV D nm V cur g) : LV (tick D) nm V cur g := ⟨h.names, h.nowN, h.wf, h.ex, h.fv.step (fun _ _ _ h => ⟨h.safe, h.wr⟩) (fun _ _ h => ⟨h.safe, h.wr⟩), h.top, fun c hc => by
 obtain ⟨h1, h2, h3⟩ := h.cur c hc
 exact ⟨h1, ⟨h2.safe, h2.wr⟩, h3⟩⟩
theorem LV.sync {D : DiskD} {nm : ByteArray} {V : VV} {cur : Option Sg} {g : Nat} (h : LV D nm V cur g) (hp : PlainB nm) (p : Nat) : LV (syncD D p) nm V cur g :=
 h.step hp (fun k => ⟨_, fun x _ => by rw [nmAt_sync]⟩) (fun x _ => by rw [nmAt_sync]) fun q A x _ _ h => h.sync p
theorem LV.rm {D : DiskD} (hd : DI D) {nm : ByteArray} {V : VV} {cur : Option Sg} {g : Nat} (h : LV D nm V cur g) (hp : PlainB nm) {name : ByteArray} (hN : Neu nm V.last name) : LV (tick (addS D (rmS name))) nm V cur g := by
 have e : ∀ x, ¬ Neu nm V.last x → mfind x (mapN (nmL D D.steps.length) (rmS name)).1 = mfind x (nmAt D D.steps.length) := fun x hx => by
  rw [find_rm (hd.mok _), if_neg (fun q : name = x => hx (q ▸ hN))]
 refine h.step hp (fun k => ?_) (fun x hx => ?_) fun q A x _ _ h => h.add (by show (2 : Int) ≠ 3; decide)
 · rcases nmAt_add D (rmS name) k with ⟨j, q⟩ | q
   · exact ⟨j, fun x _ => by rw [show nmAt (tick (addS D (rmS name))) k = nmAt (addS D (rmS name)) k from rfl, q]⟩
   · exact ⟨_, fun x hx => by rw [show nmAt (tick (addS D (rmS name))) k = nmAt (addS D (rmS name)) k from rfl, q]; exact e x hx⟩
 · rw [← e x hx]
   show mfind x (nmL (addS D (rmS name)) (D.steps ++ [rmS name]).length).1 = _
   rw [nmL_addS (by rw [List.length_append]; simp)]
theorem LV.rn {D : DiskD} (hd : DI D) {nm : ByteArray} {V : VV} {cur : Option Sg} {g : Nat} (h : LV D nm V cur g) (hp : PlainB nm) {name to : ByteArray} (hN : Neu nm V.last name) (hT : Neu nm V.last to) {o : Option Nat} (hf : mfind name (nmAt D D.steps.length) = some o) : LV (tick (addS D (rnS name to))) nm V cur g := by
 have e : ∀ x, ¬ Neu nm V.last x → mfind x (mapN (nmL D D.steps.length) (rnS name to)).1 = mfind x (nmAt D D.steps.length) := fun x hx => by
  rw [find_rn (hd.mok _) hf, if_neg (fun q : name = x => hx (q ▸ hN)), if_neg (fun q : to = x => hx (q ▸ hT))]
 refine h.step hp (fun k => ?_) (fun x hx => ?_) fun q A x _ _ h => h.add (by show (1 : Int) ≠ 3; decide)
 · rcases nmAt_add D (rnS name to) k with ⟨j, q⟩ | q
   · exact ⟨j, fun x _ => by rw [show nmAt (tick (addS D (rnS name to))) k = nmAt (addS D (rnS name to)) k from rfl, q]⟩
   · exact ⟨_, fun x hx => by rw [show nmAt (tick (addS D (rnS name to))) k = nmAt (addS D (rnS name to)) k from rfl, q]; exact e x hx⟩
 · rw [← e x hx]
   show mfind x (nmL (addS D (rnS name to)) (D.steps ++ [rnS name to]).length).1 = _
   rw [nmL_addS (by rw [List.length_append]; simp)]
theorem nmAt_old_len (D : DiskD) (p : Nat) (a : Int) (s : Sec) : nmAt (wrOld D p a s) (wrOld D p a s).steps.length = nmAt D D.steps.length := by
 show (nmL (addS (setF D (updF D.files p (putB a s))) (wrS p a s)) (D.steps ++ [wrS p a s]).length).1 = _
 rw [nmL_addS (by rw [List.length_append]; simp [setF])]
 rfl
theorem nmAt_new_len (D : DiskD) (p s n : Nat) (name : ByteArray) (a : Int) (x : Sec) : nmAt (wrNew D p s n name a x) (wrNew D p s n name a x).steps.length = (mapN (nmL D D.steps.length) ⟨0, some p, noS, name, 0, zeroSec⟩).1 := by
 show (nmL (addS (addS (setF D _) ⟨0, some p, noS, name, 0, zeroSec⟩) (wrS p a x)) (D.steps ++ [_] ++ [wrS p a x]).length).1 = _
 rw [nmL_addS (by simp [addS, setF])]
 show (nmL (addS (setF D _) ⟨0, some p, noS, name, 0, zeroSec⟩) (D.steps ++ [_]).length).1 = _
 rw [nmL_addS (by rw [List.length_append]; simp [setF])]
 rfl
theorem LV.wr {D : DiskD} (hd : DI D) {nm : ByteArray} {V : VV} {cur : Option Sg} {g : Nat} (h : LV D nm V cur g) (hp : PlainB nm) {name : ByteArray} (hN : Neu nm V.last name) {p : Nat} (hx : mfind name (nmAt D D.steps.length) = some (some p)) {a : Int} {s : Sec} : LV (wrOld D p a s) nm V cur g :=
 h.step hp (fun k => by obtain ⟨j, e⟩ := nmAt_old D p a s k; exact ⟨j, fun x _ => by rw [e]⟩) (fun x _ => by rw [nmAt_old_len]) fun q A x hn hq hF => hF.wr_ fun e => by
  subst e
  exact absurd (hd.inj _ _ _ _ hx hq ▸ hN) hn
theorem LV.new {D : DiskD} (hd : DI D) {nm : ByteArray} {V : VV} {cur : Option Sg} {g : Nat} (h : LV D nm V cur g) (hp : PlainB nm) {name : ByteArray} (hN : Neu nm V.last name) {p s n : Nat} (hps : p ∉ psOf D.files) {a : Int} {x : Sec} : LV (wrNew D p s n name a x) nm V cur g := by
 have e : ∀ y, ¬ Neu nm V.last y → mfind y (mapN (nmL D D.steps.length) ⟨0, some p, noS, name, 0, zeroSec⟩).1 = mfind y (nmAt D D.steps.length) := fun y hy => by
  rw [find_made, if_neg (fun q : name = y => hy (q ▸ hN))]
 refine h.step hp (fun k => ?_) (fun y hy => by rw [nmAt_new_len]; exact e y hy) fun q A y _ hq hF => hF.new (p := p) fun e => hps (e ▸ hF.mem)
 rcases nmAt_new D p s n name a x k with ⟨j, q⟩ | q
 · exact ⟨j, fun y _ => by rw [q]⟩
 · exact ⟨_, fun y hy => by rw [q]; exact e y hy⟩
theorem LV.more {D : DiskD} {nm : ByteArray} {V : VV} {c : Sg} {g : Nat} (h : LV D nm V (some c) g) {hi' : List Bs} (hh : c.hi <+: hi') (hb : ∀ b ∈ hi', b.length ≤ 4194304) : LV D nm V (some ⟨c.n, c.p, c.lo, hi'⟩) g := by
 have hN : ∀ {N}, NV nm N (V.addO (some c)) → NV nm N (V.addO (some ⟨c.n, c.p, c.lo, hi'⟩)) := fun {N} a => by
  refine ⟨a.c1, a.c2, fun n hn hx => ?_, fun s hs => ?_⟩
  · obtain ⟨s, hs, e⟩ := a.s1 n hn hx
    rcases List.mem_append.1 hs with hs | hs
    · exact ⟨s, List.mem_append_left _ hs, e⟩
    · have : s = c := by simpa using hs
      subst this
      exact ⟨_, List.mem_append_right _ (List.mem_singleton_self _), e⟩
  · rcases List.mem_append.1 hs with hs | hs
    · exact a.s2 s (List.mem_append_left _ hs)
    · rw [List.mem_singleton.1 hs]
      exact a.s2 c (List.mem_append_right _ (List.mem_singleton_self _))
 obtain ⟨a, d, f, _, i⟩ := h.cur c rfl
 refine ⟨fun k => (h.names k).imp id hN, hN h.nowN, h.wf, h.ex, h.fv, h.top, fun c' hc' => ?_⟩
 injection hc' with hc'
 subst hc'
 exact ⟨a, d.mono (btw_mono (List.prefix_refl _) (frames_prefix hh)), f.trans hh, hb, fun j k => hN (i j k)⟩
theorem LV.wrC {D : DiskD} (hd : DI D) {nm : ByteArray} {V : VV} {c : Sg} {g : Nat} (h : LV D nm V (some c) g) (hp : PlainB nm) {a : Int} {s : Sec} (hs : SA (BtwA (framesF c.lo) (framesF c.hi)) a s) : LV (wrOld D c.p a s) nm V (some c) g := by
 obtain ⟨⟨i, l, f⟩, m, o, q, r⟩ := h.cur c rfl
 have hc : mfind (sN nm c.n) (nmAt D D.steps.length) = some (some c.p) := h.nowN.s2 c (List.mem_append_right _ (List.mem_singleton_self _))
 have hsN : ∀ {a b}, sN nm a = sN nm b → a = b := fun e => (fN_inj hp hp (.inl rfl) (.inl rfl) e).2.2
 have hN : ∀ {k V'}, WfV V' → NV nm (nmAt D k) V' → ∀ k', nmAt (wrOld D c.p a s) k' = nmAt D k → NV nm (nmAt (wrOld D c.p a s) k') V' := fun _ h k' e => e ▸ h
 refine ⟨fun k => ?_, by rw [nmAt_old_len]; exact h.nowN, h.wf, h.ex, h.fv.step (fun t ht A hF => hF.wr_ fun e => ?_) (fun d A hF => hF.wr_ fun e => ?_), h.top, fun c' hc' => ?_⟩
 · obtain ⟨j, e⟩ := nmAt_old D c.p a s k
   rw [e]; exact h.names j
 · have := hd.inj _ _ _ _ (e ▸ h.nowN.s2 t (List.mem_append_left _ ht)) hc
   have := hsN this
   have := f t ht
   omega
 · have := hd.inj _ _ _ _ (e ▸ h.nowN.c2 d) hc
   have := (fN_inj hp hp (.inr rfl) (.inl rfl) this).2.1
   exact absurd this (by decide)
 · injection hc' with hc'
   subst hc'
   exact ⟨⟨i, l, f⟩, m.wr_ fun _ => hs, o, q, fun d k => by obtain ⟨j, e⟩ := nmAt_old D c.p a s k; rw [e]; exact r d j⟩
theorem LV.begin {D : DiskD} (hd : DI D) {nm : ByteArray} {V : VV} {g : Nat} (h : LV D nm V none g) (hp : PlainB nm) {p s n : Nat} {r : Bs} (hr : r.length ≤ 4194304) (hps : p ∉ psOf D.files) :
 LV (wrNew D p s n (sN nm (g + 1)) 0 (secB (chunkF (framesF [r]) 0))) nm V (some ⟨g + 1, p, [], [r]⟩) (g + 1) := by
 have hsN : ∀ {a b}, sN nm a = sN nm b → a = b := fun e => (fN_inj hp hp (.inl rfl) (.inl rfl) e).2.2
 have hcs : ∀ {a b}, sN nm a ≠ cN nm b := fun e => absurd (fN_inj hp hp (.inl rfl) (.inr rfl) e).2.1 (by decide)
 have d : NV nm (nmAt D D.steps.length) V := by have := h.nowN; rwa [VV.addO_none] at this
 have hnew : NV nm (mapN (nmL D D.steps.length) ⟨0, some p, noS, sN nm (g + 1), 0, zeroSec⟩).1 (V.addO (some ⟨g + 1, p, [], [r]⟩)) := by
  refine ⟨fun m hm => ?_, fun hm => ?_, fun m hm hx => ?_, fun t ht => ?_⟩
  · rw [find_made, if_neg hcs] at hm
    exact d.c1 m hm
  · rw [find_made, if_neg hcs]; exact d.c2 hm
  · rw [find_made] at hx
    split at hx
    · rename_i e
      exact ⟨_, List.mem_append_right _ (List.mem_singleton_self _), hsN e⟩
    · obtain ⟨t, ht, e⟩ := d.s1 m hm hx
      exact ⟨t, List.mem_append_left _ ht, e⟩
  · rw [find_made]
    rcases List.mem_append.1 ht with ht | ht
    · rw [if_neg (fun e => by have := hsN e; have := h.top.2 t ht; omega)]
      exact d.s2 t ht
    · rw [List.mem_singleton.1 ht, if_pos rfl]
 have hfr : ∀ q A, FilA D q A → FilA (wrNew D p s n (sN nm (g + 1)) 0 (secB (chunkF (framesF [r]) 0))) q A := fun q A hF => hF.new (p := p) fun e => hps (e ▸ hF.mem)
 refine ⟨fun k => ?_, by rw [nmAt_new_len]; exact hnew, h.wf, h.ex, h.fv.step (fun _ _ => hfr _) (fun _ => hfr _), ⟨by have := h.top.1; omega, fun t ht => by have := h.top.2 t ht; omega⟩, fun c hc => ?_⟩
 · rcases nmAt_new D p s n (sN nm (g + 1)) 0 (secB (chunkF (framesF [r]) 0)) k with ⟨j, e⟩ | e
   · rw [e]
     rcases h.names j with f | f
     · exact .inl f
     · rw [VV.addO_none] at f; exact .inl f
   · rw [e]; exact .inr hnew
 · injection hc with hc
   subst hc
   refine ⟨⟨rfl, by have := h.top.1; omega, fun t ht => by have := h.top.2 t ht; omega⟩, FilA.fresh hd.ok hps (btw_nil _) ⟨0, rfl, _, rfl, by show chunkF [] 0 <+: _; rw [chunk_nil]; exact List.nil_prefix, List.prefix_refl _⟩, List.nil_prefix, fun b hb => by rw [List.mem_singleton.1 hb]; exact hr, fun d => absurd rfl d⟩
theorem LV.syncC {D : DiskD} (hd : DI D) {nm : ByteArray} {V : VV} {c : Sg} {g : Nat} (h : LV D nm V (some c) g) (hp : PlainB nm) (hn : NowA D c.p (BtwA (framesF c.hi) (framesF c.hi))) : LV (syncD D c.p) nm V (some ⟨c.n, c.p, c.hi, c.hi⟩) g := by
 obtain ⟨b, _, _, d, _⟩ := h.cur c rfl
 have hc : mfind (sN nm c.n) (nmAt D D.steps.length) = some (some c.p) := h.nowN.s2 c (List.mem_append_right _ (List.mem_singleton_self _))
 have hN : NV nm (nmAt D D.steps.length) (V.addO (some ⟨c.n, c.p, c.hi, c.hi⟩)) := by
  have a := h.nowN
  refine ⟨a.c1, a.c2, fun n hn hx => ?_, fun s hs => ?_⟩
  · obtain ⟨s, hs, e⟩ := a.s1 n hn hx
    rcases List.mem_append.1 hs with hs | hs
    · exact ⟨s, List.mem_append_left _ hs, e⟩
    · have : s = c := by simpa using hs
      subst this
      exact ⟨_, List.mem_append_right _ (List.mem_singleton_self _), e⟩
  · rcases List.mem_append.1 hs with hs | hs
    · exact a.s2 s (List.mem_append_left _ hs)
    · rw [List.mem_singleton.1 hs]
      exact hc
 refine ⟨fun k => .inr (by rw [nmAt_sync]; exact hN), by rw [nmAt_sync]; exact hN, h.wf, h.ex, h.fv.step (fun _ _ _ h => h.sync _) (fun _ _ h => h.sync _), h.top, fun c' hc' => ?_⟩
 injection hc' with hc'
 subst hc'
 exact ⟨b, FilA.synced (hd.nsAt hc) hn, List.prefix_refl _, d, fun _ k => by rw [nmAt_sync]; exact hN⟩
theorem LV.turn {D : DiskD} (hd : DI D) {nm : ByteArray} {V : VV} {cur : Option Sg} {g : Nat} (h : LV D nm V cur g) (hp : PlainB nm) {pt : Nat} {b : Bs} (hb : b.length ≤ 4194304) (ht : mfind (tN nm) (nmAt D D.steps.length) = some (some pt)) (hf : FilA D pt (BtwA (frameF b) (frameF b))) :
 JS (tick (addS D (rnS (tN nm) (cN nm (g + 1))))) nm (g + 1) (fun B lo hi => (B = V.B ∧ V.hi ++ loO cur <+: lo ∧ hi <+: V.hi ++ hiO cur) ∨ (B = b ∧ hi = [])) ∧
 LV (syncD (tick (addS D (rnS (tN nm) (cN nm (g + 1))))) pt) nm ⟨g + 1, pt, b, []⟩ none (g + 1) ∧ mfind (cN nm (g + 1)) (nmAt (tick (addS D (rnS (tN nm) (cN nm (g + 1))))) (tick (addS D (rnS (tN nm) (cN nm (g + 1))))).steps.length) = some (some pt) := by
 have hcN : ∀ {a b}, cN nm a = cN nm b → a = b := fun e => (fN_inj hp hp (.inr rfl) (.inr rfl) e).2.2
 have hcs : ∀ {a b}, cN nm a ≠ sN nm b := fun e => absurd (fN_inj hp hp (.inr rfl) (.inl rfl) e).2.1 (by decide)
 have htc : ∀ {kd n}, (kd = kS ∨ kd = kC) → tN nm ≠ fN nm kd n := fun k e => fN_ne_t hp hp k e.symm
 have hnew : NV nm (mapN (nmL D D.steps.length) (rnS (tN nm) (cN nm (g + 1)))).1 ⟨g + 1, pt, b, []⟩ := by
  refine ⟨fun m hm => ?_, fun _ => ?_, fun m hm hx => ?_, fun t ht => (by cases ht)⟩
  · rw [find_rn (hd.mok _) ht, if_neg (htc (.inr rfl))] at hm
    split at hm
    · rename_i e; exact Nat.le_of_eq (hcN e).symm
    · have d := h.nowN.c1 m hm
      have r := h.top.1
      change m ≤ V.last at d
      show m ≤ g + 1
      omega
  · rw [find_rn (hd.mok _) ht, if_neg (htc (.inr rfl)), if_pos rfl]
  · rw [find_rn (hd.mok _) ht, if_neg (htc (.inl rfl)), if_neg hcs] at hx
    change g + 1 < m at hm
    obtain ⟨t, ht, e⟩ := h.nowN.s1 m (by show V.last < m; have := h.top.1; omega) hx
    rcases List.mem_append.1 ht with ht | ht
    · have := h.top.2 t ht; omega
    · obtain ⟨⟨_, -⟩, -⟩ := h.cur t (by simpa using ht)
      omega
 have hlen : nmAt (tick (addS D (rnS (tN nm) (cN nm (g + 1))))) (tick (addS D (rnS (tN nm) (cN nm (g + 1))))).steps.length = (mapN (nmL D D.steps.length) (rnS (tN nm) (cN nm (g + 1)))).1 := by
  show (nmL (addS D (rnS (tN nm) (cN nm (g + 1)))) (D.steps ++ [_]).length).1 = _
  rw [nmL_addS (by rw [List.length_append]; simp)]
 have hF : ∀ q A, FilA D q A → FilA (tick (addS D (rnS (tN nm) (cN nm (g + 1))))) q A := fun q A h => h.add (by show (1 : Int) ≠ 3; decide)
 have hwf : WfV ⟨g + 1, pt, b, []⟩ := ⟨fun s hs => (by cases hs), List.Pairwise.nil, fun s hs => (by cases hs), fun e => absurd e (Nat.succ_ne_zero g)⟩
 refine ⟨fun k => ?_, ?_, by rw [hlen]; exact hnew.c2 (Nat.succ_ne_zero g)⟩
 · rcases nmAt_add D (rnS (tN nm) (cN nm (g + 1))) k with ⟨j, e⟩ | e
   · obtain ⟨W, f, i, l, ⟨_, o⟩, p⟩ := h.js j
     exact ⟨W, by rw [show nmAt (tick (addS D (rnS (tN nm) (cN nm (g + 1))))) k = nmAt (addS D (rnS (tN nm) (cN nm (g + 1)))) k from rfl, e]; exact f, i, l.step (fun _ _ => hF _) (fun _ => hF _), ⟨by omega, fun s hs => by have := o s hs; omega⟩, .inl p⟩
   · exact ⟨_, by rw [show nmAt (tick (addS D (rnS (tN nm) (cN nm (g + 1))))) k = nmAt (addS D (rnS (tN nm) (cN nm (g + 1)))) k from rfl, e]; exact hnew, hwf, ⟨fun s hs => (by cases hs), fun _ => ⟨_, hF _ _ hf, baseA_btw hb⟩⟩, ⟨Nat.le_refl _, fun s hs => (by cases hs)⟩, .inr ⟨rfl, rfl⟩⟩
 · refine ⟨fun k => .inl (by rw [nmAt_sync, hlen]; exact hnew), by rw [VV.addO_none, nmAt_sync, hlen]; exact hnew, hwf, fun s hs => (by cases hs), ⟨fun s hs => (by cases hs), fun _ => ⟨_, (hF _ _ hf).sync _, baseA_btw hb⟩⟩, ⟨Nat.le_refl _, fun s hs => (by cases hs)⟩, fun c hc => (by cases hc)⟩
end Go.Proofs.YtdnibpclkhenmaaGreatDoor
