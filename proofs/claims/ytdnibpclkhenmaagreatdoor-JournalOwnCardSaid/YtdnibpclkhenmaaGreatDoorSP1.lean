import Derived.Test.YtdnibpclkhenmaaGreatDoorSJ1
import Derived.Test.YtdnibpclkhenmaaGreatDoorSH1
namespace Go.Proofs.YtdnibpclkhenmaaGreatDoor
open Go.BX
def gX (X : SecM) (i : Nat) : Sec := (mfind (i : Int) X).getD zeroSec
theorem gX_set (X : SecM) (a : Int) (s : Sec) (c i : Nat) : gX (mset a s c X) i = if a = (i : Int) then s else gX X i := by
 unfold gX
 rw [mfind_set]
 split <;> rfl
abbrev SP := Nat → Sec → Prop
def XA (A : SP) (X : SecM) : Prop := ∀ i : Nat, A i (gX X i)
def SA (A : SP) (a : Int) (s : Sec) : Prop := ∃ i : Nat, a = (i : Int) ∧ A i s
def FixA (X : SecM) : SP := fun i s => s = gX X i
def BtwA (σ0 σ : Bs) : SP := fun i s => ∃ c, s = secB c ∧ chunkF σ0 i <+: c ∧ c <+: chunkF σ i
theorem XA.put {A : SP} {X : SecM} (h : XA A X) {a : Int} {s : Sec} (hs : SA A a s) (c : Nat) : XA A (mset a s c X) := fun i => by
 rw [gX_set]
 split
 · rename_i hi
   obtain ⟨j, h1, h2⟩ := hs
   have : j = i := by omega
   exact this ▸ h2
 · exact h i
theorem XA.mono {A A' : SP} (hA : ∀ i s, A i s → A' i s) {X : SecM} (h : XA A X) : XA A' X := fun i => hA _ _ (h i)
theorem XA.eqv {A : SP} {X Y : SecM} (h : XA A X) (e : ∀ i : Int, mfind i Y = mfind i X) : XA A Y := fun i => by
 have := h i
 unfold gX at this ⊢
 rwa [e]
theorem SA.mono {A A' : SP} (hA : ∀ i s, A i s → A' i s) {a : Int} {s : Sec} (h : SA A a s) : SA A' a s := by
 obtain ⟨i, b, c⟩ := h
 exact ⟨i, b, hA _ _ c⟩
theorem XA.fold {A : SP} : ∀ (l : List StepD) (X : SecM × Nat), (∀ x ∈ l, SA A x.at_ x.data) → XA A X.1 → XA A (l.foldl putX X).1
 | [], _, _, h => h
 | x :: l, X, hx, h => XA.fold l (putX X x) (fun y hy => hx y (List.mem_cons_of_mem _ hy)) (h.put (hx x (List.mem_cons_self ..)) _)
structure FilA (D : DiskD) (p : Nat) (A : SP) : Prop where
 safe : ∃ f ∈ D.files, f.p = p ∧ XA A f.safe
 wr : ∀ x ∈ D.steps, x.kind = 3 → x.file = some p → SA A x.at_ x.data
def NowA (D : DiskD) (p : Nat) (A : SP) : Prop := ∃ f ∈ D.files, f.p = p ∧ XA A f.now
theorem FilA.mono {A A' : SP} (hA : ∀ i s, A i s → A' i s) {D : DiskD} {p : Nat} (h : FilA D p A) : FilA D p A' := by
 obtain ⟨⟨f, a, b, c⟩, d⟩ := h
 exact ⟨⟨f, a, b, c.mono hA⟩, fun x hx hk hf => (d x hx hk hf).mono hA⟩
theorem NowA.mono {A A' : SP} (hA : ∀ i s, A i s → A' i s) {D : DiskD} {p : Nat} (h : NowA D p A) : NowA D p A' := by
 obtain ⟨f, a, b, c⟩ := h
 exact ⟨f, a, b, c.mono hA⟩
theorem FilA.mem {D : DiskD} {p : Nat} {A : SP} (h : FilA D p A) : p ∈ psOf D.files := by
 obtain ⟨⟨f, a, b, -⟩, -⟩ := h
 exact List.mem_map.2 ⟨f, a, b⟩
theorem NowA.mem {D : DiskD} {p : Nat} {A : SP} (h : NowA D p A) : p ∈ psOf D.files := by
 obtain ⟨f, a, b, -⟩ := h
 exact List.mem_map.2 ⟨f, a, b⟩
theorem updF_mem {fs : List FileD} {p : Nat} {g : FileD → FileD} {f : FileD} (h : f ∈ fs) : (if f.p = p then g f else f) ∈ updF fs p g := List.mem_map.2 ⟨f, h, rfl⟩
theorem FilA.wr_ {D : DiskD} {p q : Nat} {A : SP} (h : FilA D q A) {a : Int} {s : Sec} (hs : q = p → SA A a s) : FilA (wrOld D p a s) q A := by
 obtain ⟨⟨f, b, c, d⟩, e⟩ := h
 refine ⟨⟨_, updF_mem (p := p) (g := putB a s) b, ?_, ?_⟩, fun x hx hk hf => ?_⟩
 · split <;> exact c
 · split <;> exact d
 · rcases List.mem_append.1 hx with hx | hx
   · exact e x hx hk hf
   · rw [List.mem_singleton.1 hx] at hf ⊢
     injection hf with hf
     exact hs hf.symm
theorem NowA.wr_ne {D : DiskD} {p q : Nat} {A : SP} (h : NowA D q A) (hq : q ≠ p) {a : Int} {s : Sec} : NowA (wrOld D p a s) q A := by
 obtain ⟨f, b, c, d⟩ := h
 refine ⟨_, updF_mem (p := p) (g := putB a s) b, ?_, ?_⟩
 · split <;> exact c
 · rw [if_neg (by omega)]; exact d
theorem NowA.wr_own {D : DiskD} {p : Nat} {A A' : SP} (h : NowA D p A) {a : Nat} {s : Sec} (hs : A' a s) (hA : ∀ i s, i ≠ a → A i s → A' i s) : NowA (wrOld D p (a : Int) s) p A' := by
 obtain ⟨f, c, b, d⟩ := h
 refine ⟨_, updF_mem (p := p) (g := putB a s) c, ?_, ?_⟩
 · split <;> exact b
 · rw [if_pos b]
   intro i
   show A' i (gX (mset (a : Int) s f.nc f.now) i)
   rw [gX_set]
   split
   · rename_i e
     have : a = i := by omega
     exact this ▸ hs
   · rename_i e
     exact hA i _ (by omega) (d i)
theorem FilA.new {D : DiskD} {p s n q : Nat} {A : SP} {name : ByteArray} (h : FilA D q A) (hq : q ≠ p) {a : Int} {x : Sec} : FilA (wrNew D p s n name a x) q A := by
 obtain ⟨⟨f, b, c, d⟩, e⟩ := h
 refine ⟨⟨f, List.mem_cons_of_mem _ b, c, d⟩, fun y hy hk hf => ?_⟩
 rcases List.mem_append.1 hy with hy | hy
 · rcases List.mem_append.1 hy with hy | hy
   · exact e y hy hk hf
   · rw [List.mem_singleton.1 hy] at hk; exact absurd (show (0 : Int) = 3 from hk) (by decide)
 · rw [List.mem_singleton.1 hy] at hf
   injection hf with hf
   exact absurd hf.symm hq
theorem NowA.new {D : DiskD} {p s n q : Nat} {A : SP} {name : ByteArray} (h : NowA D q A) {a : Int} {x : Sec} : NowA (wrNew D p s n name a x) q A := by
 obtain ⟨f, b, c, d⟩ := h
 exact ⟨f, List.mem_cons_of_mem _ b, c, d⟩
theorem FilA.fresh {D : DiskD} {p s n : Nat} {A : SP} {name : ByteArray} (h : DOk D) (hp : p ∉ psOf D.files) {a : Int} {x : Sec} (h0 : XA A []) (hs : SA A a x) : FilA (wrNew D p s n name a x) p A := by
 refine ⟨⟨_, List.mem_cons_self .., rfl, h0⟩, fun y hy hk hf => ?_⟩
 rcases List.mem_append.1 hy with hy | hy
 · rcases List.mem_append.1 hy with hy | hy
   · obtain ⟨q, b, c⟩ := h.cr.wr y hy hk
     rw [hf] at b
     injection b with b
     exact absurd (b ▸ c) hp
   · rw [List.mem_singleton.1 hy] at hk; exact absurd (show (0 : Int) = 3 from hk) (by decide)
 · rw [List.mem_singleton.1 hy]; exact hs
theorem NowA.fresh {D : DiskD} {p s n a : Nat} {A : SP} {name : ByteArray} {x : Sec} (hs : A a x) (hz : ∀ i, i ≠ a → A i zeroSec) : NowA (wrNew D p s n name (a : Int) x) p A := by
 refine ⟨_, List.mem_cons_self .., rfl, fun i => ?_⟩
 show A i (gX (mset (a : Int) x 0 []) i)
 rw [gX_set]
 split
 · rename_i e
   have : a = i := by omega
   exact this ▸ hs
 · exact hz i (by omega)
theorem FilA.add {D : DiskD} {q : Nat} {A : SP} (h : FilA D q A) {x : StepD} (hx : x.kind ≠ 3) : FilA (tick (addS D x)) q A := by
 refine ⟨h.safe, fun y hy hk hf => ?_⟩
 rcases List.mem_append.1 hy with hy | hy
 · exact h.wr y hy hk hf
 · rw [List.mem_singleton.1 hy] at hk; exact absurd hk hx
theorem XA.sync {A : SP} {p : Nat} {l : List StepD} {X : SecM × Nat} (h : XA A X.1) (hw : ∀ x ∈ l, x.kind = 3 → x.file = some p → SA A x.at_ x.data) : XA A (syncX p X l).1 := by
 refine XA.fold _ _ (fun x hx => ?_) h
 obtain ⟨a, b⟩ := List.mem_filter.1 hx
 obtain ⟨c, d⟩ := of_decide_eq_true b
 exact hw x a c d
theorem FilA.sync {D : DiskD} {q : Nat} {A : SP} (h : FilA D q A) (p : Nat) : FilA (syncD D p) q A := by
 obtain ⟨⟨f, d, a, b⟩, c⟩ := h
 refine ⟨⟨_, updF_mem (p := p) (g := syncF p D.steps) d, ?_, ?_⟩, fun x hx hk hf => c x (leftS_kind hx).1 hk hf⟩
 · split <;> exact a
 · split
   · rename_i hp
     exact XA.sync b fun x hx hk hf => c x hx hk (by rw [hf, ← a, hp])
   · exact b
theorem NowA.sync {D : DiskD} {q : Nat} {A : SP} (h : NowA D q A) (p : Nat) : NowA (syncD D p) q A := by
 obtain ⟨f, a, b, c⟩ := h
 refine ⟨_, updF_mem (p := p) (g := syncF p D.steps) a, ?_, ?_⟩
 · split <;> exact b
 · split <;> exact c
theorem FilA.synced {D : DiskD} {p : Nat} {A : SP} (hns : ∀ f ∈ D.files, f.p = p → ∀ i, mfind i f.now = mfind i (syncX p (f.safe, f.sc) D.steps).1) (h : NowA D p A) : FilA (syncD D p) p A := by
 obtain ⟨f, b, a, c⟩ := h
 refine ⟨⟨_, updF_mem (p := p) (g := syncF p D.steps) b, ?_, ?_⟩, fun x hx hk hf => ?_⟩
 · split <;> exact a
 · rw [if_pos a]
   exact c.eqv fun i => (hns f b a i).symm
 · unfold leftS at hx
   exact absurd hf (of_decide_eq_true (List.mem_filter.1 hx).2).2
theorem FilA.now {D : DiskD} {p : Nat} {A : SP} (hns : ∀ f ∈ D.files, f.p = p → ∀ i, mfind i f.now = mfind i (syncX p (f.safe, f.sc) D.steps).1) (h : FilA D p A) : NowA D p A := by
 obtain ⟨⟨f, a, b, c⟩, d⟩ := h
 exact ⟨f, a, b, (XA.sync (p := p) (X := (f.safe, f.sc)) c d).eqv (hns f a b)⟩
theorem crAt_A1 {A : SP} {q : Nat} {first : Int} {keep : List (BitVec 8)} : ∀ (l : List StepD) (C : CrS), (∀ x ∈ l, x.kind = 3 → x.file = some q → SA A x.at_ x.data) → (∃ f ∈ C.fs, f.p = q ∧ XA A f.safe) → ∃ f ∈ (l.foldl (crStep first keep) C).fs, f.p = q ∧ XA A f.safe
 | [], _, _, h => h
 | x :: l, C, hw, h => by
  refine crAt_A1 l _ (fun y hy => hw y (List.mem_cons_of_mem _ hy)) ?_
  unfold crStep
  split
  · rename_i hk
    show ∃ f ∈ (if bitOf keep C.j = true then updO C.fs x.file (putS x.at_ x.data) else C.fs), f.p = q ∧ XA A f.safe
    split
    · cases hx : x.file with
      | none => exact h
      | some p =>
       obtain ⟨f, k1, k2, k3⟩ := h
       refine ⟨_, updF_mem (p := p) (g := putS x.at_ x.data) k1, ?_, ?_⟩
       · split <;> exact k2
       · split
         · rename_i hp
           exact k3.put (hw x (List.mem_cons_self ..) hk (by rw [hx, ← hp, k2])) _
         · exact k3
    · exact h
  · exact h
theorem FilA.crash {D : DiskD} {q : Nat} {A : SP} (h : FilA D q A) (xs : List (BitVec 8)) (ns : Nat → Nat) (nb : Nat) : FilA (crashD D xs ns nb) q A := by
 obtain ⟨f, a, b, c⟩ := crAt_A1 (first := firstOf xs (nmC D.steps)) (keep := xs.drop 1) D.steps ⟨(D.safe, D.sc), 0, 0, D.files⟩ h.wr h.safe
 refine ⟨⟨(if some f.p ∈ ((crC D xs).A.1).map (·.2.1) then visit (ns f.p) f else f), List.mem_map.2 ⟨f, a, rfl⟩, ?_, ?_⟩, fun x hx => (by cases hx)⟩
 · split <;> exact b
 · split <;> exact c
theorem readG_zero {g : Nat → Sec} : ∀ {n i : Nat}, g i = zeroSec → readG g n i = []
 | 0, _, _ => rfl
 | n + 1, i, h => by
  rw [← secB_zero] at h
  rw [readG_secB (by decide) h]; rfl
theorem readG_more {g : Nat → Sec} {m : Nat} : ∀ {n i : Nat}, (∀ j, i + n ≤ j → g j = zeroSec) → readG g (n + m) i = readG g n i
 | 0, i, h => by rw [readG_zero (h i (Nat.le_refl _))]; rfl
 | n + 1, i, h => by
  rw [show n + 1 + m = (n + m) + 1 by omega, readG, readG, readG_more fun j hj => h j (by omega)]
theorem readG_same {g : Nat → Sec} {n m : Nat} (hn : ∀ j, n ≤ j → g j = zeroSec) (hm : ∀ j, m ≤ j → g j = zeroSec) : readG g n 0 = readG g m 0 := by
 rw [← readG_more (m := m) (n := n) (i := 0) (by simpa using hn), Nat.add_comm, readG_more (n := m) (by simpa using hm)]
def SegA (A : SP) (lo hi : List Bs) : Prop := ∀ (g : Nat → Sec) (n : Nat), (∀ i, A i (g i)) → (∀ j, n ≤ j → g j = zeroSec) → lo <+: allW (readG g n 0) ∧ allW (readG g n 0) <+: hi
def BaseA (A : SP) (B : Bs) : Prop := ∀ (g : Nat → Sec) (n : Nat), (∀ i, A i (g i)) → (∀ j, n ≤ j → g j = zeroSec) → (nextF (readG g n 0)).getD [] = B
theorem btw_read {σ0 σ : Bs} {g : Nat → Sec} {n : Nat} (hg : ∀ i, BtwA σ0 σ i (g i)) (hz : ∀ j, n ≤ j → g j = zeroSec) : σ0 <+: readG g n 0 ∧ readG g n 0 <+: σ := by
 have := read_btw hg n 0 fun j hj => by rw [secB_zero]; exact hz j (by omega)
 simpa using this
theorem segA_btw {r0 r : List Bs} (hr : ∀ b ∈ r, b.length ≤ 4194304) (h0 : r0 <+: r) : SegA (BtwA (framesF r0) (framesF r)) r0 r := fun g n hg hz => by
 obtain ⟨h1, h2⟩ := btw_read hg hz
 obtain ⟨m, k1, k2, k3⟩ := all_take hr (readG g n 0).length
 rw [← List.prefix_iff_eq_take.1 h2] at k2
 have e0 : r.take r0.length = r0 := (List.prefix_iff_eq_take.1 h0).symm
 have k4 := k3 r0.length h0.length_le (by rw [e0]; exact h1.length_le)
 rw [k2]
 refine ⟨?_, List.take_prefix _ _⟩
 rw [← e0]
 exact List.take_prefix_take_left k4
theorem baseA_btw {b : Bs} (hb : b.length ≤ 4194304) : BaseA (BtwA (frameF b) (frameF b)) b := fun g n hg hz => by
 obtain ⟨h1, h2⟩ := btw_read hg hz
 rw [h2.eq_of_length (Nat.le_antisymm h2.length_le h1.length_le)]
 have := next_frame hb []
 rw [List.append_nil] at this
 rw [this]; rfl
theorem segA_fix {X : SecM} {n : Nat} (hz : ∀ j, n ≤ j → gX X j = zeroSec) : SegA (FixA X) (allW (readG (gX X) n 0)) (allW (readG (gX X) n 0)) := fun g m hg hm => by
 obtain rfl : g = gX X := funext hg
 rw [readG_same hm hz]
 exact ⟨List.prefix_refl _, List.prefix_refl _⟩
theorem btw_mono {σ0 σ τ0 τ : Bs} (h0 : τ0 <+: σ0) (h1 : σ <+: τ) : ∀ i s, BtwA σ0 σ i s → BtwA τ0 τ i s := by
 have hm : ∀ {σ σ' : Bs}, σ <+: σ' → ∀ i, chunkF σ i <+: chunkF σ' i := fun {σ σ'} h i => by
  obtain ⟨r, rfl⟩ := h
  unfold chunkF
  rw [List.drop_append, List.take_append]
  exact List.prefix_append _ _
 rintro i s ⟨c, a, b, d⟩
 exact ⟨c, a, (hm h0 i).trans b, d.trans (hm h1 i)⟩
theorem btw_nil (σ : Bs) : XA (BtwA [] σ) [] := fun i => ⟨[], by show zeroSec = _; rw [secB_zero], by rw [chunk_nil]; exact List.prefix_refl _, List.nil_prefix⟩
theorem frames_prefix {r r' : List Bs} (h : r <+: r') : framesF r <+: framesF r' := by
 obtain ⟨q, rfl⟩ := h
 rw [framesF_app]
 exact List.prefix_append _ _
def PartA (σ τ : Bs) (k : Nat) : SP := fun i s => s = secB (if i < k then chunkF τ i else chunkF σ i)
theorem part_start {σ τ : Bs} (h : σ <+: τ) : ∀ i s, BtwA σ σ i s → PartA σ τ (σ.length / 63) i s := by
 rintro i s ⟨c, rfl, b, a⟩
 have e : c = chunkF σ i := a.eq_of_length (Nat.le_antisymm a.length_le b.length_le)
 subst e
 unfold PartA
 split
 · rename_i hi
   obtain ⟨r, rfl⟩ := h
   congr 1
   unfold chunkF
   rw [List.drop_append_of_le_length (by omega), List.take_append_of_le_length (by rw [List.length_drop]; omega)]
 · rfl
theorem part_end {σ τ : Bs} {k : Nat} (h : σ <+: τ) (hk : τ.length ≤ 63 * k) : ∀ i s, PartA σ τ k i s → BtwA τ τ i s := by
 intro i s hs
 unfold PartA at hs
 refine ⟨chunkF τ i, ?_, List.prefix_refl _, List.prefix_refl _⟩
 rw [hs]
 split
 · rfl
 · rename_i hi
   congr 1
   unfold chunkF
   rw [List.drop_eq_nil_of_le (by have := h.length_le; omega), List.drop_eq_nil_of_le (by omega)]
theorem part_step {σ τ : Bs} {k : Nat} : ∀ i s, i ≠ k → PartA σ τ k i s → PartA σ τ (k + 1) i s := by
 intro i s hi hs
 unfold PartA at hs ⊢
 rw [hs]
 congr 1
 split
 · rw [if_pos (by omega)]
 · rw [if_neg (by omega)]
theorem part_new {σ τ : Bs} {k : Nat} : PartA σ τ (k + 1) k (secB (chunkF τ k)) := by
 unfold PartA
 rw [if_pos (Nat.lt_succ_self k)]
end Go.Proofs.YtdnibpclkhenmaaGreatDoor
