import Derived.Test.YtdnibpclkhenmaaGreatDoorSP7
import Derived.Test.YtdnibpclkhenmaaGreatDoorSH1
namespace Go.Proofs.YtdnibpclkhenmaaGreatDoor
open Go.BX
theorem Cap.step {D D' : DiskD} {c m : Nat} (h : Cap D m) (hc : Cp c D D') : Cap D' (m + c) := (hc m (h _)).2 (m + c) (Nat.le_refl _) (h.mono (Nat.le_add_right _ _))
structure JW (D : DiskD) (nm : ByteArray) (B : Bs) (R0 R : List Bs) (g : Nat) (seg : ByteArray) (σ : Bs) (sy : Bool) (n m t : Nat) : Prop where
 pl : PlainB nm
 di : DI D
 al : Al D n
 jl : JL D nm B R0 R g seg σ sy
 cap : Cap D m
 gm : g ≤ m
 sl : σ.length ≤ t
 rl : R.length ≤ m
 rb : ∀ r ∈ R, r.length ≤ 4194304
 bl : B.length ≤ 4194304
section
variable {D D' : DiskD} {nm seg seg' : ByteArray} {B : Bs} {R0 R : List Bs} {g g' : Nat} {σ : Bs} {sy : Bool} {n n' m t : Nat}
theorem JW.now (h : JW D nm B R0 R g seg σ sy n m t) : D.now.length ≤ m := NmC.now h.di (h.cap _)
theorem JW.mono (h : JW D nm B R0 R g seg σ sy n m t) {n' m' t' : Nat} (hn : n' ≤ n) (hm : m ≤ m') (ht : t ≤ t') : JW D nm B R0 R g seg σ sy n' m' t' :=
 ⟨h.pl, h.di, h.al.mono hn, h.jl, h.cap.mono hm, Nat.le_trans h.gm hm, Nat.le_trans h.sl ht, Nat.le_trans h.rl hm, h.rb, h.bl⟩
theorem JW.app (h : JW D nm B R0 R g seg σ sy n m t) {r : Bs} (hr : r.length ≤ 4194304) (hJ : JL D' nm B R0 (R ++ [r]) g' seg' (σ ++ frameF r) false) (hg : g' ≤ g + 1) (hd : DI D') (ha : Al D' n') (hc : Cp 1 D D') : JW D' nm B R0 (R ++ [r]) g' seg' (σ ++ frameF r) false n' (m + 1) (t + r.length + 12) := by
 refine ⟨h.pl, hd, ha, hJ, h.cap.step hc, by have := h.gm; omega, ?_, ?_, fun x hx => ?_, h.bl⟩
 · have := h.sl
   rw [List.length_append, frame_len]; omega
 · have := h.rl
   rw [List.length_append, List.length_singleton]; omega
 · rcases List.mem_append.1 hx with hx | hx
   · exact h.rb x hx
   · rw [List.mem_singleton.1 hx]; exact hr
theorem JW.syn (h : JW D nm B R0 R g seg σ sy n m t) (hJ : JL D' nm B R R g seg σ true) (hd : DI D') (ha : Al D' n') (hc : Cp 1 D D') : JW D' nm B R R g seg σ true n' (m + 1) t :=
 ⟨h.pl, hd, ha, hJ, h.cap.step hc, Nat.le_succ_of_le h.gm, h.sl, Nat.le_succ_of_le h.rl, h.rb, h.bl⟩
theorem JW.chk (h : JW D nm B R0 R g seg σ sy n m t) {b : Bs} (hb : b.length ≤ 3000000) (hJ : JL D' nm b [] [] (g + 1) ⟨#[]⟩ [] true) (hd : DI D') (ha : Al D' n') (hc : Cp 1 D D') : JW D' nm b [] [] (g + 1) ⟨#[]⟩ [] true n' (m + 1) 0 :=
 ⟨h.pl, hd, ha, hJ, h.cap.step hc, Nat.succ_le_succ h.gm, Nat.le_refl _, Nat.zero_le _, nofun, by omega⟩
end
def OpQ (D : DiskD) (nm : ByteArray) (m : Nat) (P : Bs → List Bs → List Bs → Prop) (Q : Bs → List Bs → Prop) : Prop := ∃ V, PV D nm V ∧ gV V ≤ m ∧ JS D nm m P ∧ Q V.B (recsV D V)
theorem gV_le {V : VV} {m : Nat} (h1 : V.last ≤ m) (h2 : ∀ s ∈ V.segs, s.n ≤ m) : gV V ≤ m := by
 unfold gV
 cases h : V.segs.getLast? with
 | none => exact h1
 | some s => exact h2 s (List.mem_of_getLast? h)
theorem JS.op {D : DiskD} (hd : DI D) {nm : ByteArray} {m : Nat} {P : Bs → List Bs → List Bs → Prop} (h : JS D nm m P) (hs : D.steps = []) : OpQ D nm m P fun B R => ∃ lo hi, P B lo hi ∧ lo <+: R ∧ R <+: hi := by
 obtain ⟨V, h1, ⟨h2, h3⟩, h4⟩ := h.pv hd hs
 obtain ⟨k1, k2⟩ := h1.recs hd
 exact ⟨V, h1, gV_le h2 h3, h, V.lo, V.hi, h4, k1, k2⟩
theorem pre_eq {α : Type} {a b : List α} (h1 : a <+: b) (h2 : b <+: a) : a = b := h1.eq_of_length (Nat.le_antisymm h1.length_le h2.length_le)
theorem JW.op {D : DiskD} {nm seg : ByteArray} {B : Bs} {R0 R : List Bs} {g : Nat} {σ : Bs} {sy : Bool} {n m t : Nat} (h : JW D nm B R0 R g seg σ sy n m t) : OpQ D nm m (fun B' lo hi => B' = B ∧ R0 <+: lo ∧ hi <+: R) fun B' R' => B' = B ∧ R' = R := by
 have hj := h.jl.js
 obtain ⟨V, cur, hL, hB, hR0, hR, -⟩ := h.jl
 have hpv := hL.pv h.di
 obtain ⟨k1, k2⟩ := hpv.recs h.di
 have e1 : (V.addO (hiC cur)).hi = R := by
  rw [VV.addO_hi, ← hR]
  cases cur <;> rfl
 have e2 : (V.addO (hiC cur)).lo = R := by
  rw [VV.addO_lo, hL.lv.lohi, ← hR]
  cases cur <;> rfl
 rw [e2] at k1
 rw [e1] at k2
 refine ⟨V.addO (hiC cur), hpv, gV_le (Nat.le_trans hL.lv.top.1 h.gm) fun s hs => ?_, hj.mono h.gm fun _ _ _ h => h, hB, (pre_eq k1 k2).symm⟩
 rcases List.mem_append.1 hs with hs | hs
 · exact Nat.le_trans (hL.lv.top.2 s hs) h.gm
 · cases cur with
   | none => simp [hiC] at hs
   | some c =>
    have : s = ⟨c.n, c.p, c.hi, c.hi⟩ := by simpa [hiC] using hs
    subst this
    show c.n ≤ m
    rw [hL.lv.segN.2.1]; exact h.gm
structure DW (D : DiskD) (nm : ByteArray) (m : Nat) (P : Bs → List Bs → List Bs → Prop) : Prop where
 di : DI D
 dead : D.dead = true
 st : D.steps.length ≤ 1000000000
 js : JS D nm m P
 cap : Cap D m
theorem Dd.dw {D0 D : DiskD} {nm : ByteArray} {G m : Nat} {P P' : Bs → List Bs → List Bs → Prop} (h : Dd D0 D nm G P) (hG : G ≤ m + 1) (hc : Cap D0 m) (hP : ∀ B lo hi, P B lo hi → P' B lo hi) : DW D nm (m + 1) P' :=
 ⟨h.di, h.dead, h.st, h.js.mono hG hP, hc.step h.cp⟩
structure CW (D : DiskD) (nm : ByteArray) (m : Nat) (P : Bs → List Bs → List Bs → Prop) : Prop where
 di : DI D
 dead : D.dead = false
 arm : D.armed = false
 st : D.steps = []
 js : JS D nm m P
 cap : Cap D m
theorem CW.al {D : DiskD} {nm : ByteArray} {m : Nat} {P : Bs → List Bs → List Bs → Prop} (h : CW D nm m P) : Al D 1000000000 := ⟨h.dead, fun q => (by rw [h.arm] at q; cases q), by rw [h.st]; exact Nat.le_refl _⟩
theorem CW.of {D : DiskD} {nm : ByteArray} {m : Nat} {P : Bs → List Bs → List Bs → Prop} (hd : DI D) (hj : JS D nm m P) (hc : Cap D m) (xs : List (BitVec 8)) (ns : Nat → Nat) (nb : Nat) : CW (crashD D xs ns nb) nm m P :=
 ⟨hd.crash xs ns nb, rfl, rfl, rfl, hj.crash xs ns nb, hc.crash xs ns nb⟩
theorem CW.op {D : DiskD} {nm : ByteArray} {m : Nat} {P : Bs → List Bs → List Bs → Prop} (h : CW D nm m P) : OpQ D nm m P fun B R => ∃ lo hi, P B lo hi ∧ lo <+: R ∧ R <+: hi := h.js.op h.di h.st
theorem nmAt_newD (x y k : Nat) : nmAt (newD x y) k = [] := by
 unfold nmAt nmL
 show (([] : List StepD).take k |>.foldl mapN (([] : NameL), 0)).1 = []
 rw [List.take_nil]; rfl
theorem newD_DI (x y : Nat) : DI (newD x y) :=
 ⟨newD_ok x y, fun k z o h => (by rw [nmAt_newD] at h; cases h), fun k z z' p h => (by rw [nmAt_newD] at h; cases h), fun f hf => (by cases hf), fun f hf => (by cases hf)⟩
theorem newD_CW (x y : Nat) (nm : ByteArray) : CW (newD x y) nm 0 fun B lo hi => B = [] ∧ lo = [] ∧ hi = [] := by
 refine ⟨newD_DI x y, rfl, rfl, rfl, fun k => ⟨⟨0, 0, [], []⟩, ⟨fun n h => ?_, fun h => absurd rfl h, fun n _ h => ?_, fun s hs => (by cases hs)⟩, ⟨fun s hs => (by cases hs), List.Pairwise.nil, fun s hs => (by cases hs), fun _ => rfl⟩, ⟨fun s hs => (by cases hs), fun h => absurd rfl h⟩, ⟨Nat.le_refl _, fun s hs => (by cases hs)⟩, rfl, rfl, rfl⟩, fun k => ⟨[], Nat.le_refl _, fun z h => ?_⟩⟩
 · rw [nmAt_newD] at h; exact absurd rfl h
 · rw [nmAt_newD] at h; exact absurd rfl h
 · rw [nmAt_newD] at h; exact absurd rfl h
theorem found_new {B : Bs} {R : List Bs} (h : ∃ lo hi : List Bs, (B = [] ∧ lo = [] ∧ hi = []) ∧ lo <+: R ∧ R <+: hi) : B = [] ∧ R = [] := by
 obtain ⟨lo, hi, ⟨h1, h2, h3⟩, -, h4⟩ := h
 subst h3
 exact ⟨h1, List.prefix_nil.1 h4⟩
theorem found_one {B B0 : Bs} {R R0 : List Bs} (h : ∃ lo hi : List Bs, (B = B0 ∧ R0 <+: lo ∧ hi <+: R0) ∧ lo <+: R ∧ R <+: hi) : B = B0 ∧ R = R0 := by
 obtain ⟨lo, hi, ⟨h1, h2, h3⟩, h4, h5⟩ := h
 exact ⟨h1, pre_eq (h5.trans h3) (h2.trans h4)⟩
def sumL (l : List Bs) : Nat := (l.map List.length).sum
theorem sumL_app (a b : List Bs) : sumL (a ++ b) = sumL a + sumL b := by unfold sumL; rw [List.map_append, List.sum_append]
theorem sumL_snoc {l : List Bs} {i : Nat} (h : i < l.length) : sumL (l.take (i + 1)) = sumL (l.take i) + l[i].length := by
 rw [snoc_take h, sumL_app]; simp [sumL]
theorem sumL_take (l : List Bs) (i : Nat) : sumL (l.take i) ≤ sumL l := by
 have h : sumL l = sumL (l.take i) + sumL (l.drop i) := by rw [← sumL_app, List.take_append_drop]
 omega
theorem sumL_get {l : List Bs} {i : Nat} (h : i < l.length) : sumL (l.take i) + l[i].length ≤ sumL l := by
 have := sumL_take l (i + 1)
 rw [sumL_snoc h] at this
 exact this
end Go.Proofs.YtdnibpclkhenmaaGreatDoor
