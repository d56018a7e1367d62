import Derived.Test.YtdnibpclkhenmaaGreatDoorSP7
import Derived.Test.YtdnibpclkhenmaaGreatDoorSH1
namespace Go.Proofs.YtdnibpclkhenmaaGreatDoor
open Go.BX
theorem Cap.step {D D' : DiskD} {c m : Nat} (h : Cap D m) (hc : Cp c D D') : Cap D' (m + c) := (hc m (h _)).2 (m + c) (Nat.le_refl _) (h.mono (Nat.le_add_right _ _))
structure JW (D : DiskD) (nm : ByteArray) (B : Bs) (R0 R : List Bs) (g : Nat) (seg : ByteArray) (σ : Bs) (sy : Bool) (n m t q c : Nat) : Prop where
 pl : PlainB nm
 di : DI D
 al : Al D n
 jl : JL D nm B R0 R g seg σ sy q
 cap : Cap D c
 gm : g ≤ m
 sl : σ.length ≤ t
 rl : R.length ≤ m
 rb : ∀ r ∈ R, r.length ≤ 4194304
 bl : B.length ≤ 4194304
section
variable {D D' : DiskD} {nm seg seg' : ByteArray} {B : Bs} {R0 R : List Bs} {g g' : Nat} {σ : Bs} {sy : Bool} {n n' m t q c c' : Nat}
theorem JW.now (h : JW D nm B R0 R g seg σ sy n m t q c)   : D.now.length ≤ c := NmC.now h.di (h.cap _)
theorem JL.mono {q' : Nat} (h : JL D nm B R0 R g seg σ sy q) (hq : q ≤ q') : JL D nm B R0 R g seg σ sy q' := by
 obtain ⟨V, cur, a, b, c, d, e, f, i, j, k⟩ := h
 exact ⟨V, cur, a, b, c, d, e, f, i, j, Nat.le_trans k hq⟩
theorem JW.mono (h : JW D nm B R0 R g seg σ sy n m t q c) {n' m' t' q' c' : Nat} (hn : n' ≤ n) (hm : m ≤ m') (ht : t ≤ t') (hq : q ≤ q') (hc : c ≤ c') : JW D nm B R0 R g seg σ sy n' m' t' q' c' :=
 ⟨h.pl, h.di, h.al.mono hn, h.jl.mono hq, h.cap.mono hc, Nat.le_trans h.gm hm, Nat.le_trans h.sl ht, Nat.le_trans h.rl hm, h.rb, h.bl⟩
theorem JW.app (h : JW D nm B R0 R g seg σ sy n m t q c) {r : Bs} (hr : r.length ≤ 4194304) (hJ : JL D' nm B R0 (R ++ [r]) g' seg' (σ ++ frameF r) false q) (hg : g' ≤ g + 1) (hd : DI D') (ha : Al D' n') (hc : Cap D' c') : JW D' nm B R0 (R ++ [r]) g' seg' (σ ++ frameF r) false n' (m + 1) (t + r.length + 12) q c' := by
 refine ⟨h.pl, hd, ha, hJ, hc, by have := h.gm; omega, ?_, ?_, fun x hx => ?_, h.bl⟩
 · have := h.sl
   rw [List.length_append, frame_len]; omega
 · have := h.rl
   rw [List.length_append, List.length_singleton]; omega
 · rcases List.mem_append.1 hx with hx | hx
   · exact h.rb x hx
   · rw [List.mem_singleton.1 hx]; exact hr
theorem JW.syn (h : JW D nm B R0 R g seg σ sy n m t q c) (hJ : JL D' nm B R R g seg σ true q) (hd : DI D') (ha : Al D' n') (hc : Cap D' c') : JW D' nm B R R g seg σ true n' (m + 1) t q c' :=
 ⟨h.pl, hd, ha, hJ, hc, Nat.le_succ_of_le h.gm, h.sl, Nat.le_succ_of_le h.rl, h.rb, h.bl⟩
theorem JW.chk (h : JW D nm B R0 R g seg σ sy n m t q c) {b : Bs} (hb : b.length ≤ 3000000) (hJ : JL D' nm b [] [] (g + 1) ⟨#[]⟩ [] true 0) (hd : DI D') (ha : Al D' n') (hc : Cap D' c') : JW D' nm b [] [] (g + 1) ⟨#[]⟩ [] true n' (m + 1) 0 0 c' :=
 ⟨h.pl, hd, ha, hJ, hc, Nat.succ_le_succ h.gm, Nat.le_refl _, Nat.zero_le _, nofun, by omega⟩
end
def OpQ (D : DiskD) (nm : ByteArray) (m q : Nat) (P : Bs → List Bs → List Bs → Prop) (Q : Bs → List Bs → Prop) : Prop := ∃ V, PV D nm V ∧ gV V ≤ m ∧ JS D nm m P ∧ Q V.B (recsV D V) ∧ V.segs.length ≤ q
theorem gV_le {V : VV} {m : Nat} (h1 : V.last ≤ m) (h2 : ∀ s ∈ V.segs, s.n ≤ m) : gV V ≤ m := by
 unfold gV
 cases h : V.segs.getLast? with
 | none => exact h1
 | some s => exact h2 s (List.mem_of_getLast? h)
theorem JS.op {D : DiskD} (hd : DI D) {nm : ByteArray} {m : Nat} {P : Bs → List Bs → List Bs → Prop} (h : JS D nm m P) (hs : D.steps = []) : ∃ q, OpQ D nm m q P fun B R => ∃ lo hi, P B lo hi ∧ lo <+: R ∧ R <+: hi := by
 obtain ⟨V, a, ⟨b, c⟩, d⟩ := h.pv hd hs
 obtain ⟨e, f⟩ := a.recs hd
 exact ⟨V.segs.length, V, a, gV_le b c, h, ⟨V.lo, V.hi, d, e, f⟩, Nat.le_refl _⟩
theorem pre_eq {α : Type} {a b : List α} (h1 : a <+: b) (h2 : b <+: a) : a = b := h1.eq_of_length (Nat.le_antisymm h1.length_le h2.length_le)
theorem JW.op {D : DiskD} {nm seg : ByteArray} {B : Bs} {R0 R : List Bs} {g : Nat} {σ : Bs} {sy : Bool} {n m t q c : Nat} (h : JW D nm B R0 R g seg σ sy n m t q c) : OpQ D nm m (q + 1) (fun B' lo hi => B' = B ∧ R0 <+: lo ∧ hi <+: R) fun B' R' => B' = B ∧ R' = R := by
 have hj := h.jl.js
 obtain ⟨V, cur, hL, hB, _, hR, -, -, -, -, hVq⟩ := h.jl
 have hpv := hL.pv h.di
 obtain ⟨a, b⟩ := hpv.recs h.di
 have d : (V.addO (hiC cur)).hi = R := by
  rw [VV.addO_hi, ← hR]
  cases cur <;> rfl
 have e : (V.addO (hiC cur)).lo = R := by
  rw [VV.addO_lo, hL.lv.lohi, ← hR]
  cases cur <;> rfl
 rw [e] at a
 rw [d] at b
 refine ⟨V.addO (hiC cur), hpv, gV_le (Nat.le_trans hL.lv.top.1 h.gm) fun s hs => ?_, hj.mono h.gm fun _ _ _ h => h, ⟨hB, (pre_eq a b).symm⟩, ?_⟩
 rotate_left
 · show (V.segs ++ (hiC cur).toList).length ≤ q + 1
   rw [List.length_append]
   cases cur <;> simp [hiC] <;> omega
 rcases List.mem_append.1 hs with hs | hs
 · exact Nat.le_trans (hL.lv.top.2 s hs) h.gm
 · cases cur with
   | none => simp [hiC] at hs
   | some c =>
    have : s = ⟨c.n, c.p, c.hi, c.hi⟩ := by simpa [hiC] using hs
    subst this
    show c.n ≤ m
    rw [hL.lv.segN.2.1]; exact h.gm
structure DW (D : DiskD) (nm : ByteArray) (m c : Nat) (P : Bs → List Bs → List Bs → Prop) : Prop where
 di : DI D
 dead : D.dead = true
 st : D.steps.length ≤ 1000000000
 js : JS D nm m P
 cap : Cap D c
theorem Dd.dw {D0 D : DiskD} {nm : ByteArray} {G m c : Nat} {P P' : Bs → List Bs → List Bs → Prop} (h : Dd D0 D nm G P) (hG : G ≤ m + 1) (hc : Cap D0 c) (hP : ∀ B lo hi, P B lo hi → P' B lo hi) : DW D nm (m + 1) (c + 1) P' :=
 ⟨h.di, h.dead, h.st, h.js.mono hG hP, hc.step h.cp⟩
structure CW (D : DiskD) (nm : ByteArray) (m c : Nat) (P : Bs → List Bs → List Bs → Prop) : Prop where
 di : DI D
 dead : D.dead = false
 arm : D.armed = false
 st : D.steps = []
 js : JS D nm m P
 cap : Cap D c
theorem CW.al {D : DiskD} {nm : ByteArray} {m c : Nat} {P : Bs → List Bs → List Bs → Prop} (h : CW D nm m c P) : Al D 1000000000 := ⟨h.dead, fun q => (by rw [h.arm] at q; cases q), by rw [h.st]; exact Nat.le_refl _⟩
theorem CW.of {D : DiskD} {nm : ByteArray} {m c : Nat} {P : Bs → List Bs → List Bs → Prop} (hd : DI D) (hj : JS D nm m P) (hc : Cap D c) (xs : List (BitVec 8)) (ns : Nat → Nat) (nb : Nat) : CW (crashD D xs ns nb) nm m c P :=
 ⟨hd.crash xs ns nb, rfl, rfl, rfl, hj.crash xs ns nb, hc.crash xs ns nb⟩
theorem CW.op {D : DiskD} {nm : ByteArray} {m c : Nat} {P : Bs → List Bs → List Bs → Prop} (h : CW D nm m c P) : ∃ q, OpQ D nm m q P fun B R => ∃ lo hi, P B lo hi ∧ lo <+: R ∧ R <+: hi := h.js.op h.di h.st
theorem nmAt_newD (x y k : Nat) : nmAt (newD x y) k = [] := by
 unfold nmAt nmL
 show (([] : List StepD).take k |>.foldl mapN (([] : NameL), 0)).1 = []
 rw [List.take_nil]; rfl
theorem newD_DI (x y : Nat) : DI (newD x y) :=
 ⟨newD_ok x y, fun k z o h => (by rw [nmAt_newD] at h; cases h), fun k z z' p h => (by rw [nmAt_newD] at h; cases h), fun f hf => (by cases hf), fun f hf => (by cases hf)⟩
theorem newD_CW (x y : Nat) (nm : ByteArray) : CW (newD x y) nm 0 0 fun B lo hi => B = [] ∧ lo = [] ∧ hi = [] := by
 refine ⟨newD_DI x y, rfl, rfl, rfl, fun k => ⟨⟨0, 0, [], []⟩, ⟨fun n h => ?_, fun h => absurd rfl h, fun n _ h => ?_, fun s hs => (by cases hs)⟩, ⟨fun s hs => (by cases hs), List.Pairwise.nil, fun s hs => (by cases hs), fun _ => rfl⟩, ⟨fun s hs => (by cases hs), fun h => absurd rfl h⟩, ⟨Nat.le_refl _, fun s hs => (by cases hs)⟩, rfl, rfl, rfl⟩, fun k => ⟨[], Nat.le_refl _, fun z h => ?_⟩⟩
 · rw [nmAt_newD] at h; exact absurd rfl h
 · rw [nmAt_newD] at h; exact absurd rfl h
 · rw [nmAt_newD] at h; exact absurd rfl h
theorem newD_op (x y : Nat) (nm : ByteArray) : OpQ (newD x y) nm 0 0 (fun B lo hi => B = [] ∧ lo = [] ∧ hi = []) fun B R => B = [] ∧ R = [] :=
 ⟨⟨0, 0, [], []⟩, (RS.pv (newD_DI x y) ⟨fun k => ⟨fun n h => by rw [nmAt_newD] at h; exact absurd rfl h, fun h => absurd rfl h, fun n _ h => by rw [nmAt_newD] at h; exact absurd rfl h, fun s hs => (by cases hs)⟩, ⟨fun s hs => (by cases hs), List.Pairwise.nil, fun s hs => (by cases hs), fun _ => rfl⟩, ⟨fun s hs => (by cases hs), fun h => absurd rfl h⟩⟩), Nat.le_refl _, (newD_CW x y nm).js, ⟨rfl, rfl⟩, Nat.le_refl _⟩
theorem found_one {B B0 : Bs} {R R0 : List Bs} (h : ∃ lo hi : List Bs, (B = B0 ∧ R0 <+: lo ∧ hi <+: R0) ∧ lo <+: R ∧ R <+: hi) : B = B0 ∧ R = R0 := by
 obtain ⟨lo, hi, ⟨a, b, c⟩, d, e⟩ := h
 exact ⟨a, pre_eq (e.trans c) (b.trans d)⟩
theorem JL.oth {D D' : DiskD} {nm nm2 seg : ByteArray} {B : Bs} {R0 R : List Bs} {g : Nat} {σ : Bs} {sy : Bool} {q : Nat} (h : JL D nm2 B R0 R g seg σ sy q) (hp : PlainB nm2) (hs : Stp nm D D') (hne : nm2 ≠ nm) : JL D' nm2 B R0 R g seg σ sy q := by
 obtain ⟨V, cur, a, b⟩ := h
 exact ⟨V, cur, hs.oth nm2 hp hne V cur g a, b⟩
theorem JW.oth {D D' : DiskD} {nm nm2 seg : ByteArray} {B : Bs} {R0 R : List Bs} {g : Nat} {σ : Bs} {sy : Bool} {n n' m t q c c' : Nat} (h : JW D nm2 B R0 R g seg σ sy n m t q c) (hs : Stp nm D D') (hne : nm2 ≠ nm) (hd : DI D') (ha : Al D' n') (hc : Cap D' c') : JW D' nm2 B R0 R g seg σ sy n' m t q c' :=
 ⟨h.pl, hd, ha, h.jl.oth h.pl hs hne, hc, h.gm, h.sl, h.rl, h.rb, h.bl⟩
theorem JL.names {D : DiskD} {nm seg : ByteArray} {B : Bs} {R0 R : List Bs} {g : Nat} {σ : Bs} {sy : Bool} (h : JL D nm B R0 R g seg σ sy 0) : ∃ l : List ByteArray, l.length ≤ 3 ∧ ∀ x, OfJ nm x → mfind x (nmAt D D.steps.length) ≠ none → x ∈ l := by
 obtain ⟨V, cur, a, -, -, -, -, -, -, -, hq⟩ := h
 have hs : V.segs = [] := List.eq_nil_of_length_eq_zero (Nat.le_zero.1 hq)
 refine ⟨[cN nm V.last, sN nm V.last] ++ cur.toList.map fun s => sN nm s.n, by rw [List.length_append, List.length_map]; cases cur <;> simp, fun x hx hn => ?_⟩
 rcases a.own x hx hn with rfl | rfl | ⟨s, hs', rfl⟩
 · simp
 · simp
 · have : s ∈ cur.toList := by
    change s ∈ V.segs ++ cur.toList at hs'
    rwa [hs, List.nil_append] at hs'
   exact List.mem_append_right _ (List.mem_map.2 ⟨s, this, rfl⟩)
theorem Cap.keep {D D' : DiskD} (hc : Cp 1 D D') (hN : NmC D D.steps.length 6) (h : Cap D 8) : Cap D' 8 := (hc 6 hN).2 8 (by omega) h
theorem RS.op {D : DiskD} (hd : DI D) {nm : ByteArray} {V : VV} {m : Nat} (h : RS D nm V) (h1 : V.last ≤ m) (h2 : ∀ s ∈ V.segs, s.n ≤ m) : ∃ q, OpQ D nm m q (fun B lo hi => B = V.B ∧ lo = V.lo ∧ hi = V.hi) fun B R => B = V.B ∧ V.lo <+: R ∧ R <+: V.hi := by
 have hp := h.pv hd
 obtain ⟨a, b⟩ := hp.recs hd
 exact ⟨V.segs.length, V, hp, gV_le h1 h2, h.js h1 h2, ⟨rfl, a, b⟩, Nat.le_refl _⟩
end Go.Proofs.YtdnibpclkhenmaaGreatDoor
