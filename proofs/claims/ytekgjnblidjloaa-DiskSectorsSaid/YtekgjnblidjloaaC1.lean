import Derived.Test.YtekgjnblidjloaaA1
namespace Go.Proofs.Ytekgjnblidjloaa
open Go.BX

/-! ### The sectors of one file -/
abbrev WF := Nat → Int × Sec
def wRow (w : WF) (i : Nat) : List (Int × Sec) := (List.range i).map w
def stRow (w : WF) (p a n : Nat) : List StepD := ((List.range' a n).map w).map (wrW p)
theorem wRow_succ (w : WF) (i : Nat) : wRow w (i + 1) = wRow w i ++ [w i] := by
 unfold wRow
 rw [List.range_succ, List.map_append]; rfl
theorem stRow_zero (w : WF) (p i : Nat) : stRow w p 0 i = (wRow w i).map (wrW p) := by
 unfold stRow wRow
 rw [List.range_eq_range']
theorem stRow_succ (w : WF) (p a n : Nat) : stRow w p a (n + 1) = stRow w p a n ++ [wrW p (w (a + n))] := by
 unfold stRow
 rw [List.range'_concat, List.map_append, List.map_append]
 simp
/-- the disk behind i writings; m: how many of them were synced, less one -/
def SG (x y : Nat) (nm : ByteArray) (w : WF) (i : Nat) (m : Option Nat) (D : DiskD) : Prop :=
 (i = 0 ∧ m = none ∧ D = newD x y) ∨ (0 < i ∧ D.armed = false ∧ D.dead = false ∧ DOk D ∧ D.steps.length ≤ i + 1 ∧ ∃ f, One nm D f ∧ match m with
  | none => D.safe = [] ∧ D.sc = 0 ∧ f.safe = [] ∧ f.sc = 0 ∧ D.steps = madeS f.p nm :: stRow w f.p 0 i
  | some s => s < i ∧ D.safe = [(nm, some f.p, 0)] ∧ (f.safe, f.sc) = ((wRow w (s + 1)).map (wrW f.p)).foldl putX ([], 0) ∧ D.steps = stRow w f.p (s + 1) (i - (s + 1)))
theorem SG.ok {x y : Nat} {nm : ByteArray} {w : WF} {i : Nat} {m : Option Nat} {D : DiskD} (h : SG x y nm w i m D) : DOk D ∧ D.armed = false ∧ D.dead = false ∧ D.steps.length ≤ i + 1 := by
 rcases h with ⟨-, -, rfl⟩ | ⟨-, h1, h2, h3, h4, -⟩
 · exact ⟨newD_ok x y, rfl, rfl, Nat.zero_le _⟩
 · exact ⟨h3, h1, h2, h4⟩
theorem SG.write {x y : Nat} {nm : ByteArray} {w : WF} {i : Nat} {m : Option Nat} {D D' : DiskD} {at_ e : Int} {xs : List (BitVec 8)} (h : SG x y nm w i m D) (hn : nmI nm = 1) (hs : nm.size ≤ maxLen) (ha : 0 ≤ at_ ∧ at_ < 65536) (hx : xs.length = 64) (hw : w i = (at_, secOf xs))
 (hr : WriteR D nm at_ xs e D') : e = 0 ∧ SG x y nm w (i + 1) m D' := by
 have hok := WriteR.ok h.ok.1 hs hr
 rcases h with ⟨rfl, rfl, rfl⟩ | ⟨h0, h1, h2, h3, h4, f, ho, hm⟩
 · obtain ⟨r, f, ho, a1, a2, a3, a4, a5, a6, a7, -, -⟩ := write_first hn ha hx hr
   refine ⟨r, .inr ⟨by omega, a6, a7, hok, by rw [a5]; exact Nat.le_refl 2, f, ho, a1, a2, a3, a4, ?_⟩⟩
   rw [a5, stRow_succ]
   show _ = madeS f.p nm :: ([] ++ [wrW f.p (w (0 + 0))])
   rw [Nat.zero_add, hw]; rfl
 · obtain ⟨r, o2, b1, b2, b3, b4, b5⟩ := write_more ho h1 hn ha hx hr
   have hl : D'.steps.length ≤ i + 1 + 1 := by rw [b3, List.length_append]; simp only [List.length_cons, List.length_nil]; omega
   refine ⟨r, .inr ⟨by omega, b4, b5.trans h2, hok, hl, putB at_ (secOf xs) f, o2, ?_⟩⟩
   cases m with
   | none =>
    obtain ⟨c1, c2, c3, c4, c5⟩ := hm
    refine ⟨b1.trans c1, b2.trans c2, c3, c4, ?_⟩
    rw [b3, c5, stRow_succ, Nat.zero_add, hw]; rfl
   | some s =>
    obtain ⟨c1, c2, c3, c4⟩ := hm
    refine ⟨by omega, b1.trans c2, c3, ?_⟩
    rw [b3, c4, show i + 1 - (s + 1) = (i - (s + 1)) + 1 by omega, stRow_succ, show s + 1 + (i - (s + 1)) = i by omega, hw]; rfl
theorem SG.sync {x y : Nat} {nm : ByteArray} {w : WF} {i : Nat} {D D' : DiskD} {e : Int} (h : SG x y nm w (i + 1) none D) (hr : SyncR D nm e D') : e = 0 ∧ SG x y nm w (i + 1) (some i) D' := by
 have hok := SyncR.ok h.ok.1 hr
 rcases h with ⟨h0, -⟩ | ⟨h0, h1, h2, h3, h4, f, ho, c1, c2, c3, c4, c5⟩
 · omega
 · obtain ⟨r, o2, b1, b2, b3, b4⟩ := sync_one ho h1 hr
   have hl : leftS f.p D.steps = [] := leftS_own fun z hz hk => by
    rw [c5] at hz
    rcases List.mem_cons.1 hz with rfl | hz
    · cases hk
    · obtain ⟨v, -, rfl⟩ := List.mem_map.1 hz
      rfl
   refine ⟨r, .inr ⟨by omega, b3, b4.trans h2, hok, by rw [b2, hl]; exact Nat.zero_le _, syncF f.p D.steps f, o2, by omega, ?_, ?_, ?_⟩⟩
   · have : (D'.safe, D'.sc) = ([(nm, some f.p, 0)], 1) := by
      rw [b1, c5, c1, c2, List.foldl_cons]
      refine (fold_skip fun z hz => ?_).trans rfl
      obtain ⟨v, -, rfl⟩ := List.mem_map.1 hz
      rfl
     exact congrArg Prod.fst this
   · show ((syncX f.p (f.safe, f.sc) D.steps).1, (syncX f.p (f.safe, f.sc) D.steps).2) = _
     rw [c5, c3, c4, stRow_zero]
     have : syncX f.p ([], 0) (madeS f.p nm :: (wRow w (i + 1)).map (wrW f.p)) = syncX f.p ([], 0) ((wRow w (i + 1)).map (wrW f.p)) := by
      unfold syncX
      rw [List.filter_cons_of_neg (by unfold isOf; simp [madeS])]
     rw [this, syncX_own]
     rfl
   · rw [b2, hl, Nat.sub_self]; rfl
/-- what a crash makes of the sectors: each is as it was safe, or as some writing since made it -/
theorem cr_sectors {p : Nat} (first : Int) (keep : List (BitVec 8)) : ∀ (l : List (Int × Sec)) (C : CrS) (f : FileD), C.fs = [f] → f.p = p →
 ∃ f', ((l.map (wrW p)).foldl (crStep first keep) C).fs = [f'] ∧ f'.p = p ∧ ((l.map (wrW p)).foldl (crStep first keep) C).A = C.A ∧ ∀ t, (mfind t f.safe ≠ none → mfind t f'.safe ≠ none) ∧ (mfind t f'.safe = mfind t f.safe ∨ ∃ v ∈ l, v.1 = t ∧ mfind t f'.safe = some v.2)
 | [], C, f, hf, hp => ⟨f, hf, hp, rfl, fun t => ⟨id, .inl rfl⟩⟩
 | v :: l, C, f, hf, hp => by
  rw [List.map_cons, List.foldl_cons]
  cases hb : bitOf keep C.j with
  | false =>
   have h1 : crStep first keep C (wrW p v) = ⟨C.A, C.i, C.j + 1, C.fs⟩ := crStep_no rfl hb
   rw [h1]
   obtain ⟨f', a1, a2, a3, a4⟩ := cr_sectors first keep l ⟨C.A, C.i, C.j + 1, C.fs⟩ f hf hp
   refine ⟨f', a1, a2, a3, fun t => ⟨(a4 t).1, (a4 t).2.imp id fun ⟨u, hu, hh⟩ => ⟨u, List.mem_cons_of_mem _ hu, hh⟩⟩⟩
  | true =>
   have h1 : crStep first keep C (wrW p v) = ⟨C.A, C.i, C.j + 1, updF C.fs p (putS v.1 v.2)⟩ := crStep_yes rfl rfl hb
   rw [h1]
   have h2 : updF C.fs p (putS v.1 v.2) = [putS v.1 v.2 f] := by rw [hf]; simp [updF, hp]
   obtain ⟨f', a1, a2, a3, a4⟩ := cr_sectors first keep l ⟨C.A, C.i, C.j + 1, updF C.fs p (putS v.1 v.2)⟩ (putS v.1 v.2 f) h2 hp
   have hs : ∀ t, mfind t (putS v.1 v.2 f).safe = if v.1 = t then some v.2 else mfind t f.safe := fun t => mfind_set _ _ _ _ _
   refine ⟨f', a1, a2, a3, fun t => ⟨fun hne => (a4 t).1 ?_, ?_⟩⟩
   · rw [hs]
     split
     · exact fun hh => by cases hh
     · exact hne
   · rcases (a4 t).2 with h3 | ⟨u, hu, h3, h4⟩
     · rw [hs] at h3
       by_cases ht : v.1 = t
       · rw [if_pos ht] at h3
         exact .inr ⟨v, List.mem_cons_self .., ht, h3⟩
       · rw [if_neg ht] at h3
         exact .inl h3
     · exact .inr ⟨u, List.mem_cons_of_mem _ hu, h3, h4⟩
theorem mfind_in {x : Int} : ∀ {L : SecM}, mfind x L ≠ none → ∃ e ∈ L, e.1 = x
 | [], h => absurd rfl h
 | e :: l, h => by
  by_cases he : e.1 = x
  · exact ⟨e, List.mem_cons_self .., he⟩
  · have h2 : mfind x (e :: l) = mfind x l := if_neg he
    obtain ⟨e', h3, h4⟩ := mfind_in (L := l) (by rw [← h2]; exact h)
    exact ⟨e', List.mem_cons_of_mem _ h3, h4⟩
theorem sectors_law {x y : Nat} {nm : ByteArray} {w : WF} {n s : Nat} {D : DiskD} (h : SG x y nm w n (some s) D) (xs : List (BitVec 8)) (ns : Nat → Nat) (nb : Nat) :
 ∃ f, (crashD D xs ns nb).files = [f] ∧ mfind nm (crashD D xs ns nb).now = some (some f.p) ∧ ∀ t : Int,
  (lastW (wRow w (s + 1)) t ≠ none → mfind t f.now ≠ none) ∧ (mfind t f.now ≠ none → t < f.size) ∧ ∀ v, mfind t f.now = some v → lastW (wRow w (s + 1)) t = some v ∨ ∃ j, s < j ∧ j < n ∧ (w j).1 = t ∧ (w j).2 = v := by
 rcases h with ⟨-, h0, -⟩ | ⟨h0, h1, h2, h3, h4, f, ho, c1, c2, c3, c4⟩
 · cases h0
 · obtain ⟨f', a1, a2, a3, a4⟩ := cr_sectors (p := f.p) (firstOf xs (nmC D.steps)) (xs.drop 1) ((List.range' (s + 1) (n - (s + 1))).map w) ⟨(D.safe, D.sc), 0, 0, D.files⟩ f ho.files rfl
   have e1 : (crC D xs).fs = [f'] := by
    unfold crC crAt
    rw [show D.steps.foldl _ _ = _ from congrArg (fun l => List.foldl _ _ l) c4]
    exact a1
   have e2 : (crC D xs).A = (D.safe, D.sc) := by
    unfold crC crAt
    rw [show D.steps.foldl _ _ = _ from congrArg (fun l => List.foldl _ _ l) c4]
    exact a3
   have hsafe : ∀ t, mfind t f.safe = lastW (wRow w (s + 1)) t := fun t => by
    have := putX_find (p := f.p) t (wRow w (s + 1)) ([], 0)
    rw [← c3] at this
    exact this
   refine ⟨visit (ns f'.p) f', ?_, ?_, fun t => ⟨fun hl => ?_, fun hl => ?_, fun v hv => ?_⟩⟩
   · show crF (crC D xs).fs (crC D xs).A.1 ns = _
     rw [e1, e2, show ((D.safe, D.sc) : NameL × Nat).1 = D.safe from rfl, c2]
     unfold crF
     rw [List.map_cons, List.map_nil, if_pos (by simp [a2])]
   · show mfind nm (crC D xs).A.1 = _
     rw [e2, show ((D.safe, D.sc) : NameL × Nat).1 = D.safe from rfl, c2]
     simp [mfind, visit, a2]
   · exact (a4 t).1 (by rw [hsafe]; exact hl)
   · obtain ⟨e, he, hx⟩ := mfind_in hl
     have := (sizeX_spec f'.safe).2.1 e he
     show t < sizeX f'.safe
     omega
   · have hv' : mfind t f'.safe = some v := hv
     rcases (a4 t).2 with h5 | ⟨u, hu, h5, h6⟩
     · exact .inl (by rw [← hsafe, ← h5, hv'])
     · obtain ⟨j, hj, rfl⟩ := List.mem_map.1 hu
       rw [List.mem_range'_1] at hj
       rw [hv'] at h6
       exact .inr ⟨j, by omega, by omega, h5, (Option.some.inj h6).symm⟩
theorem lastW_snoc (l : List (Int × Sec)) (v : Int × Sec) (t : Int) : lastW (l ++ [v]) t = if v.1 = t then some v.2 else lastW l t := by
 unfold lastW
 rw [List.foldl_append]; rfl
/-- the last safe writing of a sector among the first j -/
def lastJ (w : WF) (s j : Nat) (t : Int) : Option Sec := lastW (wRow w (min j (s + 1))) t
theorem lastJ_in {w : WF} {s j : Nat} {t : Int} (h : j ≤ s) : lastJ w s (j + 1) t = if (w j).1 = t then some (w j).2 else lastJ w s j t := by
 unfold lastJ
 rw [Nat.min_eq_left (by omega), Nat.min_eq_left (by omega), wRow_succ, lastW_snoc]
theorem lastJ_out {w : WF} {s j : Nat} {t : Int} (h : s < j) : lastJ w s (j + 1) t = lastJ w s j t := by
 unfold lastJ
 rw [Nat.min_eq_right (by omega), Nat.min_eq_right (by omega)]
theorem secOf_secL (x : Sec) : ∀ i, i < 64 → (secL x).getD i 0#8 = x i := fun i hi => by
 simp [secL, List.getD_eq_getElem?_getD, hi]
section
variable {S : Nat → Prop} {w : World} {O : List Nat} {db : Nat} {D : DiskD} {sa : Option Addr} {sk : Nat}
theorem dSizeE {name : ByteArray} (hok : DOk D) (hd : D.dead = false) (H0 : Hp w S O (diskM db D sa sk) [diskW D sa sk] [] w) :
 Calls Try.prog 11 #[.P db 0, .string name] w (Ret fun v w' => ∃ sz es : Int, v = .tuple #[.I sz, .I es] ∧ (es = 71 ∧ mfind name D.now = none ∨ es = 0 ∧ ∃ f ∈ D.files, mfind name D.now = some (some f.p) ∧ sz = f.size) ∧ Hp w S O (diskM db D sa sk) [diskW D sa sk] [] w') :=
 (dSize hok hd H0).mono fun e w' hh => by
  obtain ⟨v, he, ⟨hv, h1⟩ | ⟨g, hg, hgn, hv⟩, H'⟩ := hh
  · exact ⟨v, he, 0, 71, hv, .inl ⟨rfl, h1⟩, H'⟩
  · exact ⟨v, he, g.size, 0, hv, .inr ⟨rfl, g, hg, hgn, rfl⟩, H'⟩
end
def wf (ws : List (List (BitVec 8))) (as_ : List Int) : WF := fun i => ((as_.getD i 0) % 8, secOf (padTo (ws.getD i []) 64))
theorem wf_at {ws : List (List (BitVec 8))} {as_ : List Int} {i : Nat} (h1 : i < ws.length) (h2 : i < as_.length) : wf ws as_ i = (as_[i] % 8, secOf (padTo ws[i] 64)) := by
 unfold wf
 rw [List.getD_eq_getElem?_getD, List.getD_eq_getElem?_getD, List.getElem?_eq_getElem h1, List.getElem?_eq_getElem h2]; rfl
theorem zero_secL : List.replicate 64 (0#8 : BitVec 8) = secL zeroSec := by
 apply List.ext_getElem
 · rw [secL_len, List.length_replicate]
 · intro i h1 h2
   simp only [secL, List.getElem_map, List.getElem_replicate]
   rfl
def JInv (w : WF) (s j : Nat) (t : Int) (xg : Option Sec) (fi wa : Bool) (sb : List (BitVec 8)) : Prop :=
 sb = secL ((lastJ w s j t).getD zeroSec) ∧ wa = (lastJ w s j t).isSome ∧ match xg with
  | none => fi = true
  | some x => ∀ j', j' < j → s < j' → (w j').1 = t → x = (w j').2 → fi = true
theorem JInv.zero {w : WF} {s : Nat} {t : Int} {xg : Option Sec} {fi : Bool} (h : xg = none → fi = true) : JInv w s 0 t xg fi false (List.replicate 64 (0#8 : BitVec 8)) := by
 refine ⟨zero_secL, rfl, ?_⟩
 cases xg with
 | none => exact h rfl
 | some x => exact fun j' h1 => absurd h1 (Nat.not_lt_zero _)
theorem JInv.safe {w : WF} {s j : Nat} {t : Int} {xg : Option Sec} {fi wa : Bool} {sb : List (BitVec 8)} (h : JInv w s j t xg fi wa sb) (hj : j ≤ s) (ht : (w j).1 = t) {z : List (BitVec 8)} (hz : z.length = 64) (hw : (w j).2 = secOf z) : JInv w s (j + 1) t xg fi true z := by
 obtain ⟨h1, h2, h3⟩ := h
 refine ⟨?_, ?_, ?_⟩
 · rw [lastJ_in hj, if_pos ht, Option.getD_some, hw, secL_same hz]
 · rw [lastJ_in hj, if_pos ht]; rfl
 · cases xg with
   | none => exact h3
   | some x =>
    intro j' g1 g2 g3 g4
    by_cases e : j' = j
    · omega
    · exact h3 j' (by omega) g2 g3 g4
theorem JInv.other {w : WF} {s j : Nat} {t : Int} {xg : Option Sec} {fi wa : Bool} {sb : List (BitVec 8)} (h : JInv w s j t xg fi wa sb) (ht : ¬ (w j).1 = t) : JInv w s (j + 1) t xg fi wa sb := by
 obtain ⟨h1, h2, h3⟩ := h
 have hl : lastJ w s (j + 1) t = lastJ w s j t := by
  by_cases hj : j ≤ s
  · rw [lastJ_in hj, if_neg ht]
  · exact lastJ_out (by omega)
 refine ⟨by rw [hl]; exact h1, by rw [hl]; exact h2, ?_⟩
 cases xg with
 | none => exact h3
 | some x =>
  intro j' g1 g2 g3 g4
  by_cases e : j' = j
  · subst e; exact absurd g3 ht
  · exact h3 j' (by omega) g2 g3 g4
theorem JInv.late {w : WF} {s j : Nat} {t : Int} {xg : Option Sec} {fi fi' wa : Bool} {sb : List (BitVec 8)} (h : JInv w s j t xg fi wa sb) (hj : s < j) (hf : fi = true → fi' = true) (hx : ∀ x, xg = some x → x = (w j).2 → fi' = true) : JInv w s (j + 1) t xg fi' wa sb := by
 obtain ⟨h1, h2, h3⟩ := h
 refine ⟨by rw [lastJ_out hj]; exact h1, by rw [lastJ_out hj]; exact h2, ?_⟩
 cases xg with
 | none => exact hf h3
 | some x =>
  intro j' g1 g2 g3 g4
  by_cases e : j' = j
  · subst e; exact hx x rfl g4
  · exact hf (h3 j' (by omega) g2 g3 g4)
abbrev SecFacts (w : WF) (s n : Nat) (t : Int) (f : FileD) : Prop :=
 (lastW (wRow w (s + 1)) t ≠ none → mfind t f.now ≠ none) ∧ (mfind t f.now ≠ none → t < f.size) ∧ ∀ v, mfind t f.now = some v → lastW (wRow w (s + 1)) t = some v ∨ ∃ j, s < j ∧ j < n ∧ (w j).1 = t ∧ (w j).2 = v
theorem JInv.end {w : WF} {s n : Nat} {t : Int} {x : Sec} {fi wa : Bool} {sb : List (BitVec 8)} {f : FileD} (h : JInv w s n t (some x) fi wa sb) (hs : s < n) (hx : x = (mfind t f.now).getD zeroSec) (hl : SecFacts w s n t f) (hf : fi = false) : secL x = sb := by
 obtain ⟨h1, h2, h3⟩ := h
 have hj : lastJ w s n t = lastW (wRow w (s + 1)) t := by unfold lastJ; rw [Nat.min_eq_right (by omega)]
 rw [h1, hj]
 cases hm : mfind t f.now with
 | none =>
  have : lastW (wRow w (s + 1)) t = none := Classical.byContradiction fun hne => hl.1 hne hm
  rw [this, hx, hm]
 | some v =>
  rw [hm, Option.getD_some] at hx
  rcases hl.2.2 v hm with h4 | ⟨j, g1, g2, g3, g4⟩
  · rw [h4, hx]; rfl
  · have := h3 j g2 g1 g3 (hx.trans g4.symm)
    rw [hf] at this; cases this
theorem JInv.miss {w : WF} {s n : Nat} {t : Int} {fi wa : Bool} {sb : List (BitVec 8)} {f : FileD} {xg : Option Sec} (h : JInv w s n t xg fi wa sb) (hs : s < n) (hl : SecFacts w s n t f) (hw : wa = true) : t < f.size := by
 obtain ⟨-, h2, -⟩ := h
 have hj : lastJ w s n t = lastW (wRow w (s + 1)) t := by unfold lastJ; rw [Nat.min_eq_right (by omega)]
 rw [h2, hj] at hw
 refine hl.2.1 (hl.1 fun hn => ?_)
 rw [hn] at hw; cases hw


end Go.Proofs.Ytekgjnblidjloaa
