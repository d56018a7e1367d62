import Derived.Test.YtdnibpclkhenmaaGreatDoorSP0
import Derived.Test.YtdnibpclkhenmaaGreatDoorSP1
namespace Go.Proofs.YtdnibpclkhenmaaGreatDoor
open Go.BX
def nmL (D : DiskD) (k : Nat) : NameL × Nat := (D.steps.take k).foldl mapN (D.safe, D.sc)
abbrev nmAt (D : DiskD) (k : Nat) : NameL := (nmL D k).1
theorem nmL_ok {D : DiskD} (h : DOk D) (k : Nat) : MOk (nmL D k).1 (nmL D k).2 := foldN_ok h.cr.map _
theorem nm_now {D : DiskD} (h : DOk D) (x : ByteArray) : mfind x D.now = mfind x (nmAt D D.steps.length) := by
 rw [h.same]
 unfold nmAt nmL
 rw [List.take_length]
theorem nmL_addS_le {D : DiskD} {x : StepD} {k : Nat} (hk : k ≤ D.steps.length) : nmL (addS D x) k = nmL D k := by
 unfold nmL
 show ((D.steps ++ [x]).take k).foldl mapN (D.safe, D.sc) = _
 rw [List.take_append_of_le_length hk]
theorem nmL_addS {D : DiskD} {x : StepD} {k : Nat} (hk : D.steps.length < k) : nmL (addS D x) k = mapN (nmL D D.steps.length) x := by
 unfold nmL
 show ((D.steps ++ [x]).take k).foldl mapN (D.safe, D.sc) = _
 rw [List.take_of_length_le (by rw [List.length_append]; simp; omega), List.foldl_append, List.take_length]; rfl
theorem nmAt_add (D : DiskD) (x : StepD) (k : Nat) : (∃ j, nmAt (addS D x) k = nmAt D j) ∨ nmAt (addS D x) k = (mapN (nmL D D.steps.length) x).1 := by
 rcases Nat.lt_or_ge D.steps.length k with h | h
 · exact .inr (congrArg Prod.fst (nmL_addS h))
 · exact .inl ⟨k, congrArg Prod.fst (nmL_addS_le h)⟩
theorem nmAt_old (D : DiskD) (p : Nat) (a : Int) (s : Sec) (k : Nat) : ∃ j, nmAt (wrOld D p a s) k = nmAt D j := by
 rcases nmAt_add (setF D (updF D.files p (putB a s))) (wrS p a s) k with ⟨j, h⟩ | h
 · exact ⟨j, h⟩
 · exact ⟨D.steps.length, h⟩
theorem nmAt_new (D : DiskD) (p s n : Nat) (name : ByteArray) (a : Int) (x : Sec) (k : Nat) : (∃ j, nmAt (wrNew D p s n name a x) k = nmAt D j) ∨ nmAt (wrNew D p s n name a x) k = (mapN (nmL D D.steps.length) ⟨0, some p, noS, name, 0, zeroSec⟩).1 := by
 rcases nmAt_add (addS (setF D (putB a x ⟨p, s, n, [], 0, [], 0, 0⟩ :: D.files)) ⟨0, some p, noS, name, 0, zeroSec⟩) (wrS p a x) k with ⟨j, h⟩ | h
 · rcases nmAt_add (setF D (putB a x ⟨p, s, n, [], 0, [], 0, 0⟩ :: D.files)) ⟨0, some p, noS, name, 0, zeroSec⟩ j with ⟨i, b⟩ | b
   · exact .inl ⟨i, h.trans b⟩
   · exact .inr (h.trans b)
 · refine .inr (h.trans ?_)
   have e : nmL (addS (setF D (putB a x ⟨p, s, n, [], 0, [], 0, 0⟩ :: D.files)) ⟨0, some p, noS, name, 0, zeroSec⟩) (addS (setF D (putB a x ⟨p, s, n, [], 0, [], 0, 0⟩ :: D.files)) ⟨0, some p, noS, name, 0, zeroSec⟩).steps.length = mapN (nmL D D.steps.length) ⟨0, some p, noS, name, 0, zeroSec⟩ := nmL_addS (by
    show D.steps.length < (D.steps ++ [_]).length
    simp)
   rw [e]; rfl
theorem nmAt_sync {D : DiskD} (p k : Nat) : nmAt (syncD D p) k = nmAt D D.steps.length := by
 unfold nmAt nmL
 show (((leftS p D.steps).take k).foldl mapN ((D.steps.foldl mapN (D.safe, D.sc)).1, (D.steps.foldl mapN (D.safe, D.sc)).2)).1 = _
 rw [fold_skip fun y hy => (leftS_kind (List.mem_of_mem_take hy)).2, List.take_length]
theorem nmAt_crash {D : DiskD} (xs : List (BitVec 8)) (ns : Nat → Nat) (nb : Nat) : ∃ m, ∀ k, nmAt (crashD D xs ns nb) k = nmAt D m := by
 obtain ⟨m, hm, -⟩ := crAt_A (firstOf xs (nmC D.steps)) (xs.drop 1) (D.safe, D.sc) D.files D.steps
 refine ⟨m, fun k => ?_⟩
 unfold nmAt nmL
 show (([] : List StepD).take k |>.foldl mapN ((crC D xs).A.1, (crC D xs).A.2)).1 = _
 rw [List.take_nil]
 exact congrArg Prod.fst hm
theorem find_made {L : NameL × Nat} {p : Nat} {name y : ByteArray} : mfind y (mapN L ⟨0, some p, noS, name, 0, zeroSec⟩).1 = if name = y then some (some p) else mfind y L.1 := mfind_set _ _ _ _ _
theorem find_rm {L : NameL × Nat} (h : MOk L.1 L.2) {name y : ByteArray} : mfind y (mapN L (rmS name)).1 = if name = y then none else mfind y L.1 := mfind_del _ _ h.keys
theorem find_rn {L : NameL × Nat} (h : MOk L.1 L.2) {name to y : ByteArray} {o : Option Nat} (hf : mfind name L.1 = some o) : mfind y (mapN L (rnS name to)).1 = if name = y then none else if to = y then some o else mfind y L.1 := by
 show mfind y (mdel name (mset to ((mfind name L.1).getD none) L.2 L.1)) = _
 rw [mfind_del _ _ (h.set _ _).keys, mfind_set, hf]; rfl
structure DI (D : DiskD) : Prop where
 ok : DOk D
 form : ∀ k x o, mfind x (nmAt D k) = some o → FForm x
 inj : ∀ k x y p, mfind x (nmAt D k) = some (some p) → mfind y (nmAt D k) = some (some p) → x = y
 ns : ∀ f ∈ D.files, (∃ k x, mfind x (nmAt D k) = some (some f.p)) → ∀ i, mfind i f.now = mfind i (syncX f.p (f.safe, f.sc) D.steps).1
 sz : ∀ f ∈ D.files, (∃ k x, mfind x (nmAt D k) = some (some f.p)) → ∀ e ∈ f.now, e.1 + 1 ≤ f.size
theorem dig_pow : ∀ (n : Nat), 1 ≤ n → 10 ^ (Lib.nDigits n - 1) ≤ n := by
 intro n
 induction n using Nat.strongRecOn with
 | _ n ih =>
  intro h
  have e : Lib.nDigits n = (Lib.decDigits n).length := (Lib.decDigits_length n).symm
  rw [e, Lib.decDigits]
  split
  · simpa using h
  · rename_i hn
    have a := ih (n / 10) (by omega) (by omega)
    rw [← Lib.decDigits_length] at a
    have b : 1 ≤ (Lib.decDigits (n / 10)).length := by rw [Lib.decDigits_length]; exact Lib.nDigits_pos _
    rw [List.length_append, List.length_singleton, Nat.add_sub_cancel]
    obtain ⟨m, hm⟩ : ∃ m, (Lib.decDigits (n / 10)).length = m + 1 := ⟨_, (Nat.succ_pred_eq_of_pos b).symm⟩
    rw [hm] at a ⊢
    rw [Nat.add_sub_cancel] at a
    rw [Nat.pow_succ]
    omega
theorem FForm.size {x : ByteArray} (h : FForm x) : x.size ≤ 64 ∧ nmI x = 1 := by
 have hl : ∀ x : ByteArray, x.size = x.data.toList.length := fun _ => rfl
 have key : x.size ≤ 64 ∧ x.data.toList ≠ [] := by
  cases h with
  | @file nm kd n h1 h2 h3 h4 =>
   rw [hl, fN_list]
   have a := h1.1
   rw [hl] at a
   have b : (Lib.decDigits n).length ≤ 7 := by
    rw [Lib.decDigits_length]
    rcases Nat.lt_or_ge 7 (Lib.nDigits n) with h | h
    · have c := Lib.nDigits_pos n
      have : 10 ^ (Lib.nDigits n - 1) ≤ n := dig_pow n (by omega)
      have d : 10 ^ 7 ≤ 10 ^ (Lib.nDigits n - 1) := Nat.pow_le_pow_right (by decide) (by omega)
      have e : (10 : Nat) ^ 7 = 10000000 := by decide
      omega
    · exact h
   refine ⟨?_, by simp⟩
   simp only [List.length_append, List.length_cons]
   have : kd.data.toList.length = 1 := by rcases h2 with rfl | rfl <;> rfl
   omega
  | @temp nm h1 =>
   rw [hl, tN_list]
   have a := h1.1
   rw [hl] at a
   refine ⟨?_, by simp⟩
   simp only [List.length_append, List.length_cons, List.length_nil]; omega
 refine ⟨key.1, ?_⟩
 unfold nmI
 rw [if_pos]
 refine ⟨?_, key.1⟩
 rw [Bool.not_eq_true', beq_eq_false_iff_ne]
 intro q
 apply key.2
 rw [Go.ByteArray.toList_eq, Go.ByteArray.toList_eq] at q
 exact q
theorem DI.named {D : DiskD} (h : DI D) {k : Nat} {x : ByteArray} {o : Option Nat} (hx : mfind x (nmAt D k) = some o) : ∃ p, o = some p ∧ p ∈ psOf D.files := by
 obtain ⟨e, he, -, rfl⟩ := mfind_mem hx
 exact h.ok.cr.good k e he
theorem DI.tk {D : DiskD} (h : DI D) : DI (tick D) := ⟨h.ok.tick', h.form, h.inj, h.ns, h.sz⟩
theorem DI.stop {D : DiskD} (h : DI D) : DI (stopD D) := ⟨h.ok.stopD', h.form, h.inj, h.ns, h.sz⟩
theorem syncX_app_no {q : Nat} {X : SecM × Nat} {l : List StepD} {x : StepD} (h : ¬ (x.kind = 3 ∧ x.file = some q)) : syncX q X (l ++ [x]) = syncX q X l := by
 unfold syncX
 rw [List.filter_append, show List.filter (isOf q) [x] = [] by rw [List.filter_cons_of_neg (by unfold isOf; simpa using h)]; rfl, List.append_nil]
theorem syncX_app_yes {q : Nat} {X : SecM × Nat} {l : List StepD} {x : StepD} (h : x.kind = 3 ∧ x.file = some q) : syncX q X (l ++ [x]) = putX (syncX q X l) x := by
 unfold syncX
 rw [List.filter_append, show List.filter (isOf q) [x] = [x] by rw [List.filter_cons_of_pos (by unfold isOf; simpa using h)]; rfl, List.foldl_append]; rfl
theorem syncX_none {q : Nat} {X : SecM × Nat} {l : List StepD} (h : ∀ x ∈ l, x.kind = 3 → x.file ≠ some q) : syncX q X l = X := by
 unfold syncX
 rw [List.filter_eq_nil_iff.2 fun x hx hh => by
  have := of_decide_eq_true hh
  exact h x hx this.1 this.2]
 rfl
theorem putB_sz {a : Int} {s : Sec} {f : FileD} (h : ∀ e ∈ f.now, e.1 + 1 ≤ f.size) : ∀ e ∈ (putB a s f).now, e.1 + 1 ≤ (putB a s f).size := fun e he => by
 have hs : f.size ≤ (putB a s f).size ∧ a + 1 ≤ (putB a s f).size := by
  show f.size ≤ (if a + 1 > f.size then a + 1 else f.size) ∧ a + 1 ≤ if a + 1 > f.size then a + 1 else f.size
  split <;> omega
 rcases mset_at (X := f.now) he with b | ⟨e', he', b⟩
 · omega
 · have := h e' he'; omega
theorem DI.old {D : DiskD} {p : Nat} {a : Int} {s : Sec} (h : DI D) (hok : DOk (wrOld D p a s)) : DI (wrOld D p a s) where
 ok := hok
 form := fun k x o hx => by obtain ⟨j, e⟩ := nmAt_old D p a s k; rw [e] at hx; exact h.form j x o hx
 inj := fun k x y q hx hy => by obtain ⟨j, e⟩ := nmAt_old D p a s k; rw [e] at hx hy; exact h.inj j x y q hx hy
 ns := fun f hf hn i => by
  obtain ⟨f', hf', rfl⟩ := List.mem_map.1 (show f ∈ D.files.map fun f => if f.p = p then putB a s f else f from hf)
  have hn' : ∃ k x, mfind x (nmAt D k) = some (some f'.p) := by
   obtain ⟨k, x, hx⟩ := hn
   obtain ⟨j, e⟩ := nmAt_old D p a s k
   rw [e] at hx
   refine ⟨j, x, ?_⟩
   rw [hx]; split <;> rfl
  have b := h.ns f' hf' hn'
  by_cases hp : f'.p = p
  · rw [if_pos hp]
    show mfind i (mset a s f'.nc f'.now) = mfind i (syncX f'.p (f'.safe, f'.sc) (D.steps ++ [wrS p a s])).1
    rw [syncX_app_yes ⟨rfl, by rw [hp]; rfl⟩, mfind_set]
    show _ = mfind i (mset a s _ _)
    rw [mfind_set, b]
  · rw [if_neg hp]
    show mfind i f'.now = mfind i (syncX f'.p (f'.safe, f'.sc) (D.steps ++ [wrS p a s])).1
    rw [syncX_app_no (fun q => hp (by have := q.2; injection this with this; exact this.symm))]
    exact b i
 sz := fun f hf hn => by
  obtain ⟨f', hf', rfl⟩ := List.mem_map.1 (show f ∈ D.files.map fun f => if f.p = p then putB a s f else f from hf)
  have hn' : ∃ k x, mfind x (nmAt D k) = some (some f'.p) := by
   obtain ⟨k, x, hx⟩ := hn
   obtain ⟨j, e⟩ := nmAt_old D p a s k
   rw [e] at hx
   refine ⟨j, x, ?_⟩
   rw [hx]; split <;> rfl
  split
  · exact putB_sz (h.sz f' hf' hn')
  · exact h.sz f' hf' hn'
theorem DI.new {D : DiskD} (h : DI D) {p s n : Nat} {name : ByteArray} {a : Int} {x : Sec} (hok : DOk (wrNew D p s n name a x)) (hn : FForm name) (hp : p ∉ psOf D.files) : DI (wrNew D p s n name a x) := by
 have hold : ∀ {k y q}, mfind y (nmAt D k) = some (some q) → q ≠ p := fun {k y q} hy e => by
  obtain ⟨q', b, d⟩ := h.named hy
  cases b
  exact hp (e ▸ d)
 have hfp : ∀ f ∈ D.files, f.p ≠ p := fun f hf e => hp (e ▸ List.mem_map.2 ⟨f, hf, rfl⟩)
 have hnm : ∀ {k y q}, q ≠ p → mfind y (nmAt (wrNew D p s n name a x) k) = some (some q) → ∃ j, mfind y (nmAt D j) = some (some q) := fun {k y q} hq hy => by
  rcases nmAt_new D p s n name a x k with ⟨j, e⟩ | e
  · exact ⟨j, e ▸ hy⟩
  · rw [e, find_made] at hy
    split at hy
    · injection hy with hy; injection hy with hy; exact absurd hy.symm hq
    · exact ⟨_, hy⟩
 refine ⟨hok, fun k y o hy => ?_, fun k y z q hy hz => ?_, fun f hf hnf i => ?_, fun f hf hnf => ?_⟩
 · rcases nmAt_new D p s n name a x k with ⟨j, e⟩ | e
   · exact h.form j y o (e ▸ hy)
   · rw [e, find_made] at hy
     split at hy
     · rename_i b; exact b ▸ hn
     · exact h.form _ y o hy
 · rcases nmAt_new D p s n name a x k with ⟨j, e⟩ | e
   · exact h.inj j y z q (e ▸ hy) (e ▸ hz)
   · rw [e, find_made] at hy hz
     split at hy
     · rename_i b
       injection hy with hy; injection hy with hy
       split at hz
       · rename_i d; exact b.symm.trans d
       · exact absurd hy.symm (hold hz)
     · split at hz
       · injection hz with hz; injection hz with hz
         exact absurd hz.symm (hold hy)
       · exact h.inj _ y z q hy hz
 · rcases List.mem_cons.1 hf with rfl | hf
   · show mfind i (mset a x 0 []) = mfind i (syncX p ([], 0) (D.steps ++ [_] ++ [wrS p a x])).1
     rw [syncX_app_yes ⟨rfl, rfl⟩, syncX_app_no (fun q => absurd (show (0 : Int) = 3 from q.1) (by decide)), syncX_none (fun y hy hk e => by
      obtain ⟨q, c, g⟩ := h.ok.cr.wr y hy hk
      rw [e] at c
      injection c with c
      exact hp (c ▸ g))]
     rfl
   · have hne := hfp f hf
     obtain ⟨k, y, hy⟩ := hnf
     obtain ⟨j, hj⟩ := hnm hne hy
     rw [h.ns f hf ⟨j, y, hj⟩ i]
     show _ = mfind i (syncX f.p (f.safe, f.sc) (D.steps ++ [_] ++ [wrS p a x])).1
     rw [syncX_app_no (fun q => hne (by have := q.2; injection this with this; exact this.symm)), syncX_app_no (fun q => absurd (show (0 : Int) = 3 from q.1) (by decide))]
 · rcases List.mem_cons.1 hf with rfl | hf
   · exact putB_sz fun e he => (by cases he)
   · obtain ⟨k, y, hy⟩ := hnf
     obtain ⟨j, hj⟩ := hnm (hfp f hf) hy
     exact h.sz f hf ⟨j, y, hj⟩
theorem leftS_other {p q : Nat} (h : q ≠ p) {X : SecM × Nat} {l : List StepD} : syncX q X (leftS p l) = syncX q X l := by
 unfold syncX leftS
 rw [List.filter_filter]
 congr 1
 apply List.filter_congr
 intro x hx
 unfold isOf
 by_cases hk : x.kind = 3 ∧ x.file = some q
 · unfold notOf; simp [hk, h]
 · simp [hk]
theorem leftS_same {p : Nat} {X : SecM × Nat} {l : List StepD} : syncX p X (leftS p l) = X := syncX_none fun x hx hk => by
 unfold leftS at hx
 exact (of_decide_eq_true (List.mem_filter.1 hx).2).2
theorem DI.sync {D : DiskD} (h : DI D) (p : Nat) : DI (syncD D p) := by
 have hnm : ∀ {q}, (∃ k x, mfind x (nmAt (syncD D p) k) = some (some q)) → ∃ k x, mfind x (nmAt D k) = some (some q) := fun {q} ⟨k, x, hx⟩ => ⟨_, x, by rw [← nmAt_sync p k]; exact hx⟩
 refine ⟨h.ok.syncD' p, fun k x o hx => h.form _ x o (by rw [← nmAt_sync p k]; exact hx), fun k x y q hx hy => h.inj _ x y q (by rw [← nmAt_sync p k]; exact hx) (by rw [← nmAt_sync p k]; exact hy), fun f hf hn i => ?_, fun f hf hn => ?_⟩
 · obtain ⟨f', hf', rfl⟩ := List.mem_map.1 (show f ∈ D.files.map fun f => if f.p = p then syncF p D.steps f else f from hf)
   by_cases hp : f'.p = p
   · rw [if_pos hp] at hn ⊢
     have a := h.ns f' hf' (hnm hn) i
     show mfind i f'.now = mfind i (syncX f'.p (syncX p (f'.safe, f'.sc) D.steps) (leftS p D.steps)).1
     rw [hp, leftS_same, ← hp]
     exact a
   · rw [if_neg hp] at hn ⊢
     show mfind i f'.now = mfind i (syncX f'.p (f'.safe, f'.sc) (leftS p D.steps)).1
     rw [leftS_other hp]
     exact h.ns f' hf' (hnm hn) i
 · obtain ⟨f', hf', rfl⟩ := List.mem_map.1 (show f ∈ D.files.map fun f => if f.p = p then syncF p D.steps f else f from hf)
   split at hn <;> rename_i hp
   · rw [if_pos hp]; exact h.sz f' hf' (hnm hn)
   · rw [if_neg hp]; exact h.sz f' hf' (hnm hn)
theorem DI.addN {D : DiskD} (h : DI D) {x : StepD} (hk : x.kind ≠ 3) (hok : DOk (tick (addS D x))) (hform : ∀ y o, mfind y (mapN (nmL D D.steps.length) x).1 = some o → FForm y)
 (hinj : ∀ y z q, mfind y (mapN (nmL D D.steps.length) x).1 = some (some q) → mfind z (mapN (nmL D D.steps.length) x).1 = some (some q) → y = z)
 (hnm : ∀ y q, mfind y (mapN (nmL D D.steps.length) x).1 = some (some q) → ∃ z, mfind z (nmAt D D.steps.length) = some (some q)) : DI (tick (addS D x)) := by
 have hN : ∀ {q}, (∃ k y, mfind y (nmAt (tick (addS D x)) k) = some (some q)) → ∃ k y, mfind y (nmAt D k) = some (some q) := fun {q} ⟨k, y, hy⟩ => by
  rcases nmAt_add D x k with ⟨j, e⟩ | e
  · exact ⟨j, y, e ▸ hy⟩
  · obtain ⟨z, hz⟩ := hnm y q (e ▸ hy)
    exact ⟨_, z, hz⟩
 refine ⟨hok, fun k y o hy => ?_, fun k y z q hy hz => ?_, fun f hf hn i => ?_, fun f hf hn => h.sz f hf (hN hn)⟩
 · rcases nmAt_add D x k with ⟨j, e⟩ | e
   · exact h.form j y o (e ▸ hy)
   · exact hform y o (e ▸ hy)
 · rcases nmAt_add D x k with ⟨j, e⟩ | e
   · exact h.inj j y z q (e ▸ hy) (e ▸ hz)
   · exact hinj y z q (e ▸ hy) (e ▸ hz)
 · rw [h.ns f hf (hN hn) i]
   show _ = mfind i (syncX f.p (f.safe, f.sc) (D.steps ++ [x])).1
   rw [syncX_app_no (fun q => hk q.1)]
theorem DI.mok {D : DiskD} (h : DI D) (k : Nat) : MOk (nmL D k).1 (nmL D k).2 := nmL_ok h.ok k
theorem DI.rm {D : DiskD} (h : DI D) {name : ByteArray} (hs : name.size ≤ maxLen) : DI (tick (addS D (rmS name))) := by
 have key : ∀ {y o}, mfind y (mapN (nmL D D.steps.length) (rmS name)).1 = some o → mfind y (nmAt D D.steps.length) = some o := fun {y o} hy => by
  rw [find_rm (h.mok _)] at hy
  split at hy
  · cases hy
  · exact hy
 exact h.addN (by show (2 : Int) ≠ 3; decide) (h.ok.rm hs) (fun y o hy => h.form _ y o (key hy)) (fun y z q hy hz => h.inj _ y z q (key hy) (key hz)) (fun y q hy => ⟨y, key hy⟩)
theorem DI.rn {D : DiskD} (h : DI D) {name to : ByteArray} (hs : name.size ≤ maxLen) (ht : to.size ≤ maxLen) (hto : FForm to) {p : Nat} (hf : mfind name (nmAt D D.steps.length) = some (some p)) : DI (tick (addS D (rnS name to))) := by
 have c : mfind name D.now ≠ none := by rw [nm_now h.ok, hf]; nofun
 have key : ∀ {y o}, mfind y (mapN (nmL D D.steps.length) (rnS name to)).1 = some o → (to = y ∧ o = some p) ∨ (name ≠ y ∧ mfind y (nmAt D D.steps.length) = some o) := fun {y o} hy => by
  rw [find_rn (h.mok _) hf] at hy
  split at hy
  · cases hy
  · split at hy
    · rename_i e; injection hy with hy; exact .inl ⟨e, hy.symm⟩
    · rename_i e _; exact .inr ⟨e, hy⟩
 refine h.addN (by show (1 : Int) ≠ 3; decide) (h.ok.rn hs ht c) (fun y o hy => ?_) (fun y z q hy hz => ?_) (fun y q hy => ?_)
 · rcases key hy with ⟨rfl, -⟩ | ⟨-, hy⟩
   · exact hto
   · exact h.form _ y o hy
 · rcases key hy with ⟨e1, a⟩ | ⟨e1, hy⟩ <;> rcases key hz with ⟨b, d⟩ | ⟨b, hz⟩
   · exact e1.symm.trans b
   · cases a; exact absurd (h.inj _ _ _ _ hf hz) b
   · cases d; exact absurd (h.inj _ _ _ _ hf hy) e1
   · exact h.inj _ y z q hy hz
 · rcases key hy with ⟨-, a⟩ | ⟨-, hy⟩
   · cases a; exact ⟨name, hf⟩
   · exact ⟨y, hy⟩
theorem DI.crash {D : DiskD} (h : DI D) (xs : List (BitVec 8)) (ns : Nat → Nat) (nb : Nat) : DI (crashD D xs ns nb) := by
 obtain ⟨m, hm⟩ := nmAt_crash (D := D) xs ns nb
 have hA : nmAt (crashD D xs ns nb) 0 = (crC D xs).A.1 := rfl
 have hv : ∀ f ∈ (crashD D xs ns nb).files, (∃ k x, mfind x (nmAt (crashD D xs ns nb) k) = some (some f.p)) → ∃ f' n, f = visit n f' := fun f hf ⟨k, x, hx⟩ => by
  obtain ⟨f', hf', rfl⟩ := List.mem_map.1 (show f ∈ (crC D xs).fs.map _ from hf)
  rw [hm k, ← hm 0, hA] at hx
  have hp : (if some f'.p ∈ ((crC D xs).A.1).map (·.2.1) then visit (ns f'.p) f' else f').p = f'.p := by split <;> rfl
  rw [hp] at hx
  obtain ⟨e, he, -, a⟩ := mfind_mem hx
  rw [if_pos (List.mem_map.2 ⟨e, he, a⟩)]
  exact ⟨_, _, rfl⟩
 refine ⟨h.ok.crashD' xs ns nb, fun k x o hx => h.form m x o (by rw [← hm k]; exact hx), fun k x y q hx hy => h.inj m x y q (by rw [← hm k]; exact hx) (by rw [← hm k]; exact hy), fun f hf hn i => ?_, fun f hf hn e he => ?_⟩
 · obtain ⟨f', n, rfl⟩ := hv f hf hn
   rfl
 · obtain ⟨f', n, rfl⟩ := hv f hf hn
   exact (sizeX_spec f'.safe).2.1 e he
theorem DI.fileAt {D : DiskD} (h : DI D) {k p : Nat} {x : ByteArray} (hx : mfind x (nmAt D k) = some (some p)) : ∃ f ∈ D.files, f.p = p := by
 obtain ⟨q, e, hq⟩ := h.named hx
 cases e
 obtain ⟨i, f, hi, hp⟩ := ps_at hq
 exact ⟨f, List.mem_of_getElem? hi, hp⟩
theorem DI.nsAt {D : DiskD} (h : DI D) {k p : Nat} {x : ByteArray} (hx : mfind x (nmAt D k) = some (some p)) : ∀ f ∈ D.files, f.p = p → ∀ i, mfind i f.now = mfind i (syncX p (f.safe, f.sc) D.steps).1 := fun f hf hp i => hp ▸ h.ns f hf ⟨k, x, hp ▸ hx⟩ i
theorem DI.zero {D : DiskD} (h : DI D) {k : Nat} {x : ByteArray} {f : FileD} (hf : f ∈ D.files) (hx : mfind x (nmAt D k) = some (some f.p)) : ∀ j, f.size.toNat ≤ j → gX f.now j = zeroSec := fun j hj => by
 unfold gX
 cases hm : mfind (j : Int) f.now with
 | none => rfl
 | some s =>
  obtain ⟨e, he, e1, -⟩ := mfind_mem hm
  have := h.sz f hf ⟨k, x, hx⟩ e he
  omega
theorem DI.one {D : DiskD} (h : DI D) {f g : FileD} (hf : f ∈ D.files) (hg : g ∈ D.files) (e : f.p = g.p) : f = g := h.ok.one hf hg e
end Go.Proofs.YtdnibpclkhenmaaGreatDoor
