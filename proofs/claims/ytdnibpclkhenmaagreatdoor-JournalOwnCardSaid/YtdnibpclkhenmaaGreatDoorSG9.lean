import Derived.Test.YtdnibpclkhenmaaGreatDoorSG8
namespace Go.Proofs.YtdnibpclkhenmaaGreatDoor
open Go.BX
theorem FileOk.sync {f : FileD} (h : FileOk f) {l : List StepD} (hl : ∀ x ∈ l, StepIn x) (p : Nat) : FileOk { f with safe := (syncX p (f.safe, f.sc) l).1, sc := (syncX p (f.safe, f.sc) l).2 } := by
 have key : ∀ (l : List StepD) (X : SecM × Nat), (∀ x ∈ l, StepIn x) → MOk X.1 X.2 → (∀ e ∈ X.1, 0 ≤ e.1 ∧ e.1 < 65536) → MOk (l.foldl putX X).1 (l.foldl putX X).2 ∧ ∀ e ∈ (l.foldl putX X).1, 0 ≤ e.1 ∧ e.1 < 65536 := by
  intro l
  induction l with
  | nil => intro X _ h1 h2; exact ⟨h1, h2⟩
  | cons x l ih =>
   intro X hx h1 h2
   refine ih (putX X x) (fun y hy => hx y (List.mem_cons_of_mem _ hy)) (h1.set _ _) fun e he => ?_
   rcases mset_at he with e1 | ⟨e', he', e1⟩
   · have := (hx x (List.mem_cons_self ..)).2.1; omega
   · have := h2 e' he'; omega
 obtain ⟨h1, h2, h3, h4, h5⟩ := h
 obtain ⟨k1, k2⟩ := key (l.filter (isOf p)) (f.safe, f.sc) (fun x hx => hl x (List.mem_filter.1 hx).1) h1 h3
 exact ⟨k1, h2, k2, h4, h5⟩
def syncF (p : Nat) (l : List StepD) (f : FileD) : FileD := { f with safe := (syncX p (f.safe, f.sc) l).1, sc := (syncX p (f.safe, f.sc) l).2 }
def syncD (D : DiskD) (p : Nat) : DiskD :=
 tick { D with safe := (D.steps.foldl mapN (D.safe, D.sc)).1, sc := (D.steps.foldl mapN (D.safe, D.sc)).2, files := updF D.files p (syncF p D.steps), steps := leftS p D.steps }
theorem leftS_kind {p : Nat} {l : List StepD} {x : StepD} (h : x ∈ leftS p l) : x ∈ l ∧ x.kind = 3 := by
 unfold leftS at h
 obtain ⟨h1, h2⟩ := List.mem_filter.1 h
 exact ⟨h1, (of_decide_eq_true h2).1⟩
theorem fold_skip {L : NameL × Nat} : ∀ {l : List StepD}, (∀ x ∈ l, x.kind = 3) → l.foldl mapN L = L
 | [], _ => rfl
 | x :: l, h => by
  rw [List.foldl_cons, mapN_skip (h x (List.mem_cons_self ..))]
  exact fold_skip fun y hy => h y (List.mem_cons_of_mem _ hy)
theorem DOk.syncD' {D : DiskD} (h : DOk D) (p : Nat) : DOk (syncD D p) := by
 have hps : psOf (updF D.files p (syncF p D.steps)) = psOf D.files := updF_ps _ _ _ fun _ => rfl
 have hg : ∀ e ∈ (D.steps.foldl mapN (D.safe, D.sc)).1, ∃ q, e.2.1 = some q ∧ q ∈ psOf D.files := by
  have := h.cr.good D.steps.length
  rw [List.take_length] at this
  exact this
 refine ⟨h.mnow, ⟨foldN_ok h.cr.map _, fun k e he => ?_, fun x hx hk => ?_, fun x hx => h.cr.inn x (leftS_kind hx).1, FilesOk.updF h.cr.files fun f hf => hf.sync h.cr.inn p⟩, fun x => ?_, hps ▸ h.nd⟩
 · have e1 : ((leftS p D.steps).take k).foldl mapN (D.steps.foldl mapN (D.safe, D.sc)) = D.steps.foldl mapN (D.safe, D.sc) := fold_skip fun y hy => (leftS_kind (List.mem_of_mem_take hy)).2
   have he' : e ∈ (((leftS p D.steps).take k).foldl mapN (D.steps.foldl mapN (D.safe, D.sc))).1 := he
   rw [e1] at he'
   obtain ⟨q, h1, h2⟩ := hg e he'
   exact ⟨q, h1, by show q ∈ psOf (updF D.files p (syncF p D.steps)); rw [hps]; exact h2⟩
 · obtain ⟨q, h1, h2⟩ := h.cr.wr x (leftS_kind hx).1 hk
   exact ⟨q, h1, by show q ∈ psOf (updF D.files p (syncF p D.steps)); rw [hps]; exact h2⟩
 · have e1 : (leftS p D.steps).foldl mapN (D.steps.foldl mapN (D.safe, D.sc)) = D.steps.foldl mapN (D.safe, D.sc) := fold_skip fun y hy => (leftS_kind hy).2
   have h1 := h.same x
   rw [← e1] at h1
   exact h1
def rmS (name : ByteArray) : StepD := ⟨2, none, name, noS, 0, zeroSec⟩
def rnS (name to : ByteArray) : StepD := ⟨1, none, name, to, 0, zeroSec⟩
theorem DOk.rm {D : DiskD} (h : DOk D) {name : ByteArray} (hs : name.size ≤ maxLen) : DOk (tick (addS D (rmS name))) :=
 (h.addS' (x := rmS name) (stepIn_mk (by decide) (by decide) hs (Nat.zero_le _)) (fun hk => absurd (show (2 : Int) = 3 from hk) (by decide)) (fun hk => absurd (show (2 : Int) = 0 from hk) (by decide)) (fun hk => absurd (show (2 : Int) = 1 from hk) (by decide))).tick'
theorem DOk.rn {D : DiskD} (h : DOk D) {name to : ByteArray} (hs : name.size ≤ maxLen) (ht : to.size ≤ maxLen) (hf : mfind name D.now ≠ none) : DOk (tick (addS D (rnS name to))) :=
 (h.addS' (x := rnS name to) (stepIn_mk (by decide) (by decide) hs ht) (fun hk => absurd (show (1 : Int) = 3 from hk) (by decide)) (fun hk => absurd (show (1 : Int) = 0 from hk) (by decide)) (fun _ => hf)).tick'
def SyncR (D : DiskD) (name : ByteArray) (e : Int) (D' : DiskD) : Prop :=
 (e = 71 ∧ mfind name D.now = none ∧ D' = D) ∨ (e = 70 ∧ mfind name D.now ≠ none ∧ Stops D ∧ D' = stopD D) ∨ (e = 0 ∧ ¬ Stops D ∧ ∃ p, mfind name D.now = some (some p) ∧ D' = syncD D p)
def RemoveR (D : DiskD) (name : ByteArray) (e : Int) (D' : DiskD) : Prop :=
 (e = 71 ∧ mfind name D.now = none ∧ D' = D) ∨ (e = 70 ∧ mfind name D.now ≠ none ∧ Stops D ∧ D' = stopD D) ∨ (e = 0 ∧ ¬ Stops D ∧ mfind name D.now ≠ none ∧ D' = tick (addS D (rmS name)))
def RenameR (D : DiskD) (name to : ByteArray) (e : Int) (D' : DiskD) : Prop :=
 (e = 71 ∧ mfind name D.now = none ∧ D' = D) ∨ (e = 2 ∧ mfind name D.now ≠ none ∧ nmI to ≠ 1 ∧ D' = D) ∨ (e = 70 ∧ mfind name D.now ≠ none ∧ nmI to = 1 ∧ Stops D ∧ D' = stopD D) ∨
 (e = 0 ∧ mfind name D.now ≠ none ∧ nmI to = 1 ∧ ¬ Stops D ∧ ((name.toList = to.toList ∧ D' = tick D) ∨ (name.toList ≠ to.toList ∧ D' = tick (addS D (rnS name to)))))
theorem SyncR.ok {D D' : DiskD} {name : ByteArray} {e : Int} (h : DOk D) (hr : SyncR D name e D') : DOk D' := by
 rcases hr with ⟨-, -, rfl⟩ | ⟨-, -, -, rfl⟩ | ⟨-, -, p, -, rfl⟩
 · exact h
 · exact h.stopD'
 · exact h.syncD' p
theorem RemoveR.ok {D D' : DiskD} {name : ByteArray} {e : Int} (h : DOk D) (hs : name.size ≤ maxLen) (hr : RemoveR D name e D') : DOk D' := by
 rcases hr with ⟨-, -, rfl⟩ | ⟨-, -, -, rfl⟩ | ⟨-, -, -, rfl⟩
 · exact h
 · exact h.stopD'
 · exact h.rm hs
theorem RenameR.ok {D D' : DiskD} {name to : ByteArray} {e : Int} (h : DOk D) (hs : name.size ≤ maxLen) (ht : to.size ≤ maxLen) (hr : RenameR D name to e D') : DOk D' := by
 rcases hr with ⟨-, -, rfl⟩ | ⟨-, -, -, rfl⟩ | ⟨-, -, -, -, rfl⟩ | ⟨-, hf, -, -, ⟨-, rfl⟩ | ⟨-, rfl⟩⟩
 · exact h
 · exact h
 · exact h.stopD'
 · exact h.tick'
 · exact h.rn hs ht hf
theorem crAt_keep {A : NameL × Nat} {fs : List FileD} {steps : List StepD} (h : CrOk A fs steps) (first : Int) (keep : List (BitVec 8)) : psOf (crAt first keep A fs steps).fs = psOf fs ∧ FilesOk (crAt first keep A fs steps).fs := by
 have key : ∀ (l : List StepD) (C : CrS), (∀ x ∈ l, StepIn x) → FilesOk C.fs → psOf (l.foldl (crStep first keep) C).fs = psOf C.fs ∧ FilesOk (l.foldl (crStep first keep) C).fs := by
  intro l
  induction l with
  | nil => intro C _ h1; exact ⟨rfl, h1⟩
  | cons x l ih =>
   intro C hx h1
   have h2 : psOf (crStep first keep C x).fs = psOf C.fs ∧ FilesOk (crStep first keep C x).fs := by
    unfold crStep
    split
    · show psOf (if bitOf keep C.j = true then updO C.fs x.file (putS x.at_ x.data) else C.fs) = psOf C.fs ∧ FilesOk (if bitOf keep C.j = true then updO C.fs x.file (putS x.at_ x.data) else C.fs)
      split
      · cases x.file with
        | none => exact ⟨rfl, h1⟩
        | some p => exact ⟨updF_ps _ _ _ fun _ => rfl, FilesOk.updF h1 fun f hf => hf.putS (hx x (List.mem_cons_self ..)).2.1 _⟩
      · exact ⟨rfl, h1⟩
    · exact ⟨rfl, h1⟩
   obtain ⟨h3, h4⟩ := ih (crStep first keep C x) (fun y hy => hx y (List.mem_cons_of_mem _ hy)) h2.2
   exact ⟨h3.trans h2.1, h4⟩
 exact key steps ⟨A, 0, 0, fs⟩ h.inn h.files
def firstOf (xs : List (BitVec 8)) (n : Nat) : Int := match xs with
 | [] => 0
 | x :: _ => ((x.toNat : Nat) : Int) % ((n : Nat) + 1)
def crC (D : DiskD) (xs : List (BitVec 8)) : CrS := crAt (firstOf xs (nmC D.steps)) (xs.drop 1) (D.safe, D.sc) D.files D.steps
def crashD (D : DiskD) (xs : List (BitVec 8)) (ns : Nat → Nat) (nb : Nat) : DiskD :=
 ⟨D.sb, nb, (crC D xs).A.1, (crC D xs).A.2, (crC D xs).A.1, (crC D xs).A.2, crF (crC D xs).fs (crC D xs).A.1 ns, [], false, D.left, false⟩
theorem DOk.crashD' {D : DiskD} (h : DOk D) (xs : List (BitVec 8)) (ns : Nat → Nat) (nb : Nat) : DOk (crashD D xs ns nb) := by
 obtain ⟨k1, k2⟩ := crAt_keep h.cr (firstOf xs (nmC D.steps)) (xs.drop 1)
 obtain ⟨m, hm, -⟩ := crAt_A (firstOf xs (nmC D.steps)) (xs.drop 1) (D.safe, D.sc) D.files D.steps
 have hA : MOk (crC D xs).A.1 (crC D xs).A.2 := by unfold crC; rw [hm]; exact foldN_ok h.cr.map _
 have hps : psOf (crF (crC D xs).fs (crC D xs).A.1 ns) = psOf D.files := (crF_ps _ _ _).trans k1
 have hg : ∀ e ∈ (crC D xs).A.1, ∃ p, e.2.1 = some p ∧ p ∈ psOf D.files := by unfold crC; rw [hm]; exact h.cr.good m
 refine ⟨hA, ⟨hA, fun k e he => ?_, fun x hx => (by cases hx), fun x hx => (by cases hx), FilesOk.crF k2 _ _⟩, fun _ => rfl, hps ▸ h.nd⟩
 have he' : e ∈ (crC D xs).A.1 := by rwa [show (crashD D xs ns nb).steps = [] from rfl, List.take_nil] at he
 obtain ⟨q, h1, h2⟩ := hg e he'
 exact ⟨q, h1, by show q ∈ psOf (crF (crC D xs).fs (crC D xs).A.1 ns); rw [hps]; exact h2⟩
section
variable {S : Nat → Prop} {w : World} {O : List Nat} {db : Nat} {D : DiskD} {sa : Option Addr} {sk : Nat}
theorem dSync {name : ByteArray} (hok : DOk D) (hst : D.steps.length ≤ 1000000000) (hd : D.dead = false) (hl : D.armed = true → -9223372036854775808 < D.left ∧ D.left ≤ 9223372036854775807) (H0 : Hp w S O (diskM db D sa sk) [diskW D sa sk] [] w) :
 Calls Tryz.prog 60 #[.P db 0, .string name] w (DEnd w S O db fun v D' => ∃ e, v = .I e ∧ SyncR D name e D') := by
 cases hf : mfind name D.now with
 | none =>
  obtain ⟨sb, nb, A, lc, L, c, fs, steps, armed, left, dead⟩ := D
  obtain rfl : dead = false := hd
  refine (sync_none hf ((H0.lend (M1 := [dkB db _ sa sk, (nb, mapO Value.string ptrV L c)]) (W1 := [])).pick [] rfl)).mono fun e w' hh => ?_
  obtain ⟨v, he, hv, H'⟩ := hh
  exact ⟨v, he, _, sa, sk, ⟨71, hv, .inl ⟨rfl, hf, rfl⟩⟩, (H0.back (M1 := [dkB db _ sa sk, (nb, mapO Value.string ptrV L c)]) (W1 := []) H').pick [] rfl⟩
 | some o =>
  obtain ⟨p, rfl, hpm⟩ := hok.valid hf
  by_cases hS : Stops D
  · have hl1 := hl hS.1
    obtain ⟨sb, nb, A, lc, L, c, fs, steps, armed, left, dead⟩ := D
    obtain rfl : dead = false := hd
    obtain ⟨ha, hlt⟩ := hS
    obtain rfl : armed = true := ha
    refine (sync_stop ⟨hlt, hl1.1⟩ hf ((H0.lend (M1 := [dkB db _ sa sk, (nb, mapO Value.string ptrV L c)]) (W1 := [])).pick [] rfl)).mono fun e w' hh => ?_
    obtain ⟨v, he, hv, H'⟩ := hh
    exact ⟨v, he, _, sa, sk, ⟨70, hv, .inr (.inl ⟨rfl, fun hh => (by rw [hf] at hh; cases hh), ⟨rfl, hlt⟩, rfl⟩)⟩, (H0.back (M1 := [dkB db _ sa sk, (nb, mapO Value.string ptrV L c)]) (W1 := []) H').pick [] rfl⟩
  · have hgo := go_of hS fun ha => (hl ha).2
    have hnd := hok.nd
    have hwr := hok.cr.wr
    have hinn := hok.cr.inn
    obtain ⟨sb, nb, A, lc, L, c, fs, steps, armed, left, dead⟩ := D
    obtain rfl : dead = false := hd
    obtain ⟨i, f, hi, hfp⟩ := ps_at hpm
    obtain ⟨fp, s, n, X, xc, Y, yc, size⟩ := f
    obtain rfl : fp = p := hfp
    have H1 : Hp w S O (dkB db ⟨sb, nb, A, lc, L, c, fs, steps, armed, left, false⟩ sa sk :: (nb, mapO Value.string ptrV L c) :: (sb, mapO Value.string ptrV A lc) :: (fileH ⟨fp, s, n, X, xc, Y, yc, size⟩ ++ filesH (fs.eraseIdx i))) [diskW ⟨sb, nb, A, lc, L, c, fs, steps, armed, left, false⟩ sa sk] [] w :=
     H0.perms ((((filesH_pick hi).symm.cons _).cons _).cons _) (List.Perm.refl _)
    have hv : ∀ x ∈ steps, x.kind = 3 → ∃ q, x.file = some q ∧ (q = fp ∨ ∃ f ∈ fs.eraseIdx i, f.p = q) := fun x hx hk => by
     obtain ⟨q, h1, h2⟩ := hwr x hx hk
     refine ⟨q, h1, ?_⟩
     obtain ⟨f, hf, hfq⟩ := List.mem_map.1 h2
     obtain ⟨j, hj, hje⟩ := List.mem_iff_getElem.1 hf
     by_cases hji : j = i
     · subst hji
       have : f = ⟨fp, s, n, X, xc, Y, yc, size⟩ := by rw [← hje]; exact (List.getElem?_eq_some_iff.1 hi).2
       rw [this] at hfq
       exact .inl hfq.symm
     · exact .inr ⟨f, List.mem_eraseIdx_iff_getElem?.2 ⟨j, hji, by rw [List.getElem?_eq_getElem hj, hje]⟩, hfq⟩
    refine (sync_go hst hgo hf hv hinn H1).mono fun e w' hh => ?_
    obtain ⟨v, he, hv, sa', sk', H'⟩ := hh
    have hu := updF_set (g := syncF fp steps) hnd hi rfl
    have H4 : Hp w S O (diskM db (syncD ⟨sb, nb, A, lc, L, c, fs, steps, armed, left, false⟩ fp) sa' sk') [diskW (syncD ⟨sb, nb, A, lc, L, c, fs, steps, armed, left, false⟩ fp) sa' sk'] [] w' :=
     H'.perms ((((by show (filesH (updF fs fp (syncF fp steps))).Perm _; rw [hu]; exact filesH_put _ (List.getElem?_eq_some_iff.1 hi).1 : (filesH (updF fs fp (syncF fp steps))).Perm (fileH (syncF fp steps ⟨fp, s, n, X, xc, Y, yc, size⟩) ++ filesH (fs.eraseIdx i))).cons _).cons _).cons _) (List.Perm.refl _)
    exact ⟨v, he, _, sa', sk', ⟨0, hv, .inr (.inr ⟨rfl, hS, fp, hf, rfl⟩)⟩, H4⟩
theorem dRemove {name : ByteArray} (hok : DOk D) (hst : D.steps.length ≤ 1000000000) (hd : D.dead = false) (hs : name.size ≤ maxLen) (hl : D.armed = true → -9223372036854775808 < D.left ∧ D.left ≤ 9223372036854775807) (H0 : Hp w S O (diskM db D sa sk) [diskW D sa sk] [] w) :
 Calls Tryz.prog 113 #[.P db 0, .string name] w (DEnd w S O db fun v D' => ∃ e, v = .I e ∧ RemoveR D name e D') := by
 cases hf : mfind name D.now with
 | none =>
  obtain ⟨sb, nb, A, lc, L, c, fs, steps, armed, left, dead⟩ := D
  obtain rfl : dead = false := hd
  refine (remove_none hf ((H0.lend (M1 := [dkB db _ sa sk, (nb, mapO Value.string ptrV L c)]) (W1 := [])).pick [] rfl)).mono fun e w' hh => ?_
  obtain ⟨v, he, hv, H'⟩ := hh
  exact ⟨v, he, _, sa, sk, ⟨71, hv, .inl ⟨rfl, hf, rfl⟩⟩, (H0.back (M1 := [dkB db _ sa sk, (nb, mapO Value.string ptrV L c)]) (W1 := []) H').pick [] rfl⟩
 | some o =>
  obtain ⟨p, rfl, hpm⟩ := hok.valid hf
  by_cases hS : Stops D
  · have hl1 := hl hS.1
    obtain ⟨sb, nb, A, lc, L, c, fs, steps, armed, left, dead⟩ := D
    obtain rfl : dead = false := hd
    obtain ⟨ha, hlt⟩ := hS
    obtain rfl : armed = true := ha
    refine (remove_stop ⟨hlt, hl1.1⟩ hf ((H0.lend (M1 := [dkB db _ sa sk, (nb, mapO Value.string ptrV L c)]) (W1 := [])).pick [] rfl)).mono fun e w' hh => ?_
    obtain ⟨v, he, hv, H'⟩ := hh
    exact ⟨v, he, _, sa, sk, ⟨70, hv, .inr (.inl ⟨rfl, fun hh => (by rw [hf] at hh; cases hh), ⟨rfl, hlt⟩, rfl⟩)⟩, (H0.back (M1 := [dkB db _ sa sk, (nb, mapO Value.string ptrV L c)]) (W1 := []) H').pick [] rfl⟩
  · have hgo := go_of hS fun ha => (hl ha).2
    obtain ⟨sb, nb, A, lc, L, c, fs, steps, armed, left, dead⟩ := D
    obtain rfl : dead = false := hd
    refine (remove_go hst hgo hf hs ((H0.lend (M1 := [dkB db _ sa sk, (nb, mapO Value.string ptrV L c)]) (W1 := [diskW _ sa sk])).pick [] rfl)).mono fun e w' hh => ?_
    obtain ⟨v, he, hv, sa', sk', H'⟩ := hh
    exact ⟨v, he, _, sa', sk', ⟨0, hv, .inr (.inr ⟨rfl, hS, fun hh => (by rw [hf] at hh; cases hh), rfl⟩)⟩, (H0.back (M1 := [dkB db _ sa sk, (nb, mapO Value.string ptrV L c)]) (W1 := [diskW _ sa sk]) H').pick [] rfl⟩
theorem dRename {name to : ByteArray} (hok : DOk D) (hst : D.steps.length ≤ 1000000000) (hd : D.dead = false) (hs : name.size ≤ maxLen) (ht : to.size ≤ maxLen) (hl : D.armed = true → -9223372036854775808 < D.left ∧ D.left ≤ 9223372036854775807) (H0 : Hp w S O (diskM db D sa sk) [diskW D sa sk] [] w) :
 Calls Tryz.prog 114 #[.P db 0, .string name, .string to] w (DEnd w S O db fun v D' => ∃ e, v = .I e ∧ RenameR D name to e D') := by
 cases hf : mfind name D.now with
 | none =>
  obtain ⟨sb, nb, A, lc, L, c, fs, steps, armed, left, dead⟩ := D
  obtain rfl : dead = false := hd
  refine (rename_none hf ((H0.lend (M1 := [dkB db _ sa sk, (nb, mapO Value.string ptrV L c)]) (W1 := [])).pick [] rfl)).mono fun e w' hh => ?_
  obtain ⟨v, he, hv, H'⟩ := hh
  exact ⟨v, he, _, sa, sk, ⟨71, hv, .inl ⟨rfl, hf, rfl⟩⟩, (H0.back (M1 := [dkB db _ sa sk, (nb, mapO Value.string ptrV L c)]) (W1 := []) H').pick [] rfl⟩
 | some o =>
  obtain ⟨p, rfl, hpm⟩ := hok.valid hf
  have hne : mfind name D.now ≠ none := fun hh => (by rw [hf] at hh; cases hh)
  by_cases hto : nmI to = 1
  · by_cases hS : Stops D
    · have hl1 := hl hS.1
      obtain ⟨sb, nb, A, lc, L, c, fs, steps, armed, left, dead⟩ := D
      obtain rfl : dead = false := hd
      obtain ⟨ha, hlt⟩ := hS
      obtain rfl : armed = true := ha
      refine (rename_stop ⟨hlt, hl1.1⟩ hf ht hto ((H0.lend (M1 := [dkB db _ sa sk, (nb, mapO Value.string ptrV L c)]) (W1 := [])).pick [] rfl)).mono fun e w' hh => ?_
      obtain ⟨v, he, hv, H'⟩ := hh
      exact ⟨v, he, _, sa, sk, ⟨70, hv, .inr (.inr (.inl ⟨rfl, hne, hto, ⟨rfl, hlt⟩, rfl⟩))⟩, (H0.back (M1 := [dkB db _ sa sk, (nb, mapO Value.string ptrV L c)]) (W1 := []) H').pick [] rfl⟩
    · have hgo := go_of hS fun ha => (hl ha).2
      by_cases hft : name.toList = to.toList
      · obtain ⟨sb, nb, A, lc, L, c, fs, steps, armed, left, dead⟩ := D
        obtain rfl : dead = false := hd
        refine (rename_same hgo hf ht hto hft ((H0.lend (M1 := [dkB db _ sa sk, (nb, mapO Value.string ptrV L c)]) (W1 := [])).pick [] rfl)).mono fun e w' hh => ?_
        obtain ⟨v, he, hv, H'⟩ := hh
        exact ⟨v, he, _, sa, sk, ⟨0, hv, .inr (.inr (.inr ⟨rfl, hne, hto, hS, .inl ⟨hft, rfl⟩⟩))⟩, (H0.back (M1 := [dkB db _ sa sk, (nb, mapO Value.string ptrV L c)]) (W1 := []) H').pick [] rfl⟩
      · obtain ⟨sb, nb, A, lc, L, c, fs, steps, armed, left, dead⟩ := D
        obtain rfl : dead = false := hd
        refine (rename_go hst hgo hf hs ht hto hft ((H0.lend (M1 := [dkB db _ sa sk, (nb, mapO Value.string ptrV L c)]) (W1 := [diskW _ sa sk])).pick [] rfl)).mono fun e w' hh => ?_
        obtain ⟨v, he, hv, sa', sk', H'⟩ := hh
        exact ⟨v, he, _, sa', sk', ⟨0, hv, .inr (.inr (.inr ⟨rfl, hne, hto, hS, .inr ⟨hft, rfl⟩⟩))⟩, (H0.back (M1 := [dkB db _ sa sk, (nb, mapO Value.string ptrV L c)]) (W1 := [diskW _ sa sk]) H').pick [] rfl⟩
  · obtain ⟨sb, nb, A, lc, L, c, fs, steps, armed, left, dead⟩ := D
    obtain rfl : dead = false := hd
    refine (rename_bad hf ht hto ((H0.lend (M1 := [dkB db _ sa sk, (nb, mapO Value.string ptrV L c)]) (W1 := [])).pick [] rfl)).mono fun e w' hh => ?_
    obtain ⟨v, he, hv, H'⟩ := hh
    exact ⟨v, he, _, sa, sk, ⟨2, hv, .inr (.inl ⟨rfl, hne, hto, rfl⟩)⟩, (H0.back (M1 := [dkB db _ sa sk, (nb, mapO Value.string ptrV L c)]) (W1 := []) H').pick [] rfl⟩
theorem DOk.file {D : DiskD} (h : DOk D) {x : ByteArray} {o : Option Nat} (hx : mfind x D.now = some o) : ∃ (i : Nat) (f : FileD), o = some f.p ∧ D.files[i]? = some f := by
 obtain ⟨p, rfl, hp⟩ := h.valid hx
 obtain ⟨i, f, hi, rfl⟩ := ps_at hp
 exact ⟨i, f, rfl, hi⟩
theorem dSize {name : ByteArray} (hok : DOk D) (hd : D.dead = false) (H0 : Hp w S O (diskM db D sa sk) [diskW D sa sk] [] w) :
 Calls Tryz.prog 49 #[.P db 0, .string name] w (Ret fun v w' => ((v = .tuple #[.I 0, .I 71] ∧ mfind name D.now = none) ∨ ∃ f ∈ D.files, mfind name D.now = some (some f.p) ∧ v = .tuple #[.I f.size, .I 0]) ∧ Hp w S O (diskM db D sa sk) [diskW D sa sk] [] w') := by
 cases hf : mfind name D.now with
 | none =>
  obtain ⟨sb, nb, A, lc, L, c, fs, steps, armed, left, dead⟩ := D
  obtain rfl : dead = false := hd
  refine (size_none hf ((H0.lend (M1 := [dkB db _ sa sk, (nb, mapO Value.string ptrV L c)]) (W1 := [])).pick [] rfl)).mono fun e w' hh => ?_
  obtain ⟨v, he, hv, H'⟩ := hh
  exact ⟨v, he, .inl ⟨hv, rfl⟩, (H0.back (M1 := [dkB db _ sa sk, (nb, mapO Value.string ptrV L c)]) (W1 := []) H').pick [] rfl⟩
 | some o =>
  obtain ⟨i, f, rfl, hi⟩ := hok.file hf
  obtain ⟨sb, nb, A, lc, L, c, fs, steps, armed, left, dead⟩ := D
  obtain rfl : dead = false := hd
  obtain ⟨fp, s, n, X, xc, Y, yc, size⟩ := f
  have H1 : Hp w S O ([dkB db ⟨sb, nb, A, lc, L, c, fs, steps, armed, left, false⟩ sa sk, (nb, mapO Value.string ptrV L c), (fp, .cells #[.map (some s), .map (some n), .I size] 147 (0, 0))] ++ ((sb, mapO Value.string ptrV A lc) :: (s, mapO (Value.int .i64) secVal X xc) :: (n, mapO (Value.int .i64) secVal Y yc) :: filesH (fs.eraseIdx i))) [diskW ⟨sb, nb, A, lc, L, c, fs, steps, armed, left, false⟩ sa sk] [] w :=
   H0.perms ((((List.Perm.swap _ _ _).trans ((filesH_pick hi).symm.cons _)).cons _).cons _) (List.Perm.refl _)
  refine (size_some hf ((H1.lend (W1 := []) (M1 := [dkB db ⟨sb, nb, A, lc, L, c, fs, steps, armed, left, false⟩ sa sk, (nb, mapO Value.string ptrV L c), (fp, .cells #[.map (some s), .map (some n), .I size] 147 (0, 0))])).pick [] rfl)).mono fun e w' hh => ?_
  obtain ⟨v, he, hv, H'⟩ := hh
  have H3 := (H1.back (W1 := []) (M1 := [dkB db ⟨sb, nb, A, lc, L, c, fs, steps, armed, left, false⟩ sa sk, (nb, mapO Value.string ptrV L c), (fp, .cells #[.map (some s), .map (some n), .I size] 147 (0, 0))]) H').pick [] rfl
  exact ⟨v, he, .inr ⟨_, List.mem_of_getElem? hi, rfl, hv⟩, H3.perms ((((List.Perm.swap _ _ _).trans ((filesH_pick hi).symm.cons _)).cons _).cons _).symm (List.Perm.refl _)⟩
def rOk (D : DiskD) (name : ByteArray) (at_ : Int) (v : Value) (zx : Option Sec) : Prop :=
 match zx with
 | none => ∃ e : Int, e ≠ 0 ∧ v = .tuple #[.slice none 0 0, .I e] ∧ ((mfind name D.now = none ∧ e = 71) ∨ ∃ f ∈ D.files, mfind name D.now = some (some f.p) ∧ (at_ < 0 ∨ f.size ≤ at_) ∧ e = 2)
 | some x => ∃ f ∈ D.files, mfind name D.now = some (some f.p) ∧ 0 ≤ at_ ∧ at_ < f.size ∧ x = (mfind at_ f.now).getD zeroSec
theorem dRead {name : ByteArray} {at_ : Int} (hok : DOk D) (hd : D.dead = false) (H0 : Hp w S O (diskM db D sa sk) [diskW D sa sk] [] w) :
 Calls Tryz.prog 159 #[.P db 0, .string name, .I at_] w (Ret fun v w' => (rOk D name at_ v none ∧ Hp w S O (diskM db D sa sk) [diskW D sa sk] [] w') ∨
  ∃ (x : Sec) (a' : Option Addr) (c' : Nat), rOk D name at_ v (some x) ∧ v = .tuple #[.slice a' (secL x).length c', .I 0] ∧ Hp w S O (diskM db D sa sk) [⟨Sb, 5, .slice a' (secL x).length c', secL x⟩, diskW D sa sk] [] w') := by
 cases hf : mfind name D.now with
 | none =>
  obtain ⟨sb, nb, A, lc, L, c, fs, steps, armed, left, dead⟩ := D
  obtain rfl : dead = false := hd
  refine (read_none hf at_ ((H0.lend (M1 := [dkB db _ sa sk, (nb, mapO Value.string ptrV L c)]) (W1 := [])).pick [] rfl)).mono fun e w' hh => ?_
  obtain ⟨v, he, hv, H'⟩ := hh
  exact ⟨v, he, .inl ⟨⟨71, by decide, hv, .inl ⟨hf, rfl⟩⟩, (H0.back (M1 := [dkB db _ sa sk, (nb, mapO Value.string ptrV L c)]) (W1 := []) H').pick [] rfl⟩⟩
 | some o =>
  obtain ⟨i, f, rfl, hi⟩ := hok.file hf
  obtain ⟨sb, nb, A, lc, L, c, fs, steps, armed, left, dead⟩ := D
  obtain rfl : dead = false := hd
  obtain ⟨fp, s, n, X, xc, Y, yc, size⟩ := f
  by_cases hat : 0 ≤ at_ ∧ at_ < size
  · have hp4 : ((fp, Obj.cells #[.map (some s), .map (some n), .I size] 147 (0, 0)) :: (n, mapO (Value.int .i64) secVal Y yc) :: (sb, mapO Value.string ptrV A lc) :: (s, mapO (Value.int .i64) secVal X xc) :: filesH (fs.eraseIdx i) : Heap).Perm ((sb, mapO Value.string ptrV A lc) :: filesH fs) :=
     ((((List.Perm.swap _ _ _).trans ((List.Perm.swap _ _ _).cons _)).cons _).trans (List.Perm.swap _ _ _)).trans ((filesH_pick hi).symm.cons _)
    have H1 : Hp w S O ([dkB db ⟨sb, nb, A, lc, L, c, fs, steps, armed, left, false⟩ sa sk, (nb, mapO Value.string ptrV L c), (fp, .cells #[.map (some s), .map (some n), .I size] 147 (0, 0)), (n, mapO (Value.int .i64) secVal Y yc)] ++ ((sb, mapO Value.string ptrV A lc) :: (s, mapO (Value.int .i64) secVal X xc) :: filesH (fs.eraseIdx i))) [diskW ⟨sb, nb, A, lc, L, c, fs, steps, armed, left, false⟩ sa sk] [] w :=
     H0.perms ((hp4.cons _).cons _) (List.Perm.refl _)
    refine (read_some hf hat ((H1.lend (W1 := []) (M1 := [dkB db ⟨sb, nb, A, lc, L, c, fs, steps, armed, left, false⟩ sa sk, (nb, mapO Value.string ptrV L c), (fp, .cells #[.map (some s), .map (some n), .I size] 147 (0, 0)), (n, mapO (Value.int .i64) secVal Y yc)])).pick [] rfl)).mono fun e w' hh => ?_
    obtain ⟨v, he, a', c', hv, H'⟩ := hh
    have H3 := (H1.back (W1 := []) (M1 := [dkB db ⟨sb, nb, A, lc, L, c, fs, steps, armed, left, false⟩ sa sk, (nb, mapO Value.string ptrV L c), (fp, .cells #[.map (some s), .map (some n), .I size] 147 (0, 0)), (n, mapO (Value.int .i64) secVal Y yc)]) H').pick [] rfl
    exact ⟨v, he, .inr ⟨_, a', c', ⟨_, List.mem_of_getElem? hi, hf, hat.1, hat.2, rfl⟩, hv, H3.perms ((hp4.cons _).cons _).symm (List.Perm.refl _)⟩⟩
  · have H1 : Hp w S O ([dkB db ⟨sb, nb, A, lc, L, c, fs, steps, armed, left, false⟩ sa sk, (nb, mapO Value.string ptrV L c), (fp, .cells #[.map (some s), .map (some n), .I size] 147 (0, 0))] ++ ((sb, mapO Value.string ptrV A lc) :: (s, mapO (Value.int .i64) secVal X xc) :: (n, mapO (Value.int .i64) secVal Y yc) :: filesH (fs.eraseIdx i))) [diskW ⟨sb, nb, A, lc, L, c, fs, steps, armed, left, false⟩ sa sk] [] w :=
     H0.perms ((((List.Perm.swap _ _ _).trans ((filesH_pick hi).symm.cons _)).cons _).cons _) (List.Perm.refl _)
    have hat' : at_ < 0 ∨ size ≤ at_ := by omega
    refine (read_out hf hat' ((H1.lend (W1 := []) (M1 := [dkB db ⟨sb, nb, A, lc, L, c, fs, steps, armed, left, false⟩ sa sk, (nb, mapO Value.string ptrV L c), (fp, .cells #[.map (some s), .map (some n), .I size] 147 (0, 0))])).pick [] rfl)).mono fun e w' hh => ?_
    obtain ⟨v, he, hv, H'⟩ := hh
    have H3 := (H1.back (W1 := []) (M1 := [dkB db ⟨sb, nb, A, lc, L, c, fs, steps, armed, left, false⟩ sa sk, (nb, mapO Value.string ptrV L c), (fp, .cells #[.map (some s), .map (some n), .I size] 147 (0, 0))]) H').pick [] rfl
    exact ⟨v, he, .inl ⟨⟨2, by decide, hv, .inr ⟨_, List.mem_of_getElem? hi, hf, hat', rfl⟩⟩, H3.perms ((((List.Perm.swap _ _ _).trans ((filesH_pick hi).symm.cons _)).cons _).cons _).symm (List.Perm.refl _)⟩⟩
theorem dCrashE {a : Option Addr} {ca : Nat} (hok : DOk D) (hst : D.steps.length ≤ 1000000000) (H0 : Hp w S O (diskM db D sa sk) [diskW D sa sk] [] w) :
 Calls Tryz.prog 25 #[.P db 0, .slice a 0 ca] w (Ret fun v w' => v = .tuple #[] ∧ ∃ (ns : Nat → Nat) (nb : Nat), Hp w S O (diskM db (crashD D [] ns nb) none 0) [diskW (crashD D [] ns nb) none 0] [] w') := by
 obtain ⟨sb, nb, A, lc, L, c, fs, steps, armed, left, dead⟩ := D
 refine (crash_nil hst hok.cr H0).mono fun e w' hh => ?_
 obtain ⟨v, he, hv, C, ns, nb2, hC, H'⟩ := hh
 subst hC
 exact ⟨v, he, hv, ns, nb2, H'⟩
theorem dCrash0 (hok : DOk D) (hst : D.steps.length ≤ 1000000000) (H0 : Hp w S O (diskM db D sa sk) [diskW D sa sk] [] w) :
 Calls Tryz.prog 25 #[.P db 0, .slice none 0 0] w (Ret fun v w' => v = .tuple #[] ∧ ∃ (ns : Nat → Nat) (nb : Nat), Hp w S O (diskM db (crashD D [] ns nb) none 0) [diskW (crashD D [] ns nb) none 0] [] w') := dCrashE hok hst H0
end
end Go.Proofs.YtdnibpclkhenmaaGreatDoor
