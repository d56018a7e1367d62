import Derived.Test.YtdnibpclkhenmaaGreatDoorSG7
namespace Go.Proofs.YtdnibpclkhenmaaGreatDoor
open Go.BX
abbrev dkB (db : Nat) (D : DiskD) (sa : Option Addr) (sk : Nat) : Nat × Obj := (db, .cells #[.bool true, .map (some D.sb), .map (some D.nb), .slice sa D.steps.length sk, .bool D.armed, .I D.left, .bool D.dead] 39 (0, 0))
abbrev diskM (db : Nat) (D : DiskD) (sa : Option Addr) (sk : Nat) : Heap := dkB db D sa sk :: (D.nb, mapO Value.string ptrV D.now D.nc) :: (D.sb, mapO Value.string ptrV D.safe D.sc) :: filesH D.files
abbrev diskW (D : DiskD) (sa : Option Addr) (sk : Nat) : OwnS := ⟨stepS, 143, .slice sa D.steps.length sk, D.steps⟩
structure DOk (D : DiskD) : Prop where
 mnow : MOk D.now D.nc
 cr : CrOk (D.safe, D.sc) D.files D.steps
 same : ∀ x, mfind x D.now = mfind x (D.steps.foldl mapN (D.safe, D.sc)).1
 nd : (psOf D.files).Nodup
theorem DOk.valid {D : DiskD} (h : DOk D) {x : ByteArray} {o : Option Nat} (hx : mfind x D.now = some o) : ∃ p, o = some p ∧ p ∈ psOf D.files := by
 rw [h.same] at hx
 obtain ⟨e, he, -, rfl⟩ := mfind_mem hx
 have hg := h.cr.good D.steps.length e
 rw [List.take_length] at hg
 exact hg he
theorem mapN_cong {L1 L2 : NameL × Nat} (h1 : MOk L1.1 L1.2) (h2 : MOk L2.1 L2.2) (h : ∀ x, mfind x L1.1 = mfind x L2.1) (s : StepD) : ∀ x, mfind x (mapN L1 s).1 = mfind x (mapN L2 s).1 := by
 intro x
 unfold mapN
 split
 · simp only [mfind_set, h]
 · split
   · simp only [mfind_del _ _ (h1.set _ _).keys, mfind_del _ _ (h2.set _ _).keys, mfind_set, h]
   · split
     · simp only [mfind_del _ _ h1.keys, mfind_del _ _ h2.keys, h]
     · exact h x
theorem mset_in {α β : Type} [DecidableEq α] {x : α} {v : β} {c : Nat} : ∀ {L : List (α × β × Nat)} {e : α × β × Nat}, e ∈ mset x v c L → e.2.1 = v ∨ e ∈ L
 | [], e, h => by
  simp [mset] at h
  exact .inl (by rw [h])
 | a :: L, e, h => by
  simp only [mset] at h
  split at h
  · rcases List.mem_cons.1 h with rfl | h
    · exact .inl rfl
    · exact .inr (List.mem_cons_of_mem _ h)
  · rcases List.mem_cons.1 h with rfl | h
    · exact .inr (List.mem_cons_self ..)
    · exact (mset_in h).imp id (List.mem_cons_of_mem _)
theorem mapN_good {ps : List Nat} {L : NameL × Nat} (h : ∀ e ∈ L.1, ∃ p, e.2.1 = some p ∧ p ∈ ps) {s : StepD} (h0 : s.kind = 0 → ∃ q, s.file = some q ∧ q ∈ ps) (h1 : s.kind = 1 → mfind s.frm L.1 ≠ none) :
 ∀ e ∈ (mapN L s).1, ∃ p, e.2.1 = some p ∧ p ∈ ps := by
 intro e he
 unfold mapN at he
 split at he
 · rename_i hk
   rcases mset_in he with he | he
   · rw [he]; exact h0 hk
   · exact h e he
 · split at he
   · rename_i hk
     rcases mset_in ((mdel_sub _ _).subset he) with he | he
     · cases hf : mfind s.frm L.1 with
       | none => exact absurd hf (h1 hk)
       | some o =>
        rw [hf] at he
        obtain ⟨e', he', -, h3⟩ := mfind_mem hf
        obtain ⟨p, hp, hpp⟩ := h e' he'
        refine ⟨p, ?_, hpp⟩
        rw [he, Option.getD_some, ← h3, hp]
     · exact h e he
   · split at he
     · exact h e ((mdel_sub _ _).subset he)
     · exact h e he
def addS (D : DiskD) (x : StepD) : DiskD := { D with now := (mapN (D.now, D.nc) x).1, nc := (mapN (D.now, D.nc) x).2, steps := D.steps ++ [x] }
theorem DOk.addS' {D : DiskD} (h : DOk D) {x : StepD} (hx : StepIn x) (hw : x.kind = 3 → ∃ q, x.file = some q ∧ q ∈ psOf D.files) (h0 : x.kind = 0 → ∃ q, x.file = some q ∧ q ∈ psOf D.files) (h1 : x.kind = 1 → mfind x.frm D.now ≠ none) : DOk (addS D x) where
 mnow := mapN_ok h.mnow x
 nd := h.nd
 cr := ⟨h.cr.map, fun k => by
  by_cases hk : k ≤ D.steps.length
  · have e : (D.steps ++ [x]).take k = D.steps.take k := List.take_append_of_le_length hk
    intro q hq
    have hq' : q ∈ (((D.steps ++ [x]).take k).foldl mapN (D.safe, D.sc)).1 := hq
    rw [e] at hq'
    exact h.cr.good k q hq'
  · have e : (D.steps ++ [x]).take k = D.steps ++ [x] := List.take_of_length_le (by simp; omega)
    intro q hq
    have hq' : q ∈ (((D.steps ++ [x]).take k).foldl mapN (D.safe, D.sc)).1 := hq
    rw [e, List.foldl_append] at hq'
    refine mapN_good (ps := psOf D.files) (L := D.steps.foldl mapN (D.safe, D.sc)) (fun e he => ?_) h0 (fun hk => by rw [← h.same]; exact h1 hk) q hq'
    have := h.cr.good D.steps.length e
    rw [List.take_length] at this
    exact this he,
  fun y hy hk => by
   rcases List.mem_append.1 hy with hy | hy
   · exact h.cr.wr y hy hk
   · rw [List.mem_singleton.1 hy] at hk ⊢; exact hw hk,
  fun y hy => by
   rcases List.mem_append.1 hy with hy | hy
   · exact h.cr.inn y hy
   · rw [List.mem_singleton.1 hy]; exact hx, h.cr.files⟩
 same := fun y => by
  show mfind y (mapN (D.now, D.nc) x).1 = mfind y ((D.steps ++ [x]).foldl mapN (D.safe, D.sc)).1
  rw [List.foldl_append]
  exact mapN_cong h.mnow (foldN_ok h.cr.map _) h.same x y
def setF (D : DiskD) (fs : List FileD) : DiskD := { D with files := fs }
theorem DOk.setF' {D : DiskD} (h : DOk D) {fs : List FileD} (hs : ∀ p ∈ psOf D.files, p ∈ psOf fs) (hf : FilesOk fs) (hn : (psOf fs).Nodup) : DOk (setF D fs) where
 mnow := h.mnow
 nd := hn
 same := h.same
 cr := ⟨h.cr.map, fun k e he => by obtain ⟨p, h1, h2⟩ := h.cr.good k e he; exact ⟨p, h1, hs p h2⟩, fun x hx hk => by obtain ⟨p, h1, h2⟩ := h.cr.wr x hx hk; exact ⟨p, h1, hs p h2⟩, h.cr.inn, hf⟩
def tick (D : DiskD) : DiskD := { D with left := lf D.armed D.left }
def stopD (D : DiskD) : DiskD := { D with left := D.left - 1, dead := true }
theorem DOk.tick' {D : DiskD} (h : DOk D) : DOk (tick D) := ⟨h.mnow, h.cr, h.same, h.nd⟩
theorem DOk.stopD' {D : DiskD} (h : DOk D) : DOk (stopD D) := ⟨h.mnow, h.cr, h.same, h.nd⟩
abbrev noS : ByteArray := ⟨#[]⟩
def wrS (p : Nat) (at_ : Int) (x : Sec) : StepD := ⟨3, some p, noS, noS, at_, x⟩
def wrOld (D : DiskD) (p : Nat) (at_ : Int) (x : Sec) : DiskD := tick (addS (setF D (updF D.files p (putB at_ x))) (wrS p at_ x))
def wrNew (D : DiskD) (p s n : Nat) (name : ByteArray) (at_ : Int) (x : Sec) : DiskD := tick (addS (addS (setF D (putB at_ x ⟨p, s, n, [], 0, [], 0, 0⟩ :: D.files)) ⟨0, some p, noS, name, 0, zeroSec⟩) (wrS p at_ x))
def wArg (D : DiskD) (name : ByteArray) (at_ : Int) (xs : List (BitVec 8)) : Int :=
 if nmI name ≠ 1 ∨ at_ < 0 ∨ 65536 ≤ at_ ∨ xs.length ≠ 64 then 2 else if mfind name D.now = none ∧ 256 ≤ D.now.length then 72 else 0
def Stops (D : DiskD) : Prop := D.armed = true ∧ D.left < 1
def WriteR (D : DiskD) (name : ByteArray) (at_ : Int) (xs : List (BitVec 8)) (e : Int) (D' : DiskD) : Prop :=
 (e = wArg D name at_ xs ∧ e ≠ 0 ∧ D' = D) ∨ (e = 70 ∧ wArg D name at_ xs = 0 ∧ Stops D ∧ D' = stopD D) ∨
 (e = 0 ∧ wArg D name at_ xs = 0 ∧ ¬ Stops D ∧ ∃ p, mfind name D.now = some (some p) ∧ D' = wrOld D p at_ (secOf xs)) ∨
 (e = 0 ∧ wArg D name at_ xs = 0 ∧ ¬ Stops D ∧ mfind name D.now = none ∧ ∃ p s n, p ∉ psOf D.files ∧ D' = wrNew D p s n name at_ (secOf xs))
theorem wArg_in {D : DiskD} {name : ByteArray} {at_ : Int} {xs : List (BitVec 8)} (h : wArg D name at_ xs = 0) : nmI name = 1 ∧ (0 ≤ at_ ∧ at_ < 65536) ∧ xs.length = 64 ∧ (mfind name D.now = none → D.now.length < 256) := by
 unfold wArg at h
 split at h
 · omega
 · split at h
   · omega
   · rename_i h1 h2
     exact ⟨by omega, by omega, by omega, fun hn => Nat.lt_of_not_le fun hh => h2 ⟨hn, hh⟩⟩
theorem files_put {fs : List FileD} (h : FilesOk fs) {at_ : Int} (ha : 0 ≤ at_ ∧ at_ < 65536) (x : Sec) (p : Nat) : FilesOk (updF fs p (putB at_ x)) := FilesOk.updF h fun _ hf => hf.putB ha x
theorem newFile_ok {at_ : Int} (ha : 0 ≤ at_ ∧ at_ < 65536) (x : Sec) (p s n : Nat) : FileOk (putB at_ x ⟨p, s, n, [], 0, [], 0, 0⟩) :=
 FileOk.putB ⟨MOk.nil, MOk.nil, fun e he => (by cases he), fun e he => (by cases he), Int.le_refl _, show (0 : Int) ≤ 65536 by decide⟩ ha x
theorem wrS_in {p : Nat} {at_ : Int} {x : Sec} (ha : 0 ≤ at_ ∧ at_ < 65536) : StepIn (wrS p at_ x) := stepIn_mk (by decide) ha (Nat.zero_le _) (Nat.zero_le _)
theorem WriteR.ok {D D' : DiskD} {name : ByteArray} {at_ e : Int} {xs : List (BitVec 8)} (h : DOk D) (hs : name.size ≤ maxLen) (hr : WriteR D name at_ xs e D') : DOk D' := by
 rcases hr with ⟨-, -, rfl⟩ | ⟨-, -, -, rfl⟩ | ⟨-, ha, -, p, hp, rfl⟩ | ⟨-, ha, -, -, p, s, n, hp, rfl⟩
 · exact h
 · exact h.stopD'
 · obtain ⟨-, hat, -, -⟩ := wArg_in ha
   obtain ⟨q, hq, hpm⟩ := h.valid hp
   cases hq
   have hps : psOf (updF D.files p (putB at_ (secOf xs))) = psOf D.files := updF_ps _ _ _ fun _ => rfl
   have h1 := h.setF' (fs := updF D.files p (putB at_ (secOf xs))) (fun q hq => by rw [hps]; exact hq) (files_put h.cr.files hat _ p) (by rw [hps]; exact h.nd)
   exact (h1.addS' (wrS_in hat) (fun _ => ⟨p, rfl, by show p ∈ psOf (updF D.files p (putB at_ (secOf xs))); rw [hps]; exact hpm⟩) (fun hk => absurd (show (3 : Int) = 0 from hk) (by decide)) (fun hk => absurd (show (3 : Int) = 1 from hk) (by decide))).tick'
 · obtain ⟨-, hat, -, -⟩ := wArg_in ha
   have h1 := h.setF' (fs := putB at_ (secOf xs) ⟨p, s, n, [], 0, [], 0, 0⟩ :: D.files) (fun q hq => List.mem_cons_of_mem _ hq) (fun f hf => by
    rcases List.mem_cons.1 hf with rfl | hf
    · exact newFile_ok hat _ p s n
    · exact h.cr.files f hf) (List.nodup_cons.2 ⟨hp, h.nd⟩)
   have hm : p ∈ psOf (putB at_ (secOf xs) ⟨p, s, n, [], 0, [], 0, 0⟩ :: D.files) := List.mem_cons_self ..
   have h2 := h1.addS' (x := ⟨0, some p, noS, name, 0, zeroSec⟩) (stepIn_mk (by decide) (by decide) (Nat.zero_le _) hs) (fun hk => absurd (show (0 : Int) = 3 from hk) (by decide)) (fun _ => ⟨p, rfl, hm⟩) (fun hk => absurd (show (0 : Int) = 1 from hk) (by decide))
   exact (h2.addS' (wrS_in hat) (fun _ => ⟨p, rfl, hm⟩) (fun hk => absurd (show (3 : Int) = 0 from hk) (by decide)) (fun hk => absurd (show (3 : Int) = 1 from hk) (by decide))).tick'
theorem go_of {D : DiskD} (h : ¬ Stops D) (hl : D.armed = true → D.left ≤ 9223372036854775807) : D.armed = true → 1 ≤ D.left ∧ D.left ≤ 9223372036854775807 := fun ha => ⟨by
 refine Classical.byContradiction fun hn => h ⟨ha, by omega⟩, hl ha⟩
section
variable {S : Nat → Prop} {w : World} {O : List Nat} {db : Nat} {D : DiskD} {sa : Option Addr} {sk : Nat}
abbrev DEnd (w : World) (S : Nat → Prop) (O : List Nat) (db : Nat) (R : Value → DiskD → Prop) : Ending → World → Prop :=
 Ret fun v w' => ∃ (D' : DiskD) (sa' : Option Addr) (sk' : Nat), R v D' ∧ Hp w S O (diskM db D' sa' sk') [diskW D' sa' sk'] [] w'
theorem dWrite {name : ByteArray} {at_ : Int} {xs : List (BitVec 8)} {a : Option Addr} {ca : Nat} (hok : DOk D) (hst : D.steps.length ≤ 1000000000) (hd : D.dead = false) (hl : D.armed = true → -9223372036854775808 < D.left ∧ D.left ≤ 9223372036854775807)
 (hs : name.size ≤ maxLen) (hat : -9223372036854775808 ≤ at_ ∧ at_ ≤ 9223372036854775807) (H0 : Hp w S O (diskM db D sa sk) [diskW D sa sk] [Rp SB [.slice a xs.length ca] xs] w) :
 Calls Tryz.prog 118 #[.P db 0, .string name, .I at_, .slice a xs.length ca] w (DEnd w S O db fun v D' => ∃ e, v = .I e ∧ WriteR D name at_ xs e D') := by
 by_cases hb : nmI name ≠ 1 ∨ at_ < 0 ∨ 65536 ≤ at_ ∨ xs.length ≠ 64
 · have hA : wArg D name at_ xs = 2 := if_pos hb
   obtain ⟨sb, nb, A, lc, L, c, fs, steps, armed, left, dead⟩ := D
   obtain rfl : dead = false := hd
   refine (write_bad hs hat hb ((H0.lend (M1 := [dkB db _ sa sk]) (W1 := [])).pick [0] rfl)).mono fun e w' hh => ?_
   obtain ⟨v, he, hv, H'⟩ := hh
   exact ⟨v, he, _, sa, sk, ⟨2, hv, .inl ⟨hA.symm, by decide, rfl⟩⟩, (H0.back (M1 := [dkB db _ sa sk]) (W1 := []) H').pick [] rfl⟩
 · have hnm : nmI name = 1 := by omega
   have hat2 : 0 ≤ at_ ∧ at_ < 65536 := by omega
   have hxs : xs.length = 64 := by omega
   cases hf : mfind name D.now with
   | none =>
    by_cases hL : 256 ≤ D.now.length
    · have hA : wArg D name at_ xs = 72 := by unfold wArg; rw [if_neg hb, if_pos ⟨hf, hL⟩]
      obtain ⟨sb, nb, A, lc, L, c, fs, steps, armed, left, dead⟩ := D
      obtain rfl : dead = false := hd
      refine (write_full hs hnm hat2 hxs hf hL ((H0.lend (M1 := [dkB db _ sa sk, (nb, mapO Value.string ptrV L c)]) (W1 := [])).pick [0] rfl)).mono fun e w' hh => ?_
      obtain ⟨v, he, hv, H'⟩ := hh
      exact ⟨v, he, _, sa, sk, ⟨72, hv, .inl ⟨hA.symm, by decide, rfl⟩⟩, (H0.back (M1 := [dkB db _ sa sk, (nb, mapO Value.string ptrV L c)]) (W1 := []) H').pick [] rfl⟩
    · have hA : wArg D name at_ xs = 0 := by unfold wArg; rw [if_neg hb, if_neg (fun hh => hL hh.2)]
      by_cases hS : Stops D
      · have hl1 := hl hS.1
        obtain ⟨sb, nb, A, lc, L, c, fs, steps, armed, left, dead⟩ := D
        obtain rfl : dead = false := hd
        obtain ⟨ha, hlt⟩ := hS
        obtain rfl : armed = true := ha
        refine (write_stopN hs hnm hat2 hxs ⟨hlt, hl1.1⟩ hf (Nat.lt_of_not_le hL) ((H0.lend (M1 := [dkB db _ sa sk, (nb, mapO Value.string ptrV L c)]) (W1 := [])).pick [0] rfl)).mono fun e w' hh => ?_
        obtain ⟨v, he, hv, H'⟩ := hh
        exact ⟨v, he, _, sa, sk, ⟨70, hv, .inr (.inl ⟨rfl, hA, ⟨rfl, hlt⟩, rfl⟩)⟩, (H0.back (M1 := [dkB db _ sa sk, (nb, mapO Value.string ptrV L c)]) (W1 := []) H').pick [] rfl⟩
      · have hgo := go_of hS fun ha => (hl ha).2
        obtain ⟨sb, nb, A, lc, L, c, fs, steps, armed, left, dead⟩ := D
        obtain rfl : dead = false := hd
        refine (write_new hs hnm hat2 hxs hst hgo hf (Nat.lt_of_not_le hL) ((H0.lend (M1 := [dkB db _ sa sk, (nb, mapO Value.string ptrV L c)]) (W1 := [diskW _ sa sk])).pick [0] rfl)).mono fun e w' hh => ?_
        obtain ⟨v, he, hv, p, s, n, sa', sk', H'⟩ := hh
        have H3 := (H0.back (M1 := [dkB db _ sa sk, (nb, mapO Value.string ptrV L c)]) (W1 := [diskW _ sa sk]) H').pick [] rfl
        have H4 : Hp w S O (diskM db (wrNew ⟨sb, nb, A, lc, L, c, fs, steps, armed, left, false⟩ p s n name at_ (secOf xs)) sa' sk') [diskW (wrNew ⟨sb, nb, A, lc, L, c, fs, steps, armed, left, false⟩ p s n name at_ (secOf xs)) sa' sk'] [] w' :=
         H3.perms (((List.perm_middle (a := (sb, mapO Value.string ptrV A lc)) (l₁ := fileH (putB at_ (secOf xs) ⟨p, s, n, [], 0, [], 0, 0⟩)) (l₂ := filesH fs)).symm.cons _).cons _) (List.Perm.refl _)
        have hnd := ps_nodup2 (fs := putB at_ (secOf xs) ⟨p, s, n, [], 0, [], 0, 0⟩ :: fs) H4 [_, _, _] rfl
        exact ⟨v, he, _, sa', sk', ⟨0, hv, .inr (.inr (.inr ⟨rfl, hA, hS, hf, p, s, n, (List.nodup_cons.1 hnd).1, rfl⟩))⟩, H4⟩
   | some o =>
    obtain ⟨p, rfl, hpm⟩ := hok.valid hf
    have hA : wArg D name at_ xs = 0 := by unfold wArg; rw [if_neg hb, if_neg (fun hh => by rw [hf] at hh; cases hh.1)]
    by_cases hS : Stops D
    · have hl1 := hl hS.1
      obtain ⟨sb, nb, A, lc, L, c, fs, steps, armed, left, dead⟩ := D
      obtain rfl : dead = false := hd
      obtain ⟨ha, hlt⟩ := hS
      obtain rfl : armed = true := ha
      refine (write_stopO hs hnm hat2 hxs ⟨hlt, hl1.1⟩ hf ((H0.lend (M1 := [dkB db _ sa sk, (nb, mapO Value.string ptrV L c)]) (W1 := [])).pick [0] rfl)).mono fun e w' hh => ?_
      obtain ⟨v, he, hv, H'⟩ := hh
      exact ⟨v, he, _, sa, sk, ⟨70, hv, .inr (.inl ⟨rfl, hA, ⟨rfl, hlt⟩, rfl⟩)⟩, (H0.back (M1 := [dkB db _ sa sk, (nb, mapO Value.string ptrV L c)]) (W1 := []) H').pick [] rfl⟩
    · have hgo := go_of hS fun ha => (hl ha).2
      have hnd := hok.nd
      obtain ⟨sb, nb, A, lc, L, c, fs, steps, armed, left, dead⟩ := D
      obtain rfl : dead = false := hd
      obtain ⟨i, f, hi, hfp⟩ := ps_at hpm
      obtain ⟨fp, s, n, X, xc, Y, yc, size⟩ := f
      obtain rfl : fp = p := hfp
      have H1 : Hp w S O (([dkB db ⟨sb, nb, A, lc, L, c, fs, steps, armed, left, false⟩ sa sk, (nb, mapO Value.string ptrV L c)] ++ fileH ⟨fp, s, n, X, xc, Y, yc, size⟩) ++ ((sb, mapO Value.string ptrV A lc) :: filesH (fs.eraseIdx i))) [diskW ⟨sb, nb, A, lc, L, c, fs, steps, armed, left, false⟩ sa sk] _ w :=
       H0.perms (((((filesH_pick hi).cons (sb, mapO Value.string ptrV A lc)).trans List.perm_middle.symm).symm.cons _).cons _) (List.Perm.refl _)
      refine (write_old hs hnm hat2 hxs hst hgo hf ((H1.lend (M1 := [dkB db ⟨sb, nb, A, lc, L, c, fs, steps, armed, left, false⟩ sa sk, (nb, mapO Value.string ptrV L c)] ++ fileH ⟨fp, s, n, X, xc, Y, yc, size⟩) (W1 := [diskW _ sa sk])).pick [0] rfl)).mono fun e w' hh => ?_
      obtain ⟨v, he, hv, sa', sk', H'⟩ := hh
      have H3 := (H1.back (M1 := [dkB db ⟨sb, nb, A, lc, L, c, fs, steps, armed, left, false⟩ sa sk, (nb, mapO Value.string ptrV L c)] ++ fileH ⟨fp, s, n, X, xc, Y, yc, size⟩) (W1 := [diskW _ sa sk]) H').pick [] rfl
      have hu := updF_set (g := putB at_ (secOf xs)) hnd hi rfl
      have H4 : Hp w S O (diskM db (wrOld ⟨sb, nb, A, lc, L, c, fs, steps, armed, left, false⟩ fp at_ (secOf xs)) sa' sk') [diskW (wrOld ⟨sb, nb, A, lc, L, c, fs, steps, armed, left, false⟩ fp at_ (secOf xs)) sa' sk'] [] w' :=
       H3.perms (((((by show (filesH (updF fs fp (putB at_ (secOf xs)))).Perm _; rw [hu]; exact filesH_put _ (List.getElem?_eq_some_iff.1 hi).1 : (filesH (updF fs fp (putB at_ (secOf xs)))).Perm (fileH (putB at_ (secOf xs) ⟨fp, s, n, X, xc, Y, yc, size⟩) ++ filesH (fs.eraseIdx i))).cons (sb, mapO Value.string ptrV A lc)).trans List.perm_middle.symm).cons _).cons _) (List.Perm.refl _)
      exact ⟨v, he, _, sa', sk', ⟨0, hv, .inr (.inr (.inl ⟨rfl, hA, hS, fp, hf, rfl⟩))⟩, H4⟩
end
end Go.Proofs.YtdnibpclkhenmaaGreatDoor
