import Derived.Test.YtekgjnblidjloaaA1
namespace Go.Proofs.Ytekgjnblidjloaa
open Go.BX

theorem write_dead {S : Nat → Prop} {w : World} {db sn sk : Nat} {sv nv : Option Nat} {sa a : Option Addr} {armed : Bool} {left : Int} {n ca : Nat} (name : ByteArray) (at_ : Int) (hF : (Fc db 0 [.bool true, .map sv, .map nv, .slice sa sn sk, .bool armed, .I left, .bool true]).p S w) :
 Calls Try.prog 8 #[.P db 0, .string name, .I at_, .slice a n ca] w (Ret fun v w' => Ext w w' ∧ v = .I 70) := by
 refine qS (fn := Try.f8) (n := 111) (σ := [(0, .P db 0), (1, .string name), (2, .I at_), (3, .slice a n ca)]) Try.func8 ?_
 have H := Hp.startF (w := w) (S := S) (G := [Fc db 0 [.bool true, .map sv, .map nv, .slice sa sn sk, .bool armed, .I left, .bool true]]) (.cons hF .nil)
 refine qR 4 [.c [1, 0, 0], .c [1, 0, 1], .c [2]] [(0, .P db 0), (1, .string name), (2, .I at_), (3, .slice a n ca)] ?_
 refine qG (sq 0 3) ?_
 refine qP 1 (sq 1 3) [(0, .P db 0), (1, .string name), (2, .I at_), (3, .slice a n ca), (13, .P db 0)] ?_
 refine qK .seq (some 14) (sq 2 3) 23 #[.P db 0] (state_spec (S := fun _ => True) (made := true) (dead := true) (H.viewF 0 rfl)) ?_
 rintro _ w1 hE2 rfl
 have H := H.ext hE2
 refine qF 1 [(0, .P db 0), (1, .string name), (2, .I at_), (3, .slice a n ca), (9, .I 70)] ?_
 refine qR 5 [.c [1, 0, 2, 0, 1], .c [2]] [(8, .I 70)] ?_
 refine qT (.I 70) Try.func8 ?_
 exact ⟨_, rfl, H.done, rfl⟩

/-! ### Two disks, one of which stops -/
structure Sim (D F : DiskD) : Prop where
 okD : DOk D
 okF : DOk F
 liveD : D.dead = false
 liveF : F.dead = false
 on : D.armed = true
 off : F.armed = false
 left0 : 0 ≤ D.left ∧ D.left ≤ 1000
 same : ∀ x, mfind x D.now = none ↔ mfind x F.now = none
 len : D.now.length = F.now.length
theorem Sim.arg {D F : DiskD} (h : Sim D F) (name : ByteArray) (at_ : Int) (xs : List (BitVec 8)) : wArg D name at_ xs = wArg F name at_ xs := by
 unfold wArg
 rw [h.len]
 simp only [h.same]
/-- what comes of a call that both are given -/
structure Both (D F : DiskD) (e g : Int) (D' F' : DiskD) : Prop where
 bad : e ≠ 0 → g = e ∧ D' = D ∧ F' = F
 stop : e = 0 → D.left < 1 → g = 70 ∧ D'.dead = true ∧ DOk D' ∧ D'.steps = D.steps
 go : e = 0 → 1 ≤ D.left → g = 0 ∧ Sim D' F' ∧ D'.left = D.left - 1 ∧ D'.steps.length ≤ D.steps.length + 2 ∧ F'.steps.length ≤ F.steps.length + 2
theorem stops_iff {D F : DiskD} (h : Sim D F) : Stops D ↔ D.left < 1 := ⟨fun hh => hh.2, fun hh => ⟨h.on, hh⟩⟩
theorem lf_on {D : DiskD} (h : D.armed = true) : lf D.armed D.left = D.left - 1 := by unfold lf; rw [if_pos h]
theorem mset_some {x y : ByteArray} {v : Option Nat} {c : Nat} {L : NameL} : mfind y (mset x v c L) = none ↔ (x ≠ y ∧ mfind y L = none) := by
 rw [mfind_set]
 by_cases h : x = y
 · rw [if_pos h]; exact ⟨fun hh => (by cases hh), fun hh => absurd h hh.1⟩
 · rw [if_neg h]; exact ⟨fun hh => ⟨h, hh⟩, fun hh => hh.2⟩
theorem mdel_none' {x y : ByteArray} {L : NameL} (hn : (L.map (·.1)).Nodup) : mfind y (mdel x L) = none ↔ (x = y ∨ mfind y L = none) := by
 rw [mfind_del _ _ hn]
 by_cases h : x = y
 · rw [if_pos h]; exact ⟨fun _ => .inl h, fun _ => rfl⟩
 · rw [if_neg h]; exact ⟨.inr, fun hh => hh.elim (fun e => absurd e h) id⟩
theorem mdel_len {x : ByteArray} : ∀ {L : NameL}, (mdel x L).length = if (mfind x L).isSome then L.length - 1 else L.length
 | [] => by simp [mdel, mfind]
 | e :: l => by
  by_cases h : e.1 = x
  · have h1 : mdel x (e :: l) = l := if_pos h
    have h2 : mfind x (e :: l) = some e.2.1 := if_pos h
    rw [h1]
    simp [h2]
  · have h1 : mdel x (e :: l) = e :: mdel x l := if_neg h
    have h2 : mfind x (e :: l) = mfind x l := if_neg h
    have ih := mdel_len (x := x) (L := l)
    rw [h1]
    simp only [h2, List.length_cons, ih]
    cases hm : mfind x l with
    | none => simp
    | some v =>
     have : 0 < l.length := by
      cases l with
      | nil => simp [mfind] at hm
      | cons a l => simp
     simp only [Option.isSome_some, if_true]
     omega
theorem isSome_iff {x : ByteArray} {L : NameL} : (mfind x L).isSome = true ↔ mfind x L ≠ none := by
 cases mfind x L <;> simp
theorem len_mset {D F : DiskD} (h : Sim D F) (x : ByteArray) (v v' : Option Nat) (c c' : Nat) : (mset x v c D.now).length = (mset x v' c' F.now).length := by
 rw [mset_len, mset_len, h.len]
 by_cases hx : mfind x D.now = none
 · rw [hx, (h.same x).1 hx]
 · have hy : mfind x F.now ≠ none := fun e => hx ((h.same x).2 e)
   rw [if_pos (isSome_iff.2 hx), if_pos (isSome_iff.2 hy)]
/-- both go on: the same names are there -/
theorem Sim.next {D F D' F' : DiskD} (h : Sim D F) (hl : 1 ≤ D.left) (okD : DOk D') (okF : DOk F') (a1 : D'.dead = D.dead) (a2 : F'.dead = F.dead) (a3 : D'.armed = D.armed) (a4 : F'.armed = F.armed) (a5 : D'.left = D.left - 1)
 (hs : ∀ x, mfind x D'.now = none ↔ mfind x F'.now = none) (hn : D'.now.length = F'.now.length) : Sim D' F' :=
 ⟨okD, okF, a1.trans h.liveD, a2.trans h.liveF, a3.trans h.on, a4.trans h.off, by have := h.left0; rw [a5]; omega, hs, hn⟩
theorem Both.write {D F D' F' : DiskD} {name : ByteArray} {at_ e g : Int} {xs : List (BitVec 8)} (h : Sim D F) (hs : name.size ≤ maxLen) (hF : WriteR F name at_ xs e F') (hD : WriteR D name at_ xs g D') : Both D F e g D' F' := by
 have okD := WriteR.ok h.okD hs hD
 have okF := WriteR.ok h.okF hs hF
 have ha := h.arg name at_ xs
 have hst := stops_iff h
 have hnf : ¬ Stops F := notStops h.off
 rcases hF with ⟨f1, f2, rfl⟩ | ⟨-, -, f3, -⟩ | ⟨rfl, f2, -, pf, f3, rfl⟩ | ⟨rfl, f2, -, f3, p, s, n, -, rfl⟩
 · rcases hD with ⟨d1, d2, rfl⟩ | ⟨-, d2, -⟩ | ⟨-, d2, -⟩ | ⟨-, d2, -⟩
   · exact ⟨fun _ => ⟨by rw [d1, f1, ha], rfl, rfl⟩, fun e0 => absurd e0 f2, fun e0 => absurd e0 f2⟩
   all_goals exact absurd (f1.trans (ha.symm.trans d2)) f2
 · exact absurd f3 hnf
 · refine ⟨fun e0 => absurd rfl e0, fun _ hl => ?_, fun _ hl => ?_⟩
   · rcases hD with ⟨d1, d2, -⟩ | ⟨d1, -, -, rfl⟩ | ⟨-, -, d3, -⟩ | ⟨-, -, d3, -⟩
     · exact absurd (d1.trans (ha.trans f2)) d2
     · exact ⟨d1, rfl, okD, rfl⟩
     · exact absurd (hst.2 hl) d3
     · exact absurd (hst.2 hl) d3
   · rcases hD with ⟨d1, d2, -⟩ | ⟨-, -, d3, -⟩ | ⟨d1, -, -, p, d4, rfl⟩ | ⟨-, -, -, d4, -⟩
     · exact absurd (d1.trans (ha.trans f2)) d2
     · exact absurd (hst.1 d3) (by omega)
     · exact ⟨d1, h.next hl okD okF rfl rfl rfl rfl (lf_on h.on) h.same h.len, lf_on h.on, by show (D.steps ++ [_]).length ≤ _; simp, by show (F.steps ++ [_]).length ≤ _; simp⟩
     · rw [(h.same name).1 d4] at f3; cases f3
 · refine ⟨fun e0 => absurd rfl e0, fun _ hl => ?_, fun _ hl => ?_⟩
   · rcases hD with ⟨d1, d2, -⟩ | ⟨d1, -, -, rfl⟩ | ⟨-, -, d3, -⟩ | ⟨-, -, d3, -⟩
     · exact absurd (d1.trans (ha.trans f2)) d2
     · exact ⟨d1, rfl, okD, rfl⟩
     · exact absurd (hst.2 hl) d3
     · exact absurd (hst.2 hl) d3
   · rcases hD with ⟨d1, d2, -⟩ | ⟨-, -, d3, -⟩ | ⟨d1, -, -, q, d4, -⟩ | ⟨d1, -, -, -, q, s', n', -, rfl⟩
     · exact absurd (d1.trans (ha.trans f2)) d2
     · exact absurd (hst.1 d3) (by omega)
     · rw [(h.same name).2 f3] at d4; cases d4
     · refine ⟨d1, h.next hl okD okF rfl rfl rfl rfl (lf_on h.on) (fun x => ?_) (len_mset h name _ _ _ _), lf_on h.on, by show (D.steps ++ [_] ++ [_]).length ≤ _; simp, by show (F.steps ++ [_] ++ [_]).length ≤ _; simp⟩
       show mfind x (mset name (some q) D.nc D.now) = none ↔ mfind x (mset name (some p) F.nc F.now) = none
       rw [mset_some, mset_some, h.same]
theorem Both.sync {D F D' F' : DiskD} {name : ByteArray} {e g : Int} (h : Sim D F) (hF : SyncR F name e F') (hD : SyncR D name g D') : Both D F e g D' F' := by
 have okD := SyncR.ok h.okD hD
 have okF := SyncR.ok h.okF hF
 have hst := stops_iff h
 have hnf : ¬ Stops F := notStops h.off
 rcases hF with ⟨rfl, f2, rfl⟩ | ⟨-, -, f3, -⟩ | ⟨rfl, -, pf, f3, rfl⟩
 · rcases hD with ⟨rfl, d2, rfl⟩ | ⟨-, d2, -⟩ | ⟨-, -, q, d2, -⟩
   · exact ⟨fun _ => ⟨rfl, rfl, rfl⟩, fun e0 => absurd e0 (by decide), fun e0 => absurd e0 (by decide)⟩
   · exact absurd ((h.same name).2 f2) d2
   · rw [(h.same name).2 f2] at d2; cases d2
 · exact absurd f3 hnf
 · have hdn : mfind name D.now ≠ none := fun hh => by rw [(h.same name).1 hh] at f3; cases f3
   refine ⟨fun e0 => absurd rfl e0, fun _ hl => ?_, fun _ hl => ?_⟩
   · rcases hD with ⟨-, d2, -⟩ | ⟨d1, -, -, rfl⟩ | ⟨-, d3, -⟩
     · exact absurd d2 hdn
     · exact ⟨d1, rfl, okD, rfl⟩
     · exact absurd (hst.2 hl) d3
   · rcases hD with ⟨-, d2, -⟩ | ⟨-, -, d3, -⟩ | ⟨d1, -, p, d4, rfl⟩
     · exact absurd d2 hdn
     · exact absurd (hst.1 d3) (by omega)
     · have l1 := List.length_filter_le (notOf p) D.steps
       have l2 := List.length_filter_le (notOf pf) F.steps
       exact ⟨d1, h.next hl okD okF rfl rfl rfl rfl (lf_on h.on) h.same h.len, lf_on h.on, by show (leftS p D.steps).length ≤ _; unfold leftS; omega, by show (leftS pf F.steps).length ≤ _; unfold leftS; omega⟩
theorem Both.remove {D F D' F' : DiskD} {name : ByteArray} {e g : Int} (h : Sim D F) (hs : name.size ≤ maxLen) (hF : RemoveR F name e F') (hD : RemoveR D name g D') : Both D F e g D' F' := by
 have okD := RemoveR.ok h.okD hs hD
 have okF := RemoveR.ok h.okF hs hF
 have hst := stops_iff h
 have hnf : ¬ Stops F := notStops h.off
 rcases hF with ⟨rfl, f2, rfl⟩ | ⟨-, -, f3, -⟩ | ⟨rfl, -, f3, rfl⟩
 · rcases hD with ⟨rfl, d2, rfl⟩ | ⟨-, d2, -⟩ | ⟨-, -, d2, -⟩
   · exact ⟨fun _ => ⟨rfl, rfl, rfl⟩, fun e0 => absurd e0 (by decide), fun e0 => absurd e0 (by decide)⟩
   · exact absurd ((h.same name).2 f2) d2
   · exact absurd ((h.same name).2 f2) d2
 · exact absurd f3 hnf
 · have hdn : mfind name D.now ≠ none := fun hh => f3 ((h.same name).1 hh)
   refine ⟨fun e0 => absurd rfl e0, fun _ hl => ?_, fun _ hl => ?_⟩
   · rcases hD with ⟨-, d2, -⟩ | ⟨d1, -, -, rfl⟩ | ⟨-, d3, -⟩
     · exact absurd d2 hdn
     · exact ⟨d1, rfl, okD, rfl⟩
     · exact absurd (hst.2 hl) d3
   · rcases hD with ⟨-, d2, -⟩ | ⟨-, -, d3, -⟩ | ⟨d1, -, -, rfl⟩
     · exact absurd d2 hdn
     · exact absurd (hst.1 d3) (by omega)
     · refine ⟨d1, h.next hl okD okF rfl rfl rfl rfl (lf_on h.on) (fun x => ?_) ?_, lf_on h.on, by show (D.steps ++ [_]).length ≤ _; simp, by show (F.steps ++ [_]).length ≤ _; simp⟩
       · show mfind x (mdel name D.now) = none ↔ mfind x (mdel name F.now) = none
         rw [mdel_none' h.okD.mnow.keys, mdel_none' h.okF.mnow.keys, h.same]
       · show (mdel name D.now).length = (mdel name F.now).length
         rw [mdel_len, mdel_len, if_pos (isSome_iff.2 hdn), if_pos (isSome_iff.2 f3), h.len]
theorem Both.rename {D F D' F' : DiskD} {name to : ByteArray} {e g : Int} (h : Sim D F) (hs : name.size ≤ maxLen) (ht : to.size ≤ maxLen) (hF : RenameR F name to e F') (hD : RenameR D name to g D') : Both D F e g D' F' := by
 have okD := RenameR.ok h.okD hs ht hD
 have okF := RenameR.ok h.okF hs ht hF
 have hst := stops_iff h
 have hnf : ¬ Stops F := notStops h.off
 rcases hF with ⟨rfl, f2, rfl⟩ | ⟨rfl, f2, f4, rfl⟩ | ⟨-, -, -, f3, -⟩ | ⟨rfl, f3, f4, -, f5⟩
 · rcases hD with ⟨rfl, d2, rfl⟩ | ⟨-, d2, -⟩ | ⟨-, d2, -⟩ | ⟨-, d2, -⟩
   · exact ⟨fun _ => ⟨rfl, rfl, rfl⟩, fun e0 => absurd e0 (by decide), fun e0 => absurd e0 (by decide)⟩
   all_goals exact absurd ((h.same name).2 f2) d2
 · rcases hD with ⟨-, d2, -⟩ | ⟨rfl, d2, -, rfl⟩ | ⟨-, -, d2, -⟩ | ⟨-, -, d2, -⟩
   · exact absurd ((h.same name).1 d2) f2
   · exact ⟨fun _ => ⟨rfl, rfl, rfl⟩, fun e0 => absurd e0 (by decide), fun e0 => absurd e0 (by decide)⟩
   all_goals exact absurd d2 f4
 · exact absurd f3 hnf
 · have hdn : mfind name D.now ≠ none := fun hh => f3 ((h.same name).1 hh)
   refine ⟨fun e0 => absurd rfl e0, fun _ hl => ?_, fun _ hl => ?_⟩
   · rcases hD with ⟨-, d2, -⟩ | ⟨-, -, d2, -⟩ | ⟨d1, -, -, -, rfl⟩ | ⟨-, -, -, d3, -⟩
     · exact absurd d2 hdn
     · exact absurd f4 d2
     · exact ⟨d1, rfl, okD, rfl⟩
     · exact absurd (hst.2 hl) d3
   · rcases hD with ⟨-, d2, -⟩ | ⟨-, -, d2, -⟩ | ⟨-, -, -, d3, -⟩ | ⟨d1, -, -, -, d5⟩
     · exact absurd d2 hdn
     · exact absurd f4 d2
     · exact absurd (hst.1 d3) (by omega)
     · rcases f5 with ⟨f6, rfl⟩ | ⟨f6, rfl⟩ <;> rcases d5 with ⟨d6, rfl⟩ | ⟨d6, rfl⟩
       · exact ⟨d1, h.next hl okD okF rfl rfl rfl rfl (lf_on h.on) h.same h.len, lf_on h.on, by show D.steps.length ≤ _; omega, by show F.steps.length ≤ _; omega⟩
       · exact absurd f6 d6
       · exact absurd d6 f6
       · have e1 : (tick (addS D (rnS name to))).now = mdel name (mset to ((mfind name D.now).getD none) D.nc D.now) := rfl
         have e2 : (tick (addS F (rnS name to))).now = mdel name (mset to ((mfind name F.now).getD none) F.nc F.now) := rfl
         have kD := (h.okD.mnow.set to ((mfind name D.now).getD none)).keys
         have kF := (h.okF.mnow.set to ((mfind name F.now).getD none)).keys
         refine ⟨d1, h.next hl okD okF rfl rfl rfl rfl (lf_on h.on) (fun x => ?_) ?_, lf_on h.on, by show (D.steps ++ [_]).length ≤ _; simp, by show (F.steps ++ [_]).length ≤ _; simp⟩
         · rw [e1, e2, mdel_none' kD, mdel_none' kF, mset_some, mset_some, h.same]
         · rw [e1, e2, mdel_len, mdel_len, len_mset h to ((mfind name D.now).getD none) ((mfind name F.now).getD none) D.nc F.nc]
           have n1 : mfind name (mset to ((mfind name D.now).getD none) D.nc D.now) ≠ none := fun hh => hdn (mset_some.1 hh).2
           have n2 : mfind name (mset to ((mfind name F.now).getD none) F.nc F.now) ≠ none := fun hh => f3 (mset_some.1 hh).2
           rw [if_pos (isSome_iff.2 n1), if_pos (isSome_iff.2 n2)]
theorem WriteR.not70 {D D' : DiskD} {name : ByteArray} {at_ e : Int} {xs : List (BitVec 8)} (h : WriteR D name at_ xs e D') (hs : ¬ Stops D) : e ≠ 70 := by
 rcases h with ⟨h1, -, -⟩ | ⟨-, -, h1, -⟩ | ⟨rfl, -⟩ | ⟨rfl, -⟩
 · intro e
   rw [e] at h1
   unfold wArg at h1
   split at h1
   · omega
   · split at h1 <;> omega
 · exact absurd h1 hs
 · decide
 · decide
/-- .. the one that is told when to stop -/
def armD (D : DiskD) (n : Int) : DiskD := { D with armed := decide (n ≥ 0), left := n }
theorem Sim.new {x y x' y' : Nat} {n : Int} (h : 0 ≤ n ∧ n ≤ 1000) : Sim (armD (newD x y) n) (newD x' y') := by
 have ho := newD_ok x y
 exact ⟨⟨ho.mnow, ho.cr, ho.same, ho.nd⟩, newD_ok x' y', rfl, rfl, decide_eq_true h.1, rfl, h, fun _ => Iff.rfl, rfl⟩
section
variable {S : Nat → Prop} {w : World} {O : List Nat} {db : Nat} {D : DiskD} {sa : Option Addr} {sk : Nat}
theorem dArm (n : Int) (hd : D.dead = false) (H0 : Hp w S O (diskM db D sa sk) [diskW D sa sk] [] w) :
 Calls Try.prog 16 #[.P db 0, .I n] w (Ret fun v w' => v = .tuple #[] ∧ Hp w S O (diskM db (armD D n) sa sk) [diskW (armD D n) sa sk] [] w') := by
 obtain ⟨sb, nb, A, lc, L, c, fs, steps, armed, left, dead⟩ := D
 obtain rfl : dead = false := hd
 refine (arm_spec n ((H0.lend (M1 := [dkB db _ sa sk]) (W1 := [])).pick [] rfl)).mono fun e w' hh => ?_
 obtain ⟨v, he, hv, H'⟩ := hh
 exact ⟨v, he, hv, (H0.back (M1 := [dkB db _ sa sk]) (W1 := []) H').pick [] rfl⟩
theorem dDead (hd : D.dead = false) (H0 : Hp w S O (diskM db D sa sk) [diskW D sa sk] [] w) :
 Calls Try.prog 19 #[.P db 0] w (Ret fun v w' => v = .bool false ∧ Hp w S O (diskM db D sa sk) [diskW D sa sk] [] w') := by
 obtain ⟨sb, nb, A, lc, L, c, fs, steps, armed, left, dead⟩ := D
 obtain rfl : dead = false := hd
 refine (dead_false (S := fun _ => True) (H0.viewM 0 rfl (by simp))).mono fun e w' hh => ?_
 obtain ⟨v, he, hE, hv⟩ := hh
 exact ⟨v, he, hv, H0.ext hE⟩
theorem dDeadT (hd : D.dead = true) (H0 : Hp w S O (diskM db D sa sk) [diskW D sa sk] [] w) :
 Calls Try.prog 19 #[.P db 0] w (Ret fun v w' => v = .bool true ∧ Hp w S O (diskM db D sa sk) [diskW D sa sk] [] w') := by
 obtain ⟨sb, nb, A, lc, L, c, fs, steps, armed, left, dead⟩ := D
 obtain rfl : dead = true := hd
 refine (dead_true (S := fun _ => True) (H0.viewM 0 rfl (by simp))).mono fun e w' hh => ?_
 obtain ⟨v, he, hE, hv⟩ := hh
 exact ⟨v, he, hv, H0.ext hE⟩
theorem dNames (hd : D.dead = true) (H0 : Hp w S O (diskM db D sa sk) [diskW D sa sk] [] w) :
 Calls Try.prog 20 #[.P db 0] w (Ret fun v w' => v = .slice none 0 0 ∧ Hp w S O (diskM db D sa sk) [diskW D sa sk] [] w') := by
 obtain ⟨sb, nb, A, lc, L, c, fs, steps, armed, left, dead⟩ := D
 obtain rfl : dead = true := hd
 refine (names_stop (S := fun _ => True) (H0.viewM 0 rfl (by simp))).mono fun e w' hh => ?_
 obtain ⟨v, he, hE, hv⟩ := hh
 exact ⟨v, he, hv, H0.ext hE⟩
theorem dSizeX (hd : D.dead = true) {name : ByteArray} (H0 : Hp w S O (diskM db D sa sk) [diskW D sa sk] [] w) :
 Calls Try.prog 11 #[.P db 0, .string name] w (Ret fun v w' => v = .tuple #[.I 0, .I 70] ∧ Hp w S O (diskM db D sa sk) [diskW D sa sk] [] w') := by
 obtain ⟨sb, nb, A, lc, L, c, fs, steps, armed, left, dead⟩ := D
 obtain rfl : dead = true := hd
 refine (size_dead ((H0.lend (M1 := [dkB db _ sa sk]) (W1 := [])).pick [] rfl)).mono fun e w' hh => ?_
 obtain ⟨v, he, hv, H'⟩ := hh
 exact ⟨v, he, hv, (H0.back (M1 := [dkB db _ sa sk]) (W1 := []) H').pick [] rfl⟩
theorem dWriteX (hd : D.dead = true) {name : ByteArray} {at_ : Int} {a : Option Addr} {n ca : Nat} (H0 : Hp w S O (diskM db D sa sk) [diskW D sa sk] [] w) :
 Calls Try.prog 8 #[.P db 0, .string name, .I at_, .slice a n ca] w (Ret fun v w' => v = .I 70 ∧ Hp w S O (diskM db D sa sk) [diskW D sa sk] [] w') := by
 obtain ⟨sb, nb, A, lc, L, c, fs, steps, armed, left, dead⟩ := D
 obtain rfl : dead = true := hd
 refine (write_dead (S := fun _ => True) name at_ (H0.viewM 0 rfl (by simp))).mono fun e w' hh => ?_
 obtain ⟨v, he, hE, hv⟩ := hh
 exact ⟨v, he, hv, H0.ext hE⟩
end

set_option maxHeartbeats 4000000 in
theorem stops_spec {S : Nat → Prop} {w : World} {ls : List Act} {la : Option Addr} {lk : Nat} (n : Int) (h1 : (Shape.slice actS).rep S w [.slice la ls.length lk] ls) :
 Calls Try.prog 5 #[.slice la ls.length lk, .I n] w (Ret fun v w' => Ext w w' ∧ v = .bool true) := by
 have hll9 := Shape.slice_len h1
 refine qS (fn := Try.f5) (n := 189) (σ := [(0, .slice la ls.length lk), (1, .I n)]) Try.func5 ?_
 have H := Hp.startF (w := w) (S := S) (G := [Rp (Shape.slice actS) [.slice la ls.length lk] ls]) (.rp h1 .nil)
 refine qR 3 [.c [1, 0], .c [2]] [(0, .slice la ls.length lk), (1, .I n)] ?_
 refine qG (sq 0 4) ?_
 refine qK .seq (some 14) (sq 1 4) 7 #[] (new_spec (S := Av S w [] (idsOf [] []))) ?_
 rintro _ w1 - ⟨db2, x3, y4, rfl, H'⟩
 have H := H.back (M1 := []) (W1 := []) H'
 have H := H.perms (M' := ((diskM db2 (newD x3 y4) none 0))) (W' := [⟨stepS, 67, .slice none ((newD x3 y4).steps.length) 0, (newD x3 y4).steps⟩]) ((List.perm_append_comm (l₁ := diskM db2 (newD x3 y4) none 0) (l₂ := ([] : Heap))).symm) (List.Perm.refl _)
 have H : Hp w S [] ((diskM db2 (newD x3 y4) none 0)) [⟨stepS, 67, .slice none ((newD x3 y4).steps.length) 0, (newD x3 y4).steps⟩] [Rp (Shape.slice actS) [.slice la ls.length lk] ls] _ := H
 have hokdb2 : DOk (newD x3 y4) := newD_ok x3 y4
 refine qK .seq (some 15) (sq 2 4) 7 #[] (new_spec (S := Av S w [] (idsOf ((diskM db2 (newD x3 y4) none 0)) [⟨stepS, 67, .slice none ((newD x3 y4).steps.length) 0, (newD x3 y4).steps⟩]))) ?_
 rintro _ w5 - ⟨db6, x7, y8, rfl, H'⟩
 have H := H.back (M1 := []) (W1 := []) H'
 have H := H.perms (M' := ((diskM db2 (newD x3 y4) none 0 ++ diskM db6 (newD x7 y8) none 0))) (W' := [⟨stepS, 67, .slice none ((newD x7 y8).steps.length) 0, (newD x7 y8).steps⟩, ⟨stepS, 67, .slice none ((newD x3 y4).steps.length) 0, (newD x3 y4).steps⟩]) ((permB [] (diskM db2 (newD x3 y4) none 0) (diskM db6 (newD x7 y8) none 0)).symm) (List.Perm.refl _)
 have H : Hp w S [] ((diskM db2 (newD x3 y4) none 0 ++ diskM db6 (newD x7 y8) none 0)) [⟨stepS, 67, .slice none ((newD x7 y8).steps.length) 0, (newD x7 y8).steps⟩, ⟨stepS, 67, .slice none ((newD x3 y4).steps.length) 0, (newD x3 y4).steps⟩] [Rp (Shape.slice actS) [.slice la ls.length lk] ls] _ := H
 have hokdb6 : DOk (newD x7 y8) := newD_ok x7 y8
 refine qF 2 [(0, .slice la ls.length lk), (1, .I n), (5, .P db2 0), (6, .P db6 0)] ?_
 refine qR 2 [.c [2, 0, 0], .c [2, 0, 1], .c [3]] [(0, .slice la ls.length lk), (1, .I n), (5, .P db2 0), (6, .P db6 0)] ?_
 refine qG (sq 0 14) ?_
 refine qP 11 (sq 11 14) [(0, .slice la ls.length lk), (1, .I n), (5, .P db2 0), (6, .P db6 0), (26, .bool (decide ((n : Int) < 0)))] ?_
 refine tD (fun b_ => [(0, .slice la ls.length lk), (1, .I n), (5, .P db2 0), (6, .P db6 0), (26, .bool b_)]) ((n : Int) < 0) (fun h9 => ?_) (fun h9 => ?_)
 ·
  refine qF 3 [(0, .slice la ls.length lk), (1, .I n), (5, .P db2 0), (6, .P db6 0), (29, .bool true)] ?_
  refine qR 2 [.c [2, 0, 1, 0, 0], .c [2, 0, 1, 0, 1], .c [3]] [(1, .I n)] ?_
  refine qG (sq 0 7) ?_
  refine qP 3 (sq 3 7) [(1, .I n), (32, .bool (decide ((n : Int) < 0)))] ?_
  refine tD (fun b_ => [(1, .I n), (32, .bool b_)]) ((n : Int) < 0) (fun h10 => ?_) (fun h10 => ?_)
  ·
   refine qF 4 [(4, .bool true)] ?_
   refine qT (.bool true) Try.func5 ?_
   exact ⟨_, rfl, H.done, rfl⟩
  ·
   omega
 ·
  refine qF 3 [(0, .slice la ls.length lk), (1, .I n), (5, .P db2 0), (6, .P db6 0), (29, .bool (decide ((n : Int) > 1000)))] ?_
  refine qD ((n : Int) > 1000) (fun h11 => ?_) (fun h11 => ?_)
  ·
   refine qR 1 [.c [2, 0, 1, 0, 0], .c [2, 0, 1, 0, 1], .c [3]] [(1, .I n)] ?_
   refine qG (sq 0 7) ?_
   refine qP 3 (sq 3 7) [(1, .I n), (32, .bool (decide ((n : Int) < 0)))] ?_
   refine tD (fun b_ => [(1, .I n), (32, .bool b_)]) ((n : Int) < 0) (fun h12 => ?_) (fun h12 => ?_)
   ·
    omega
   ·
    refine qF 4 [(4, .bool (decide ((n : Int) > 1000)))] ?_
    refine qT (.bool (decide ((n : Int) > 1000))) Try.func5 ?_
    refine ⟨_, rfl, H.done, ?_⟩
    congr 1
    exact decide_eq_true (by omega)
  ·
   refine qR 2 [.c [3, 0], .c [4]] [(0, .slice la ls.length lk), (1, .I n), (5, .P db2 0), (6, .P db6 0)] ?_
   refine qG (sq 0 3) ?_
   refine qP 2 (sq 2 3) [(0, .slice la ls.length lk), (1, .I n), (5, .P db2 0), (6, .P db6 0), (36, .P db2 0), (37, .I n)] ?_
   have H := H.frontW 1 (W' := [⟨stepS, 67, .slice none ((newD x3 y4).steps.length) 0, (newD x3 y4).steps⟩, ⟨stepS, 67, .slice none ((newD x7 y8).steps.length) 0, (newD x7 y8).steps⟩]) rfl
   have H := H.perms (M' := diskM db2 (newD x3 y4) none 0 ++ ([] ++ diskM db6 (newD x7 y8) none 0)) (W' := [⟨stepS, 67, .slice none ((newD x3 y4).steps.length) 0, (newD x3 y4).steps⟩, ⟨stepS, 67, .slice none ((newD x7 y8).steps.length) 0, (newD x7 y8).steps⟩]) (permA [] (diskM db2 (newD x3 y4) none 0) (diskM db6 (newD x7 y8) none 0)) (List.Perm.refl _)
   refine RW.callS (d := some 38) (r := (sq 3 3)) (g := 16) (args := #[.P db2 0, .I n]) (by as_aux_lemma => kernel_rfl) (dArm n rfl ((H.lend (M1 := diskM db2 (newD x3 y4) none 0) (W1 := [⟨stepS, 67, .slice none ((newD x3 y4).steps.length) 0, (newD x3 y4).steps⟩])).pick [] rfl)) ?_
   rintro _ w13 ⟨rfl, H'⟩
   have H := H.back (M1 := diskM db2 (newD x3 y4) none 0) (W1 := [⟨stepS, 67, .slice none ((newD x3 y4).steps.length) 0, (newD x3 y4).steps⟩]) H'
   have H := H.perms (M' := ((diskM db2 (armD (newD x3 y4) n) none 0 ++ diskM db6 (newD x7 y8) none 0))) (W' := [⟨stepS, 67, .slice none ((armD (newD x3 y4) n).steps.length) 0, (armD (newD x3 y4) n).steps⟩, ⟨stepS, 67, .slice none ((newD x7 y8).steps.length) 0, (newD x7 y8).steps⟩]) ((permA [] (diskM db2 (armD (newD x3 y4) n) none 0) (diskM db6 (newD x7 y8) none 0)).symm) (List.Perm.refl _)
   have H : Hp w S [] ((diskM db2 (armD (newD x3 y4) n) none 0 ++ diskM db6 (newD x7 y8) none 0)) [⟨stepS, 67, .slice none ((armD (newD x3 y4) n).steps.length) 0, (armD (newD x3 y4) n).steps⟩, ⟨stepS, 67, .slice none ((newD x7 y8).steps.length) 0, (newD x7 y8).steps⟩] [Rp (Shape.slice actS) [.slice la ls.length lk] ls] _ := H
   refine qF 0 [(0, .slice la ls.length lk), (1, .I n), (5, .P db2 0), (6, .P db6 0)] ?_
   refine qR 6 [.c [5, 0, 1, 0], .b 0, .c [6]] [(0, .slice la ls.length lk), (1, .I n), (5, .P db2 0), (6, .P db6 0), (7, .I 0), (8, .I 0)] ?_
   refine WK.loop (α := Nat × DiskD × Option Addr × Nat × DiskD × Option Addr × Nat × Int) (b := cd Try.prog 5 [5, 0, 1, 0, 0]) (by as_aux_lemma => kernel_rfl) (fun st_ => match st_ with | (i, D, sa, sk, F, sf, kf, dn) => [(0, .slice la ls.length lk), (1, .I n), (5, .P db2 0), (6, .P db6 0), (7, .I dn), (8, .I i)]) (fun st_ w' => match st_ with | (i, D, sa, sk, F, sf, kf, dn) => Hp w S [] ((diskM db2 D sa sk ++ diskM db6 F sf kf)) [⟨stepS, 67, .slice sa D.steps.length sk, D.steps⟩, ⟨stepS, 67, .slice sf F.steps.length kf, F.steps⟩] [Rp (Shape.slice actS) [.slice la ls.length lk] ls] w' ∧ i ≤ ls.length ∧ Sim D F ∧ D.left = n - dn ∧ 0 ≤ dn ∧ (D.steps.length : Int) ≤ 2 * dn ∧ (F.steps.length : Int) ≤ 2 * dn) (fun st_ => match st_ with | (i, D, sa, sk, F, sf, kf, dn) => ls.length - i) (0, (armD (newD x3 y4) n), none, 0, (newD x7 y8), none, 0, 0) ⟨H, Nat.zero_le _, Sim.new ⟨by omega, by omega⟩, (Int.sub_zero n).symm, Int.le_refl _, by show (((0 : Nat) : Int)) ≤ 2 * 0; decide, by show (((0 : Nat) : Int)) ≤ 2 * 0; decide⟩ (rfl) ?_
   rintro ⟨i, D, sa, sk, F, sf, kf, dn⟩ w15 ⟨H, ⟨hi, hsim, hlf, hdn, hsD, hsF⟩⟩ hback14
   have hl0 := hsim.left0
   refine qR 3 [.c [5, 0, 1, 0, 0, 0, 1], .c [5, 0, 1, 0, 0, 1], .l [5, 0, 1, 0, 0], .b 0, .c [6]] [(0, .slice la ls.length lk), (1, .I n), (5, .P db2 0), (6, .P db6 0), (7, .I dn), (8, .I i), (42, .bool (decide (((i : Int) : Int) < ((ls.length : Nat) : Int))))] ?_
   refine qD (((i : Int) : Int) < ((ls.length : Nat) : Int)) (fun h16 => ?_) (fun h16 => ?_)
   ·
    refine qR 4 [.c [5, 0, 1, 0, 0, 1, 0, 0, 0], .c [5, 0, 1, 0, 0, 1, 0, 0, 1], .b 1, .c [5, 0, 1, 0, 0, 2], .l [5, 0, 1, 0, 0], .b 0, .c [6]] [(0, .slice la ls.length lk), (1, .I n), (5, .P db2 0), (6, .P db6 0), (7, .I dn), (8, .I i)] ?_
    refine qG (sq 0 6) ?_
    refine qP 2 (sq 2 6) [(0, .slice la ls.length lk), (1, .I n), (5, .P db2 0), (6, .P db6 0), (7, .I dn), (8, .I i), (45, .slice la ls.length lk), (46, .I i)] ?_
    have hx17 : i < ls.length := by omega
    refine qX .seq 47 (sq 3 6) 38 40 (i : Int) actS (ls[i]) H 0 rfl i (by omega) (List.getElem?_eq_getElem hx17) ?_
    intro b18 o19 es20 hr21 H
    obtain ⟨a4q22, k4q22, rfl, hf23, hf24, hf25, hf26, hf27⟩ := act_open hr21
    have H := H.add (F := Rp SB [.slice a4q22 ((ls[i]).data.length) k4q22] ((ls[i]).data)) hf27
    refine qL .seq 48 (sq 4 6) 40 b18 o19 0 (.agg #[.I ((ls[i]).kind), .string ((ls[i]).name), .string ((ls[i]).to), .I ((ls[i]).sector), .slice a4q22 ((ls[i]).data.length) k4q22]) (H.fc 1 rfl) ?_
    refine qB .seq 9 (sq 5 6) #[.I 0, .string (⟨#[]⟩ : ByteArray), .string (⟨#[]⟩ : ByteArray), .I 0, .slice none 0 0] 40 H ?_
    intro b28 w29 H
    refine qW 40 b28 0 (sq 6 6) (.agg #[.I ((ls[i]).kind), .string ((ls[i]).name), .string ((ls[i]).to), .I ((ls[i]).sector), .slice a4q22 ((ls[i]).data.length) k4q22]) ((b28, .cells #[.I ((ls[i]).kind), .string ((ls[i]).name), .string ((ls[i]).to), .I ((ls[i]).sector), .slice a4q22 ((ls[i]).data.length) k4q22] 40 (0, 0)) :: (diskM db2 D sa sk ++ diskM db6 F sf kf)) H 0 rfl rfl ?_
    intro w30 H
    refine qF 0 [(0, .slice la ls.length lk), (1, .I n), (5, .P db2 0), (6, .P db6 0), (7, .I dn), (8, .I i), (9, .P b28 0)] ?_
    refine qR 2 [.c [5, 0, 1, 0, 0, 1, 0, 0, 1, 0, 0], .c [5, 0, 1, 0, 0, 1, 0, 0, 1, 0, 1], .c [5, 0, 1, 0, 0, 1, 0, 0, 2], .b 1, .c [5, 0, 1, 0, 0, 2], .l [5, 0, 1, 0, 0], .b 0, .c [6]] [(0, .slice la ls.length lk), (1, .I n), (5, .P db2 0), (6, .P db6 0), (7, .I dn), (8, .I i), (9, .P b28 0)] ?_
    refine qG (sq 0 18) ?_
    refine qP 1 (sq 1 18) [(0, .slice la ls.length lk), (1, .I n), (5, .P db2 0), (6, .P db6 0), (7, .I dn), (8, .I i), (9, .P b28 0), (49, .P b28 0)] ?_
    refine qL .seq 50 (sq 2 18) 3 b28 0 0 (.I ((ls[i]).kind)) (H.cells 0 rfl) ?_
    refine qP 2 (sq 4 18) [(0, .slice la ls.length lk), (1, .I n), (5, .P db2 0), (6, .P db6 0), (7, .I dn), (8, .I i), (9, .P b28 0), (52, .bool (((ls[i]).kind) != 1))] ?_
    refine tN (fun b_ => [(0, .slice la ls.length lk), (1, .I n), (5, .P db2 0), (6, .P db6 0), (7, .I dn), (8, .I i), (9, .P b28 0), (52, .bool b_)]) ((ls[i]).kind) 1 (fun h31 => ?_) (fun h31 => ?_)
    ·
     refine qP 1 (sq 5 18) [(0, .slice la ls.length lk), (1, .I n), (5, .P db2 0), (6, .P db6 0), (7, .I dn), (8, .I i), (9, .P b28 0), (52, .bool true), (53, .P b28 0)] ?_
     refine qL .seq 54 (sq 6 18) 3 b28 0 0 (.I ((ls[i]).kind)) (H.cells 0 rfl) ?_
     refine qP 3 (sq 9 18) [(0, .slice la ls.length lk), (1, .I n), (5, .P db2 0), (6, .P db6 0), (7, .I dn), (8, .I i), (9, .P b28 0), (57, .bool (((ls[i]).kind) != 4))] ?_
     refine tN (fun b_ => [(0, .slice la ls.length lk), (1, .I n), (5, .P db2 0), (6, .P db6 0), (7, .I dn), (8, .I i), (9, .P b28 0), (57, .bool b_)]) ((ls[i]).kind) 4 (fun h32 => ?_) (fun h32 => ?_)
     ·
      refine qP 1 (sq 10 18) [(0, .slice la ls.length lk), (1, .I n), (5, .P db2 0), (6, .P db6 0), (7, .I dn), (8, .I i), (9, .P b28 0), (57, .bool true), (58, .P b28 0)] ?_
      refine qL .seq 59 (sq 11 18) 3 b28 0 0 (.I ((ls[i]).kind)) (H.cells 0 rfl) ?_
      refine qP 3 (sq 14 18) [(0, .slice la ls.length lk), (1, .I n), (5, .P db2 0), (6, .P db6 0), (7, .I dn), (8, .I i), (9, .P b28 0), (62, .bool (((ls[i]).kind) != 5))] ?_
      refine tN (fun b_ => [(0, .slice la ls.length lk), (1, .I n), (5, .P db2 0), (6, .P db6 0), (7, .I dn), (8, .I i), (9, .P b28 0), (62, .bool b_)]) ((ls[i]).kind) 5 (fun h33 => ?_) (fun h33 => ?_)
      ·
       refine qP 1 (sq 15 18) [(0, .slice la ls.length lk), (1, .I n), (5, .P db2 0), (6, .P db6 0), (7, .I dn), (8, .I i), (9, .P b28 0), (62, .bool true), (63, .P b28 0)] ?_
       refine qL .seq 64 (sq 16 18) 3 b28 0 0 (.I ((ls[i]).kind)) (H.cells 0 rfl) ?_
       refine qF 2 [(0, .slice la ls.length lk), (1, .I n), (5, .P db2 0), (6, .P db6 0), (7, .I dn), (8, .I i), (9, .P b28 0), (66, .bool (((ls[i]).kind) != 6))] ?_
       refine qN ((ls[i]).kind) 6 (fun h34 => ?_) (fun h34 => ?_)
       ·
        refine qR 1 [.c [5, 0, 1, 0, 0, 2], .l [5, 0, 1, 0, 0], .b 0, .c [6]] [(0, .slice la ls.length lk), (1, .I n), (5, .P db2 0), (6, .P db6 0), (7, .I dn), (8, .I i)] ?_
        refine qG (sq 0 3) ?_
        refine qP 1 (sq 1 3) [(0, .slice la ls.length lk), (1, .I n), (5, .P db2 0), (6, .P db6 0), (7, .I dn), (8, .I i), (43, .I i)] ?_
        refine qI .seq 44 (sq 2 3) ((i : Int) + 1) ?_
        refine qF 1 [(0, .slice la ls.length lk), (1, .I n), (5, .P db2 0), (6, .P db6 0), (7, .I dn), (8, .I ((i : Int) + 1))] ?_
        have hsim2 := hsim
        have hl2 : D.left = D.left := rfl
        have H := H.pick [2] rfl
        have H := H.drop (M' := ((diskM db2 D sa sk ++ diskM db6 F sf kf))) (W' := [⟨stepS, 67, .slice sa D.steps.length sk, D.steps⟩, ⟨stepS, 67, .slice sf F.steps.length kf, F.steps⟩]) (by repeat (first | exact List.Sublist.refl _ | apply List.Sublist.cons_cons | apply List.Sublist.cons)) (by repeat (first | exact List.Sublist.refl _ | apply List.Sublist.cons_cons | apply List.Sublist.cons))
        exact WK.back (hback14 (i + 1, D, sa, sk, F, sf, kf, dn) _ ⟨H, by omega, hsim2, by omega, by omega, by omega, by omega⟩ (by first | omega | (simp only []; omega))) (by as_aux_lemma => kernel_rfl)
       ·
        refine qR 5 [.c [5, 0, 1, 0, 0, 1, 0, 0, 3, 0, 0], .c [5, 0, 1, 0, 0, 1, 0, 0, 3, 0, 1], .c [5, 0, 1, 0, 0, 1, 0, 0, 4], .b 1, .c [5, 0, 1, 0, 0, 2], .l [5, 0, 1, 0, 0], .b 0, .c [6]] [(0, .slice la ls.length lk), (1, .I n), (5, .P db2 0), (6, .P db6 0), (7, .I dn), (8, .I i), (9, .P b28 0), (10, .I 0), (11, .I 0)] ?_
        refine qG (sq 0 2) ?_
        refine qP 1 (sq 1 2) [(0, .slice la ls.length lk), (1, .I n), (5, .P db2 0), (6, .P db6 0), (7, .I dn), (8, .I i), (9, .P b28 0), (10, .I 0), (11, .I 0), (67, .P b28 0)] ?_
        refine qL .seq 68 (sq 2 2) 3 b28 0 0 (.I ((ls[i]).kind)) (H.cells 0 rfl) ?_
        refine qF 0 [(0, .slice la ls.length lk), (1, .I n), (5, .P db2 0), (6, .P db6 0), (7, .I dn), (8, .I i), (9, .P b28 0), (10, .I 0), (11, .I 0), (68, .I ((ls[i]).kind))] ?_
        refine qR 3 [.c [5, 0, 1, 0, 0, 1, 0, 0, 3, 0, 1, 0, 1], .b 2, .c [5, 0, 1, 0, 0, 1, 0, 0, 4], .b 1, .c [5, 0, 1, 0, 0, 2], .l [5, 0, 1, 0, 0], .b 0, .c [6]] [(0, .slice la ls.length lk), (1, .I n), (5, .P db2 0), (6, .P db6 0), (7, .I dn), (8, .I i), (9, .P b28 0), (10, .I 0), (11, .I 0), (68, .I ((ls[i]).kind)), (69, .bool (((ls[i]).kind) == 1))] ?_
        refine qE ((ls[i]).kind) 1 (fun h35 => ?_) (fun h35 => ?_)
        ·
         omega
        ·
         refine qR 2 [.c [5, 0, 1, 0, 0, 1, 0, 0, 3, 0, 1, 0, 1, 1, 1], .b 2, .c [5, 0, 1, 0, 0, 1, 0, 0, 4], .b 1, .c [5, 0, 1, 0, 0, 2], .l [5, 0, 1, 0, 0], .b 0, .c [6]] [(0, .slice la ls.length lk), (1, .I n), (5, .P db2 0), (6, .P db6 0), (7, .I dn), (8, .I i), (9, .P b28 0), (10, .I 0), (11, .I 0), (68, .I ((ls[i]).kind)), (79, .bool (((ls[i]).kind) == 4))] ?_
         refine qE ((ls[i]).kind) 4 (fun h36 => ?_) (fun h36 => ?_)
         ·
          omega
         ·
          refine qR 2 [.c [5, 0, 1, 0, 0, 1, 0, 0, 3, 0, 1, 0, 1, 1, 1, 1, 1], .b 2, .c [5, 0, 1, 0, 0, 1, 0, 0, 4], .b 1, .c [5, 0, 1, 0, 0, 2], .l [5, 0, 1, 0, 0], .b 0, .c [6]] [(0, .slice la ls.length lk), (1, .I n), (5, .P db2 0), (6, .P db6 0), (7, .I dn), (8, .I i), (9, .P b28 0), (10, .I 0), (11, .I 0), (68, .I ((ls[i]).kind)), (85, .bool (((ls[i]).kind) == 5))] ?_
          refine qE ((ls[i]).kind) 5 (fun h37 => ?_) (fun h37 => ?_)
          ·
           omega
          ·
           refine qR 2 [.c [5, 0, 1, 0, 0, 1, 0, 0, 3, 0, 1, 0, 1, 1, 1, 1, 1, 1, 1], .b 2, .c [5, 0, 1, 0, 0, 1, 0, 0, 4], .b 1, .c [5, 0, 1, 0, 0, 2], .l [5, 0, 1, 0, 0], .b 0, .c [6]] [(0, .slice la ls.length lk), (1, .I n), (5, .P db2 0), (6, .P db6 0), (7, .I dn), (8, .I i), (9, .P b28 0), (10, .I 0), (11, .I 0), (93, .bool (((ls[i]).kind) == 6))] ?_
           refine qE ((ls[i]).kind) 6 (fun h38 => ?_) (fun h38 => ?_)
           ·
            refine qG (sq 0 5) ?_
            refine qP 2 (sq 2 5) [(0, .slice la ls.length lk), (1, .I n), (5, .P db2 0), (6, .P db6 0), (7, .I dn), (8, .I i), (9, .P b28 0), (10, .I 0), (11, .I 0), (95, .P db6 0), (96, .P b28 1)] ?_
            refine qL .seq 97 (sq 3 5) 9 b28 1 1 (.string ((ls[i]).name)) (H.cells 0 rfl) ?_
            have H := H.frontW 1 (W' := [⟨stepS, 67, .slice sf F.steps.length kf, F.steps⟩, ⟨stepS, 67, .slice sa D.steps.length sk, D.steps⟩]) rfl
            have H := H.perms (M' := diskM db6 F sf kf ++ ([(b28, .cells #[.I ((ls[i]).kind), .string ((ls[i]).name), .string ((ls[i]).to), .I ((ls[i]).sector), .slice a4q22 ((ls[i]).data.length) k4q22] 40 (0, 0))] ++ diskM db2 D sa sk)) (W' := [⟨stepS, 67, .slice sf F.steps.length kf, F.steps⟩, ⟨stepS, 67, .slice sa D.steps.length sk, D.steps⟩]) (permB [(b28, .cells #[.I ((ls[i]).kind), .string ((ls[i]).name), .string ((ls[i]).to), .I ((ls[i]).sector), .slice a4q22 ((ls[i]).data.length) k4q22] 40 (0, 0))] (diskM db2 D sa sk) (diskM db6 F sf kf)) (List.Perm.refl _)
            refine RW.callS (d := some 98) (r := (sq 4 5)) (g := 18) (args := #[.P db6 0, .string ((ls[i]).name)]) (by as_aux_lemma => kernel_rfl) (dRemove (hsim.okF) (by omega) (hsim.liveF) (by first | assumption | decide | (simp [maxLen]; done)) (fun h => by rw [hsim.off] at h; cases h) ((H.lend (M1 := diskM db6 F sf kf) (W1 := [⟨stepS, 67, .slice sf F.steps.length kf, F.steps⟩])).pick [] rfl)) ?_
            rintro _ w39 ⟨D40, sa41, sk42, ⟨e43, rfl, hR44⟩, H'⟩
            have H := H.back (M1 := diskM db6 F sf kf) (W1 := [⟨stepS, 67, .slice sf F.steps.length kf, F.steps⟩]) H'
            have H := H.perms (M' := ((b28, .cells #[.I ((ls[i]).kind), .string ((ls[i]).name), .string ((ls[i]).to), .I ((ls[i]).sector), .slice a4q22 ((ls[i]).data.length) k4q22] 40 (0, 0)) :: (diskM db2 D sa sk ++ diskM db6 D40 sa41 sk42))) (W' := [⟨stepS, 67, .slice sa41 D40.steps.length sk42, D40.steps⟩, ⟨stepS, 67, .slice sa D.steps.length sk, D.steps⟩]) ((permB [(b28, .cells #[.I ((ls[i]).kind), .string ((ls[i]).name), .string ((ls[i]).to), .I ((ls[i]).sector), .slice a4q22 ((ls[i]).data.length) k4q22] 40 (0, 0))] (diskM db2 D sa sk) (diskM db6 D40 sa41 sk42)).symm) (List.Perm.refl _)
            have H : Hp w S [] ((b28, .cells #[.I ((ls[i]).kind), .string ((ls[i]).name), .string ((ls[i]).to), .I ((ls[i]).sector), .slice a4q22 ((ls[i]).data.length) k4q22] 40 (0, 0)) :: (diskM db2 D sa sk ++ diskM db6 D40 sa41 sk42)) [⟨stepS, 67, .slice sa41 D40.steps.length sk42, D40.steps⟩, ⟨stepS, 67, .slice sa D.steps.length sk, D.steps⟩] [Rp SB [.slice a4q22 ((ls[i]).data.length) k4q22] ((ls[i]).data), Fc b18 o19 [.I ((ls[i]).kind), .string ((ls[i]).name), .string ((ls[i]).to), .I ((ls[i]).sector), .slice a4q22 ((ls[i]).data.length) k4q22], Rp (Shape.slice actS) [.slice la ls.length lk] ls] _ := H
            have hR44 : RemoveR F ((ls[i]).name) e43 D40 := hR44
            refine qF 1 [(0, .slice la ls.length lk), (1, .I n), (5, .P db2 0), (6, .P db6 0), (7, .I dn), (8, .I i), (9, .P b28 0), (10, .I e43), (11, .I 0)] ?_
            refine qR 3 [.c [5, 0, 1, 0, 0, 1, 0, 0, 4, 0, 0], .c [5, 0, 1, 0, 0, 1, 0, 0, 4, 0, 1], .c [5, 0, 1, 0, 0, 1, 0, 0, 5], .b 1, .c [5, 0, 1, 0, 0, 2], .l [5, 0, 1, 0, 0], .b 0, .c [6]] [(0, .slice la ls.length lk), (1, .I n), (5, .P db2 0), (6, .P db6 0), (7, .I dn), (8, .I i), (9, .P b28 0), (10, .I e43), (11, .I 0)] ?_
            refine qG (sq 0 2) ?_
            refine qP 1 (sq 1 2) [(0, .slice la ls.length lk), (1, .I n), (5, .P db2 0), (6, .P db6 0), (7, .I dn), (8, .I i), (9, .P b28 0), (10, .I e43), (11, .I 0), (99, .P db2 0)] ?_
            have H := H.frontW 1 (W' := [⟨stepS, 67, .slice sa D.steps.length sk, D.steps⟩, ⟨stepS, 67, .slice sa41 D40.steps.length sk42, D40.steps⟩]) rfl
            have H := H.perms (M' := diskM db2 D sa sk ++ ([(b28, .cells #[.I ((ls[i]).kind), .string ((ls[i]).name), .string ((ls[i]).to), .I ((ls[i]).sector), .slice a4q22 ((ls[i]).data.length) k4q22] 40 (0, 0))] ++ diskM db6 D40 sa41 sk42)) (W' := [⟨stepS, 67, .slice sa D.steps.length sk, D.steps⟩, ⟨stepS, 67, .slice sa41 D40.steps.length sk42, D40.steps⟩]) (permA [(b28, .cells #[.I ((ls[i]).kind), .string ((ls[i]).name), .string ((ls[i]).to), .I ((ls[i]).sector), .slice a4q22 ((ls[i]).data.length) k4q22] 40 (0, 0))] (diskM db2 D sa sk) (diskM db6 D40 sa41 sk42)) (List.Perm.refl _)
            refine RW.callS (d := some 100) (r := (sq 2 2)) (g := 19) (args := #[.P db2 0]) (by as_aux_lemma => kernel_rfl) (dDead hsim.liveD ((H.lend (M1 := diskM db2 D sa sk) (W1 := [⟨stepS, 67, .slice sa D.steps.length sk, D.steps⟩])).pick [] rfl)) ?_
            rintro _ w45 ⟨rfl, H'⟩
            have H := H.back (M1 := diskM db2 D sa sk) (W1 := [⟨stepS, 67, .slice sa D.steps.length sk, D.steps⟩]) H'
            have H := H.perms (M' := ((b28, .cells #[.I ((ls[i]).kind), .string ((ls[i]).name), .string ((ls[i]).to), .I ((ls[i]).sector), .slice a4q22 ((ls[i]).data.length) k4q22] 40 (0, 0)) :: (diskM db2 D sa sk ++ diskM db6 D40 sa41 sk42))) (W' := [⟨stepS, 67, .slice sa D.steps.length sk, D.steps⟩, ⟨stepS, 67, .slice sa41 D40.steps.length sk42, D40.steps⟩]) ((permA [(b28, .cells #[.I ((ls[i]).kind), .string ((ls[i]).name), .string ((ls[i]).to), .I ((ls[i]).sector), .slice a4q22 ((ls[i]).data.length) k4q22] 40 (0, 0))] (diskM db2 D sa sk) (diskM db6 D40 sa41 sk42)).symm) (List.Perm.refl _)
            have H : Hp w S [] ((b28, .cells #[.I ((ls[i]).kind), .string ((ls[i]).name), .string ((ls[i]).to), .I ((ls[i]).sector), .slice a4q22 ((ls[i]).data.length) k4q22] 40 (0, 0)) :: (diskM db2 D sa sk ++ diskM db6 D40 sa41 sk42)) [⟨stepS, 67, .slice sa D.steps.length sk, D.steps⟩, ⟨stepS, 67, .slice sa41 D40.steps.length sk42, D40.steps⟩] [Rp SB [.slice a4q22 ((ls[i]).data.length) k4q22] ((ls[i]).data), Fc b18 o19 [.I ((ls[i]).kind), .string ((ls[i]).name), .string ((ls[i]).to), .I ((ls[i]).sector), .slice a4q22 ((ls[i]).data.length) k4q22], Rp (Shape.slice actS) [.slice la ls.length lk] ls] _ := H
            refine qF 0 [(0, .slice la ls.length lk), (1, .I n), (5, .P db2 0), (6, .P db6 0), (7, .I dn), (8, .I i), (9, .P b28 0), (10, .I e43), (11, .I 0), (100, .bool false)] ?_
            refine qR 4 [.c [5, 0, 1, 0, 0, 1, 0, 0, 5, 0, 0], .c [5, 0, 1, 0, 0, 1, 0, 0, 5, 0, 1], .c [5, 0, 1, 0, 0, 1, 0, 0, 6], .b 1, .c [5, 0, 1, 0, 0, 2], .l [5, 0, 1, 0, 0], .b 0, .c [6]] [(0, .slice la ls.length lk), (1, .I n), (5, .P db2 0), (6, .P db6 0), (7, .I dn), (8, .I i), (9, .P b28 0), (10, .I e43), (11, .I 0)] ?_
            refine qG (sq 0 2) ?_
            refine qP 1 (sq 1 2) [(0, .slice la ls.length lk), (1, .I n), (5, .P db2 0), (6, .P db6 0), (7, .I dn), (8, .I i), (9, .P b28 0), (10, .I e43), (11, .I 0), (101, .P b28 0)] ?_
            refine qL .seq 102 (sq 2 2) 3 b28 0 0 (.I ((ls[i]).kind)) (H.cells 0 rfl) ?_
            refine qF 0 [(0, .slice la ls.length lk), (1, .I n), (5, .P db2 0), (6, .P db6 0), (7, .I dn), (8, .I i), (9, .P b28 0), (10, .I e43), (11, .I 0), (102, .I ((ls[i]).kind))] ?_
            refine qR 3 [.c [5, 0, 1, 0, 0, 1, 0, 0, 5, 0, 1, 0, 1], .b 3, .c [5, 0, 1, 0, 0, 1, 0, 0, 6], .b 1, .c [5, 0, 1, 0, 0, 2], .l [5, 0, 1, 0, 0], .b 0, .c [6]] [(0, .slice la ls.length lk), (1, .I n), (5, .P db2 0), (6, .P db6 0), (7, .I dn), (8, .I i), (9, .P b28 0), (10, .I e43), (11, .I 0), (102, .I ((ls[i]).kind)), (103, .bool (((ls[i]).kind) == 1))] ?_
            refine qE ((ls[i]).kind) 1 (fun h46 => ?_) (fun h46 => ?_)
            ·
             omega
            ·
             refine qR 2 [.c [5, 0, 1, 0, 0, 1, 0, 0, 5, 0, 1, 0, 1, 1, 1], .b 3, .c [5, 0, 1, 0, 0, 1, 0, 0, 6], .b 1, .c [5, 0, 1, 0, 0, 2], .l [5, 0, 1, 0, 0], .b 0, .c [6]] [(0, .slice la ls.length lk), (1, .I n), (5, .P db2 0), (6, .P db6 0), (7, .I dn), (8, .I i), (9, .P b28 0), (10, .I e43), (11, .I 0), (102, .I ((ls[i]).kind)), (113, .bool (((ls[i]).kind) == 4))] ?_
             refine qE ((ls[i]).kind) 4 (fun h47 => ?_) (fun h47 => ?_)
             ·
              omega
             ·
              refine qR 2 [.c [5, 0, 1, 0, 0, 1, 0, 0, 5, 0, 1, 0, 1, 1, 1, 1, 1], .b 3, .c [5, 0, 1, 0, 0, 1, 0, 0, 6], .b 1, .c [5, 0, 1, 0, 0, 2], .l [5, 0, 1, 0, 0], .b 0, .c [6]] [(0, .slice la ls.length lk), (1, .I n), (5, .P db2 0), (6, .P db6 0), (7, .I dn), (8, .I i), (9, .P b28 0), (10, .I e43), (11, .I 0), (102, .I ((ls[i]).kind)), (119, .bool (((ls[i]).kind) == 5))] ?_
              refine qE ((ls[i]).kind) 5 (fun h48 => ?_) (fun h48 => ?_)
              ·
               omega
              ·
               refine qR 2 [.c [5, 0, 1, 0, 0, 1, 0, 0, 5, 0, 1, 0, 1, 1, 1, 1, 1, 1, 1], .b 3, .c [5, 0, 1, 0, 0, 1, 0, 0, 6], .b 1, .c [5, 0, 1, 0, 0, 2], .l [5, 0, 1, 0, 0], .b 0, .c [6]] [(0, .slice la ls.length lk), (1, .I n), (5, .P db2 0), (6, .P db6 0), (7, .I dn), (8, .I i), (9, .P b28 0), (10, .I e43), (11, .I 0), (127, .bool (((ls[i]).kind) == 6))] ?_
               refine qE ((ls[i]).kind) 6 (fun h49 => ?_) (fun h49 => ?_)
               ·
                refine qG (sq 0 5) ?_
                refine qP 2 (sq 2 5) [(0, .slice la ls.length lk), (1, .I n), (5, .P db2 0), (6, .P db6 0), (7, .I dn), (8, .I i), (10, .I e43), (11, .I 0), (129, .P db2 0), (130, .P b28 1)] ?_
                refine qL .seq 131 (sq 3 5) 9 b28 1 1 (.string ((ls[i]).name)) (H.cells 0 rfl) ?_
                have H := H.perms (M' := diskM db2 D sa sk ++ ([(b28, .cells #[.I ((ls[i]).kind), .string ((ls[i]).name), .string ((ls[i]).to), .I ((ls[i]).sector), .slice a4q22 ((ls[i]).data.length) k4q22] 40 (0, 0))] ++ diskM db6 D40 sa41 sk42)) (W' := [⟨stepS, 67, .slice sa D.steps.length sk, D.steps⟩, ⟨stepS, 67, .slice sa41 D40.steps.length sk42, D40.steps⟩]) (permA [(b28, .cells #[.I ((ls[i]).kind), .string ((ls[i]).name), .string ((ls[i]).to), .I ((ls[i]).sector), .slice a4q22 ((ls[i]).data.length) k4q22] 40 (0, 0))] (diskM db2 D sa sk) (diskM db6 D40 sa41 sk42)) (List.Perm.refl _)
                refine RW.callS (d := some 132) (r := (sq 4 5)) (g := 18) (args := #[.P db2 0, .string ((ls[i]).name)]) (by as_aux_lemma => kernel_rfl) (dRemove (hsim.okD) (by omega) (hsim.liveD) (by first | assumption | decide | (simp [maxLen]; done)) (fun _ => by omega) ((H.lend (M1 := diskM db2 D sa sk) (W1 := [⟨stepS, 67, .slice sa D.steps.length sk, D.steps⟩])).pick [] rfl)) ?_
                rintro _ w50 ⟨D51, sa52, sk53, ⟨e54, rfl, hR55⟩, H'⟩
                have H := H.back (M1 := diskM db2 D sa sk) (W1 := [⟨stepS, 67, .slice sa D.steps.length sk, D.steps⟩]) H'
                have H := H.perms (M' := ((b28, .cells #[.I ((ls[i]).kind), .string ((ls[i]).name), .string ((ls[i]).to), .I ((ls[i]).sector), .slice a4q22 ((ls[i]).data.length) k4q22] 40 (0, 0)) :: (diskM db2 D51 sa52 sk53 ++ diskM db6 D40 sa41 sk42))) (W' := [⟨stepS, 67, .slice sa52 D51.steps.length sk53, D51.steps⟩, ⟨stepS, 67, .slice sa41 D40.steps.length sk42, D40.steps⟩]) ((permA [(b28, .cells #[.I ((ls[i]).kind), .string ((ls[i]).name), .string ((ls[i]).to), .I ((ls[i]).sector), .slice a4q22 ((ls[i]).data.length) k4q22] 40 (0, 0))] (diskM db2 D51 sa52 sk53) (diskM db6 D40 sa41 sk42)).symm) (List.Perm.refl _)
                have H : Hp w S [] ((b28, .cells #[.I ((ls[i]).kind), .string ((ls[i]).name), .string ((ls[i]).to), .I ((ls[i]).sector), .slice a4q22 ((ls[i]).data.length) k4q22] 40 (0, 0)) :: (diskM db2 D51 sa52 sk53 ++ diskM db6 D40 sa41 sk42)) [⟨stepS, 67, .slice sa52 D51.steps.length sk53, D51.steps⟩, ⟨stepS, 67, .slice sa41 D40.steps.length sk42, D40.steps⟩] [Rp SB [.slice a4q22 ((ls[i]).data.length) k4q22] ((ls[i]).data), Fc b18 o19 [.I ((ls[i]).kind), .string ((ls[i]).name), .string ((ls[i]).to), .I ((ls[i]).sector), .slice a4q22 ((ls[i]).data.length) k4q22], Rp (Shape.slice actS) [.slice la ls.length lk] ls] _ := H
                have hR55 : RemoveR D ((ls[i]).name) e54 D51 := hR55
                have hB := Both.remove hsim (by assumption) hR44 hR55
                refine qF 1 [(0, .slice la ls.length lk), (1, .I n), (5, .P db2 0), (6, .P db6 0), (7, .I dn), (8, .I i), (10, .I e43), (11, .I e54)] ?_
                refine qR 3 [.c [5, 0, 1, 0, 0, 1, 0, 0, 6, 0, 0], .c [5, 0, 1, 0, 0, 1, 0, 0, 6, 0, 1], .c [5, 0, 1, 0, 0, 1, 0, 0, 7], .b 1, .c [5, 0, 1, 0, 0, 2], .l [5, 0, 1, 0, 0], .b 0, .c [6]] [(0, .slice la ls.length lk), (1, .I n), (5, .P db2 0), (6, .P db6 0), (7, .I dn), (8, .I i), (10, .I e43), (11, .I e54)] ?_
                refine qG (sq 0 7) ?_
                refine qP 3 (sq 3 7) [(0, .slice la ls.length lk), (1, .I n), (5, .P db2 0), (6, .P db6 0), (7, .I dn), (8, .I i), (10, .I e43), (11, .I e54), (135, .bool (e43 == 0))] ?_
                refine tE (fun b_ => [(0, .slice la ls.length lk), (1, .I n), (5, .P db2 0), (6, .P db6 0), (7, .I dn), (8, .I i), (10, .I e43), (11, .I e54), (135, .bool b_)]) e43 0 (fun h56 => ?_) (fun h56 => ?_)
                ·
                 refine qF 4 [(0, .slice la ls.length lk), (1, .I n), (5, .P db2 0), (6, .P db6 0), (7, .I dn), (8, .I i), (10, .I e43), (11, .I e54), (139, .bool (dn == n))] ?_
                 refine qE dn n (fun h57 => ?_) (fun h57 => ?_)
                 ·
                  obtain ⟨hg, hdead2, hok2, hst2⟩ := hB.stop h56 (by omega)
                  refine qR 2 [.c [5, 0, 1, 0, 0, 1, 0, 0, 6, 0, 1, 0, 0, 0], .c [5, 0, 1, 0, 0, 1, 0, 0, 6, 0, 1, 0, 0, 1], .c [5, 0, 1, 0, 0, 1, 0, 0, 6, 0, 1, 0, 1], .c [5, 0, 1, 0, 0, 1, 0, 0, 7], .b 1, .c [5, 0, 1, 0, 0, 2], .l [5, 0, 1, 0, 0], .b 0, .c [6]] [(5, .P db2 0), (11, .I e54)] ?_
                  refine qG (sq 0 7) ?_
                  refine qP 3 (sq 3 7) [(5, .P db2 0), (142, .bool (e54 != 70))] ?_
                  refine tN (fun b_ => [(5, .P db2 0), (142, .bool b_)]) e54 70 (fun h58 => ?_) (fun h58 => ?_)
                  ·
                   omega
                  ·
                   refine qP 1 (sq 4 7) [(5, .P db2 0), (142, .bool false), (143, .P db2 0)] ?_
                   have H := H.perms (M' := diskM db2 D51 sa52 sk53 ++ ([(b28, .cells #[.I ((ls[i]).kind), .string ((ls[i]).name), .string ((ls[i]).to), .I ((ls[i]).sector), .slice a4q22 ((ls[i]).data.length) k4q22] 40 (0, 0))] ++ diskM db6 D40 sa41 sk42)) (W' := [⟨stepS, 67, .slice sa52 D51.steps.length sk53, D51.steps⟩, ⟨stepS, 67, .slice sa41 D40.steps.length sk42, D40.steps⟩]) (permA [(b28, .cells #[.I ((ls[i]).kind), .string ((ls[i]).name), .string ((ls[i]).to), .I ((ls[i]).sector), .slice a4q22 ((ls[i]).data.length) k4q22] 40 (0, 0))] (diskM db2 D51 sa52 sk53) (diskM db6 D40 sa41 sk42)) (List.Perm.refl _)
                   refine RW.callS (d := some 144) (r := (sq 5 7)) (g := 19) (args := #[.P db2 0]) (by as_aux_lemma => kernel_rfl) (dDeadT hdead2 ((H.lend (M1 := diskM db2 D51 sa52 sk53) (W1 := [⟨stepS, 67, .slice sa52 D51.steps.length sk53, D51.steps⟩])).pick [] rfl)) ?_
                   rintro _ w59 ⟨rfl, H'⟩
                   have H := H.back (M1 := diskM db2 D51 sa52 sk53) (W1 := [⟨stepS, 67, .slice sa52 D51.steps.length sk53, D51.steps⟩]) H'
                   have H := H.perms (M' := ((b28, .cells #[.I ((ls[i]).kind), .string ((ls[i]).name), .string ((ls[i]).to), .I ((ls[i]).sector), .slice a4q22 ((ls[i]).data.length) k4q22] 40 (0, 0)) :: (diskM db2 D51 sa52 sk53 ++ diskM db6 D40 sa41 sk42))) (W' := [⟨stepS, 67, .slice sa52 D51.steps.length sk53, D51.steps⟩, ⟨stepS, 67, .slice sa41 D40.steps.length sk42, D40.steps⟩]) ((permA [(b28, .cells #[.I ((ls[i]).kind), .string ((ls[i]).name), .string ((ls[i]).to), .I ((ls[i]).sector), .slice a4q22 ((ls[i]).data.length) k4q22] 40 (0, 0))] (diskM db2 D51 sa52 sk53) (diskM db6 D40 sa41 sk42)).symm) (List.Perm.refl _)
                   have H : Hp w S [] ((b28, .cells #[.I ((ls[i]).kind), .string ((ls[i]).name), .string ((ls[i]).to), .I ((ls[i]).sector), .slice a4q22 ((ls[i]).data.length) k4q22] 40 (0, 0)) :: (diskM db2 D51 sa52 sk53 ++ diskM db6 D40 sa41 sk42)) [⟨stepS, 67, .slice sa52 D51.steps.length sk53, D51.steps⟩, ⟨stepS, 67, .slice sa41 D40.steps.length sk42, D40.steps⟩] [Rp SB [.slice a4q22 ((ls[i]).data.length) k4q22] ((ls[i]).data), Fc b18 o19 [.I ((ls[i]).kind), .string ((ls[i]).name), .string ((ls[i]).to), .I ((ls[i]).sector), .slice a4q22 ((ls[i]).data.length) k4q22], Rp (Shape.slice actS) [.slice la ls.length lk] ls] _ := H
                   refine qF 2 [(5, .P db2 0), (146, .bool false)] ?_
                   refine qR 5 [.c [6, 0, 0], .c [6, 0, 1], .c [7]] [(5, .P db2 0)] ?_
                   refine qG (sq 0 2) ?_
                   refine qP 1 (sq 1 2) [(5, .P db2 0), (154, .P db2 0)] ?_
                   have H := H.perms (M' := diskM db2 D51 sa52 sk53 ++ ([(b28, .cells #[.I ((ls[i]).kind), .string ((ls[i]).name), .string ((ls[i]).to), .I ((ls[i]).sector), .slice a4q22 ((ls[i]).data.length) k4q22] 40 (0, 0))] ++ diskM db6 D40 sa41 sk42)) (W' := [⟨stepS, 67, .slice sa52 D51.steps.length sk53, D51.steps⟩, ⟨stepS, 67, .slice sa41 D40.steps.length sk42, D40.steps⟩]) (permA [(b28, .cells #[.I ((ls[i]).kind), .string ((ls[i]).name), .string ((ls[i]).to), .I ((ls[i]).sector), .slice a4q22 ((ls[i]).data.length) k4q22] 40 (0, 0))] (diskM db2 D51 sa52 sk53) (diskM db6 D40 sa41 sk42)) (List.Perm.refl _)
                   refine RW.callS (d := some 155) (r := (sq 2 2)) (g := 19) (args := #[.P db2 0]) (by as_aux_lemma => kernel_rfl) (dDeadT hdead2 ((H.lend (M1 := diskM db2 D51 sa52 sk53) (W1 := [⟨stepS, 67, .slice sa52 D51.steps.length sk53, D51.steps⟩])).pick [] rfl)) ?_
                   rintro _ w60 ⟨rfl, H'⟩
                   have H := H.back (M1 := diskM db2 D51 sa52 sk53) (W1 := [⟨stepS, 67, .slice sa52 D51.steps.length sk53, D51.steps⟩]) H'
                   have H := H.perms (M' := ((b28, .cells #[.I ((ls[i]).kind), .string ((ls[i]).name), .string ((ls[i]).to), .I ((ls[i]).sector), .slice a4q22 ((ls[i]).data.length) k4q22] 40 (0, 0)) :: (diskM db2 D51 sa52 sk53 ++ diskM db6 D40 sa41 sk42))) (W' := [⟨stepS, 67, .slice sa52 D51.steps.length sk53, D51.steps⟩, ⟨stepS, 67, .slice sa41 D40.steps.length sk42, D40.steps⟩]) ((permA [(b28, .cells #[.I ((ls[i]).kind), .string ((ls[i]).name), .string ((ls[i]).to), .I ((ls[i]).sector), .slice a4q22 ((ls[i]).data.length) k4q22] 40 (0, 0))] (diskM db2 D51 sa52 sk53) (diskM db6 D40 sa41 sk42)).symm) (List.Perm.refl _)
                   have H : Hp w S [] ((b28, .cells #[.I ((ls[i]).kind), .string ((ls[i]).name), .string ((ls[i]).to), .I ((ls[i]).sector), .slice a4q22 ((ls[i]).data.length) k4q22] 40 (0, 0)) :: (diskM db2 D51 sa52 sk53 ++ diskM db6 D40 sa41 sk42)) [⟨stepS, 67, .slice sa52 D51.steps.length sk53, D51.steps⟩, ⟨stepS, 67, .slice sa41 D40.steps.length sk42, D40.steps⟩] [Rp SB [.slice a4q22 ((ls[i]).data.length) k4q22] ((ls[i]).data), Fc b18 o19 [.I ((ls[i]).kind), .string ((ls[i]).name), .string ((ls[i]).to), .I ((ls[i]).sector), .slice a4q22 ((ls[i]).data.length) k4q22], Rp (Shape.slice actS) [.slice la ls.length lk] ls] _ := H
                   refine qF 0 [(5, .P db2 0), (155, .bool true)] ?_
                   refine qR 2 [.c [6, 0, 1, 0, 0], .c [6, 0, 1, 0, 1], .c [7]] [(5, .P db2 0)] ?_
                   refine qG (sq 0 7) ?_
                   refine qP 1 (sq 1 7) [(5, .P db2 0), (157, .P db2 0)] ?_
                   have H := H.perms (M' := diskM db2 D51 sa52 sk53 ++ ([(b28, .cells #[.I ((ls[i]).kind), .string ((ls[i]).name), .string ((ls[i]).to), .I ((ls[i]).sector), .slice a4q22 ((ls[i]).data.length) k4q22] 40 (0, 0))] ++ diskM db6 D40 sa41 sk42)) (W' := [⟨stepS, 67, .slice sa52 D51.steps.length sk53, D51.steps⟩, ⟨stepS, 67, .slice sa41 D40.steps.length sk42, D40.steps⟩]) (permA [(b28, .cells #[.I ((ls[i]).kind), .string ((ls[i]).name), .string ((ls[i]).to), .I ((ls[i]).sector), .slice a4q22 ((ls[i]).data.length) k4q22] 40 (0, 0))] (diskM db2 D51 sa52 sk53) (diskM db6 D40 sa41 sk42)) (List.Perm.refl _)
                   refine RW.callS (d := some 158) (r := (sq 2 7)) (g := 11) (args := #[.P db2 0, .string (⟨#[97]⟩ : ByteArray)]) (by as_aux_lemma => kernel_rfl) (dSizeX hdead2 ((H.lend (M1 := diskM db2 D51 sa52 sk53) (W1 := [⟨stepS, 67, .slice sa52 D51.steps.length sk53, D51.steps⟩])).pick [] rfl)) ?_
                   rintro _ w61 ⟨rfl, H'⟩
                   have H := H.back (M1 := diskM db2 D51 sa52 sk53) (W1 := [⟨stepS, 67, .slice sa52 D51.steps.length sk53, D51.steps⟩]) H'
                   have H := H.perms (M' := ((b28, .cells #[.I ((ls[i]).kind), .string ((ls[i]).name), .string ((ls[i]).to), .I ((ls[i]).sector), .slice a4q22 ((ls[i]).data.length) k4q22] 40 (0, 0)) :: (diskM db2 D51 sa52 sk53 ++ diskM db6 D40 sa41 sk42))) (W' := [⟨stepS, 67, .slice sa52 D51.steps.length sk53, D51.steps⟩, ⟨stepS, 67, .slice sa41 D40.steps.length sk42, D40.steps⟩]) ((permA [(b28, .cells #[.I ((ls[i]).kind), .string ((ls[i]).name), .string ((ls[i]).to), .I ((ls[i]).sector), .slice a4q22 ((ls[i]).data.length) k4q22] 40 (0, 0))] (diskM db2 D51 sa52 sk53) (diskM db6 D40 sa41 sk42)).symm) (List.Perm.refl _)
                   have H : Hp w S [] ((b28, .cells #[.I ((ls[i]).kind), .string ((ls[i]).name), .string ((ls[i]).to), .I ((ls[i]).sector), .slice a4q22 ((ls[i]).data.length) k4q22] 40 (0, 0)) :: (diskM db2 D51 sa52 sk53 ++ diskM db6 D40 sa41 sk42)) [⟨stepS, 67, .slice sa52 D51.steps.length sk53, D51.steps⟩, ⟨stepS, 67, .slice sa41 D40.steps.length sk42, D40.steps⟩] [Rp SB [.slice a4q22 ((ls[i]).data.length) k4q22] ((ls[i]).data), Fc b18 o19 [.I ((ls[i]).kind), .string ((ls[i]).name), .string ((ls[i]).to), .I ((ls[i]).sector), .slice a4q22 ((ls[i]).data.length) k4q22], Rp (Shape.slice actS) [.slice la ls.length lk] ls] _ := H
                   refine qF 5 [(5, .P db2 0), (13, .I 70)] ?_
                   refine qR 1 [.c [6, 0, 1, 0, 1, 0], .c [6, 0, 1, 0, 2], .c [7]] [(5, .P db2 0), (13, .I 70)] ?_
                   refine qG (sq 0 14) ?_
                   refine qP 4 (sq 4 14) [(5, .P db2 0), (163, .bool false), (164, .P db2 0)] ?_
                   have H := H.perms (M' := diskM db2 D51 sa52 sk53 ++ ([(b28, .cells #[.I ((ls[i]).kind), .string ((ls[i]).name), .string ((ls[i]).to), .I ((ls[i]).sector), .slice a4q22 ((ls[i]).data.length) k4q22] 40 (0, 0))] ++ diskM db6 D40 sa41 sk42)) (W' := [⟨stepS, 67, .slice sa52 D51.steps.length sk53, D51.steps⟩, ⟨stepS, 67, .slice sa41 D40.steps.length sk42, D40.steps⟩]) (permA [(b28, .cells #[.I ((ls[i]).kind), .string ((ls[i]).name), .string ((ls[i]).to), .I ((ls[i]).sector), .slice a4q22 ((ls[i]).data.length) k4q22] 40 (0, 0))] (diskM db2 D51 sa52 sk53) (diskM db6 D40 sa41 sk42)) (List.Perm.refl _)
                   refine RW.callS (d := some 165) (r := (sq 5 14)) (g := 20) (args := #[.P db2 0]) (by as_aux_lemma => kernel_rfl) (dNames hdead2 ((H.lend (M1 := diskM db2 D51 sa52 sk53) (W1 := [⟨stepS, 67, .slice sa52 D51.steps.length sk53, D51.steps⟩])).pick [] rfl)) ?_
                   rintro _ w62 ⟨rfl, H'⟩
                   have H := H.back (M1 := diskM db2 D51 sa52 sk53) (W1 := [⟨stepS, 67, .slice sa52 D51.steps.length sk53, D51.steps⟩]) H'
                   have H := H.perms (M' := ((b28, .cells #[.I ((ls[i]).kind), .string ((ls[i]).name), .string ((ls[i]).to), .I ((ls[i]).sector), .slice a4q22 ((ls[i]).data.length) k4q22] 40 (0, 0)) :: (diskM db2 D51 sa52 sk53 ++ diskM db6 D40 sa41 sk42))) (W' := [⟨stepS, 67, .slice sa52 D51.steps.length sk53, D51.steps⟩, ⟨stepS, 67, .slice sa41 D40.steps.length sk42, D40.steps⟩]) ((permA [(b28, .cells #[.I ((ls[i]).kind), .string ((ls[i]).name), .string ((ls[i]).to), .I ((ls[i]).sector), .slice a4q22 ((ls[i]).data.length) k4q22] 40 (0, 0))] (diskM db2 D51 sa52 sk53) (diskM db6 D40 sa41 sk42)).symm) (List.Perm.refl _)
                   have H : Hp w S [] ((b28, .cells #[.I ((ls[i]).kind), .string ((ls[i]).name), .string ((ls[i]).to), .I ((ls[i]).sector), .slice a4q22 ((ls[i]).data.length) k4q22] 40 (0, 0)) :: (diskM db2 D51 sa52 sk53 ++ diskM db6 D40 sa41 sk42)) [⟨stepS, 67, .slice sa52 D51.steps.length sk53, D51.steps⟩, ⟨stepS, 67, .slice sa41 D40.steps.length sk42, D40.steps⟩] [Rp SB [.slice a4q22 ((ls[i]).data.length) k4q22] ((ls[i]).data), Fc b18 o19 [.I ((ls[i]).kind), .string ((ls[i]).name), .string ((ls[i]).to), .I ((ls[i]).sector), .slice a4q22 ((ls[i]).data.length) k4q22], Rp (Shape.slice actS) [.slice la ls.length lk] ls] _ := H
                   refine qP 5 (sq 10 14) [(5, .P db2 0), (169, .bool false), (170, .P db2 0)] ?_
                   refine RW.makeW Sb (κ := .seq) (d := some 171) (r := (sq 11 14)) (T := 24) (e := 5) (by_ := 1) (v0 := .int .u8 0) (0#8 : BitVec 8) (kl := .i64) (kc := .i64) (lv := 64) (cv := 64) (by as_aux_lemma => kernel_rfl) (nofun) (by as_aux_lemma => kernel_rfl) rfl H 64 64 (by omega) (by omega) (by omega) (by omega) (by omega) (fun _ _ => rfl) ?_
                   intro b63 w64 H
                   have H : Hp w S [] ((b28, .cells #[.I ((ls[i]).kind), .string ((ls[i]).name), .string ((ls[i]).to), .I ((ls[i]).sector), .slice a4q22 ((ls[i]).data.length) k4q22] 40 (0, 0)) :: (diskM db2 D51 sa52 sk53 ++ diskM db6 D40 sa41 sk42)) [⟨Sb, 5, .slice (some ⟨b63, 0, none⟩) 64 64, (List.replicate 64 (0#8 : BitVec 8))⟩, ⟨stepS, 67, .slice sa52 D51.steps.length sk53, D51.steps⟩, ⟨stepS, 67, .slice sa41 D40.steps.length sk42, D40.steps⟩] [Rp SB [.slice a4q22 ((ls[i]).data.length) k4q22] ((ls[i]).data), Fc b18 o19 [.I ((ls[i]).kind), .string ((ls[i]).name), .string ((ls[i]).to), .I ((ls[i]).sector), .slice a4q22 ((ls[i]).data.length) k4q22], Rp (Shape.slice actS) [.slice la ls.length lk] ls] _ := H
                   have H := H.frontW 1 (W' := [⟨stepS, 67, .slice sa52 D51.steps.length sk53, D51.steps⟩, ⟨Sb, 5, .slice (some ⟨b63, 0, none⟩) 64 64, (List.replicate 64 (0#8 : BitVec 8))⟩, ⟨stepS, 67, .slice sa41 D40.steps.length sk42, D40.steps⟩]) rfl
                   have H := H.perms (M' := diskM db2 D51 sa52 sk53 ++ ([(b28, .cells #[.I ((ls[i]).kind), .string ((ls[i]).name), .string ((ls[i]).to), .I ((ls[i]).sector), .slice a4q22 ((ls[i]).data.length) k4q22] 40 (0, 0))] ++ diskM db6 D40 sa41 sk42)) (W' := [⟨stepS, 67, .slice sa52 D51.steps.length sk53, D51.steps⟩, ⟨Sb, 5, .slice (some ⟨b63, 0, none⟩) 64 64, (List.replicate 64 (0#8 : BitVec 8))⟩, ⟨stepS, 67, .slice sa41 D40.steps.length sk42, D40.steps⟩]) (permA [(b28, .cells #[.I ((ls[i]).kind), .string ((ls[i]).name), .string ((ls[i]).to), .I ((ls[i]).sector), .slice a4q22 ((ls[i]).data.length) k4q22] 40 (0, 0))] (diskM db2 D51 sa52 sk53) (diskM db6 D40 sa41 sk42)) (List.Perm.refl _)
                   refine RW.callS (d := some 172) (r := (sq 12 14)) (g := 8) (args := #[.P db2 0, .string (⟨#[97]⟩ : ByteArray), .I 0, .slice (some ⟨b63, 0, none⟩) 64 64]) (by as_aux_lemma => kernel_rfl) (dWriteX hdead2 ((H.lend (M1 := diskM db2 D51 sa52 sk53) (W1 := [⟨stepS, 67, .slice sa52 D51.steps.length sk53, D51.steps⟩])).pick [] rfl)) ?_
                   rintro _ w65 ⟨rfl, H'⟩
                   have H := H.back (M1 := diskM db2 D51 sa52 sk53) (W1 := [⟨stepS, 67, .slice sa52 D51.steps.length sk53, D51.steps⟩]) H'
                   have H := H.perms (M' := ((b28, .cells #[.I ((ls[i]).kind), .string ((ls[i]).name), .string ((ls[i]).to), .I ((ls[i]).sector), .slice a4q22 ((ls[i]).data.length) k4q22] 40 (0, 0)) :: (diskM db2 D51 sa52 sk53 ++ diskM db6 D40 sa41 sk42))) (W' := [⟨stepS, 67, .slice sa52 D51.steps.length sk53, D51.steps⟩, ⟨Sb, 5, .slice (some ⟨b63, 0, none⟩) 64 64, (List.replicate 64 (0#8 : BitVec 8))⟩, ⟨stepS, 67, .slice sa41 D40.steps.length sk42, D40.steps⟩]) ((permA [(b28, .cells #[.I ((ls[i]).kind), .string ((ls[i]).name), .string ((ls[i]).to), .I ((ls[i]).sector), .slice a4q22 ((ls[i]).data.length) k4q22] 40 (0, 0))] (diskM db2 D51 sa52 sk53) (diskM db6 D40 sa41 sk42)).symm) (List.Perm.refl _)
                   have H : Hp w S [] ((b28, .cells #[.I ((ls[i]).kind), .string ((ls[i]).name), .string ((ls[i]).to), .I ((ls[i]).sector), .slice a4q22 ((ls[i]).data.length) k4q22] 40 (0, 0)) :: (diskM db2 D51 sa52 sk53 ++ diskM db6 D40 sa41 sk42)) [⟨stepS, 67, .slice sa52 D51.steps.length sk53, D51.steps⟩, ⟨Sb, 5, .slice (some ⟨b63, 0, none⟩) 64 64, (List.replicate 64 (0#8 : BitVec 8))⟩, ⟨stepS, 67, .slice sa41 D40.steps.length sk42, D40.steps⟩] [Rp SB [.slice a4q22 ((ls[i]).data.length) k4q22] ((ls[i]).data), Fc b18 o19 [.I ((ls[i]).kind), .string ((ls[i]).name), .string ((ls[i]).to), .I ((ls[i]).sector), .slice a4q22 ((ls[i]).data.length) k4q22], Rp (Shape.slice actS) [.slice la ls.length lk] ls] _ := H
                   refine qF 2 [(5, .P db2 0), (174, .bool false)] ?_
                   refine qR 3 [.c [7, 0], .c [8]] [(5, .P db2 0)] ?_
                   refine qG (sq 0 2) ?_
                   refine qP 1 (sq 1 2) [(5, .P db2 0), (175, .P db2 0)] ?_
                   have H := H.perms (M' := diskM db2 D51 sa52 sk53 ++ ([(b28, .cells #[.I ((ls[i]).kind), .string ((ls[i]).name), .string ((ls[i]).to), .I ((ls[i]).sector), .slice a4q22 ((ls[i]).data.length) k4q22] 40 (0, 0))] ++ diskM db6 D40 sa41 sk42)) (W' := [⟨stepS, 67, .slice sa52 D51.steps.length sk53, D51.steps⟩, ⟨Sb, 5, .slice (some ⟨b63, 0, none⟩) 64 64, (List.replicate 64 (0#8 : BitVec 8))⟩, ⟨stepS, 67, .slice sa41 D40.steps.length sk42, D40.steps⟩]) (permA [(b28, .cells #[.I ((ls[i]).kind), .string ((ls[i]).name), .string ((ls[i]).to), .I ((ls[i]).sector), .slice a4q22 ((ls[i]).data.length) k4q22] 40 (0, 0))] (diskM db2 D51 sa52 sk53) (diskM db6 D40 sa41 sk42)) (List.Perm.refl _)
                   refine RW.callS (d := some 176) (r := (sq 2 2)) (g := 10) (args := #[.P db2 0, .slice none 0 0]) (by as_aux_lemma => kernel_rfl) (dCrash0 (hok2) (by rw [hst2]; omega) ((H.lend (M1 := diskM db2 D51 sa52 sk53) (W1 := [⟨stepS, 67, .slice sa52 D51.steps.length sk53, D51.steps⟩])).pick [] rfl)) ?_
                   rintro _ w66 ⟨rfl, ns67, nb68, H'⟩
                   have H := H.back (M1 := diskM db2 D51 sa52 sk53) (W1 := [⟨stepS, 67, .slice sa52 D51.steps.length sk53, D51.steps⟩]) H'
                   have H := H.perms (M' := ((b28, .cells #[.I ((ls[i]).kind), .string ((ls[i]).name), .string ((ls[i]).to), .I ((ls[i]).sector), .slice a4q22 ((ls[i]).data.length) k4q22] 40 (0, 0)) :: (diskM db2 (crashD D51 [] ns67 nb68) none 0 ++ diskM db6 D40 sa41 sk42))) (W' := [⟨stepS, 67, .slice none ((crashD D51 [] ns67 nb68).steps.length) 0, (crashD D51 [] ns67 nb68).steps⟩, ⟨Sb, 5, .slice (some ⟨b63, 0, none⟩) 64 64, (List.replicate 64 (0#8 : BitVec 8))⟩, ⟨stepS, 67, .slice sa41 D40.steps.length sk42, D40.steps⟩]) ((permA [(b28, .cells #[.I ((ls[i]).kind), .string ((ls[i]).name), .string ((ls[i]).to), .I ((ls[i]).sector), .slice a4q22 ((ls[i]).data.length) k4q22] 40 (0, 0))] (diskM db2 (crashD D51 [] ns67 nb68) none 0) (diskM db6 D40 sa41 sk42)).symm) (List.Perm.refl _)
                   have H : Hp w S [] ((b28, .cells #[.I ((ls[i]).kind), .string ((ls[i]).name), .string ((ls[i]).to), .I ((ls[i]).sector), .slice a4q22 ((ls[i]).data.length) k4q22] 40 (0, 0)) :: (diskM db2 (crashD D51 [] ns67 nb68) none 0 ++ diskM db6 D40 sa41 sk42)) [⟨stepS, 67, .slice none ((crashD D51 [] ns67 nb68).steps.length) 0, (crashD D51 [] ns67 nb68).steps⟩, ⟨Sb, 5, .slice (some ⟨b63, 0, none⟩) 64 64, (List.replicate 64 (0#8 : BitVec 8))⟩, ⟨stepS, 67, .slice sa41 D40.steps.length sk42, D40.steps⟩] [Rp SB [.slice a4q22 ((ls[i]).data.length) k4q22] ((ls[i]).data), Fc b18 o19 [.I ((ls[i]).kind), .string ((ls[i]).name), .string ((ls[i]).to), .I ((ls[i]).sector), .slice a4q22 ((ls[i]).data.length) k4q22], Rp (Shape.slice actS) [.slice la ls.length lk] ls] _ := H
                   have hokZ := DOk.crashD' hok2 [] ns67 nb68
                   refine qF 0 [(5, .P db2 0)] ?_
                   refine qR 1 [.c [8, 0], .c [9]] [(5, .P db2 0)] ?_
                   refine qG (sq 0 13) ?_
                   refine qP 1 (sq 1 13) [(5, .P db2 0), (177, .P db2 0)] ?_
                   have H := H.perms (M' := diskM db2 (crashD D51 [] ns67 nb68) none 0 ++ ([(b28, .cells #[.I ((ls[i]).kind), .string ((ls[i]).name), .string ((ls[i]).to), .I ((ls[i]).sector), .slice a4q22 ((ls[i]).data.length) k4q22] 40 (0, 0))] ++ diskM db6 D40 sa41 sk42)) (W' := [⟨stepS, 67, .slice none ((crashD D51 [] ns67 nb68).steps.length) 0, (crashD D51 [] ns67 nb68).steps⟩, ⟨Sb, 5, .slice (some ⟨b63, 0, none⟩) 64 64, (List.replicate 64 (0#8 : BitVec 8))⟩, ⟨stepS, 67, .slice sa41 D40.steps.length sk42, D40.steps⟩]) (permA [(b28, .cells #[.I ((ls[i]).kind), .string ((ls[i]).name), .string ((ls[i]).to), .I ((ls[i]).sector), .slice a4q22 ((ls[i]).data.length) k4q22] 40 (0, 0))] (diskM db2 (crashD D51 [] ns67 nb68) none 0) (diskM db6 D40 sa41 sk42)) (List.Perm.refl _)
                   refine RW.callS (d := some 178) (r := (sq 2 13)) (g := 19) (args := #[.P db2 0]) (by as_aux_lemma => kernel_rfl) (dDead rfl ((H.lend (M1 := diskM db2 (crashD D51 [] ns67 nb68) none 0) (W1 := [⟨stepS, 67, .slice none ((crashD D51 [] ns67 nb68).steps.length) 0, (crashD D51 [] ns67 nb68).steps⟩])).pick [] rfl)) ?_
                   rintro _ w69 ⟨rfl, H'⟩
                   have H := H.back (M1 := diskM db2 (crashD D51 [] ns67 nb68) none 0) (W1 := [⟨stepS, 67, .slice none ((crashD D51 [] ns67 nb68).steps.length) 0, (crashD D51 [] ns67 nb68).steps⟩]) H'
                   have H := H.perms (M' := ((b28, .cells #[.I ((ls[i]).kind), .string ((ls[i]).name), .string ((ls[i]).to), .I ((ls[i]).sector), .slice a4q22 ((ls[i]).data.length) k4q22] 40 (0, 0)) :: (diskM db2 (crashD D51 [] ns67 nb68) none 0 ++ diskM db6 D40 sa41 sk42))) (W' := [⟨stepS, 67, .slice none ((crashD D51 [] ns67 nb68).steps.length) 0, (crashD D51 [] ns67 nb68).steps⟩, ⟨Sb, 5, .slice (some ⟨b63, 0, none⟩) 64 64, (List.replicate 64 (0#8 : BitVec 8))⟩, ⟨stepS, 67, .slice sa41 D40.steps.length sk42, D40.steps⟩]) ((permA [(b28, .cells #[.I ((ls[i]).kind), .string ((ls[i]).name), .string ((ls[i]).to), .I ((ls[i]).sector), .slice a4q22 ((ls[i]).data.length) k4q22] 40 (0, 0))] (diskM db2 (crashD D51 [] ns67 nb68) none 0) (diskM db6 D40 sa41 sk42)).symm) (List.Perm.refl _)
                   have H : Hp w S [] ((b28, .cells #[.I ((ls[i]).kind), .string ((ls[i]).name), .string ((ls[i]).to), .I ((ls[i]).sector), .slice a4q22 ((ls[i]).data.length) k4q22] 40 (0, 0)) :: (diskM db2 (crashD D51 [] ns67 nb68) none 0 ++ diskM db6 D40 sa41 sk42)) [⟨stepS, 67, .slice none ((crashD D51 [] ns67 nb68).steps.length) 0, (crashD D51 [] ns67 nb68).steps⟩, ⟨Sb, 5, .slice (some ⟨b63, 0, none⟩) 64 64, (List.replicate 64 (0#8 : BitVec 8))⟩, ⟨stepS, 67, .slice sa41 D40.steps.length sk42, D40.steps⟩] [Rp SB [.slice a4q22 ((ls[i]).data.length) k4q22] ((ls[i]).data), Fc b18 o19 [.I ((ls[i]).kind), .string ((ls[i]).name), .string ((ls[i]).to), .I ((ls[i]).sector), .slice a4q22 ((ls[i]).data.length) k4q22], Rp (Shape.slice actS) [.slice la ls.length lk] ls] _ := H
                   refine qP 3 (sq 5 13) [(180, .bool true), (181, .P db2 0)] ?_
                   refine RW.makeW Sb (κ := .seq) (d := some 182) (r := (sq 6 13)) (T := 24) (e := 5) (by_ := 1) (v0 := .int .u8 0) (0#8 : BitVec 8) (kl := .i64) (kc := .i64) (lv := 64) (cv := 64) (by as_aux_lemma => kernel_rfl) (nofun) (by as_aux_lemma => kernel_rfl) rfl H 64 64 (by omega) (by omega) (by omega) (by omega) (by omega) (fun _ _ => rfl) ?_
                   intro b70 w71 H
                   have H : Hp w S [] ((b28, .cells #[.I ((ls[i]).kind), .string ((ls[i]).name), .string ((ls[i]).to), .I ((ls[i]).sector), .slice a4q22 ((ls[i]).data.length) k4q22] 40 (0, 0)) :: (diskM db2 (crashD D51 [] ns67 nb68) none 0 ++ diskM db6 D40 sa41 sk42)) [⟨Sb, 5, .slice (some ⟨b70, 0, none⟩) 64 64, (List.replicate 64 (0#8 : BitVec 8))⟩, ⟨stepS, 67, .slice none ((crashD D51 [] ns67 nb68).steps.length) 0, (crashD D51 [] ns67 nb68).steps⟩, ⟨Sb, 5, .slice (some ⟨b63, 0, none⟩) 64 64, (List.replicate 64 (0#8 : BitVec 8))⟩, ⟨stepS, 67, .slice sa41 D40.steps.length sk42, D40.steps⟩] [Rp SB [.slice a4q22 ((ls[i]).data.length) k4q22] ((ls[i]).data), Fc b18 o19 [.I ((ls[i]).kind), .string ((ls[i]).name), .string ((ls[i]).to), .I ((ls[i]).sector), .slice a4q22 ((ls[i]).data.length) k4q22], Rp (Shape.slice actS) [.slice la ls.length lk] ls] _ := H
                   have H : Hp w S [] ((b28, .cells #[.I ((ls[i]).kind), .string ((ls[i]).name), .string ((ls[i]).to), .I ((ls[i]).sector), .slice a4q22 ((ls[i]).data.length) k4q22] 40 (0, 0)) :: (diskM db2 (crashD D51 [] ns67 nb68) none 0 ++ diskM db6 D40 sa41 sk42)) [⟨stepS, 67, .slice none ((crashD D51 [] ns67 nb68).steps.length) 0, (crashD D51 [] ns67 nb68).steps⟩, ⟨Sb, 5, .slice (some ⟨b63, 0, none⟩) 64 64, (List.replicate 64 (0#8 : BitVec 8))⟩, ⟨stepS, 67, .slice sa41 D40.steps.length sk42, D40.steps⟩] [Rp SB [.slice (some ⟨b70, 0, none⟩) 64 64] (List.replicate 64 (0#8 : BitVec 8)), Rp SB [.slice a4q22 ((ls[i]).data.length) k4q22] ((ls[i]).data), Fc b18 o19 [.I ((ls[i]).kind), .string ((ls[i]).name), .string ((ls[i]).to), .I ((ls[i]).sector), .slice a4q22 ((ls[i]).data.length) k4q22], Rp (Shape.slice actS) [.slice la ls.length lk] ls] _ := H.freezeW 0 rfl
                   have H := H.perms (M' := diskM db2 (crashD D51 [] ns67 nb68) none 0 ++ ([(b28, .cells #[.I ((ls[i]).kind), .string ((ls[i]).name), .string ((ls[i]).to), .I ((ls[i]).sector), .slice a4q22 ((ls[i]).data.length) k4q22] 40 (0, 0))] ++ diskM db6 D40 sa41 sk42)) (W' := [⟨stepS, 67, .slice none ((crashD D51 [] ns67 nb68).steps.length) 0, (crashD D51 [] ns67 nb68).steps⟩, ⟨Sb, 5, .slice (some ⟨b63, 0, none⟩) 64 64, (List.replicate 64 (0#8 : BitVec 8))⟩, ⟨stepS, 67, .slice sa41 D40.steps.length sk42, D40.steps⟩]) (permA [(b28, .cells #[.I ((ls[i]).kind), .string ((ls[i]).name), .string ((ls[i]).to), .I ((ls[i]).sector), .slice a4q22 ((ls[i]).data.length) k4q22] 40 (0, 0))] (diskM db2 (crashD D51 [] ns67 nb68) none 0) (diskM db6 D40 sa41 sk42)) (List.Perm.refl _)
                   refine RW.callS (d := some 183) (r := (sq 7 13)) (g := 8) (args := #[.P db2 0, .string (⟨#[122, 122, 57]⟩ : ByteArray), .I 0, .slice (some ⟨b70, 0, none⟩) 64 64]) (by as_aux_lemma => kernel_rfl) (dWriteN (hokZ) (Nat.zero_le _) (rfl) (fun h => by cases h) (by first | assumption | decide | (simp [maxLen]; done)) (by first | omega | decide) (xs := (List.replicate 64 (0#8 : BitVec 8))) (by simp) ((H.lend (M1 := diskM db2 (crashD D51 [] ns67 nb68) none 0) (W1 := [⟨stepS, 67, .slice none ((crashD D51 [] ns67 nb68).steps.length) 0, (crashD D51 [] ns67 nb68).steps⟩])).pick [0] rfl)) ?_
                   rintro _ w72 ⟨D73, sa74, sk75, ⟨e76, rfl, hR77⟩, H'⟩
                   have H := H.back (M1 := diskM db2 (crashD D51 [] ns67 nb68) none 0) (W1 := [⟨stepS, 67, .slice none ((crashD D51 [] ns67 nb68).steps.length) 0, (crashD D51 [] ns67 nb68).steps⟩]) H'
                   have H := H.perms (M' := ((b28, .cells #[.I ((ls[i]).kind), .string ((ls[i]).name), .string ((ls[i]).to), .I ((ls[i]).sector), .slice a4q22 ((ls[i]).data.length) k4q22] 40 (0, 0)) :: (diskM db2 D73 sa74 sk75 ++ diskM db6 D40 sa41 sk42))) (W' := [⟨stepS, 67, .slice sa74 D73.steps.length sk75, D73.steps⟩, ⟨Sb, 5, .slice (some ⟨b63, 0, none⟩) 64 64, (List.replicate 64 (0#8 : BitVec 8))⟩, ⟨stepS, 67, .slice sa41 D40.steps.length sk42, D40.steps⟩]) ((permA [(b28, .cells #[.I ((ls[i]).kind), .string ((ls[i]).name), .string ((ls[i]).to), .I ((ls[i]).sector), .slice a4q22 ((ls[i]).data.length) k4q22] 40 (0, 0))] (diskM db2 D73 sa74 sk75) (diskM db6 D40 sa41 sk42)).symm) (List.Perm.refl _)
                   have H : Hp w S [] ((b28, .cells #[.I ((ls[i]).kind), .string ((ls[i]).name), .string ((ls[i]).to), .I ((ls[i]).sector), .slice a4q22 ((ls[i]).data.length) k4q22] 40 (0, 0)) :: (diskM db2 D73 sa74 sk75 ++ diskM db6 D40 sa41 sk42)) [⟨stepS, 67, .slice sa74 D73.steps.length sk75, D73.steps⟩, ⟨Sb, 5, .slice (some ⟨b63, 0, none⟩) 64 64, (List.replicate 64 (0#8 : BitVec 8))⟩, ⟨stepS, 67, .slice sa41 D40.steps.length sk42, D40.steps⟩] [Rp SB [.slice (some ⟨b70, 0, none⟩) 64 64] (List.replicate 64 (0#8 : BitVec 8)), Rp SB [.slice a4q22 ((ls[i]).data.length) k4q22] ((ls[i]).data), Fc b18 o19 [.I ((ls[i]).kind), .string ((ls[i]).name), .string ((ls[i]).to), .I ((ls[i]).sector), .slice a4q22 ((ls[i]).data.length) k4q22], Rp (Shape.slice actS) [.slice la ls.length lk] ls] _ := H
                   have hR77 : WriteR (crashD D51 [] ns67 nb68) (⟨#[122, 122, 57]⟩ : ByteArray) 0 (List.replicate 64 (0#8 : BitVec 8)) e76 D73 := hR77
                   have he70 := WriteR.not70 hR77 (notStops rfl)
                   refine qP 3 (sq 10 13) [(186, .bool (e76 != 70))] ?_
                   refine tN (fun b_ => [(186, .bool b_)]) e76 70 (fun h78 => ?_) (fun h78 => ?_)
                   ·
                    refine qK .seq (some 187) (sq 11 13) 12 #[] (heads_spec (S := fun _ => True)) ?_
                    rintro _ w79 hE80 rfl
                    have H := H.ext hE80
                    refine qF 2 [(4, .bool true)] ?_
                    refine qT (.bool true) Try.func5 ?_
                    exact ⟨_, rfl, H.done, rfl⟩
                   ·
                    exact absurd h78 he70
                 ·
                  obtain ⟨hg, hsim2, hleft2, hlD2, hlF2⟩ := hB.go h56 (by have := hsim.left0; omega)
                  refine qR 4 [.c [5, 0, 1, 0, 0, 1, 0, 0, 7, 0, 1], .c [5, 0, 1, 0, 0, 1, 0, 0, 8], .b 1, .c [5, 0, 1, 0, 0, 2], .l [5, 0, 1, 0, 0], .b 0, .c [6]] [(0, .slice la ls.length lk), (1, .I n), (5, .P db2 0), (6, .P db6 0), (7, .I dn), (8, .I i), (10, .I e43), (149, .bool (e54 != e43))] ?_
                  refine qN e54 e43 (fun h81 => ?_) (fun h81 => ?_)
                  ·
                   omega
                  ·
                   refine qR 3 [.c [5, 0, 1, 0, 0, 1, 0, 0, 9], .b 1, .c [5, 0, 1, 0, 0, 2], .l [5, 0, 1, 0, 0], .b 0, .c [6]] [(0, .slice la ls.length lk), (1, .I n), (5, .P db2 0), (6, .P db6 0), (7, .I dn), (8, .I i), (151, .bool (e43 == 0))] ?_
                   refine qE e43 0 (fun h82 => ?_) (fun h82 => ?_)
                   ·
                    refine qG (sq 0 3) ?_
                    refine qP 1 (sq 1 3) [(0, .slice la ls.length lk), (1, .I n), (5, .P db2 0), (6, .P db6 0), (7, .I dn), (8, .I i), (152, .I dn)] ?_
                    refine qI .seq 153 (sq 2 3) (dn + 1) ?_
                    refine qF 1 [(0, .slice la ls.length lk), (1, .I n), (5, .P db2 0), (6, .P db6 0), (7, .I (dn + 1)), (8, .I i)] ?_
                    refine qR 1 [.c [5, 0, 1, 0, 0, 2], .l [5, 0, 1, 0, 0], .b 0, .c [6]] [(0, .slice la ls.length lk), (1, .I n), (5, .P db2 0), (6, .P db6 0), (7, .I (dn + 1)), (8, .I i)] ?_
                    refine qG (sq 0 3) ?_
                    refine qP 1 (sq 1 3) [(0, .slice la ls.length lk), (1, .I n), (5, .P db2 0), (6, .P db6 0), (7, .I (dn + 1)), (8, .I i), (43, .I i)] ?_
                    refine qI .seq 44 (sq 2 3) ((i : Int) + 1) ?_
                    refine qF 1 [(0, .slice la ls.length lk), (1, .I n), (5, .P db2 0), (6, .P db6 0), (7, .I (dn + 1)), (8, .I ((i : Int) + 1))] ?_
                    skip
                    have H := H.pick [2] rfl
                    have H := H.drop (M' := ((diskM db2 D51 sa52 sk53 ++ diskM db6 D40 sa41 sk42))) (W' := [⟨stepS, 67, .slice sa52 D51.steps.length sk53, D51.steps⟩, ⟨stepS, 67, .slice sa41 D40.steps.length sk42, D40.steps⟩]) (by repeat (first | exact List.Sublist.refl _ | apply List.Sublist.cons_cons | apply List.Sublist.cons)) (by repeat (first | exact List.Sublist.refl _ | apply List.Sublist.cons_cons | apply List.Sublist.cons))
                    exact WK.back (hback14 (i + 1, D51, sa52, sk53, D40, sa41, sk42, dn + 1) _ ⟨H, by omega, hsim2, by omega, by omega, by omega, by omega⟩ (by first | omega | (simp only []; omega))) (by as_aux_lemma => kernel_rfl)
                   ·
                    omega
                ·
                 obtain ⟨hg, hD9, hF9⟩ := hB.bad h56
                 have hsim2 : Sim D51 D40 := by rw [hD9, hF9]; exact hsim
                 have hl2 : D51.left = D.left ∧ D51.steps.length ≤ D.steps.length ∧ D40.steps.length ≤ F.steps.length := by rw [hD9, hF9]; exact ⟨rfl, Nat.le_refl _, Nat.le_refl _⟩
                 refine qF 4 [(0, .slice la ls.length lk), (1, .I n), (5, .P db2 0), (6, .P db6 0), (7, .I dn), (8, .I i), (10, .I e43), (11, .I e54), (139, .bool false)] ?_
                 refine qR 5 [.c [5, 0, 1, 0, 0, 1, 0, 0, 7, 0, 1], .c [5, 0, 1, 0, 0, 1, 0, 0, 8], .b 1, .c [5, 0, 1, 0, 0, 2], .l [5, 0, 1, 0, 0], .b 0, .c [6]] [(0, .slice la ls.length lk), (1, .I n), (5, .P db2 0), (6, .P db6 0), (7, .I dn), (8, .I i), (10, .I e43), (149, .bool (e54 != e43))] ?_
                 refine qN e54 e43 (fun h83 => ?_) (fun h83 => ?_)
                 ·
                  omega
                 ·
                  refine qR 3 [.c [5, 0, 1, 0, 0, 1, 0, 0, 9], .b 1, .c [5, 0, 1, 0, 0, 2], .l [5, 0, 1, 0, 0], .b 0, .c [6]] [(0, .slice la ls.length lk), (1, .I n), (5, .P db2 0), (6, .P db6 0), (7, .I dn), (8, .I i), (151, .bool (e43 == 0))] ?_
                  refine qE e43 0 (fun h84 => ?_) (fun h84 => ?_)
                  ·
                   omega
                  ·
                   refine qR 2 [.c [5, 0, 1, 0, 0, 2], .l [5, 0, 1, 0, 0], .b 0, .c [6]] [(0, .slice la ls.length lk), (1, .I n), (5, .P db2 0), (6, .P db6 0), (7, .I dn), (8, .I i)] ?_
                   refine qG (sq 0 3) ?_
                   refine qP 1 (sq 1 3) [(0, .slice la ls.length lk), (1, .I n), (5, .P db2 0), (6, .P db6 0), (7, .I dn), (8, .I i), (43, .I i)] ?_
                   refine qI .seq 44 (sq 2 3) ((i : Int) + 1) ?_
                   refine qF 1 [(0, .slice la ls.length lk), (1, .I n), (5, .P db2 0), (6, .P db6 0), (7, .I dn), (8, .I ((i : Int) + 1))] ?_
                   skip
                   have H := H.pick [2] rfl
                   have H := H.drop (M' := ((diskM db2 D51 sa52 sk53 ++ diskM db6 D40 sa41 sk42))) (W' := [⟨stepS, 67, .slice sa52 D51.steps.length sk53, D51.steps⟩, ⟨stepS, 67, .slice sa41 D40.steps.length sk42, D40.steps⟩]) (by repeat (first | exact List.Sublist.refl _ | apply List.Sublist.cons_cons | apply List.Sublist.cons)) (by repeat (first | exact List.Sublist.refl _ | apply List.Sublist.cons_cons | apply List.Sublist.cons))
                   exact WK.back (hback14 (i + 1, D51, sa52, sk53, D40, sa41, sk42, dn) _ ⟨H, by omega, hsim2, by omega, by omega, by omega, by omega⟩ (by first | omega | (simp only []; omega))) (by as_aux_lemma => kernel_rfl)
               ·
                omega
           ·
            omega
      ·
       refine qF 4 [(0, .slice la ls.length lk), (1, .I n), (5, .P db2 0), (6, .P db6 0), (7, .I dn), (8, .I i), (9, .P b28 0), (66, .bool false)] ?_
       refine qR 6 [.c [5, 0, 1, 0, 0, 1, 0, 0, 3, 0, 0], .c [5, 0, 1, 0, 0, 1, 0, 0, 3, 0, 1], .c [5, 0, 1, 0, 0, 1, 0, 0, 4], .b 1, .c [5, 0, 1, 0, 0, 2], .l [5, 0, 1, 0, 0], .b 0, .c [6]] [(0, .slice la ls.length lk), (1, .I n), (5, .P db2 0), (6, .P db6 0), (7, .I dn), (8, .I i), (9, .P b28 0), (10, .I 0), (11, .I 0)] ?_
       refine qG (sq 0 2) ?_
       refine qP 1 (sq 1 2) [(0, .slice la ls.length lk), (1, .I n), (5, .P db2 0), (6, .P db6 0), (7, .I dn), (8, .I i), (9, .P b28 0), (10, .I 0), (11, .I 0), (67, .P b28 0)] ?_
       refine qL .seq 68 (sq 2 2) 3 b28 0 0 (.I ((ls[i]).kind)) (H.cells 0 rfl) ?_
       refine qF 0 [(0, .slice la ls.length lk), (1, .I n), (5, .P db2 0), (6, .P db6 0), (7, .I dn), (8, .I i), (9, .P b28 0), (10, .I 0), (11, .I 0), (68, .I ((ls[i]).kind))] ?_
       refine qR 3 [.c [5, 0, 1, 0, 0, 1, 0, 0, 3, 0, 1, 0, 1], .b 2, .c [5, 0, 1, 0, 0, 1, 0, 0, 4], .b 1, .c [5, 0, 1, 0, 0, 2], .l [5, 0, 1, 0, 0], .b 0, .c [6]] [(0, .slice la ls.length lk), (1, .I n), (5, .P db2 0), (6, .P db6 0), (7, .I dn), (8, .I i), (9, .P b28 0), (10, .I 0), (11, .I 0), (68, .I ((ls[i]).kind)), (69, .bool (((ls[i]).kind) == 1))] ?_
       refine qE ((ls[i]).kind) 1 (fun h85 => ?_) (fun h85 => ?_)
       ·
        omega
       ·
        refine qR 2 [.c [5, 0, 1, 0, 0, 1, 0, 0, 3, 0, 1, 0, 1, 1, 1], .b 2, .c [5, 0, 1, 0, 0, 1, 0, 0, 4], .b 1, .c [5, 0, 1, 0, 0, 2], .l [5, 0, 1, 0, 0], .b 0, .c [6]] [(0, .slice la ls.length lk), (1, .I n), (5, .P db2 0), (6, .P db6 0), (7, .I dn), (8, .I i), (9, .P b28 0), (10, .I 0), (11, .I 0), (68, .I ((ls[i]).kind)), (79, .bool (((ls[i]).kind) == 4))] ?_
        refine qE ((ls[i]).kind) 4 (fun h86 => ?_) (fun h86 => ?_)
        ·
         omega
        ·
         refine qR 2 [.c [5, 0, 1, 0, 0, 1, 0, 0, 3, 0, 1, 0, 1, 1, 1, 1, 1], .b 2, .c [5, 0, 1, 0, 0, 1, 0, 0, 4], .b 1, .c [5, 0, 1, 0, 0, 2], .l [5, 0, 1, 0, 0], .b 0, .c [6]] [(0, .slice la ls.length lk), (1, .I n), (5, .P db2 0), (6, .P db6 0), (7, .I dn), (8, .I i), (9, .P b28 0), (10, .I 0), (11, .I 0), (68, .I ((ls[i]).kind)), (85, .bool (((ls[i]).kind) == 5))] ?_
         refine qE ((ls[i]).kind) 5 (fun h87 => ?_) (fun h87 => ?_)
         ·
          refine qG (sq 0 7) ?_
          refine qP 2 (sq 2 7) [(0, .slice la ls.length lk), (1, .I n), (5, .P db2 0), (6, .P db6 0), (7, .I dn), (8, .I i), (9, .P b28 0), (10, .I 0), (11, .I 0), (87, .P db6 0), (88, .P b28 1)] ?_
          refine qL .seq 89 (sq 3 7) 9 b28 1 1 (.string ((ls[i]).name)) (H.cells 0 rfl) ?_
          refine qP 1 (sq 4 7) [(0, .slice la ls.length lk), (1, .I n), (5, .P db2 0), (6, .P db6 0), (7, .I dn), (8, .I i), (9, .P b28 0), (10, .I 0), (11, .I 0), (87, .P db6 0), (89, .string ((ls[i]).name)), (90, .P b28 2)] ?_
          refine qL .seq 91 (sq 5 7) 9 b28 2 2 (.string ((ls[i]).to)) (H.cells 0 rfl) ?_
          have H := H.frontW 1 (W' := [⟨stepS, 67, .slice sf F.steps.length kf, F.steps⟩, ⟨stepS, 67, .slice sa D.steps.length sk, D.steps⟩]) rfl
          have H := H.perms (M' := diskM db6 F sf kf ++ ([(b28, .cells #[.I ((ls[i]).kind), .string ((ls[i]).name), .string ((ls[i]).to), .I ((ls[i]).sector), .slice a4q22 ((ls[i]).data.length) k4q22] 40 (0, 0))] ++ diskM db2 D sa sk)) (W' := [⟨stepS, 67, .slice sf F.steps.length kf, F.steps⟩, ⟨stepS, 67, .slice sa D.steps.length sk, D.steps⟩]) (permB [(b28, .cells #[.I ((ls[i]).kind), .string ((ls[i]).name), .string ((ls[i]).to), .I ((ls[i]).sector), .slice a4q22 ((ls[i]).data.length) k4q22] 40 (0, 0))] (diskM db2 D sa sk) (diskM db6 F sf kf)) (List.Perm.refl _)
          refine RW.callS (d := some 92) (r := (sq 6 7)) (g := 17) (args := #[.P db6 0, .string ((ls[i]).name), .string ((ls[i]).to)]) (by as_aux_lemma => kernel_rfl) (dRename (hsim.okF) (by omega) (hsim.liveF) (by first | assumption | decide | (simp [maxLen]; done)) (by first | assumption | decide | (simp [maxLen]; done)) (fun h => by rw [hsim.off] at h; cases h) ((H.lend (M1 := diskM db6 F sf kf) (W1 := [⟨stepS, 67, .slice sf F.steps.length kf, F.steps⟩])).pick [] rfl)) ?_
          rintro _ w88 ⟨D89, sa90, sk91, ⟨e92, rfl, hR93⟩, H'⟩
          have H := H.back (M1 := diskM db6 F sf kf) (W1 := [⟨stepS, 67, .slice sf F.steps.length kf, F.steps⟩]) H'
          have H := H.perms (M' := ((b28, .cells #[.I ((ls[i]).kind), .string ((ls[i]).name), .string ((ls[i]).to), .I ((ls[i]).sector), .slice a4q22 ((ls[i]).data.length) k4q22] 40 (0, 0)) :: (diskM db2 D sa sk ++ diskM db6 D89 sa90 sk91))) (W' := [⟨stepS, 67, .slice sa90 D89.steps.length sk91, D89.steps⟩, ⟨stepS, 67, .slice sa D.steps.length sk, D.steps⟩]) ((permB [(b28, .cells #[.I ((ls[i]).kind), .string ((ls[i]).name), .string ((ls[i]).to), .I ((ls[i]).sector), .slice a4q22 ((ls[i]).data.length) k4q22] 40 (0, 0))] (diskM db2 D sa sk) (diskM db6 D89 sa90 sk91)).symm) (List.Perm.refl _)
          have H : Hp w S [] ((b28, .cells #[.I ((ls[i]).kind), .string ((ls[i]).name), .string ((ls[i]).to), .I ((ls[i]).sector), .slice a4q22 ((ls[i]).data.length) k4q22] 40 (0, 0)) :: (diskM db2 D sa sk ++ diskM db6 D89 sa90 sk91)) [⟨stepS, 67, .slice sa90 D89.steps.length sk91, D89.steps⟩, ⟨stepS, 67, .slice sa D.steps.length sk, D.steps⟩] [Rp SB [.slice a4q22 ((ls[i]).data.length) k4q22] ((ls[i]).data), Fc b18 o19 [.I ((ls[i]).kind), .string ((ls[i]).name), .string ((ls[i]).to), .I ((ls[i]).sector), .slice a4q22 ((ls[i]).data.length) k4q22], Rp (Shape.slice actS) [.slice la ls.length lk] ls] _ := H
          have hR93 : RenameR F ((ls[i]).name) ((ls[i]).to) e92 D89 := hR93
          refine qF 1 [(0, .slice la ls.length lk), (1, .I n), (5, .P db2 0), (6, .P db6 0), (7, .I dn), (8, .I i), (9, .P b28 0), (10, .I e92), (11, .I 0)] ?_
          refine qR 3 [.c [5, 0, 1, 0, 0, 1, 0, 0, 4, 0, 0], .c [5, 0, 1, 0, 0, 1, 0, 0, 4, 0, 1], .c [5, 0, 1, 0, 0, 1, 0, 0, 5], .b 1, .c [5, 0, 1, 0, 0, 2], .l [5, 0, 1, 0, 0], .b 0, .c [6]] [(0, .slice la ls.length lk), (1, .I n), (5, .P db2 0), (6, .P db6 0), (7, .I dn), (8, .I i), (9, .P b28 0), (10, .I e92), (11, .I 0)] ?_
          refine qG (sq 0 2) ?_
          refine qP 1 (sq 1 2) [(0, .slice la ls.length lk), (1, .I n), (5, .P db2 0), (6, .P db6 0), (7, .I dn), (8, .I i), (9, .P b28 0), (10, .I e92), (11, .I 0), (99, .P db2 0)] ?_
          have H := H.frontW 1 (W' := [⟨stepS, 67, .slice sa D.steps.length sk, D.steps⟩, ⟨stepS, 67, .slice sa90 D89.steps.length sk91, D89.steps⟩]) rfl
          have H := H.perms (M' := diskM db2 D sa sk ++ ([(b28, .cells #[.I ((ls[i]).kind), .string ((ls[i]).name), .string ((ls[i]).to), .I ((ls[i]).sector), .slice a4q22 ((ls[i]).data.length) k4q22] 40 (0, 0))] ++ diskM db6 D89 sa90 sk91)) (W' := [⟨stepS, 67, .slice sa D.steps.length sk, D.steps⟩, ⟨stepS, 67, .slice sa90 D89.steps.length sk91, D89.steps⟩]) (permA [(b28, .cells #[.I ((ls[i]).kind), .string ((ls[i]).name), .string ((ls[i]).to), .I ((ls[i]).sector), .slice a4q22 ((ls[i]).data.length) k4q22] 40 (0, 0))] (diskM db2 D sa sk) (diskM db6 D89 sa90 sk91)) (List.Perm.refl _)
          refine RW.callS (d := some 100) (r := (sq 2 2)) (g := 19) (args := #[.P db2 0]) (by as_aux_lemma => kernel_rfl) (dDead hsim.liveD ((H.lend (M1 := diskM db2 D sa sk) (W1 := [⟨stepS, 67, .slice sa D.steps.length sk, D.steps⟩])).pick [] rfl)) ?_
          rintro _ w94 ⟨rfl, H'⟩
          have H := H.back (M1 := diskM db2 D sa sk) (W1 := [⟨stepS, 67, .slice sa D.steps.length sk, D.steps⟩]) H'
          have H := H.perms (M' := ((b28, .cells #[.I ((ls[i]).kind), .string ((ls[i]).name), .string ((ls[i]).to), .I ((ls[i]).sector), .slice a4q22 ((ls[i]).data.length) k4q22] 40 (0, 0)) :: (diskM db2 D sa sk ++ diskM db6 D89 sa90 sk91))) (W' := [⟨stepS, 67, .slice sa D.steps.length sk, D.steps⟩, ⟨stepS, 67, .slice sa90 D89.steps.length sk91, D89.steps⟩]) ((permA [(b28, .cells #[.I ((ls[i]).kind), .string ((ls[i]).name), .string ((ls[i]).to), .I ((ls[i]).sector), .slice a4q22 ((ls[i]).data.length) k4q22] 40 (0, 0))] (diskM db2 D sa sk) (diskM db6 D89 sa90 sk91)).symm) (List.Perm.refl _)
          have H : Hp w S [] ((b28, .cells #[.I ((ls[i]).kind), .string ((ls[i]).name), .string ((ls[i]).to), .I ((ls[i]).sector), .slice a4q22 ((ls[i]).data.length) k4q22] 40 (0, 0)) :: (diskM db2 D sa sk ++ diskM db6 D89 sa90 sk91)) [⟨stepS, 67, .slice sa D.steps.length sk, D.steps⟩, ⟨stepS, 67, .slice sa90 D89.steps.length sk91, D89.steps⟩] [Rp SB [.slice a4q22 ((ls[i]).data.length) k4q22] ((ls[i]).data), Fc b18 o19 [.I ((ls[i]).kind), .string ((ls[i]).name), .string ((ls[i]).to), .I ((ls[i]).sector), .slice a4q22 ((ls[i]).data.length) k4q22], Rp (Shape.slice actS) [.slice la ls.length lk] ls] _ := H
          refine qF 0 [(0, .slice la ls.length lk), (1, .I n), (5, .P db2 0), (6, .P db6 0), (7, .I dn), (8, .I i), (9, .P b28 0), (10, .I e92), (11, .I 0), (100, .bool false)] ?_
          refine qR 4 [.c [5, 0, 1, 0, 0, 1, 0, 0, 5, 0, 0], .c [5, 0, 1, 0, 0, 1, 0, 0, 5, 0, 1], .c [5, 0, 1, 0, 0, 1, 0, 0, 6], .b 1, .c [5, 0, 1, 0, 0, 2], .l [5, 0, 1, 0, 0], .b 0, .c [6]] [(0, .slice la ls.length lk), (1, .I n), (5, .P db2 0), (6, .P db6 0), (7, .I dn), (8, .I i), (9, .P b28 0), (10, .I e92), (11, .I 0)] ?_
          refine qG (sq 0 2) ?_
          refine qP 1 (sq 1 2) [(0, .slice la ls.length lk), (1, .I n), (5, .P db2 0), (6, .P db6 0), (7, .I dn), (8, .I i), (9, .P b28 0), (10, .I e92), (11, .I 0), (101, .P b28 0)] ?_
          refine qL .seq 102 (sq 2 2) 3 b28 0 0 (.I ((ls[i]).kind)) (H.cells 0 rfl) ?_
          refine qF 0 [(0, .slice la ls.length lk), (1, .I n), (5, .P db2 0), (6, .P db6 0), (7, .I dn), (8, .I i), (9, .P b28 0), (10, .I e92), (11, .I 0), (102, .I ((ls[i]).kind))] ?_
          refine qR 3 [.c [5, 0, 1, 0, 0, 1, 0, 0, 5, 0, 1, 0, 1], .b 3, .c [5, 0, 1, 0, 0, 1, 0, 0, 6], .b 1, .c [5, 0, 1, 0, 0, 2], .l [5, 0, 1, 0, 0], .b 0, .c [6]] [(0, .slice la ls.length lk), (1, .I n), (5, .P db2 0), (6, .P db6 0), (7, .I dn), (8, .I i), (9, .P b28 0), (10, .I e92), (11, .I 0), (102, .I ((ls[i]).kind)), (103, .bool (((ls[i]).kind) == 1))] ?_
          refine qE ((ls[i]).kind) 1 (fun h95 => ?_) (fun h95 => ?_)
          ·
           omega
          ·
           refine qR 2 [.c [5, 0, 1, 0, 0, 1, 0, 0, 5, 0, 1, 0, 1, 1, 1], .b 3, .c [5, 0, 1, 0, 0, 1, 0, 0, 6], .b 1, .c [5, 0, 1, 0, 0, 2], .l [5, 0, 1, 0, 0], .b 0, .c [6]] [(0, .slice la ls.length lk), (1, .I n), (5, .P db2 0), (6, .P db6 0), (7, .I dn), (8, .I i), (9, .P b28 0), (10, .I e92), (11, .I 0), (102, .I ((ls[i]).kind)), (113, .bool (((ls[i]).kind) == 4))] ?_
           refine qE ((ls[i]).kind) 4 (fun h96 => ?_) (fun h96 => ?_)
           ·
            omega
           ·
            refine qR 2 [.c [5, 0, 1, 0, 0, 1, 0, 0, 5, 0, 1, 0, 1, 1, 1, 1, 1], .b 3, .c [5, 0, 1, 0, 0, 1, 0, 0, 6], .b 1, .c [5, 0, 1, 0, 0, 2], .l [5, 0, 1, 0, 0], .b 0, .c [6]] [(0, .slice la ls.length lk), (1, .I n), (5, .P db2 0), (6, .P db6 0), (7, .I dn), (8, .I i), (9, .P b28 0), (10, .I e92), (11, .I 0), (102, .I ((ls[i]).kind)), (119, .bool (((ls[i]).kind) == 5))] ?_
            refine qE ((ls[i]).kind) 5 (fun h97 => ?_) (fun h97 => ?_)
            ·
             refine qG (sq 0 7) ?_
             refine qP 2 (sq 2 7) [(0, .slice la ls.length lk), (1, .I n), (5, .P db2 0), (6, .P db6 0), (7, .I dn), (8, .I i), (9, .P b28 0), (10, .I e92), (11, .I 0), (121, .P db2 0), (122, .P b28 1)] ?_
             refine qL .seq 123 (sq 3 7) 9 b28 1 1 (.string ((ls[i]).name)) (H.cells 0 rfl) ?_
             refine qP 1 (sq 4 7) [(0, .slice la ls.length lk), (1, .I n), (5, .P db2 0), (6, .P db6 0), (7, .I dn), (8, .I i), (10, .I e92), (11, .I 0), (121, .P db2 0), (123, .string ((ls[i]).name)), (124, .P b28 2)] ?_
             refine qL .seq 125 (sq 5 7) 9 b28 2 2 (.string ((ls[i]).to)) (H.cells 0 rfl) ?_
             have H := H.perms (M' := diskM db2 D sa sk ++ ([(b28, .cells #[.I ((ls[i]).kind), .string ((ls[i]).name), .string ((ls[i]).to), .I ((ls[i]).sector), .slice a4q22 ((ls[i]).data.length) k4q22] 40 (0, 0))] ++ diskM db6 D89 sa90 sk91)) (W' := [⟨stepS, 67, .slice sa D.steps.length sk, D.steps⟩, ⟨stepS, 67, .slice sa90 D89.steps.length sk91, D89.steps⟩]) (permA [(b28, .cells #[.I ((ls[i]).kind), .string ((ls[i]).name), .string ((ls[i]).to), .I ((ls[i]).sector), .slice a4q22 ((ls[i]).data.length) k4q22] 40 (0, 0))] (diskM db2 D sa sk) (diskM db6 D89 sa90 sk91)) (List.Perm.refl _)
             refine RW.callS (d := some 126) (r := (sq 6 7)) (g := 17) (args := #[.P db2 0, .string ((ls[i]).name), .string ((ls[i]).to)]) (by as_aux_lemma => kernel_rfl) (dRename (hsim.okD) (by omega) (hsim.liveD) (by first | assumption | decide | (simp [maxLen]; done)) (by first | assumption | decide | (simp [maxLen]; done)) (fun _ => by omega) ((H.lend (M1 := diskM db2 D sa sk) (W1 := [⟨stepS, 67, .slice sa D.steps.length sk, D.steps⟩])).pick [] rfl)) ?_
             rintro _ w98 ⟨D99, sa100, sk101, ⟨e102, rfl, hR103⟩, H'⟩
             have H := H.back (M1 := diskM db2 D sa sk) (W1 := [⟨stepS, 67, .slice sa D.steps.length sk, D.steps⟩]) H'
             have H := H.perms (M' := ((b28, .cells #[.I ((ls[i]).kind), .string ((ls[i]).name), .string ((ls[i]).to), .I ((ls[i]).sector), .slice a4q22 ((ls[i]).data.length) k4q22] 40 (0, 0)) :: (diskM db2 D99 sa100 sk101 ++ diskM db6 D89 sa90 sk91))) (W' := [⟨stepS, 67, .slice sa100 D99.steps.length sk101, D99.steps⟩, ⟨stepS, 67, .slice sa90 D89.steps.length sk91, D89.steps⟩]) ((permA [(b28, .cells #[.I ((ls[i]).kind), .string ((ls[i]).name), .string ((ls[i]).to), .I ((ls[i]).sector), .slice a4q22 ((ls[i]).data.length) k4q22] 40 (0, 0))] (diskM db2 D99 sa100 sk101) (diskM db6 D89 sa90 sk91)).symm) (List.Perm.refl _)
             have H : Hp w S [] ((b28, .cells #[.I ((ls[i]).kind), .string ((ls[i]).name), .string ((ls[i]).to), .I ((ls[i]).sector), .slice a4q22 ((ls[i]).data.length) k4q22] 40 (0, 0)) :: (diskM db2 D99 sa100 sk101 ++ diskM db6 D89 sa90 sk91)) [⟨stepS, 67, .slice sa100 D99.steps.length sk101, D99.steps⟩, ⟨stepS, 67, .slice sa90 D89.steps.length sk91, D89.steps⟩] [Rp SB [.slice a4q22 ((ls[i]).data.length) k4q22] ((ls[i]).data), Fc b18 o19 [.I ((ls[i]).kind), .string ((ls[i]).name), .string ((ls[i]).to), .I ((ls[i]).sector), .slice a4q22 ((ls[i]).data.length) k4q22], Rp (Shape.slice actS) [.slice la ls.length lk] ls] _ := H
             have hR103 : RenameR D ((ls[i]).name) ((ls[i]).to) e102 D99 := hR103
             have hB := Both.rename hsim (by assumption) (by assumption) hR93 hR103
             refine qF 1 [(0, .slice la ls.length lk), (1, .I n), (5, .P db2 0), (6, .P db6 0), (7, .I dn), (8, .I i), (10, .I e92), (11, .I e102)] ?_
             refine qR 3 [.c [5, 0, 1, 0, 0, 1, 0, 0, 6, 0, 0], .c [5, 0, 1, 0, 0, 1, 0, 0, 6, 0, 1], .c [5, 0, 1, 0, 0, 1, 0, 0, 7], .b 1, .c [5, 0, 1, 0, 0, 2], .l [5, 0, 1, 0, 0], .b 0, .c [6]] [(0, .slice la ls.length lk), (1, .I n), (5, .P db2 0), (6, .P db6 0), (7, .I dn), (8, .I i), (10, .I e92), (11, .I e102)] ?_
             refine qG (sq 0 7) ?_
             refine qP 3 (sq 3 7) [(0, .slice la ls.length lk), (1, .I n), (5, .P db2 0), (6, .P db6 0), (7, .I dn), (8, .I i), (10, .I e92), (11, .I e102), (135, .bool (e92 == 0))] ?_
             refine tE (fun b_ => [(0, .slice la ls.length lk), (1, .I n), (5, .P db2 0), (6, .P db6 0), (7, .I dn), (8, .I i), (10, .I e92), (11, .I e102), (135, .bool b_)]) e92 0 (fun h104 => ?_) (fun h104 => ?_)
             ·
              refine qF 4 [(0, .slice la ls.length lk), (1, .I n), (5, .P db2 0), (6, .P db6 0), (7, .I dn), (8, .I i), (10, .I e92), (11, .I e102), (139, .bool (dn == n))] ?_
              refine qE dn n (fun h105 => ?_) (fun h105 => ?_)
              ·
               obtain ⟨hg, hdead2, hok2, hst2⟩ := hB.stop h104 (by omega)
               refine qR 2 [.c [5, 0, 1, 0, 0, 1, 0, 0, 6, 0, 1, 0, 0, 0], .c [5, 0, 1, 0, 0, 1, 0, 0, 6, 0, 1, 0, 0, 1], .c [5, 0, 1, 0, 0, 1, 0, 0, 6, 0, 1, 0, 1], .c [5, 0, 1, 0, 0, 1, 0, 0, 7], .b 1, .c [5, 0, 1, 0, 0, 2], .l [5, 0, 1, 0, 0], .b 0, .c [6]] [(5, .P db2 0), (11, .I e102)] ?_
               refine qG (sq 0 7) ?_
               refine qP 3 (sq 3 7) [(5, .P db2 0), (142, .bool (e102 != 70))] ?_
               refine tN (fun b_ => [(5, .P db2 0), (142, .bool b_)]) e102 70 (fun h106 => ?_) (fun h106 => ?_)
               ·
                omega
               ·
                refine qP 1 (sq 4 7) [(5, .P db2 0), (142, .bool false), (143, .P db2 0)] ?_
                have H := H.perms (M' := diskM db2 D99 sa100 sk101 ++ ([(b28, .cells #[.I ((ls[i]).kind), .string ((ls[i]).name), .string ((ls[i]).to), .I ((ls[i]).sector), .slice a4q22 ((ls[i]).data.length) k4q22] 40 (0, 0))] ++ diskM db6 D89 sa90 sk91)) (W' := [⟨stepS, 67, .slice sa100 D99.steps.length sk101, D99.steps⟩, ⟨stepS, 67, .slice sa90 D89.steps.length sk91, D89.steps⟩]) (permA [(b28, .cells #[.I ((ls[i]).kind), .string ((ls[i]).name), .string ((ls[i]).to), .I ((ls[i]).sector), .slice a4q22 ((ls[i]).data.length) k4q22] 40 (0, 0))] (diskM db2 D99 sa100 sk101) (diskM db6 D89 sa90 sk91)) (List.Perm.refl _)
                refine RW.callS (d := some 144) (r := (sq 5 7)) (g := 19) (args := #[.P db2 0]) (by as_aux_lemma => kernel_rfl) (dDeadT hdead2 ((H.lend (M1 := diskM db2 D99 sa100 sk101) (W1 := [⟨stepS, 67, .slice sa100 D99.steps.length sk101, D99.steps⟩])).pick [] rfl)) ?_
                rintro _ w107 ⟨rfl, H'⟩
                have H := H.back (M1 := diskM db2 D99 sa100 sk101) (W1 := [⟨stepS, 67, .slice sa100 D99.steps.length sk101, D99.steps⟩]) H'
                have H := H.perms (M' := ((b28, .cells #[.I ((ls[i]).kind), .string ((ls[i]).name), .string ((ls[i]).to), .I ((ls[i]).sector), .slice a4q22 ((ls[i]).data.length) k4q22] 40 (0, 0)) :: (diskM db2 D99 sa100 sk101 ++ diskM db6 D89 sa90 sk91))) (W' := [⟨stepS, 67, .slice sa100 D99.steps.length sk101, D99.steps⟩, ⟨stepS, 67, .slice sa90 D89.steps.length sk91, D89.steps⟩]) ((permA [(b28, .cells #[.I ((ls[i]).kind), .string ((ls[i]).name), .string ((ls[i]).to), .I ((ls[i]).sector), .slice a4q22 ((ls[i]).data.length) k4q22] 40 (0, 0))] (diskM db2 D99 sa100 sk101) (diskM db6 D89 sa90 sk91)).symm) (List.Perm.refl _)
                have H : Hp w S [] ((b28, .cells #[.I ((ls[i]).kind), .string ((ls[i]).name), .string ((ls[i]).to), .I ((ls[i]).sector), .slice a4q22 ((ls[i]).data.length) k4q22] 40 (0, 0)) :: (diskM db2 D99 sa100 sk101 ++ diskM db6 D89 sa90 sk91)) [⟨stepS, 67, .slice sa100 D99.steps.length sk101, D99.steps⟩, ⟨stepS, 67, .slice sa90 D89.steps.length sk91, D89.steps⟩] [Rp SB [.slice a4q22 ((ls[i]).data.length) k4q22] ((ls[i]).data), Fc b18 o19 [.I ((ls[i]).kind), .string ((ls[i]).name), .string ((ls[i]).to), .I ((ls[i]).sector), .slice a4q22 ((ls[i]).data.length) k4q22], Rp (Shape.slice actS) [.slice la ls.length lk] ls] _ := H
                refine qF 2 [(5, .P db2 0), (146, .bool false)] ?_
                refine qR 5 [.c [6, 0, 0], .c [6, 0, 1], .c [7]] [(5, .P db2 0)] ?_
                refine qG (sq 0 2) ?_
                refine qP 1 (sq 1 2) [(5, .P db2 0), (154, .P db2 0)] ?_
                have H := H.perms (M' := diskM db2 D99 sa100 sk101 ++ ([(b28, .cells #[.I ((ls[i]).kind), .string ((ls[i]).name), .string ((ls[i]).to), .I ((ls[i]).sector), .slice a4q22 ((ls[i]).data.length) k4q22] 40 (0, 0))] ++ diskM db6 D89 sa90 sk91)) (W' := [⟨stepS, 67, .slice sa100 D99.steps.length sk101, D99.steps⟩, ⟨stepS, 67, .slice sa90 D89.steps.length sk91, D89.steps⟩]) (permA [(b28, .cells #[.I ((ls[i]).kind), .string ((ls[i]).name), .string ((ls[i]).to), .I ((ls[i]).sector), .slice a4q22 ((ls[i]).data.length) k4q22] 40 (0, 0))] (diskM db2 D99 sa100 sk101) (diskM db6 D89 sa90 sk91)) (List.Perm.refl _)
                refine RW.callS (d := some 155) (r := (sq 2 2)) (g := 19) (args := #[.P db2 0]) (by as_aux_lemma => kernel_rfl) (dDeadT hdead2 ((H.lend (M1 := diskM db2 D99 sa100 sk101) (W1 := [⟨stepS, 67, .slice sa100 D99.steps.length sk101, D99.steps⟩])).pick [] rfl)) ?_
                rintro _ w108 ⟨rfl, H'⟩
                have H := H.back (M1 := diskM db2 D99 sa100 sk101) (W1 := [⟨stepS, 67, .slice sa100 D99.steps.length sk101, D99.steps⟩]) H'
                have H := H.perms (M' := ((b28, .cells #[.I ((ls[i]).kind), .string ((ls[i]).name), .string ((ls[i]).to), .I ((ls[i]).sector), .slice a4q22 ((ls[i]).data.length) k4q22] 40 (0, 0)) :: (diskM db2 D99 sa100 sk101 ++ diskM db6 D89 sa90 sk91))) (W' := [⟨stepS, 67, .slice sa100 D99.steps.length sk101, D99.steps⟩, ⟨stepS, 67, .slice sa90 D89.steps.length sk91, D89.steps⟩]) ((permA [(b28, .cells #[.I ((ls[i]).kind), .string ((ls[i]).name), .string ((ls[i]).to), .I ((ls[i]).sector), .slice a4q22 ((ls[i]).data.length) k4q22] 40 (0, 0))] (diskM db2 D99 sa100 sk101) (diskM db6 D89 sa90 sk91)).symm) (List.Perm.refl _)
                have H : Hp w S [] ((b28, .cells #[.I ((ls[i]).kind), .string ((ls[i]).name), .string ((ls[i]).to), .I ((ls[i]).sector), .slice a4q22 ((ls[i]).data.length) k4q22] 40 (0, 0)) :: (diskM db2 D99 sa100 sk101 ++ diskM db6 D89 sa90 sk91)) [⟨stepS, 67, .slice sa100 D99.steps.length sk101, D99.steps⟩, ⟨stepS, 67, .slice sa90 D89.steps.length sk91, D89.steps⟩] [Rp SB [.slice a4q22 ((ls[i]).data.length) k4q22] ((ls[i]).data), Fc b18 o19 [.I ((ls[i]).kind), .string ((ls[i]).name), .string ((ls[i]).to), .I ((ls[i]).sector), .slice a4q22 ((ls[i]).data.length) k4q22], Rp (Shape.slice actS) [.slice la ls.length lk] ls] _ := H
                refine qF 0 [(5, .P db2 0), (155, .bool true)] ?_
                refine qR 2 [.c [6, 0, 1, 0, 0], .c [6, 0, 1, 0, 1], .c [7]] [(5, .P db2 0)] ?_
                refine qG (sq 0 7) ?_
                refine qP 1 (sq 1 7) [(5, .P db2 0), (157, .P db2 0)] ?_
                have H := H.perms (M' := diskM db2 D99 sa100 sk101 ++ ([(b28, .cells #[.I ((ls[i]).kind), .string ((ls[i]).name), .string ((ls[i]).to), .I ((ls[i]).sector), .slice a4q22 ((ls[i]).data.length) k4q22] 40 (0, 0))] ++ diskM db6 D89 sa90 sk91)) (W' := [⟨stepS, 67, .slice sa100 D99.steps.length sk101, D99.steps⟩, ⟨stepS, 67, .slice sa90 D89.steps.length sk91, D89.steps⟩]) (permA [(b28, .cells #[.I ((ls[i]).kind), .string ((ls[i]).name), .string ((ls[i]).to), .I ((ls[i]).sector), .slice a4q22 ((ls[i]).data.length) k4q22] 40 (0, 0))] (diskM db2 D99 sa100 sk101) (diskM db6 D89 sa90 sk91)) (List.Perm.refl _)
                refine RW.callS (d := some 158) (r := (sq 2 7)) (g := 11) (args := #[.P db2 0, .string (⟨#[97]⟩ : ByteArray)]) (by as_aux_lemma => kernel_rfl) (dSizeX hdead2 ((H.lend (M1 := diskM db2 D99 sa100 sk101) (W1 := [⟨stepS, 67, .slice sa100 D99.steps.length sk101, D99.steps⟩])).pick [] rfl)) ?_
                rintro _ w109 ⟨rfl, H'⟩
                have H := H.back (M1 := diskM db2 D99 sa100 sk101) (W1 := [⟨stepS, 67, .slice sa100 D99.steps.length sk101, D99.steps⟩]) H'
                have H := H.perms (M' := ((b28, .cells #[.I ((ls[i]).kind), .string ((ls[i]).name), .string ((ls[i]).to), .I ((ls[i]).sector), .slice a4q22 ((ls[i]).data.length) k4q22] 40 (0, 0)) :: (diskM db2 D99 sa100 sk101 ++ diskM db6 D89 sa90 sk91))) (W' := [⟨stepS, 67, .slice sa100 D99.steps.length sk101, D99.steps⟩, ⟨stepS, 67, .slice sa90 D89.steps.length sk91, D89.steps⟩]) ((permA [(b28, .cells #[.I ((ls[i]).kind), .string ((ls[i]).name), .string ((ls[i]).to), .I ((ls[i]).sector), .slice a4q22 ((ls[i]).data.length) k4q22] 40 (0, 0))] (diskM db2 D99 sa100 sk101) (diskM db6 D89 sa90 sk91)).symm) (List.Perm.refl _)
                have H : Hp w S [] ((b28, .cells #[.I ((ls[i]).kind), .string ((ls[i]).name), .string ((ls[i]).to), .I ((ls[i]).sector), .slice a4q22 ((ls[i]).data.length) k4q22] 40 (0, 0)) :: (diskM db2 D99 sa100 sk101 ++ diskM db6 D89 sa90 sk91)) [⟨stepS, 67, .slice sa100 D99.steps.length sk101, D99.steps⟩, ⟨stepS, 67, .slice sa90 D89.steps.length sk91, D89.steps⟩] [Rp SB [.slice a4q22 ((ls[i]).data.length) k4q22] ((ls[i]).data), Fc b18 o19 [.I ((ls[i]).kind), .string ((ls[i]).name), .string ((ls[i]).to), .I ((ls[i]).sector), .slice a4q22 ((ls[i]).data.length) k4q22], Rp (Shape.slice actS) [.slice la ls.length lk] ls] _ := H
                refine qF 5 [(5, .P db2 0), (13, .I 70)] ?_
                refine qR 1 [.c [6, 0, 1, 0, 1, 0], .c [6, 0, 1, 0, 2], .c [7]] [(5, .P db2 0), (13, .I 70)] ?_
                refine qG (sq 0 14) ?_
                refine qP 4 (sq 4 14) [(5, .P db2 0), (163, .bool false), (164, .P db2 0)] ?_
                have H := H.perms (M' := diskM db2 D99 sa100 sk101 ++ ([(b28, .cells #[.I ((ls[i]).kind), .string ((ls[i]).name), .string ((ls[i]).to), .I ((ls[i]).sector), .slice a4q22 ((ls[i]).data.length) k4q22] 40 (0, 0))] ++ diskM db6 D89 sa90 sk91)) (W' := [⟨stepS, 67, .slice sa100 D99.steps.length sk101, D99.steps⟩, ⟨stepS, 67, .slice sa90 D89.steps.length sk91, D89.steps⟩]) (permA [(b28, .cells #[.I ((ls[i]).kind), .string ((ls[i]).name), .string ((ls[i]).to), .I ((ls[i]).sector), .slice a4q22 ((ls[i]).data.length) k4q22] 40 (0, 0))] (diskM db2 D99 sa100 sk101) (diskM db6 D89 sa90 sk91)) (List.Perm.refl _)
                refine RW.callS (d := some 165) (r := (sq 5 14)) (g := 20) (args := #[.P db2 0]) (by as_aux_lemma => kernel_rfl) (dNames hdead2 ((H.lend (M1 := diskM db2 D99 sa100 sk101) (W1 := [⟨stepS, 67, .slice sa100 D99.steps.length sk101, D99.steps⟩])).pick [] rfl)) ?_
                rintro _ w110 ⟨rfl, H'⟩
                have H := H.back (M1 := diskM db2 D99 sa100 sk101) (W1 := [⟨stepS, 67, .slice sa100 D99.steps.length sk101, D99.steps⟩]) H'
                have H := H.perms (M' := ((b28, .cells #[.I ((ls[i]).kind), .string ((ls[i]).name), .string ((ls[i]).to), .I ((ls[i]).sector), .slice a4q22 ((ls[i]).data.length) k4q22] 40 (0, 0)) :: (diskM db2 D99 sa100 sk101 ++ diskM db6 D89 sa90 sk91))) (W' := [⟨stepS, 67, .slice sa100 D99.steps.length sk101, D99.steps⟩, ⟨stepS, 67, .slice sa90 D89.steps.length sk91, D89.steps⟩]) ((permA [(b28, .cells #[.I ((ls[i]).kind), .string ((ls[i]).name), .string ((ls[i]).to), .I ((ls[i]).sector), .slice a4q22 ((ls[i]).data.length) k4q22] 40 (0, 0))] (diskM db2 D99 sa100 sk101) (diskM db6 D89 sa90 sk91)).symm) (List.Perm.refl _)
                have H : Hp w S [] ((b28, .cells #[.I ((ls[i]).kind), .string ((ls[i]).name), .string ((ls[i]).to), .I ((ls[i]).sector), .slice a4q22 ((ls[i]).data.length) k4q22] 40 (0, 0)) :: (diskM db2 D99 sa100 sk101 ++ diskM db6 D89 sa90 sk91)) [⟨stepS, 67, .slice sa100 D99.steps.length sk101, D99.steps⟩, ⟨stepS, 67, .slice sa90 D89.steps.length sk91, D89.steps⟩] [Rp SB [.slice a4q22 ((ls[i]).data.length) k4q22] ((ls[i]).data), Fc b18 o19 [.I ((ls[i]).kind), .string ((ls[i]).name), .string ((ls[i]).to), .I ((ls[i]).sector), .slice a4q22 ((ls[i]).data.length) k4q22], Rp (Shape.slice actS) [.slice la ls.length lk] ls] _ := H
                refine qP 5 (sq 10 14) [(5, .P db2 0), (169, .bool false), (170, .P db2 0)] ?_
                refine RW.makeW Sb (κ := .seq) (d := some 171) (r := (sq 11 14)) (T := 24) (e := 5) (by_ := 1) (v0 := .int .u8 0) (0#8 : BitVec 8) (kl := .i64) (kc := .i64) (lv := 64) (cv := 64) (by as_aux_lemma => kernel_rfl) (nofun) (by as_aux_lemma => kernel_rfl) rfl H 64 64 (by omega) (by omega) (by omega) (by omega) (by omega) (fun _ _ => rfl) ?_
                intro b111 w112 H
                have H : Hp w S [] ((b28, .cells #[.I ((ls[i]).kind), .string ((ls[i]).name), .string ((ls[i]).to), .I ((ls[i]).sector), .slice a4q22 ((ls[i]).data.length) k4q22] 40 (0, 0)) :: (diskM db2 D99 sa100 sk101 ++ diskM db6 D89 sa90 sk91)) [⟨Sb, 5, .slice (some ⟨b111, 0, none⟩) 64 64, (List.replicate 64 (0#8 : BitVec 8))⟩, ⟨stepS, 67, .slice sa100 D99.steps.length sk101, D99.steps⟩, ⟨stepS, 67, .slice sa90 D89.steps.length sk91, D89.steps⟩] [Rp SB [.slice a4q22 ((ls[i]).data.length) k4q22] ((ls[i]).data), Fc b18 o19 [.I ((ls[i]).kind), .string ((ls[i]).name), .string ((ls[i]).to), .I ((ls[i]).sector), .slice a4q22 ((ls[i]).data.length) k4q22], Rp (Shape.slice actS) [.slice la ls.length lk] ls] _ := H
                have H := H.frontW 1 (W' := [⟨stepS, 67, .slice sa100 D99.steps.length sk101, D99.steps⟩, ⟨Sb, 5, .slice (some ⟨b111, 0, none⟩) 64 64, (List.replicate 64 (0#8 : BitVec 8))⟩, ⟨stepS, 67, .slice sa90 D89.steps.length sk91, D89.steps⟩]) rfl
                have H := H.perms (M' := diskM db2 D99 sa100 sk101 ++ ([(b28, .cells #[.I ((ls[i]).kind), .string ((ls[i]).name), .string ((ls[i]).to), .I ((ls[i]).sector), .slice a4q22 ((ls[i]).data.length) k4q22] 40 (0, 0))] ++ diskM db6 D89 sa90 sk91)) (W' := [⟨stepS, 67, .slice sa100 D99.steps.length sk101, D99.steps⟩, ⟨Sb, 5, .slice (some ⟨b111, 0, none⟩) 64 64, (List.replicate 64 (0#8 : BitVec 8))⟩, ⟨stepS, 67, .slice sa90 D89.steps.length sk91, D89.steps⟩]) (permA [(b28, .cells #[.I ((ls[i]).kind), .string ((ls[i]).name), .string ((ls[i]).to), .I ((ls[i]).sector), .slice a4q22 ((ls[i]).data.length) k4q22] 40 (0, 0))] (diskM db2 D99 sa100 sk101) (diskM db6 D89 sa90 sk91)) (List.Perm.refl _)
                refine RW.callS (d := some 172) (r := (sq 12 14)) (g := 8) (args := #[.P db2 0, .string (⟨#[97]⟩ : ByteArray), .I 0, .slice (some ⟨b111, 0, none⟩) 64 64]) (by as_aux_lemma => kernel_rfl) (dWriteX hdead2 ((H.lend (M1 := diskM db2 D99 sa100 sk101) (W1 := [⟨stepS, 67, .slice sa100 D99.steps.length sk101, D99.steps⟩])).pick [] rfl)) ?_
                rintro _ w113 ⟨rfl, H'⟩
                have H := H.back (M1 := diskM db2 D99 sa100 sk101) (W1 := [⟨stepS, 67, .slice sa100 D99.steps.length sk101, D99.steps⟩]) H'
                have H := H.perms (M' := ((b28, .cells #[.I ((ls[i]).kind), .string ((ls[i]).name), .string ((ls[i]).to), .I ((ls[i]).sector), .slice a4q22 ((ls[i]).data.length) k4q22] 40 (0, 0)) :: (diskM db2 D99 sa100 sk101 ++ diskM db6 D89 sa90 sk91))) (W' := [⟨stepS, 67, .slice sa100 D99.steps.length sk101, D99.steps⟩, ⟨Sb, 5, .slice (some ⟨b111, 0, none⟩) 64 64, (List.replicate 64 (0#8 : BitVec 8))⟩, ⟨stepS, 67, .slice sa90 D89.steps.length sk91, D89.steps⟩]) ((permA [(b28, .cells #[.I ((ls[i]).kind), .string ((ls[i]).name), .string ((ls[i]).to), .I ((ls[i]).sector), .slice a4q22 ((ls[i]).data.length) k4q22] 40 (0, 0))] (diskM db2 D99 sa100 sk101) (diskM db6 D89 sa90 sk91)).symm) (List.Perm.refl _)
                have H : Hp w S [] ((b28, .cells #[.I ((ls[i]).kind), .string ((ls[i]).name), .string ((ls[i]).to), .I ((ls[i]).sector), .slice a4q22 ((ls[i]).data.length) k4q22] 40 (0, 0)) :: (diskM db2 D99 sa100 sk101 ++ diskM db6 D89 sa90 sk91)) [⟨stepS, 67, .slice sa100 D99.steps.length sk101, D99.steps⟩, ⟨Sb, 5, .slice (some ⟨b111, 0, none⟩) 64 64, (List.replicate 64 (0#8 : BitVec 8))⟩, ⟨stepS, 67, .slice sa90 D89.steps.length sk91, D89.steps⟩] [Rp SB [.slice a4q22 ((ls[i]).data.length) k4q22] ((ls[i]).data), Fc b18 o19 [.I ((ls[i]).kind), .string ((ls[i]).name), .string ((ls[i]).to), .I ((ls[i]).sector), .slice a4q22 ((ls[i]).data.length) k4q22], Rp (Shape.slice actS) [.slice la ls.length lk] ls] _ := H
                refine qF 2 [(5, .P db2 0), (174, .bool false)] ?_
                refine qR 3 [.c [7, 0], .c [8]] [(5, .P db2 0)] ?_
                refine qG (sq 0 2) ?_
                refine qP 1 (sq 1 2) [(5, .P db2 0), (175, .P db2 0)] ?_
                have H := H.perms (M' := diskM db2 D99 sa100 sk101 ++ ([(b28, .cells #[.I ((ls[i]).kind), .string ((ls[i]).name), .string ((ls[i]).to), .I ((ls[i]).sector), .slice a4q22 ((ls[i]).data.length) k4q22] 40 (0, 0))] ++ diskM db6 D89 sa90 sk91)) (W' := [⟨stepS, 67, .slice sa100 D99.steps.length sk101, D99.steps⟩, ⟨Sb, 5, .slice (some ⟨b111, 0, none⟩) 64 64, (List.replicate 64 (0#8 : BitVec 8))⟩, ⟨stepS, 67, .slice sa90 D89.steps.length sk91, D89.steps⟩]) (permA [(b28, .cells #[.I ((ls[i]).kind), .string ((ls[i]).name), .string ((ls[i]).to), .I ((ls[i]).sector), .slice a4q22 ((ls[i]).data.length) k4q22] 40 (0, 0))] (diskM db2 D99 sa100 sk101) (diskM db6 D89 sa90 sk91)) (List.Perm.refl _)
                refine RW.callS (d := some 176) (r := (sq 2 2)) (g := 10) (args := #[.P db2 0, .slice none 0 0]) (by as_aux_lemma => kernel_rfl) (dCrash0 (hok2) (by rw [hst2]; omega) ((H.lend (M1 := diskM db2 D99 sa100 sk101) (W1 := [⟨stepS, 67, .slice sa100 D99.steps.length sk101, D99.steps⟩])).pick [] rfl)) ?_
                rintro _ w114 ⟨rfl, ns115, nb116, H'⟩
                have H := H.back (M1 := diskM db2 D99 sa100 sk101) (W1 := [⟨stepS, 67, .slice sa100 D99.steps.length sk101, D99.steps⟩]) H'
                have H := H.perms (M' := ((b28, .cells #[.I ((ls[i]).kind), .string ((ls[i]).name), .string ((ls[i]).to), .I ((ls[i]).sector), .slice a4q22 ((ls[i]).data.length) k4q22] 40 (0, 0)) :: (diskM db2 (crashD D99 [] ns115 nb116) none 0 ++ diskM db6 D89 sa90 sk91))) (W' := [⟨stepS, 67, .slice none ((crashD D99 [] ns115 nb116).steps.length) 0, (crashD D99 [] ns115 nb116).steps⟩, ⟨Sb, 5, .slice (some ⟨b111, 0, none⟩) 64 64, (List.replicate 64 (0#8 : BitVec 8))⟩, ⟨stepS, 67, .slice sa90 D89.steps.length sk91, D89.steps⟩]) ((permA [(b28, .cells #[.I ((ls[i]).kind), .string ((ls[i]).name), .string ((ls[i]).to), .I ((ls[i]).sector), .slice a4q22 ((ls[i]).data.length) k4q22] 40 (0, 0))] (diskM db2 (crashD D99 [] ns115 nb116) none 0) (diskM db6 D89 sa90 sk91)).symm) (List.Perm.refl _)
                have H : Hp w S [] ((b28, .cells #[.I ((ls[i]).kind), .string ((ls[i]).name), .string ((ls[i]).to), .I ((ls[i]).sector), .slice a4q22 ((ls[i]).data.length) k4q22] 40 (0, 0)) :: (diskM db2 (crashD D99 [] ns115 nb116) none 0 ++ diskM db6 D89 sa90 sk91)) [⟨stepS, 67, .slice none ((crashD D99 [] ns115 nb116).steps.length) 0, (crashD D99 [] ns115 nb116).steps⟩, ⟨Sb, 5, .slice (some ⟨b111, 0, none⟩) 64 64, (List.replicate 64 (0#8 : BitVec 8))⟩, ⟨stepS, 67, .slice sa90 D89.steps.length sk91, D89.steps⟩] [Rp SB [.slice a4q22 ((ls[i]).data.length) k4q22] ((ls[i]).data), Fc b18 o19 [.I ((ls[i]).kind), .string ((ls[i]).name), .string ((ls[i]).to), .I ((ls[i]).sector), .slice a4q22 ((ls[i]).data.length) k4q22], Rp (Shape.slice actS) [.slice la ls.length lk] ls] _ := H
                have hokZ := DOk.crashD' hok2 [] ns115 nb116
                refine qF 0 [(5, .P db2 0)] ?_
                refine qR 1 [.c [8, 0], .c [9]] [(5, .P db2 0)] ?_
                refine qG (sq 0 13) ?_
                refine qP 1 (sq 1 13) [(5, .P db2 0), (177, .P db2 0)] ?_
                have H := H.perms (M' := diskM db2 (crashD D99 [] ns115 nb116) none 0 ++ ([(b28, .cells #[.I ((ls[i]).kind), .string ((ls[i]).name), .string ((ls[i]).to), .I ((ls[i]).sector), .slice a4q22 ((ls[i]).data.length) k4q22] 40 (0, 0))] ++ diskM db6 D89 sa90 sk91)) (W' := [⟨stepS, 67, .slice none ((crashD D99 [] ns115 nb116).steps.length) 0, (crashD D99 [] ns115 nb116).steps⟩, ⟨Sb, 5, .slice (some ⟨b111, 0, none⟩) 64 64, (List.replicate 64 (0#8 : BitVec 8))⟩, ⟨stepS, 67, .slice sa90 D89.steps.length sk91, D89.steps⟩]) (permA [(b28, .cells #[.I ((ls[i]).kind), .string ((ls[i]).name), .string ((ls[i]).to), .I ((ls[i]).sector), .slice a4q22 ((ls[i]).data.length) k4q22] 40 (0, 0))] (diskM db2 (crashD D99 [] ns115 nb116) none 0) (diskM db6 D89 sa90 sk91)) (List.Perm.refl _)
                refine RW.callS (d := some 178) (r := (sq 2 13)) (g := 19) (args := #[.P db2 0]) (by as_aux_lemma => kernel_rfl) (dDead rfl ((H.lend (M1 := diskM db2 (crashD D99 [] ns115 nb116) none 0) (W1 := [⟨stepS, 67, .slice none ((crashD D99 [] ns115 nb116).steps.length) 0, (crashD D99 [] ns115 nb116).steps⟩])).pick [] rfl)) ?_
                rintro _ w117 ⟨rfl, H'⟩
                have H := H.back (M1 := diskM db2 (crashD D99 [] ns115 nb116) none 0) (W1 := [⟨stepS, 67, .slice none ((crashD D99 [] ns115 nb116).steps.length) 0, (crashD D99 [] ns115 nb116).steps⟩]) H'
                have H := H.perms (M' := ((b28, .cells #[.I ((ls[i]).kind), .string ((ls[i]).name), .string ((ls[i]).to), .I ((ls[i]).sector), .slice a4q22 ((ls[i]).data.length) k4q22] 40 (0, 0)) :: (diskM db2 (crashD D99 [] ns115 nb116) none 0 ++ diskM db6 D89 sa90 sk91))) (W' := [⟨stepS, 67, .slice none ((crashD D99 [] ns115 nb116).steps.length) 0, (crashD D99 [] ns115 nb116).steps⟩, ⟨Sb, 5, .slice (some ⟨b111, 0, none⟩) 64 64, (List.replicate 64 (0#8 : BitVec 8))⟩, ⟨stepS, 67, .slice sa90 D89.steps.length sk91, D89.steps⟩]) ((permA [(b28, .cells #[.I ((ls[i]).kind), .string ((ls[i]).name), .string ((ls[i]).to), .I ((ls[i]).sector), .slice a4q22 ((ls[i]).data.length) k4q22] 40 (0, 0))] (diskM db2 (crashD D99 [] ns115 nb116) none 0) (diskM db6 D89 sa90 sk91)).symm) (List.Perm.refl _)
                have H : Hp w S [] ((b28, .cells #[.I ((ls[i]).kind), .string ((ls[i]).name), .string ((ls[i]).to), .I ((ls[i]).sector), .slice a4q22 ((ls[i]).data.length) k4q22] 40 (0, 0)) :: (diskM db2 (crashD D99 [] ns115 nb116) none 0 ++ diskM db6 D89 sa90 sk91)) [⟨stepS, 67, .slice none ((crashD D99 [] ns115 nb116).steps.length) 0, (crashD D99 [] ns115 nb116).steps⟩, ⟨Sb, 5, .slice (some ⟨b111, 0, none⟩) 64 64, (List.replicate 64 (0#8 : BitVec 8))⟩, ⟨stepS, 67, .slice sa90 D89.steps.length sk91, D89.steps⟩] [Rp SB [.slice a4q22 ((ls[i]).data.length) k4q22] ((ls[i]).data), Fc b18 o19 [.I ((ls[i]).kind), .string ((ls[i]).name), .string ((ls[i]).to), .I ((ls[i]).sector), .slice a4q22 ((ls[i]).data.length) k4q22], Rp (Shape.slice actS) [.slice la ls.length lk] ls] _ := H
                refine qP 3 (sq 5 13) [(180, .bool true), (181, .P db2 0)] ?_
                refine RW.makeW Sb (κ := .seq) (d := some 182) (r := (sq 6 13)) (T := 24) (e := 5) (by_ := 1) (v0 := .int .u8 0) (0#8 : BitVec 8) (kl := .i64) (kc := .i64) (lv := 64) (cv := 64) (by as_aux_lemma => kernel_rfl) (nofun) (by as_aux_lemma => kernel_rfl) rfl H 64 64 (by omega) (by omega) (by omega) (by omega) (by omega) (fun _ _ => rfl) ?_
                intro b118 w119 H
                have H : Hp w S [] ((b28, .cells #[.I ((ls[i]).kind), .string ((ls[i]).name), .string ((ls[i]).to), .I ((ls[i]).sector), .slice a4q22 ((ls[i]).data.length) k4q22] 40 (0, 0)) :: (diskM db2 (crashD D99 [] ns115 nb116) none 0 ++ diskM db6 D89 sa90 sk91)) [⟨Sb, 5, .slice (some ⟨b118, 0, none⟩) 64 64, (List.replicate 64 (0#8 : BitVec 8))⟩, ⟨stepS, 67, .slice none ((crashD D99 [] ns115 nb116).steps.length) 0, (crashD D99 [] ns115 nb116).steps⟩, ⟨Sb, 5, .slice (some ⟨b111, 0, none⟩) 64 64, (List.replicate 64 (0#8 : BitVec 8))⟩, ⟨stepS, 67, .slice sa90 D89.steps.length sk91, D89.steps⟩] [Rp SB [.slice a4q22 ((ls[i]).data.length) k4q22] ((ls[i]).data), Fc b18 o19 [.I ((ls[i]).kind), .string ((ls[i]).name), .string ((ls[i]).to), .I ((ls[i]).sector), .slice a4q22 ((ls[i]).data.length) k4q22], Rp (Shape.slice actS) [.slice la ls.length lk] ls] _ := H
                have H : Hp w S [] ((b28, .cells #[.I ((ls[i]).kind), .string ((ls[i]).name), .string ((ls[i]).to), .I ((ls[i]).sector), .slice a4q22 ((ls[i]).data.length) k4q22] 40 (0, 0)) :: (diskM db2 (crashD D99 [] ns115 nb116) none 0 ++ diskM db6 D89 sa90 sk91)) [⟨stepS, 67, .slice none ((crashD D99 [] ns115 nb116).steps.length) 0, (crashD D99 [] ns115 nb116).steps⟩, ⟨Sb, 5, .slice (some ⟨b111, 0, none⟩) 64 64, (List.replicate 64 (0#8 : BitVec 8))⟩, ⟨stepS, 67, .slice sa90 D89.steps.length sk91, D89.steps⟩] [Rp SB [.slice (some ⟨b118, 0, none⟩) 64 64] (List.replicate 64 (0#8 : BitVec 8)), Rp SB [.slice a4q22 ((ls[i]).data.length) k4q22] ((ls[i]).data), Fc b18 o19 [.I ((ls[i]).kind), .string ((ls[i]).name), .string ((ls[i]).to), .I ((ls[i]).sector), .slice a4q22 ((ls[i]).data.length) k4q22], Rp (Shape.slice actS) [.slice la ls.length lk] ls] _ := H.freezeW 0 rfl
                have H := H.perms (M' := diskM db2 (crashD D99 [] ns115 nb116) none 0 ++ ([(b28, .cells #[.I ((ls[i]).kind), .string ((ls[i]).name), .string ((ls[i]).to), .I ((ls[i]).sector), .slice a4q22 ((ls[i]).data.length) k4q22] 40 (0, 0))] ++ diskM db6 D89 sa90 sk91)) (W' := [⟨stepS, 67, .slice none ((crashD D99 [] ns115 nb116).steps.length) 0, (crashD D99 [] ns115 nb116).steps⟩, ⟨Sb, 5, .slice (some ⟨b111, 0, none⟩) 64 64, (List.replicate 64 (0#8 : BitVec 8))⟩, ⟨stepS, 67, .slice sa90 D89.steps.length sk91, D89.steps⟩]) (permA [(b28, .cells #[.I ((ls[i]).kind), .string ((ls[i]).name), .string ((ls[i]).to), .I ((ls[i]).sector), .slice a4q22 ((ls[i]).data.length) k4q22] 40 (0, 0))] (diskM db2 (crashD D99 [] ns115 nb116) none 0) (diskM db6 D89 sa90 sk91)) (List.Perm.refl _)
                refine RW.callS (d := some 183) (r := (sq 7 13)) (g := 8) (args := #[.P db2 0, .string (⟨#[122, 122, 57]⟩ : ByteArray), .I 0, .slice (some ⟨b118, 0, none⟩) 64 64]) (by as_aux_lemma => kernel_rfl) (dWriteN (hokZ) (Nat.zero_le _) (rfl) (fun h => by cases h) (by first | assumption | decide | (simp [maxLen]; done)) (by first | omega | decide) (xs := (List.replicate 64 (0#8 : BitVec 8))) (by simp) ((H.lend (M1 := diskM db2 (crashD D99 [] ns115 nb116) none 0) (W1 := [⟨stepS, 67, .slice none ((crashD D99 [] ns115 nb116).steps.length) 0, (crashD D99 [] ns115 nb116).steps⟩])).pick [0] rfl)) ?_
                rintro _ w120 ⟨D121, sa122, sk123, ⟨e124, rfl, hR125⟩, H'⟩
                have H := H.back (M1 := diskM db2 (crashD D99 [] ns115 nb116) none 0) (W1 := [⟨stepS, 67, .slice none ((crashD D99 [] ns115 nb116).steps.length) 0, (crashD D99 [] ns115 nb116).steps⟩]) H'
                have H := H.perms (M' := ((b28, .cells #[.I ((ls[i]).kind), .string ((ls[i]).name), .string ((ls[i]).to), .I ((ls[i]).sector), .slice a4q22 ((ls[i]).data.length) k4q22] 40 (0, 0)) :: (diskM db2 D121 sa122 sk123 ++ diskM db6 D89 sa90 sk91))) (W' := [⟨stepS, 67, .slice sa122 D121.steps.length sk123, D121.steps⟩, ⟨Sb, 5, .slice (some ⟨b111, 0, none⟩) 64 64, (List.replicate 64 (0#8 : BitVec 8))⟩, ⟨stepS, 67, .slice sa90 D89.steps.length sk91, D89.steps⟩]) ((permA [(b28, .cells #[.I ((ls[i]).kind), .string ((ls[i]).name), .string ((ls[i]).to), .I ((ls[i]).sector), .slice a4q22 ((ls[i]).data.length) k4q22] 40 (0, 0))] (diskM db2 D121 sa122 sk123) (diskM db6 D89 sa90 sk91)).symm) (List.Perm.refl _)
                have H : Hp w S [] ((b28, .cells #[.I ((ls[i]).kind), .string ((ls[i]).name), .string ((ls[i]).to), .I ((ls[i]).sector), .slice a4q22 ((ls[i]).data.length) k4q22] 40 (0, 0)) :: (diskM db2 D121 sa122 sk123 ++ diskM db6 D89 sa90 sk91)) [⟨stepS, 67, .slice sa122 D121.steps.length sk123, D121.steps⟩, ⟨Sb, 5, .slice (some ⟨b111, 0, none⟩) 64 64, (List.replicate 64 (0#8 : BitVec 8))⟩, ⟨stepS, 67, .slice sa90 D89.steps.length sk91, D89.steps⟩] [Rp SB [.slice (some ⟨b118, 0, none⟩) 64 64] (List.replicate 64 (0#8 : BitVec 8)), Rp SB [.slice a4q22 ((ls[i]).data.length) k4q22] ((ls[i]).data), Fc b18 o19 [.I ((ls[i]).kind), .string ((ls[i]).name), .string ((ls[i]).to), .I ((ls[i]).sector), .slice a4q22 ((ls[i]).data.length) k4q22], Rp (Shape.slice actS) [.slice la ls.length lk] ls] _ := H
                have hR125 : WriteR (crashD D99 [] ns115 nb116) (⟨#[122, 122, 57]⟩ : ByteArray) 0 (List.replicate 64 (0#8 : BitVec 8)) e124 D121 := hR125
                have he70 := WriteR.not70 hR125 (notStops rfl)
                refine qP 3 (sq 10 13) [(186, .bool (e124 != 70))] ?_
                refine tN (fun b_ => [(186, .bool b_)]) e124 70 (fun h126 => ?_) (fun h126 => ?_)
                ·
                 refine qK .seq (some 187) (sq 11 13) 12 #[] (heads_spec (S := fun _ => True)) ?_
                 rintro _ w127 hE128 rfl
                 have H := H.ext hE128
                 refine qF 2 [(4, .bool true)] ?_
                 refine qT (.bool true) Try.func5 ?_
                 exact ⟨_, rfl, H.done, rfl⟩
                ·
                 exact absurd h126 he70
              ·
               obtain ⟨hg, hsim2, hleft2, hlD2, hlF2⟩ := hB.go h104 (by have := hsim.left0; omega)
               refine qR 4 [.c [5, 0, 1, 0, 0, 1, 0, 0, 7, 0, 1], .c [5, 0, 1, 0, 0, 1, 0, 0, 8], .b 1, .c [5, 0, 1, 0, 0, 2], .l [5, 0, 1, 0, 0], .b 0, .c [6]] [(0, .slice la ls.length lk), (1, .I n), (5, .P db2 0), (6, .P db6 0), (7, .I dn), (8, .I i), (10, .I e92), (149, .bool (e102 != e92))] ?_
               refine qN e102 e92 (fun h129 => ?_) (fun h129 => ?_)
               ·
                omega
               ·
                refine qR 3 [.c [5, 0, 1, 0, 0, 1, 0, 0, 9], .b 1, .c [5, 0, 1, 0, 0, 2], .l [5, 0, 1, 0, 0], .b 0, .c [6]] [(0, .slice la ls.length lk), (1, .I n), (5, .P db2 0), (6, .P db6 0), (7, .I dn), (8, .I i), (151, .bool (e92 == 0))] ?_
                refine qE e92 0 (fun h130 => ?_) (fun h130 => ?_)
                ·
                 refine qG (sq 0 3) ?_
                 refine qP 1 (sq 1 3) [(0, .slice la ls.length lk), (1, .I n), (5, .P db2 0), (6, .P db6 0), (7, .I dn), (8, .I i), (152, .I dn)] ?_
                 refine qI .seq 153 (sq 2 3) (dn + 1) ?_
                 refine qF 1 [(0, .slice la ls.length lk), (1, .I n), (5, .P db2 0), (6, .P db6 0), (7, .I (dn + 1)), (8, .I i)] ?_
                 refine qR 1 [.c [5, 0, 1, 0, 0, 2], .l [5, 0, 1, 0, 0], .b 0, .c [6]] [(0, .slice la ls.length lk), (1, .I n), (5, .P db2 0), (6, .P db6 0), (7, .I (dn + 1)), (8, .I i)] ?_
                 refine qG (sq 0 3) ?_
                 refine qP 1 (sq 1 3) [(0, .slice la ls.length lk), (1, .I n), (5, .P db2 0), (6, .P db6 0), (7, .I (dn + 1)), (8, .I i), (43, .I i)] ?_
                 refine qI .seq 44 (sq 2 3) ((i : Int) + 1) ?_
                 refine qF 1 [(0, .slice la ls.length lk), (1, .I n), (5, .P db2 0), (6, .P db6 0), (7, .I (dn + 1)), (8, .I ((i : Int) + 1))] ?_
                 skip
                 have H := H.pick [2] rfl
                 have H := H.drop (M' := ((diskM db2 D99 sa100 sk101 ++ diskM db6 D89 sa90 sk91))) (W' := [⟨stepS, 67, .slice sa100 D99.steps.length sk101, D99.steps⟩, ⟨stepS, 67, .slice sa90 D89.steps.length sk91, D89.steps⟩]) (by repeat (first | exact List.Sublist.refl _ | apply List.Sublist.cons_cons | apply List.Sublist.cons)) (by repeat (first | exact List.Sublist.refl _ | apply List.Sublist.cons_cons | apply List.Sublist.cons))
                 exact WK.back (hback14 (i + 1, D99, sa100, sk101, D89, sa90, sk91, dn + 1) _ ⟨H, by omega, hsim2, by omega, by omega, by omega, by omega⟩ (by first | omega | (simp only []; omega))) (by as_aux_lemma => kernel_rfl)
                ·
                 omega
             ·
              obtain ⟨hg, hD9, hF9⟩ := hB.bad h104
              have hsim2 : Sim D99 D89 := by rw [hD9, hF9]; exact hsim
              have hl2 : D99.left = D.left ∧ D99.steps.length ≤ D.steps.length ∧ D89.steps.length ≤ F.steps.length := by rw [hD9, hF9]; exact ⟨rfl, Nat.le_refl _, Nat.le_refl _⟩
              refine qF 4 [(0, .slice la ls.length lk), (1, .I n), (5, .P db2 0), (6, .P db6 0), (7, .I dn), (8, .I i), (10, .I e92), (11, .I e102), (139, .bool false)] ?_
              refine qR 5 [.c [5, 0, 1, 0, 0, 1, 0, 0, 7, 0, 1], .c [5, 0, 1, 0, 0, 1, 0, 0, 8], .b 1, .c [5, 0, 1, 0, 0, 2], .l [5, 0, 1, 0, 0], .b 0, .c [6]] [(0, .slice la ls.length lk), (1, .I n), (5, .P db2 0), (6, .P db6 0), (7, .I dn), (8, .I i), (10, .I e92), (149, .bool (e102 != e92))] ?_
              refine qN e102 e92 (fun h131 => ?_) (fun h131 => ?_)
              ·
               omega
              ·
               refine qR 3 [.c [5, 0, 1, 0, 0, 1, 0, 0, 9], .b 1, .c [5, 0, 1, 0, 0, 2], .l [5, 0, 1, 0, 0], .b 0, .c [6]] [(0, .slice la ls.length lk), (1, .I n), (5, .P db2 0), (6, .P db6 0), (7, .I dn), (8, .I i), (151, .bool (e92 == 0))] ?_
               refine qE e92 0 (fun h132 => ?_) (fun h132 => ?_)
               ·
                omega
               ·
                refine qR 2 [.c [5, 0, 1, 0, 0, 2], .l [5, 0, 1, 0, 0], .b 0, .c [6]] [(0, .slice la ls.length lk), (1, .I n), (5, .P db2 0), (6, .P db6 0), (7, .I dn), (8, .I i)] ?_
                refine qG (sq 0 3) ?_
                refine qP 1 (sq 1 3) [(0, .slice la ls.length lk), (1, .I n), (5, .P db2 0), (6, .P db6 0), (7, .I dn), (8, .I i), (43, .I i)] ?_
                refine qI .seq 44 (sq 2 3) ((i : Int) + 1) ?_
                refine qF 1 [(0, .slice la ls.length lk), (1, .I n), (5, .P db2 0), (6, .P db6 0), (7, .I dn), (8, .I ((i : Int) + 1))] ?_
                skip
                have H := H.pick [2] rfl
                have H := H.drop (M' := ((diskM db2 D99 sa100 sk101 ++ diskM db6 D89 sa90 sk91))) (W' := [⟨stepS, 67, .slice sa100 D99.steps.length sk101, D99.steps⟩, ⟨stepS, 67, .slice sa90 D89.steps.length sk91, D89.steps⟩]) (by repeat (first | exact List.Sublist.refl _ | apply List.Sublist.cons_cons | apply List.Sublist.cons)) (by repeat (first | exact List.Sublist.refl _ | apply List.Sublist.cons_cons | apply List.Sublist.cons))
                exact WK.back (hback14 (i + 1, D99, sa100, sk101, D89, sa90, sk91, dn) _ ⟨H, by omega, hsim2, by omega, by omega, by omega, by omega⟩ (by first | omega | (simp only []; omega))) (by as_aux_lemma => kernel_rfl)
            ·
             omega
         ·
          omega
     ·
      refine qF 9 [(0, .slice la ls.length lk), (1, .I n), (5, .P db2 0), (6, .P db6 0), (7, .I dn), (8, .I i), (9, .P b28 0), (66, .bool false)] ?_
      refine qR 6 [.c [5, 0, 1, 0, 0, 1, 0, 0, 3, 0, 0], .c [5, 0, 1, 0, 0, 1, 0, 0, 3, 0, 1], .c [5, 0, 1, 0, 0, 1, 0, 0, 4], .b 1, .c [5, 0, 1, 0, 0, 2], .l [5, 0, 1, 0, 0], .b 0, .c [6]] [(0, .slice la ls.length lk), (1, .I n), (5, .P db2 0), (6, .P db6 0), (7, .I dn), (8, .I i), (9, .P b28 0), (10, .I 0), (11, .I 0)] ?_
      refine qG (sq 0 2) ?_
      refine qP 1 (sq 1 2) [(0, .slice la ls.length lk), (1, .I n), (5, .P db2 0), (6, .P db6 0), (7, .I dn), (8, .I i), (9, .P b28 0), (10, .I 0), (11, .I 0), (67, .P b28 0)] ?_
      refine qL .seq 68 (sq 2 2) 3 b28 0 0 (.I ((ls[i]).kind)) (H.cells 0 rfl) ?_
      refine qF 0 [(0, .slice la ls.length lk), (1, .I n), (5, .P db2 0), (6, .P db6 0), (7, .I dn), (8, .I i), (9, .P b28 0), (10, .I 0), (11, .I 0), (68, .I ((ls[i]).kind))] ?_
      refine qR 3 [.c [5, 0, 1, 0, 0, 1, 0, 0, 3, 0, 1, 0, 1], .b 2, .c [5, 0, 1, 0, 0, 1, 0, 0, 4], .b 1, .c [5, 0, 1, 0, 0, 2], .l [5, 0, 1, 0, 0], .b 0, .c [6]] [(0, .slice la ls.length lk), (1, .I n), (5, .P db2 0), (6, .P db6 0), (7, .I dn), (8, .I i), (9, .P b28 0), (10, .I 0), (11, .I 0), (68, .I ((ls[i]).kind)), (69, .bool (((ls[i]).kind) == 1))] ?_
      refine qE ((ls[i]).kind) 1 (fun h133 => ?_) (fun h133 => ?_)
      ·
       omega
      ·
       refine qR 2 [.c [5, 0, 1, 0, 0, 1, 0, 0, 3, 0, 1, 0, 1, 1, 1], .b 2, .c [5, 0, 1, 0, 0, 1, 0, 0, 4], .b 1, .c [5, 0, 1, 0, 0, 2], .l [5, 0, 1, 0, 0], .b 0, .c [6]] [(0, .slice la ls.length lk), (1, .I n), (5, .P db2 0), (6, .P db6 0), (7, .I dn), (8, .I i), (9, .P b28 0), (10, .I 0), (11, .I 0), (68, .I ((ls[i]).kind)), (79, .bool (((ls[i]).kind) == 4))] ?_
       refine qE ((ls[i]).kind) 4 (fun h134 => ?_) (fun h134 => ?_)
       ·
        refine qG (sq 0 5) ?_
        refine qP 2 (sq 2 5) [(0, .slice la ls.length lk), (1, .I n), (5, .P db2 0), (6, .P db6 0), (7, .I dn), (8, .I i), (9, .P b28 0), (10, .I 0), (11, .I 0), (81, .P db6 0), (82, .P b28 1)] ?_
        refine qL .seq 83 (sq 3 5) 9 b28 1 1 (.string ((ls[i]).name)) (H.cells 0 rfl) ?_
        have H := H.frontW 1 (W' := [⟨stepS, 67, .slice sf F.steps.length kf, F.steps⟩, ⟨stepS, 67, .slice sa D.steps.length sk, D.steps⟩]) rfl
        have H := H.perms (M' := diskM db6 F sf kf ++ ([(b28, .cells #[.I ((ls[i]).kind), .string ((ls[i]).name), .string ((ls[i]).to), .I ((ls[i]).sector), .slice a4q22 ((ls[i]).data.length) k4q22] 40 (0, 0))] ++ diskM db2 D sa sk)) (W' := [⟨stepS, 67, .slice sf F.steps.length kf, F.steps⟩, ⟨stepS, 67, .slice sa D.steps.length sk, D.steps⟩]) (permB [(b28, .cells #[.I ((ls[i]).kind), .string ((ls[i]).name), .string ((ls[i]).to), .I ((ls[i]).sector), .slice a4q22 ((ls[i]).data.length) k4q22] 40 (0, 0))] (diskM db2 D sa sk) (diskM db6 F sf kf)) (List.Perm.refl _)
        refine RW.callS (d := some 84) (r := (sq 4 5)) (g := 9) (args := #[.P db6 0, .string ((ls[i]).name)]) (by as_aux_lemma => kernel_rfl) (dSync (hsim.okF) (by omega) (hsim.liveF) (fun h => by rw [hsim.off] at h; cases h) ((H.lend (M1 := diskM db6 F sf kf) (W1 := [⟨stepS, 67, .slice sf F.steps.length kf, F.steps⟩])).pick [] rfl)) ?_
        rintro _ w135 ⟨D136, sa137, sk138, ⟨e139, rfl, hR140⟩, H'⟩
        have H := H.back (M1 := diskM db6 F sf kf) (W1 := [⟨stepS, 67, .slice sf F.steps.length kf, F.steps⟩]) H'
        have H := H.perms (M' := ((b28, .cells #[.I ((ls[i]).kind), .string ((ls[i]).name), .string ((ls[i]).to), .I ((ls[i]).sector), .slice a4q22 ((ls[i]).data.length) k4q22] 40 (0, 0)) :: (diskM db2 D sa sk ++ diskM db6 D136 sa137 sk138))) (W' := [⟨stepS, 67, .slice sa137 D136.steps.length sk138, D136.steps⟩, ⟨stepS, 67, .slice sa D.steps.length sk, D.steps⟩]) ((permB [(b28, .cells #[.I ((ls[i]).kind), .string ((ls[i]).name), .string ((ls[i]).to), .I ((ls[i]).sector), .slice a4q22 ((ls[i]).data.length) k4q22] 40 (0, 0))] (diskM db2 D sa sk) (diskM db6 D136 sa137 sk138)).symm) (List.Perm.refl _)
        have H : Hp w S [] ((b28, .cells #[.I ((ls[i]).kind), .string ((ls[i]).name), .string ((ls[i]).to), .I ((ls[i]).sector), .slice a4q22 ((ls[i]).data.length) k4q22] 40 (0, 0)) :: (diskM db2 D sa sk ++ diskM db6 D136 sa137 sk138)) [⟨stepS, 67, .slice sa137 D136.steps.length sk138, D136.steps⟩, ⟨stepS, 67, .slice sa D.steps.length sk, D.steps⟩] [Rp SB [.slice a4q22 ((ls[i]).data.length) k4q22] ((ls[i]).data), Fc b18 o19 [.I ((ls[i]).kind), .string ((ls[i]).name), .string ((ls[i]).to), .I ((ls[i]).sector), .slice a4q22 ((ls[i]).data.length) k4q22], Rp (Shape.slice actS) [.slice la ls.length lk] ls] _ := H
        have hR140 : SyncR F ((ls[i]).name) e139 D136 := hR140
        refine qF 1 [(0, .slice la ls.length lk), (1, .I n), (5, .P db2 0), (6, .P db6 0), (7, .I dn), (8, .I i), (9, .P b28 0), (10, .I e139), (11, .I 0)] ?_
        refine qR 3 [.c [5, 0, 1, 0, 0, 1, 0, 0, 4, 0, 0], .c [5, 0, 1, 0, 0, 1, 0, 0, 4, 0, 1], .c [5, 0, 1, 0, 0, 1, 0, 0, 5], .b 1, .c [5, 0, 1, 0, 0, 2], .l [5, 0, 1, 0, 0], .b 0, .c [6]] [(0, .slice la ls.length lk), (1, .I n), (5, .P db2 0), (6, .P db6 0), (7, .I dn), (8, .I i), (9, .P b28 0), (10, .I e139), (11, .I 0)] ?_
        refine qG (sq 0 2) ?_
        refine qP 1 (sq 1 2) [(0, .slice la ls.length lk), (1, .I n), (5, .P db2 0), (6, .P db6 0), (7, .I dn), (8, .I i), (9, .P b28 0), (10, .I e139), (11, .I 0), (99, .P db2 0)] ?_
        have H := H.frontW 1 (W' := [⟨stepS, 67, .slice sa D.steps.length sk, D.steps⟩, ⟨stepS, 67, .slice sa137 D136.steps.length sk138, D136.steps⟩]) rfl
        have H := H.perms (M' := diskM db2 D sa sk ++ ([(b28, .cells #[.I ((ls[i]).kind), .string ((ls[i]).name), .string ((ls[i]).to), .I ((ls[i]).sector), .slice a4q22 ((ls[i]).data.length) k4q22] 40 (0, 0))] ++ diskM db6 D136 sa137 sk138)) (W' := [⟨stepS, 67, .slice sa D.steps.length sk, D.steps⟩, ⟨stepS, 67, .slice sa137 D136.steps.length sk138, D136.steps⟩]) (permA [(b28, .cells #[.I ((ls[i]).kind), .string ((ls[i]).name), .string ((ls[i]).to), .I ((ls[i]).sector), .slice a4q22 ((ls[i]).data.length) k4q22] 40 (0, 0))] (diskM db2 D sa sk) (diskM db6 D136 sa137 sk138)) (List.Perm.refl _)
        refine RW.callS (d := some 100) (r := (sq 2 2)) (g := 19) (args := #[.P db2 0]) (by as_aux_lemma => kernel_rfl) (dDead hsim.liveD ((H.lend (M1 := diskM db2 D sa sk) (W1 := [⟨stepS, 67, .slice sa D.steps.length sk, D.steps⟩])).pick [] rfl)) ?_
        rintro _ w141 ⟨rfl, H'⟩
        have H := H.back (M1 := diskM db2 D sa sk) (W1 := [⟨stepS, 67, .slice sa D.steps.length sk, D.steps⟩]) H'
        have H := H.perms (M' := ((b28, .cells #[.I ((ls[i]).kind), .string ((ls[i]).name), .string ((ls[i]).to), .I ((ls[i]).sector), .slice a4q22 ((ls[i]).data.length) k4q22] 40 (0, 0)) :: (diskM db2 D sa sk ++ diskM db6 D136 sa137 sk138))) (W' := [⟨stepS, 67, .slice sa D.steps.length sk, D.steps⟩, ⟨stepS, 67, .slice sa137 D136.steps.length sk138, D136.steps⟩]) ((permA [(b28, .cells #[.I ((ls[i]).kind), .string ((ls[i]).name), .string ((ls[i]).to), .I ((ls[i]).sector), .slice a4q22 ((ls[i]).data.length) k4q22] 40 (0, 0))] (diskM db2 D sa sk) (diskM db6 D136 sa137 sk138)).symm) (List.Perm.refl _)
        have H : Hp w S [] ((b28, .cells #[.I ((ls[i]).kind), .string ((ls[i]).name), .string ((ls[i]).to), .I ((ls[i]).sector), .slice a4q22 ((ls[i]).data.length) k4q22] 40 (0, 0)) :: (diskM db2 D sa sk ++ diskM db6 D136 sa137 sk138)) [⟨stepS, 67, .slice sa D.steps.length sk, D.steps⟩, ⟨stepS, 67, .slice sa137 D136.steps.length sk138, D136.steps⟩] [Rp SB [.slice a4q22 ((ls[i]).data.length) k4q22] ((ls[i]).data), Fc b18 o19 [.I ((ls[i]).kind), .string ((ls[i]).name), .string ((ls[i]).to), .I ((ls[i]).sector), .slice a4q22 ((ls[i]).data.length) k4q22], Rp (Shape.slice actS) [.slice la ls.length lk] ls] _ := H
        refine qF 0 [(0, .slice la ls.length lk), (1, .I n), (5, .P db2 0), (6, .P db6 0), (7, .I dn), (8, .I i), (9, .P b28 0), (10, .I e139), (11, .I 0), (100, .bool false)] ?_
        refine qR 4 [.c [5, 0, 1, 0, 0, 1, 0, 0, 5, 0, 0], .c [5, 0, 1, 0, 0, 1, 0, 0, 5, 0, 1], .c [5, 0, 1, 0, 0, 1, 0, 0, 6], .b 1, .c [5, 0, 1, 0, 0, 2], .l [5, 0, 1, 0, 0], .b 0, .c [6]] [(0, .slice la ls.length lk), (1, .I n), (5, .P db2 0), (6, .P db6 0), (7, .I dn), (8, .I i), (9, .P b28 0), (10, .I e139), (11, .I 0)] ?_
        refine qG (sq 0 2) ?_
        refine qP 1 (sq 1 2) [(0, .slice la ls.length lk), (1, .I n), (5, .P db2 0), (6, .P db6 0), (7, .I dn), (8, .I i), (9, .P b28 0), (10, .I e139), (11, .I 0), (101, .P b28 0)] ?_
        refine qL .seq 102 (sq 2 2) 3 b28 0 0 (.I ((ls[i]).kind)) (H.cells 0 rfl) ?_
        refine qF 0 [(0, .slice la ls.length lk), (1, .I n), (5, .P db2 0), (6, .P db6 0), (7, .I dn), (8, .I i), (9, .P b28 0), (10, .I e139), (11, .I 0), (102, .I ((ls[i]).kind))] ?_
        refine qR 3 [.c [5, 0, 1, 0, 0, 1, 0, 0, 5, 0, 1, 0, 1], .b 3, .c [5, 0, 1, 0, 0, 1, 0, 0, 6], .b 1, .c [5, 0, 1, 0, 0, 2], .l [5, 0, 1, 0, 0], .b 0, .c [6]] [(0, .slice la ls.length lk), (1, .I n), (5, .P db2 0), (6, .P db6 0), (7, .I dn), (8, .I i), (9, .P b28 0), (10, .I e139), (11, .I 0), (102, .I ((ls[i]).kind)), (103, .bool (((ls[i]).kind) == 1))] ?_
        refine qE ((ls[i]).kind) 1 (fun h142 => ?_) (fun h142 => ?_)
        ·
         omega
        ·
         refine qR 2 [.c [5, 0, 1, 0, 0, 1, 0, 0, 5, 0, 1, 0, 1, 1, 1], .b 3, .c [5, 0, 1, 0, 0, 1, 0, 0, 6], .b 1, .c [5, 0, 1, 0, 0, 2], .l [5, 0, 1, 0, 0], .b 0, .c [6]] [(0, .slice la ls.length lk), (1, .I n), (5, .P db2 0), (6, .P db6 0), (7, .I dn), (8, .I i), (9, .P b28 0), (10, .I e139), (11, .I 0), (102, .I ((ls[i]).kind)), (113, .bool (((ls[i]).kind) == 4))] ?_
         refine qE ((ls[i]).kind) 4 (fun h143 => ?_) (fun h143 => ?_)
         ·
          refine qG (sq 0 5) ?_
          refine qP 2 (sq 2 5) [(0, .slice la ls.length lk), (1, .I n), (5, .P db2 0), (6, .P db6 0), (7, .I dn), (8, .I i), (10, .I e139), (11, .I 0), (115, .P db2 0), (116, .P b28 1)] ?_
          refine qL .seq 117 (sq 3 5) 9 b28 1 1 (.string ((ls[i]).name)) (H.cells 0 rfl) ?_
          have H := H.perms (M' := diskM db2 D sa sk ++ ([(b28, .cells #[.I ((ls[i]).kind), .string ((ls[i]).name), .string ((ls[i]).to), .I ((ls[i]).sector), .slice a4q22 ((ls[i]).data.length) k4q22] 40 (0, 0))] ++ diskM db6 D136 sa137 sk138)) (W' := [⟨stepS, 67, .slice sa D.steps.length sk, D.steps⟩, ⟨stepS, 67, .slice sa137 D136.steps.length sk138, D136.steps⟩]) (permA [(b28, .cells #[.I ((ls[i]).kind), .string ((ls[i]).name), .string ((ls[i]).to), .I ((ls[i]).sector), .slice a4q22 ((ls[i]).data.length) k4q22] 40 (0, 0))] (diskM db2 D sa sk) (diskM db6 D136 sa137 sk138)) (List.Perm.refl _)
          refine RW.callS (d := some 118) (r := (sq 4 5)) (g := 9) (args := #[.P db2 0, .string ((ls[i]).name)]) (by as_aux_lemma => kernel_rfl) (dSync (hsim.okD) (by omega) (hsim.liveD) (fun _ => by omega) ((H.lend (M1 := diskM db2 D sa sk) (W1 := [⟨stepS, 67, .slice sa D.steps.length sk, D.steps⟩])).pick [] rfl)) ?_
          rintro _ w144 ⟨D145, sa146, sk147, ⟨e148, rfl, hR149⟩, H'⟩
          have H := H.back (M1 := diskM db2 D sa sk) (W1 := [⟨stepS, 67, .slice sa D.steps.length sk, D.steps⟩]) H'
          have H := H.perms (M' := ((b28, .cells #[.I ((ls[i]).kind), .string ((ls[i]).name), .string ((ls[i]).to), .I ((ls[i]).sector), .slice a4q22 ((ls[i]).data.length) k4q22] 40 (0, 0)) :: (diskM db2 D145 sa146 sk147 ++ diskM db6 D136 sa137 sk138))) (W' := [⟨stepS, 67, .slice sa146 D145.steps.length sk147, D145.steps⟩, ⟨stepS, 67, .slice sa137 D136.steps.length sk138, D136.steps⟩]) ((permA [(b28, .cells #[.I ((ls[i]).kind), .string ((ls[i]).name), .string ((ls[i]).to), .I ((ls[i]).sector), .slice a4q22 ((ls[i]).data.length) k4q22] 40 (0, 0))] (diskM db2 D145 sa146 sk147) (diskM db6 D136 sa137 sk138)).symm) (List.Perm.refl _)
          have H : Hp w S [] ((b28, .cells #[.I ((ls[i]).kind), .string ((ls[i]).name), .string ((ls[i]).to), .I ((ls[i]).sector), .slice a4q22 ((ls[i]).data.length) k4q22] 40 (0, 0)) :: (diskM db2 D145 sa146 sk147 ++ diskM db6 D136 sa137 sk138)) [⟨stepS, 67, .slice sa146 D145.steps.length sk147, D145.steps⟩, ⟨stepS, 67, .slice sa137 D136.steps.length sk138, D136.steps⟩] [Rp SB [.slice a4q22 ((ls[i]).data.length) k4q22] ((ls[i]).data), Fc b18 o19 [.I ((ls[i]).kind), .string ((ls[i]).name), .string ((ls[i]).to), .I ((ls[i]).sector), .slice a4q22 ((ls[i]).data.length) k4q22], Rp (Shape.slice actS) [.slice la ls.length lk] ls] _ := H
          have hR149 : SyncR D ((ls[i]).name) e148 D145 := hR149
          have hB := Both.sync hsim hR140 hR149
          refine qF 1 [(0, .slice la ls.length lk), (1, .I n), (5, .P db2 0), (6, .P db6 0), (7, .I dn), (8, .I i), (10, .I e139), (11, .I e148)] ?_
          refine qR 3 [.c [5, 0, 1, 0, 0, 1, 0, 0, 6, 0, 0], .c [5, 0, 1, 0, 0, 1, 0, 0, 6, 0, 1], .c [5, 0, 1, 0, 0, 1, 0, 0, 7], .b 1, .c [5, 0, 1, 0, 0, 2], .l [5, 0, 1, 0, 0], .b 0, .c [6]] [(0, .slice la ls.length lk), (1, .I n), (5, .P db2 0), (6, .P db6 0), (7, .I dn), (8, .I i), (10, .I e139), (11, .I e148)] ?_
          refine qG (sq 0 7) ?_
          refine qP 3 (sq 3 7) [(0, .slice la ls.length lk), (1, .I n), (5, .P db2 0), (6, .P db6 0), (7, .I dn), (8, .I i), (10, .I e139), (11, .I e148), (135, .bool (e139 == 0))] ?_
          refine tE (fun b_ => [(0, .slice la ls.length lk), (1, .I n), (5, .P db2 0), (6, .P db6 0), (7, .I dn), (8, .I i), (10, .I e139), (11, .I e148), (135, .bool b_)]) e139 0 (fun h150 => ?_) (fun h150 => ?_)
          ·
           refine qF 4 [(0, .slice la ls.length lk), (1, .I n), (5, .P db2 0), (6, .P db6 0), (7, .I dn), (8, .I i), (10, .I e139), (11, .I e148), (139, .bool (dn == n))] ?_
           refine qE dn n (fun h151 => ?_) (fun h151 => ?_)
           ·
            obtain ⟨hg, hdead2, hok2, hst2⟩ := hB.stop h150 (by omega)
            refine qR 2 [.c [5, 0, 1, 0, 0, 1, 0, 0, 6, 0, 1, 0, 0, 0], .c [5, 0, 1, 0, 0, 1, 0, 0, 6, 0, 1, 0, 0, 1], .c [5, 0, 1, 0, 0, 1, 0, 0, 6, 0, 1, 0, 1], .c [5, 0, 1, 0, 0, 1, 0, 0, 7], .b 1, .c [5, 0, 1, 0, 0, 2], .l [5, 0, 1, 0, 0], .b 0, .c [6]] [(5, .P db2 0), (11, .I e148)] ?_
            refine qG (sq 0 7) ?_
            refine qP 3 (sq 3 7) [(5, .P db2 0), (142, .bool (e148 != 70))] ?_
            refine tN (fun b_ => [(5, .P db2 0), (142, .bool b_)]) e148 70 (fun h152 => ?_) (fun h152 => ?_)
            ·
             omega
            ·
             refine qP 1 (sq 4 7) [(5, .P db2 0), (142, .bool false), (143, .P db2 0)] ?_
             have H := H.perms (M' := diskM db2 D145 sa146 sk147 ++ ([(b28, .cells #[.I ((ls[i]).kind), .string ((ls[i]).name), .string ((ls[i]).to), .I ((ls[i]).sector), .slice a4q22 ((ls[i]).data.length) k4q22] 40 (0, 0))] ++ diskM db6 D136 sa137 sk138)) (W' := [⟨stepS, 67, .slice sa146 D145.steps.length sk147, D145.steps⟩, ⟨stepS, 67, .slice sa137 D136.steps.length sk138, D136.steps⟩]) (permA [(b28, .cells #[.I ((ls[i]).kind), .string ((ls[i]).name), .string ((ls[i]).to), .I ((ls[i]).sector), .slice a4q22 ((ls[i]).data.length) k4q22] 40 (0, 0))] (diskM db2 D145 sa146 sk147) (diskM db6 D136 sa137 sk138)) (List.Perm.refl _)
             refine RW.callS (d := some 144) (r := (sq 5 7)) (g := 19) (args := #[.P db2 0]) (by as_aux_lemma => kernel_rfl) (dDeadT hdead2 ((H.lend (M1 := diskM db2 D145 sa146 sk147) (W1 := [⟨stepS, 67, .slice sa146 D145.steps.length sk147, D145.steps⟩])).pick [] rfl)) ?_
             rintro _ w153 ⟨rfl, H'⟩
             have H := H.back (M1 := diskM db2 D145 sa146 sk147) (W1 := [⟨stepS, 67, .slice sa146 D145.steps.length sk147, D145.steps⟩]) H'
             have H := H.perms (M' := ((b28, .cells #[.I ((ls[i]).kind), .string ((ls[i]).name), .string ((ls[i]).to), .I ((ls[i]).sector), .slice a4q22 ((ls[i]).data.length) k4q22] 40 (0, 0)) :: (diskM db2 D145 sa146 sk147 ++ diskM db6 D136 sa137 sk138))) (W' := [⟨stepS, 67, .slice sa146 D145.steps.length sk147, D145.steps⟩, ⟨stepS, 67, .slice sa137 D136.steps.length sk138, D136.steps⟩]) ((permA [(b28, .cells #[.I ((ls[i]).kind), .string ((ls[i]).name), .string ((ls[i]).to), .I ((ls[i]).sector), .slice a4q22 ((ls[i]).data.length) k4q22] 40 (0, 0))] (diskM db2 D145 sa146 sk147) (diskM db6 D136 sa137 sk138)).symm) (List.Perm.refl _)
             have H : Hp w S [] ((b28, .cells #[.I ((ls[i]).kind), .string ((ls[i]).name), .string ((ls[i]).to), .I ((ls[i]).sector), .slice a4q22 ((ls[i]).data.length) k4q22] 40 (0, 0)) :: (diskM db2 D145 sa146 sk147 ++ diskM db6 D136 sa137 sk138)) [⟨stepS, 67, .slice sa146 D145.steps.length sk147, D145.steps⟩, ⟨stepS, 67, .slice sa137 D136.steps.length sk138, D136.steps⟩] [Rp SB [.slice a4q22 ((ls[i]).data.length) k4q22] ((ls[i]).data), Fc b18 o19 [.I ((ls[i]).kind), .string ((ls[i]).name), .string ((ls[i]).to), .I ((ls[i]).sector), .slice a4q22 ((ls[i]).data.length) k4q22], Rp (Shape.slice actS) [.slice la ls.length lk] ls] _ := H
             refine qF 2 [(5, .P db2 0), (146, .bool false)] ?_
             refine qR 5 [.c [6, 0, 0], .c [6, 0, 1], .c [7]] [(5, .P db2 0)] ?_
             refine qG (sq 0 2) ?_
             refine qP 1 (sq 1 2) [(5, .P db2 0), (154, .P db2 0)] ?_
             have H := H.perms (M' := diskM db2 D145 sa146 sk147 ++ ([(b28, .cells #[.I ((ls[i]).kind), .string ((ls[i]).name), .string ((ls[i]).to), .I ((ls[i]).sector), .slice a4q22 ((ls[i]).data.length) k4q22] 40 (0, 0))] ++ diskM db6 D136 sa137 sk138)) (W' := [⟨stepS, 67, .slice sa146 D145.steps.length sk147, D145.steps⟩, ⟨stepS, 67, .slice sa137 D136.steps.length sk138, D136.steps⟩]) (permA [(b28, .cells #[.I ((ls[i]).kind), .string ((ls[i]).name), .string ((ls[i]).to), .I ((ls[i]).sector), .slice a4q22 ((ls[i]).data.length) k4q22] 40 (0, 0))] (diskM db2 D145 sa146 sk147) (diskM db6 D136 sa137 sk138)) (List.Perm.refl _)
             refine RW.callS (d := some 155) (r := (sq 2 2)) (g := 19) (args := #[.P db2 0]) (by as_aux_lemma => kernel_rfl) (dDeadT hdead2 ((H.lend (M1 := diskM db2 D145 sa146 sk147) (W1 := [⟨stepS, 67, .slice sa146 D145.steps.length sk147, D145.steps⟩])).pick [] rfl)) ?_
             rintro _ w154 ⟨rfl, H'⟩
             have H := H.back (M1 := diskM db2 D145 sa146 sk147) (W1 := [⟨stepS, 67, .slice sa146 D145.steps.length sk147, D145.steps⟩]) H'
             have H := H.perms (M' := ((b28, .cells #[.I ((ls[i]).kind), .string ((ls[i]).name), .string ((ls[i]).to), .I ((ls[i]).sector), .slice a4q22 ((ls[i]).data.length) k4q22] 40 (0, 0)) :: (diskM db2 D145 sa146 sk147 ++ diskM db6 D136 sa137 sk138))) (W' := [⟨stepS, 67, .slice sa146 D145.steps.length sk147, D145.steps⟩, ⟨stepS, 67, .slice sa137 D136.steps.length sk138, D136.steps⟩]) ((permA [(b28, .cells #[.I ((ls[i]).kind), .string ((ls[i]).name), .string ((ls[i]).to), .I ((ls[i]).sector), .slice a4q22 ((ls[i]).data.length) k4q22] 40 (0, 0))] (diskM db2 D145 sa146 sk147) (diskM db6 D136 sa137 sk138)).symm) (List.Perm.refl _)
             have H : Hp w S [] ((b28, .cells #[.I ((ls[i]).kind), .string ((ls[i]).name), .string ((ls[i]).to), .I ((ls[i]).sector), .slice a4q22 ((ls[i]).data.length) k4q22] 40 (0, 0)) :: (diskM db2 D145 sa146 sk147 ++ diskM db6 D136 sa137 sk138)) [⟨stepS, 67, .slice sa146 D145.steps.length sk147, D145.steps⟩, ⟨stepS, 67, .slice sa137 D136.steps.length sk138, D136.steps⟩] [Rp SB [.slice a4q22 ((ls[i]).data.length) k4q22] ((ls[i]).data), Fc b18 o19 [.I ((ls[i]).kind), .string ((ls[i]).name), .string ((ls[i]).to), .I ((ls[i]).sector), .slice a4q22 ((ls[i]).data.length) k4q22], Rp (Shape.slice actS) [.slice la ls.length lk] ls] _ := H
             refine qF 0 [(5, .P db2 0), (155, .bool true)] ?_
             refine qR 2 [.c [6, 0, 1, 0, 0], .c [6, 0, 1, 0, 1], .c [7]] [(5, .P db2 0)] ?_
             refine qG (sq 0 7) ?_
             refine qP 1 (sq 1 7) [(5, .P db2 0), (157, .P db2 0)] ?_
             have H := H.perms (M' := diskM db2 D145 sa146 sk147 ++ ([(b28, .cells #[.I ((ls[i]).kind), .string ((ls[i]).name), .string ((ls[i]).to), .I ((ls[i]).sector), .slice a4q22 ((ls[i]).data.length) k4q22] 40 (0, 0))] ++ diskM db6 D136 sa137 sk138)) (W' := [⟨stepS, 67, .slice sa146 D145.steps.length sk147, D145.steps⟩, ⟨stepS, 67, .slice sa137 D136.steps.length sk138, D136.steps⟩]) (permA [(b28, .cells #[.I ((ls[i]).kind), .string ((ls[i]).name), .string ((ls[i]).to), .I ((ls[i]).sector), .slice a4q22 ((ls[i]).data.length) k4q22] 40 (0, 0))] (diskM db2 D145 sa146 sk147) (diskM db6 D136 sa137 sk138)) (List.Perm.refl _)
             refine RW.callS (d := some 158) (r := (sq 2 7)) (g := 11) (args := #[.P db2 0, .string (⟨#[97]⟩ : ByteArray)]) (by as_aux_lemma => kernel_rfl) (dSizeX hdead2 ((H.lend (M1 := diskM db2 D145 sa146 sk147) (W1 := [⟨stepS, 67, .slice sa146 D145.steps.length sk147, D145.steps⟩])).pick [] rfl)) ?_
             rintro _ w155 ⟨rfl, H'⟩
             have H := H.back (M1 := diskM db2 D145 sa146 sk147) (W1 := [⟨stepS, 67, .slice sa146 D145.steps.length sk147, D145.steps⟩]) H'
             have H := H.perms (M' := ((b28, .cells #[.I ((ls[i]).kind), .string ((ls[i]).name), .string ((ls[i]).to), .I ((ls[i]).sector), .slice a4q22 ((ls[i]).data.length) k4q22] 40 (0, 0)) :: (diskM db2 D145 sa146 sk147 ++ diskM db6 D136 sa137 sk138))) (W' := [⟨stepS, 67, .slice sa146 D145.steps.length sk147, D145.steps⟩, ⟨stepS, 67, .slice sa137 D136.steps.length sk138, D136.steps⟩]) ((permA [(b28, .cells #[.I ((ls[i]).kind), .string ((ls[i]).name), .string ((ls[i]).to), .I ((ls[i]).sector), .slice a4q22 ((ls[i]).data.length) k4q22] 40 (0, 0))] (diskM db2 D145 sa146 sk147) (diskM db6 D136 sa137 sk138)).symm) (List.Perm.refl _)
             have H : Hp w S [] ((b28, .cells #[.I ((ls[i]).kind), .string ((ls[i]).name), .string ((ls[i]).to), .I ((ls[i]).sector), .slice a4q22 ((ls[i]).data.length) k4q22] 40 (0, 0)) :: (diskM db2 D145 sa146 sk147 ++ diskM db6 D136 sa137 sk138)) [⟨stepS, 67, .slice sa146 D145.steps.length sk147, D145.steps⟩, ⟨stepS, 67, .slice sa137 D136.steps.length sk138, D136.steps⟩] [Rp SB [.slice a4q22 ((ls[i]).data.length) k4q22] ((ls[i]).data), Fc b18 o19 [.I ((ls[i]).kind), .string ((ls[i]).name), .string ((ls[i]).to), .I ((ls[i]).sector), .slice a4q22 ((ls[i]).data.length) k4q22], Rp (Shape.slice actS) [.slice la ls.length lk] ls] _ := H
             refine qF 5 [(5, .P db2 0), (13, .I 70)] ?_
             refine qR 1 [.c [6, 0, 1, 0, 1, 0], .c [6, 0, 1, 0, 2], .c [7]] [(5, .P db2 0), (13, .I 70)] ?_
             refine qG (sq 0 14) ?_
             refine qP 4 (sq 4 14) [(5, .P db2 0), (163, .bool false), (164, .P db2 0)] ?_
             have H := H.perms (M' := diskM db2 D145 sa146 sk147 ++ ([(b28, .cells #[.I ((ls[i]).kind), .string ((ls[i]).name), .string ((ls[i]).to), .I ((ls[i]).sector), .slice a4q22 ((ls[i]).data.length) k4q22] 40 (0, 0))] ++ diskM db6 D136 sa137 sk138)) (W' := [⟨stepS, 67, .slice sa146 D145.steps.length sk147, D145.steps⟩, ⟨stepS, 67, .slice sa137 D136.steps.length sk138, D136.steps⟩]) (permA [(b28, .cells #[.I ((ls[i]).kind), .string ((ls[i]).name), .string ((ls[i]).to), .I ((ls[i]).sector), .slice a4q22 ((ls[i]).data.length) k4q22] 40 (0, 0))] (diskM db2 D145 sa146 sk147) (diskM db6 D136 sa137 sk138)) (List.Perm.refl _)
             refine RW.callS (d := some 165) (r := (sq 5 14)) (g := 20) (args := #[.P db2 0]) (by as_aux_lemma => kernel_rfl) (dNames hdead2 ((H.lend (M1 := diskM db2 D145 sa146 sk147) (W1 := [⟨stepS, 67, .slice sa146 D145.steps.length sk147, D145.steps⟩])).pick [] rfl)) ?_
             rintro _ w156 ⟨rfl, H'⟩
             have H := H.back (M1 := diskM db2 D145 sa146 sk147) (W1 := [⟨stepS, 67, .slice sa146 D145.steps.length sk147, D145.steps⟩]) H'
             have H := H.perms (M' := ((b28, .cells #[.I ((ls[i]).kind), .string ((ls[i]).name), .string ((ls[i]).to), .I ((ls[i]).sector), .slice a4q22 ((ls[i]).data.length) k4q22] 40 (0, 0)) :: (diskM db2 D145 sa146 sk147 ++ diskM db6 D136 sa137 sk138))) (W' := [⟨stepS, 67, .slice sa146 D145.steps.length sk147, D145.steps⟩, ⟨stepS, 67, .slice sa137 D136.steps.length sk138, D136.steps⟩]) ((permA [(b28, .cells #[.I ((ls[i]).kind), .string ((ls[i]).name), .string ((ls[i]).to), .I ((ls[i]).sector), .slice a4q22 ((ls[i]).data.length) k4q22] 40 (0, 0))] (diskM db2 D145 sa146 sk147) (diskM db6 D136 sa137 sk138)).symm) (List.Perm.refl _)
             have H : Hp w S [] ((b28, .cells #[.I ((ls[i]).kind), .string ((ls[i]).name), .string ((ls[i]).to), .I ((ls[i]).sector), .slice a4q22 ((ls[i]).data.length) k4q22] 40 (0, 0)) :: (diskM db2 D145 sa146 sk147 ++ diskM db6 D136 sa137 sk138)) [⟨stepS, 67, .slice sa146 D145.steps.length sk147, D145.steps⟩, ⟨stepS, 67, .slice sa137 D136.steps.length sk138, D136.steps⟩] [Rp SB [.slice a4q22 ((ls[i]).data.length) k4q22] ((ls[i]).data), Fc b18 o19 [.I ((ls[i]).kind), .string ((ls[i]).name), .string ((ls[i]).to), .I ((ls[i]).sector), .slice a4q22 ((ls[i]).data.length) k4q22], Rp (Shape.slice actS) [.slice la ls.length lk] ls] _ := H
             refine qP 5 (sq 10 14) [(5, .P db2 0), (169, .bool false), (170, .P db2 0)] ?_
             refine RW.makeW Sb (κ := .seq) (d := some 171) (r := (sq 11 14)) (T := 24) (e := 5) (by_ := 1) (v0 := .int .u8 0) (0#8 : BitVec 8) (kl := .i64) (kc := .i64) (lv := 64) (cv := 64) (by as_aux_lemma => kernel_rfl) (nofun) (by as_aux_lemma => kernel_rfl) rfl H 64 64 (by omega) (by omega) (by omega) (by omega) (by omega) (fun _ _ => rfl) ?_
             intro b157 w158 H
             have H : Hp w S [] ((b28, .cells #[.I ((ls[i]).kind), .string ((ls[i]).name), .string ((ls[i]).to), .I ((ls[i]).sector), .slice a4q22 ((ls[i]).data.length) k4q22] 40 (0, 0)) :: (diskM db2 D145 sa146 sk147 ++ diskM db6 D136 sa137 sk138)) [⟨Sb, 5, .slice (some ⟨b157, 0, none⟩) 64 64, (List.replicate 64 (0#8 : BitVec 8))⟩, ⟨stepS, 67, .slice sa146 D145.steps.length sk147, D145.steps⟩, ⟨stepS, 67, .slice sa137 D136.steps.length sk138, D136.steps⟩] [Rp SB [.slice a4q22 ((ls[i]).data.length) k4q22] ((ls[i]).data), Fc b18 o19 [.I ((ls[i]).kind), .string ((ls[i]).name), .string ((ls[i]).to), .I ((ls[i]).sector), .slice a4q22 ((ls[i]).data.length) k4q22], Rp (Shape.slice actS) [.slice la ls.length lk] ls] _ := H
             have H := H.frontW 1 (W' := [⟨stepS, 67, .slice sa146 D145.steps.length sk147, D145.steps⟩, ⟨Sb, 5, .slice (some ⟨b157, 0, none⟩) 64 64, (List.replicate 64 (0#8 : BitVec 8))⟩, ⟨stepS, 67, .slice sa137 D136.steps.length sk138, D136.steps⟩]) rfl
             have H := H.perms (M' := diskM db2 D145 sa146 sk147 ++ ([(b28, .cells #[.I ((ls[i]).kind), .string ((ls[i]).name), .string ((ls[i]).to), .I ((ls[i]).sector), .slice a4q22 ((ls[i]).data.length) k4q22] 40 (0, 0))] ++ diskM db6 D136 sa137 sk138)) (W' := [⟨stepS, 67, .slice sa146 D145.steps.length sk147, D145.steps⟩, ⟨Sb, 5, .slice (some ⟨b157, 0, none⟩) 64 64, (List.replicate 64 (0#8 : BitVec 8))⟩, ⟨stepS, 67, .slice sa137 D136.steps.length sk138, D136.steps⟩]) (permA [(b28, .cells #[.I ((ls[i]).kind), .string ((ls[i]).name), .string ((ls[i]).to), .I ((ls[i]).sector), .slice a4q22 ((ls[i]).data.length) k4q22] 40 (0, 0))] (diskM db2 D145 sa146 sk147) (diskM db6 D136 sa137 sk138)) (List.Perm.refl _)
             refine RW.callS (d := some 172) (r := (sq 12 14)) (g := 8) (args := #[.P db2 0, .string (⟨#[97]⟩ : ByteArray), .I 0, .slice (some ⟨b157, 0, none⟩) 64 64]) (by as_aux_lemma => kernel_rfl) (dWriteX hdead2 ((H.lend (M1 := diskM db2 D145 sa146 sk147) (W1 := [⟨stepS, 67, .slice sa146 D145.steps.length sk147, D145.steps⟩])).pick [] rfl)) ?_
             rintro _ w159 ⟨rfl, H'⟩
             have H := H.back (M1 := diskM db2 D145 sa146 sk147) (W1 := [⟨stepS, 67, .slice sa146 D145.steps.length sk147, D145.steps⟩]) H'
             have H := H.perms (M' := ((b28, .cells #[.I ((ls[i]).kind), .string ((ls[i]).name), .string ((ls[i]).to), .I ((ls[i]).sector), .slice a4q22 ((ls[i]).data.length) k4q22] 40 (0, 0)) :: (diskM db2 D145 sa146 sk147 ++ diskM db6 D136 sa137 sk138))) (W' := [⟨stepS, 67, .slice sa146 D145.steps.length sk147, D145.steps⟩, ⟨Sb, 5, .slice (some ⟨b157, 0, none⟩) 64 64, (List.replicate 64 (0#8 : BitVec 8))⟩, ⟨stepS, 67, .slice sa137 D136.steps.length sk138, D136.steps⟩]) ((permA [(b28, .cells #[.I ((ls[i]).kind), .string ((ls[i]).name), .string ((ls[i]).to), .I ((ls[i]).sector), .slice a4q22 ((ls[i]).data.length) k4q22] 40 (0, 0))] (diskM db2 D145 sa146 sk147) (diskM db6 D136 sa137 sk138)).symm) (List.Perm.refl _)
             have H : Hp w S [] ((b28, .cells #[.I ((ls[i]).kind), .string ((ls[i]).name), .string ((ls[i]).to), .I ((ls[i]).sector), .slice a4q22 ((ls[i]).data.length) k4q22] 40 (0, 0)) :: (diskM db2 D145 sa146 sk147 ++ diskM db6 D136 sa137 sk138)) [⟨stepS, 67, .slice sa146 D145.steps.length sk147, D145.steps⟩, ⟨Sb, 5, .slice (some ⟨b157, 0, none⟩) 64 64, (List.replicate 64 (0#8 : BitVec 8))⟩, ⟨stepS, 67, .slice sa137 D136.steps.length sk138, D136.steps⟩] [Rp SB [.slice a4q22 ((ls[i]).data.length) k4q22] ((ls[i]).data), Fc b18 o19 [.I ((ls[i]).kind), .string ((ls[i]).name), .string ((ls[i]).to), .I ((ls[i]).sector), .slice a4q22 ((ls[i]).data.length) k4q22], Rp (Shape.slice actS) [.slice la ls.length lk] ls] _ := H
             refine qF 2 [(5, .P db2 0), (174, .bool false)] ?_
             refine qR 3 [.c [7, 0], .c [8]] [(5, .P db2 0)] ?_
             refine qG (sq 0 2) ?_
             refine qP 1 (sq 1 2) [(5, .P db2 0), (175, .P db2 0)] ?_
             have H := H.perms (M' := diskM db2 D145 sa146 sk147 ++ ([(b28, .cells #[.I ((ls[i]).kind), .string ((ls[i]).name), .string ((ls[i]).to), .I ((ls[i]).sector), .slice a4q22 ((ls[i]).data.length) k4q22] 40 (0, 0))] ++ diskM db6 D136 sa137 sk138)) (W' := [⟨stepS, 67, .slice sa146 D145.steps.length sk147, D145.steps⟩, ⟨Sb, 5, .slice (some ⟨b157, 0, none⟩) 64 64, (List.replicate 64 (0#8 : BitVec 8))⟩, ⟨stepS, 67, .slice sa137 D136.steps.length sk138, D136.steps⟩]) (permA [(b28, .cells #[.I ((ls[i]).kind), .string ((ls[i]).name), .string ((ls[i]).to), .I ((ls[i]).sector), .slice a4q22 ((ls[i]).data.length) k4q22] 40 (0, 0))] (diskM db2 D145 sa146 sk147) (diskM db6 D136 sa137 sk138)) (List.Perm.refl _)
             refine RW.callS (d := some 176) (r := (sq 2 2)) (g := 10) (args := #[.P db2 0, .slice none 0 0]) (by as_aux_lemma => kernel_rfl) (dCrash0 (hok2) (by rw [hst2]; omega) ((H.lend (M1 := diskM db2 D145 sa146 sk147) (W1 := [⟨stepS, 67, .slice sa146 D145.steps.length sk147, D145.steps⟩])).pick [] rfl)) ?_
             rintro _ w160 ⟨rfl, ns161, nb162, H'⟩
             have H := H.back (M1 := diskM db2 D145 sa146 sk147) (W1 := [⟨stepS, 67, .slice sa146 D145.steps.length sk147, D145.steps⟩]) H'
             have H := H.perms (M' := ((b28, .cells #[.I ((ls[i]).kind), .string ((ls[i]).name), .string ((ls[i]).to), .I ((ls[i]).sector), .slice a4q22 ((ls[i]).data.length) k4q22] 40 (0, 0)) :: (diskM db2 (crashD D145 [] ns161 nb162) none 0 ++ diskM db6 D136 sa137 sk138))) (W' := [⟨stepS, 67, .slice none ((crashD D145 [] ns161 nb162).steps.length) 0, (crashD D145 [] ns161 nb162).steps⟩, ⟨Sb, 5, .slice (some ⟨b157, 0, none⟩) 64 64, (List.replicate 64 (0#8 : BitVec 8))⟩, ⟨stepS, 67, .slice sa137 D136.steps.length sk138, D136.steps⟩]) ((permA [(b28, .cells #[.I ((ls[i]).kind), .string ((ls[i]).name), .string ((ls[i]).to), .I ((ls[i]).sector), .slice a4q22 ((ls[i]).data.length) k4q22] 40 (0, 0))] (diskM db2 (crashD D145 [] ns161 nb162) none 0) (diskM db6 D136 sa137 sk138)).symm) (List.Perm.refl _)
             have H : Hp w S [] ((b28, .cells #[.I ((ls[i]).kind), .string ((ls[i]).name), .string ((ls[i]).to), .I ((ls[i]).sector), .slice a4q22 ((ls[i]).data.length) k4q22] 40 (0, 0)) :: (diskM db2 (crashD D145 [] ns161 nb162) none 0 ++ diskM db6 D136 sa137 sk138)) [⟨stepS, 67, .slice none ((crashD D145 [] ns161 nb162).steps.length) 0, (crashD D145 [] ns161 nb162).steps⟩, ⟨Sb, 5, .slice (some ⟨b157, 0, none⟩) 64 64, (List.replicate 64 (0#8 : BitVec 8))⟩, ⟨stepS, 67, .slice sa137 D136.steps.length sk138, D136.steps⟩] [Rp SB [.slice a4q22 ((ls[i]).data.length) k4q22] ((ls[i]).data), Fc b18 o19 [.I ((ls[i]).kind), .string ((ls[i]).name), .string ((ls[i]).to), .I ((ls[i]).sector), .slice a4q22 ((ls[i]).data.length) k4q22], Rp (Shape.slice actS) [.slice la ls.length lk] ls] _ := H
             have hokZ := DOk.crashD' hok2 [] ns161 nb162
             refine qF 0 [(5, .P db2 0)] ?_
             refine qR 1 [.c [8, 0], .c [9]] [(5, .P db2 0)] ?_
             refine qG (sq 0 13) ?_
             refine qP 1 (sq 1 13) [(5, .P db2 0), (177, .P db2 0)] ?_
             have H := H.perms (M' := diskM db2 (crashD D145 [] ns161 nb162) none 0 ++ ([(b28, .cells #[.I ((ls[i]).kind), .string ((ls[i]).name), .string ((ls[i]).to), .I ((ls[i]).sector), .slice a4q22 ((ls[i]).data.length) k4q22] 40 (0, 0))] ++ diskM db6 D136 sa137 sk138)) (W' := [⟨stepS, 67, .slice none ((crashD D145 [] ns161 nb162).steps.length) 0, (crashD D145 [] ns161 nb162).steps⟩, ⟨Sb, 5, .slice (some ⟨b157, 0, none⟩) 64 64, (List.replicate 64 (0#8 : BitVec 8))⟩, ⟨stepS, 67, .slice sa137 D136.steps.length sk138, D136.steps⟩]) (permA [(b28, .cells #[.I ((ls[i]).kind), .string ((ls[i]).name), .string ((ls[i]).to), .I ((ls[i]).sector), .slice a4q22 ((ls[i]).data.length) k4q22] 40 (0, 0))] (diskM db2 (crashD D145 [] ns161 nb162) none 0) (diskM db6 D136 sa137 sk138)) (List.Perm.refl _)
             refine RW.callS (d := some 178) (r := (sq 2 13)) (g := 19) (args := #[.P db2 0]) (by as_aux_lemma => kernel_rfl) (dDead rfl ((H.lend (M1 := diskM db2 (crashD D145 [] ns161 nb162) none 0) (W1 := [⟨stepS, 67, .slice none ((crashD D145 [] ns161 nb162).steps.length) 0, (crashD D145 [] ns161 nb162).steps⟩])).pick [] rfl)) ?_
             rintro _ w163 ⟨rfl, H'⟩
             have H := H.back (M1 := diskM db2 (crashD D145 [] ns161 nb162) none 0) (W1 := [⟨stepS, 67, .slice none ((crashD D145 [] ns161 nb162).steps.length) 0, (crashD D145 [] ns161 nb162).steps⟩]) H'
             have H := H.perms (M' := ((b28, .cells #[.I ((ls[i]).kind), .string ((ls[i]).name), .string ((ls[i]).to), .I ((ls[i]).sector), .slice a4q22 ((ls[i]).data.length) k4q22] 40 (0, 0)) :: (diskM db2 (crashD D145 [] ns161 nb162) none 0 ++ diskM db6 D136 sa137 sk138))) (W' := [⟨stepS, 67, .slice none ((crashD D145 [] ns161 nb162).steps.length) 0, (crashD D145 [] ns161 nb162).steps⟩, ⟨Sb, 5, .slice (some ⟨b157, 0, none⟩) 64 64, (List.replicate 64 (0#8 : BitVec 8))⟩, ⟨stepS, 67, .slice sa137 D136.steps.length sk138, D136.steps⟩]) ((permA [(b28, .cells #[.I ((ls[i]).kind), .string ((ls[i]).name), .string ((ls[i]).to), .I ((ls[i]).sector), .slice a4q22 ((ls[i]).data.length) k4q22] 40 (0, 0))] (diskM db2 (crashD D145 [] ns161 nb162) none 0) (diskM db6 D136 sa137 sk138)).symm) (List.Perm.refl _)
             have H : Hp w S [] ((b28, .cells #[.I ((ls[i]).kind), .string ((ls[i]).name), .string ((ls[i]).to), .I ((ls[i]).sector), .slice a4q22 ((ls[i]).data.length) k4q22] 40 (0, 0)) :: (diskM db2 (crashD D145 [] ns161 nb162) none 0 ++ diskM db6 D136 sa137 sk138)) [⟨stepS, 67, .slice none ((crashD D145 [] ns161 nb162).steps.length) 0, (crashD D145 [] ns161 nb162).steps⟩, ⟨Sb, 5, .slice (some ⟨b157, 0, none⟩) 64 64, (List.replicate 64 (0#8 : BitVec 8))⟩, ⟨stepS, 67, .slice sa137 D136.steps.length sk138, D136.steps⟩] [Rp SB [.slice a4q22 ((ls[i]).data.length) k4q22] ((ls[i]).data), Fc b18 o19 [.I ((ls[i]).kind), .string ((ls[i]).name), .string ((ls[i]).to), .I ((ls[i]).sector), .slice a4q22 ((ls[i]).data.length) k4q22], Rp (Shape.slice actS) [.slice la ls.length lk] ls] _ := H
             refine qP 3 (sq 5 13) [(180, .bool true), (181, .P db2 0)] ?_
             refine RW.makeW Sb (κ := .seq) (d := some 182) (r := (sq 6 13)) (T := 24) (e := 5) (by_ := 1) (v0 := .int .u8 0) (0#8 : BitVec 8) (kl := .i64) (kc := .i64) (lv := 64) (cv := 64) (by as_aux_lemma => kernel_rfl) (nofun) (by as_aux_lemma => kernel_rfl) rfl H 64 64 (by omega) (by omega) (by omega) (by omega) (by omega) (fun _ _ => rfl) ?_
             intro b164 w165 H
             have H : Hp w S [] ((b28, .cells #[.I ((ls[i]).kind), .string ((ls[i]).name), .string ((ls[i]).to), .I ((ls[i]).sector), .slice a4q22 ((ls[i]).data.length) k4q22] 40 (0, 0)) :: (diskM db2 (crashD D145 [] ns161 nb162) none 0 ++ diskM db6 D136 sa137 sk138)) [⟨Sb, 5, .slice (some ⟨b164, 0, none⟩) 64 64, (List.replicate 64 (0#8 : BitVec 8))⟩, ⟨stepS, 67, .slice none ((crashD D145 [] ns161 nb162).steps.length) 0, (crashD D145 [] ns161 nb162).steps⟩, ⟨Sb, 5, .slice (some ⟨b157, 0, none⟩) 64 64, (List.replicate 64 (0#8 : BitVec 8))⟩, ⟨stepS, 67, .slice sa137 D136.steps.length sk138, D136.steps⟩] [Rp SB [.slice a4q22 ((ls[i]).data.length) k4q22] ((ls[i]).data), Fc b18 o19 [.I ((ls[i]).kind), .string ((ls[i]).name), .string ((ls[i]).to), .I ((ls[i]).sector), .slice a4q22 ((ls[i]).data.length) k4q22], Rp (Shape.slice actS) [.slice la ls.length lk] ls] _ := H
             have H : Hp w S [] ((b28, .cells #[.I ((ls[i]).kind), .string ((ls[i]).name), .string ((ls[i]).to), .I ((ls[i]).sector), .slice a4q22 ((ls[i]).data.length) k4q22] 40 (0, 0)) :: (diskM db2 (crashD D145 [] ns161 nb162) none 0 ++ diskM db6 D136 sa137 sk138)) [⟨stepS, 67, .slice none ((crashD D145 [] ns161 nb162).steps.length) 0, (crashD D145 [] ns161 nb162).steps⟩, ⟨Sb, 5, .slice (some ⟨b157, 0, none⟩) 64 64, (List.replicate 64 (0#8 : BitVec 8))⟩, ⟨stepS, 67, .slice sa137 D136.steps.length sk138, D136.steps⟩] [Rp SB [.slice (some ⟨b164, 0, none⟩) 64 64] (List.replicate 64 (0#8 : BitVec 8)), Rp SB [.slice a4q22 ((ls[i]).data.length) k4q22] ((ls[i]).data), Fc b18 o19 [.I ((ls[i]).kind), .string ((ls[i]).name), .string ((ls[i]).to), .I ((ls[i]).sector), .slice a4q22 ((ls[i]).data.length) k4q22], Rp (Shape.slice actS) [.slice la ls.length lk] ls] _ := H.freezeW 0 rfl
             have H := H.perms (M' := diskM db2 (crashD D145 [] ns161 nb162) none 0 ++ ([(b28, .cells #[.I ((ls[i]).kind), .string ((ls[i]).name), .string ((ls[i]).to), .I ((ls[i]).sector), .slice a4q22 ((ls[i]).data.length) k4q22] 40 (0, 0))] ++ diskM db6 D136 sa137 sk138)) (W' := [⟨stepS, 67, .slice none ((crashD D145 [] ns161 nb162).steps.length) 0, (crashD D145 [] ns161 nb162).steps⟩, ⟨Sb, 5, .slice (some ⟨b157, 0, none⟩) 64 64, (List.replicate 64 (0#8 : BitVec 8))⟩, ⟨stepS, 67, .slice sa137 D136.steps.length sk138, D136.steps⟩]) (permA [(b28, .cells #[.I ((ls[i]).kind), .string ((ls[i]).name), .string ((ls[i]).to), .I ((ls[i]).sector), .slice a4q22 ((ls[i]).data.length) k4q22] 40 (0, 0))] (diskM db2 (crashD D145 [] ns161 nb162) none 0) (diskM db6 D136 sa137 sk138)) (List.Perm.refl _)
             refine RW.callS (d := some 183) (r := (sq 7 13)) (g := 8) (args := #[.P db2 0, .string (⟨#[122, 122, 57]⟩ : ByteArray), .I 0, .slice (some ⟨b164, 0, none⟩) 64 64]) (by as_aux_lemma => kernel_rfl) (dWriteN (hokZ) (Nat.zero_le _) (rfl) (fun h => by cases h) (by first | assumption | decide | (simp [maxLen]; done)) (by first | omega | decide) (xs := (List.replicate 64 (0#8 : BitVec 8))) (by simp) ((H.lend (M1 := diskM db2 (crashD D145 [] ns161 nb162) none 0) (W1 := [⟨stepS, 67, .slice none ((crashD D145 [] ns161 nb162).steps.length) 0, (crashD D145 [] ns161 nb162).steps⟩])).pick [0] rfl)) ?_
             rintro _ w166 ⟨D167, sa168, sk169, ⟨e170, rfl, hR171⟩, H'⟩
             have H := H.back (M1 := diskM db2 (crashD D145 [] ns161 nb162) none 0) (W1 := [⟨stepS, 67, .slice none ((crashD D145 [] ns161 nb162).steps.length) 0, (crashD D145 [] ns161 nb162).steps⟩]) H'
             have H := H.perms (M' := ((b28, .cells #[.I ((ls[i]).kind), .string ((ls[i]).name), .string ((ls[i]).to), .I ((ls[i]).sector), .slice a4q22 ((ls[i]).data.length) k4q22] 40 (0, 0)) :: (diskM db2 D167 sa168 sk169 ++ diskM db6 D136 sa137 sk138))) (W' := [⟨stepS, 67, .slice sa168 D167.steps.length sk169, D167.steps⟩, ⟨Sb, 5, .slice (some ⟨b157, 0, none⟩) 64 64, (List.replicate 64 (0#8 : BitVec 8))⟩, ⟨stepS, 67, .slice sa137 D136.steps.length sk138, D136.steps⟩]) ((permA [(b28, .cells #[.I ((ls[i]).kind), .string ((ls[i]).name), .string ((ls[i]).to), .I ((ls[i]).sector), .slice a4q22 ((ls[i]).data.length) k4q22] 40 (0, 0))] (diskM db2 D167 sa168 sk169) (diskM db6 D136 sa137 sk138)).symm) (List.Perm.refl _)
             have H : Hp w S [] ((b28, .cells #[.I ((ls[i]).kind), .string ((ls[i]).name), .string ((ls[i]).to), .I ((ls[i]).sector), .slice a4q22 ((ls[i]).data.length) k4q22] 40 (0, 0)) :: (diskM db2 D167 sa168 sk169 ++ diskM db6 D136 sa137 sk138)) [⟨stepS, 67, .slice sa168 D167.steps.length sk169, D167.steps⟩, ⟨Sb, 5, .slice (some ⟨b157, 0, none⟩) 64 64, (List.replicate 64 (0#8 : BitVec 8))⟩, ⟨stepS, 67, .slice sa137 D136.steps.length sk138, D136.steps⟩] [Rp SB [.slice (some ⟨b164, 0, none⟩) 64 64] (List.replicate 64 (0#8 : BitVec 8)), Rp SB [.slice a4q22 ((ls[i]).data.length) k4q22] ((ls[i]).data), Fc b18 o19 [.I ((ls[i]).kind), .string ((ls[i]).name), .string ((ls[i]).to), .I ((ls[i]).sector), .slice a4q22 ((ls[i]).data.length) k4q22], Rp (Shape.slice actS) [.slice la ls.length lk] ls] _ := H
             have hR171 : WriteR (crashD D145 [] ns161 nb162) (⟨#[122, 122, 57]⟩ : ByteArray) 0 (List.replicate 64 (0#8 : BitVec 8)) e170 D167 := hR171
             have he70 := WriteR.not70 hR171 (notStops rfl)
             refine qP 3 (sq 10 13) [(186, .bool (e170 != 70))] ?_
             refine tN (fun b_ => [(186, .bool b_)]) e170 70 (fun h172 => ?_) (fun h172 => ?_)
             ·
              refine qK .seq (some 187) (sq 11 13) 12 #[] (heads_spec (S := fun _ => True)) ?_
              rintro _ w173 hE174 rfl
              have H := H.ext hE174
              refine qF 2 [(4, .bool true)] ?_
              refine qT (.bool true) Try.func5 ?_
              exact ⟨_, rfl, H.done, rfl⟩
             ·
              exact absurd h172 he70
           ·
            obtain ⟨hg, hsim2, hleft2, hlD2, hlF2⟩ := hB.go h150 (by have := hsim.left0; omega)
            refine qR 4 [.c [5, 0, 1, 0, 0, 1, 0, 0, 7, 0, 1], .c [5, 0, 1, 0, 0, 1, 0, 0, 8], .b 1, .c [5, 0, 1, 0, 0, 2], .l [5, 0, 1, 0, 0], .b 0, .c [6]] [(0, .slice la ls.length lk), (1, .I n), (5, .P db2 0), (6, .P db6 0), (7, .I dn), (8, .I i), (10, .I e139), (149, .bool (e148 != e139))] ?_
            refine qN e148 e139 (fun h175 => ?_) (fun h175 => ?_)
            ·
             omega
            ·
             refine qR 3 [.c [5, 0, 1, 0, 0, 1, 0, 0, 9], .b 1, .c [5, 0, 1, 0, 0, 2], .l [5, 0, 1, 0, 0], .b 0, .c [6]] [(0, .slice la ls.length lk), (1, .I n), (5, .P db2 0), (6, .P db6 0), (7, .I dn), (8, .I i), (151, .bool (e139 == 0))] ?_
             refine qE e139 0 (fun h176 => ?_) (fun h176 => ?_)
             ·
              refine qG (sq 0 3) ?_
              refine qP 1 (sq 1 3) [(0, .slice la ls.length lk), (1, .I n), (5, .P db2 0), (6, .P db6 0), (7, .I dn), (8, .I i), (152, .I dn)] ?_
              refine qI .seq 153 (sq 2 3) (dn + 1) ?_
              refine qF 1 [(0, .slice la ls.length lk), (1, .I n), (5, .P db2 0), (6, .P db6 0), (7, .I (dn + 1)), (8, .I i)] ?_
              refine qR 1 [.c [5, 0, 1, 0, 0, 2], .l [5, 0, 1, 0, 0], .b 0, .c [6]] [(0, .slice la ls.length lk), (1, .I n), (5, .P db2 0), (6, .P db6 0), (7, .I (dn + 1)), (8, .I i)] ?_
              refine qG (sq 0 3) ?_
              refine qP 1 (sq 1 3) [(0, .slice la ls.length lk), (1, .I n), (5, .P db2 0), (6, .P db6 0), (7, .I (dn + 1)), (8, .I i), (43, .I i)] ?_
              refine qI .seq 44 (sq 2 3) ((i : Int) + 1) ?_
              refine qF 1 [(0, .slice la ls.length lk), (1, .I n), (5, .P db2 0), (6, .P db6 0), (7, .I (dn + 1)), (8, .I ((i : Int) + 1))] ?_
              skip
              have H := H.pick [2] rfl
              have H := H.drop (M' := ((diskM db2 D145 sa146 sk147 ++ diskM db6 D136 sa137 sk138))) (W' := [⟨stepS, 67, .slice sa146 D145.steps.length sk147, D145.steps⟩, ⟨stepS, 67, .slice sa137 D136.steps.length sk138, D136.steps⟩]) (by repeat (first | exact List.Sublist.refl _ | apply List.Sublist.cons_cons | apply List.Sublist.cons)) (by repeat (first | exact List.Sublist.refl _ | apply List.Sublist.cons_cons | apply List.Sublist.cons))
              exact WK.back (hback14 (i + 1, D145, sa146, sk147, D136, sa137, sk138, dn + 1) _ ⟨H, by omega, hsim2, by omega, by omega, by omega, by omega⟩ (by first | omega | (simp only []; omega))) (by as_aux_lemma => kernel_rfl)
             ·
              omega
          ·
           obtain ⟨hg, hD9, hF9⟩ := hB.bad h150
           have hsim2 : Sim D145 D136 := by rw [hD9, hF9]; exact hsim
           have hl2 : D145.left = D.left ∧ D145.steps.length ≤ D.steps.length ∧ D136.steps.length ≤ F.steps.length := by rw [hD9, hF9]; exact ⟨rfl, Nat.le_refl _, Nat.le_refl _⟩
           refine qF 4 [(0, .slice la ls.length lk), (1, .I n), (5, .P db2 0), (6, .P db6 0), (7, .I dn), (8, .I i), (10, .I e139), (11, .I e148), (139, .bool false)] ?_
           refine qR 5 [.c [5, 0, 1, 0, 0, 1, 0, 0, 7, 0, 1], .c [5, 0, 1, 0, 0, 1, 0, 0, 8], .b 1, .c [5, 0, 1, 0, 0, 2], .l [5, 0, 1, 0, 0], .b 0, .c [6]] [(0, .slice la ls.length lk), (1, .I n), (5, .P db2 0), (6, .P db6 0), (7, .I dn), (8, .I i), (10, .I e139), (149, .bool (e148 != e139))] ?_
           refine qN e148 e139 (fun h177 => ?_) (fun h177 => ?_)
           ·
            omega
           ·
            refine qR 3 [.c [5, 0, 1, 0, 0, 1, 0, 0, 9], .b 1, .c [5, 0, 1, 0, 0, 2], .l [5, 0, 1, 0, 0], .b 0, .c [6]] [(0, .slice la ls.length lk), (1, .I n), (5, .P db2 0), (6, .P db6 0), (7, .I dn), (8, .I i), (151, .bool (e139 == 0))] ?_
            refine qE e139 0 (fun h178 => ?_) (fun h178 => ?_)
            ·
             omega
            ·
             refine qR 2 [.c [5, 0, 1, 0, 0, 2], .l [5, 0, 1, 0, 0], .b 0, .c [6]] [(0, .slice la ls.length lk), (1, .I n), (5, .P db2 0), (6, .P db6 0), (7, .I dn), (8, .I i)] ?_
             refine qG (sq 0 3) ?_
             refine qP 1 (sq 1 3) [(0, .slice la ls.length lk), (1, .I n), (5, .P db2 0), (6, .P db6 0), (7, .I dn), (8, .I i), (43, .I i)] ?_
             refine qI .seq 44 (sq 2 3) ((i : Int) + 1) ?_
             refine qF 1 [(0, .slice la ls.length lk), (1, .I n), (5, .P db2 0), (6, .P db6 0), (7, .I dn), (8, .I ((i : Int) + 1))] ?_
             skip
             have H := H.pick [2] rfl
             have H := H.drop (M' := ((diskM db2 D145 sa146 sk147 ++ diskM db6 D136 sa137 sk138))) (W' := [⟨stepS, 67, .slice sa146 D145.steps.length sk147, D145.steps⟩, ⟨stepS, 67, .slice sa137 D136.steps.length sk138, D136.steps⟩]) (by repeat (first | exact List.Sublist.refl _ | apply List.Sublist.cons_cons | apply List.Sublist.cons)) (by repeat (first | exact List.Sublist.refl _ | apply List.Sublist.cons_cons | apply List.Sublist.cons))
             exact WK.back (hback14 (i + 1, D145, sa146, sk147, D136, sa137, sk138, dn) _ ⟨H, by omega, hsim2, by omega, by omega, by omega, by omega⟩ (by first | omega | (simp only []; omega))) (by as_aux_lemma => kernel_rfl)
         ·
          omega
       ·
        omega
    ·
     refine qF 14 [(0, .slice la ls.length lk), (1, .I n), (5, .P db2 0), (6, .P db6 0), (7, .I dn), (8, .I i), (9, .P b28 0), (66, .bool false)] ?_
     refine qR 6 [.c [5, 0, 1, 0, 0, 1, 0, 0, 3, 0, 0], .c [5, 0, 1, 0, 0, 1, 0, 0, 3, 0, 1], .c [5, 0, 1, 0, 0, 1, 0, 0, 4], .b 1, .c [5, 0, 1, 0, 0, 2], .l [5, 0, 1, 0, 0], .b 0, .c [6]] [(0, .slice la ls.length lk), (1, .I n), (5, .P db2 0), (6, .P db6 0), (7, .I dn), (8, .I i), (9, .P b28 0), (10, .I 0), (11, .I 0)] ?_
     refine qG (sq 0 2) ?_
     refine qP 1 (sq 1 2) [(0, .slice la ls.length lk), (1, .I n), (5, .P db2 0), (6, .P db6 0), (7, .I dn), (8, .I i), (9, .P b28 0), (10, .I 0), (11, .I 0), (67, .P b28 0)] ?_
     refine qL .seq 68 (sq 2 2) 3 b28 0 0 (.I ((ls[i]).kind)) (H.cells 0 rfl) ?_
     refine qF 0 [(0, .slice la ls.length lk), (1, .I n), (5, .P db2 0), (6, .P db6 0), (7, .I dn), (8, .I i), (9, .P b28 0), (10, .I 0), (11, .I 0), (68, .I ((ls[i]).kind))] ?_
     refine qR 3 [.c [5, 0, 1, 0, 0, 1, 0, 0, 3, 0, 1, 0, 1], .b 2, .c [5, 0, 1, 0, 0, 1, 0, 0, 4], .b 1, .c [5, 0, 1, 0, 0, 2], .l [5, 0, 1, 0, 0], .b 0, .c [6]] [(0, .slice la ls.length lk), (1, .I n), (5, .P db2 0), (6, .P db6 0), (7, .I dn), (8, .I i), (9, .P b28 0), (10, .I 0), (11, .I 0), (68, .I ((ls[i]).kind)), (69, .bool (((ls[i]).kind) == 1))] ?_
     refine qE ((ls[i]).kind) 1 (fun h179 => ?_) (fun h179 => ?_)
     ·
      refine qG (sq 0 9) ?_
      refine qP 2 (sq 2 9) [(0, .slice la ls.length lk), (1, .I n), (5, .P db2 0), (6, .P db6 0), (7, .I dn), (8, .I i), (9, .P b28 0), (10, .I 0), (11, .I 0), (71, .P db6 0), (72, .P b28 1)] ?_
      refine qL .seq 73 (sq 3 9) 9 b28 1 1 (.string ((ls[i]).name)) (H.cells 0 rfl) ?_
      refine qP 1 (sq 4 9) [(0, .slice la ls.length lk), (1, .I n), (5, .P db2 0), (6, .P db6 0), (7, .I dn), (8, .I i), (9, .P b28 0), (10, .I 0), (11, .I 0), (71, .P db6 0), (73, .string ((ls[i]).name)), (74, .P b28 3)] ?_
      refine qL .seq 75 (sq 5 9) 3 b28 3 3 (.I ((ls[i]).sector)) (H.cells 0 rfl) ?_
      refine qP 1 (sq 6 9) [(0, .slice la ls.length lk), (1, .I n), (5, .P db2 0), (6, .P db6 0), (7, .I dn), (8, .I i), (9, .P b28 0), (10, .I 0), (11, .I 0), (71, .P db6 0), (73, .string ((ls[i]).name)), (75, .I ((ls[i]).sector)), (76, .P b28 4)] ?_
      refine qL .seq 77 (sq 7 9) 24 b28 4 4 (.slice a4q22 ((ls[i]).data.length) k4q22) (H.cells 0 rfl) ?_
      have H := H.frontW 1 (W' := [⟨stepS, 67, .slice sf F.steps.length kf, F.steps⟩, ⟨stepS, 67, .slice sa D.steps.length sk, D.steps⟩]) rfl
      have H := H.perms (M' := diskM db6 F sf kf ++ ([(b28, .cells #[.I ((ls[i]).kind), .string ((ls[i]).name), .string ((ls[i]).to), .I ((ls[i]).sector), .slice a4q22 ((ls[i]).data.length) k4q22] 40 (0, 0))] ++ diskM db2 D sa sk)) (W' := [⟨stepS, 67, .slice sf F.steps.length kf, F.steps⟩, ⟨stepS, 67, .slice sa D.steps.length sk, D.steps⟩]) (permB [(b28, .cells #[.I ((ls[i]).kind), .string ((ls[i]).name), .string ((ls[i]).to), .I ((ls[i]).sector), .slice a4q22 ((ls[i]).data.length) k4q22] 40 (0, 0))] (diskM db2 D sa sk) (diskM db6 F sf kf)) (List.Perm.refl _)
      refine RW.callS (d := some 78) (r := (sq 8 9)) (g := 8) (args := #[.P db6 0, .string ((ls[i]).name), .I ((ls[i]).sector), .slice a4q22 ((ls[i]).data.length) k4q22]) (by as_aux_lemma => kernel_rfl) (dWriteN (hsim.okF) (by omega) (hsim.liveF) (fun h => by rw [hsim.off] at h; cases h) (by first | assumption | decide | (simp [maxLen]; done)) (by first | omega | decide) (xs := ((ls[i]).data)) (rfl) ((H.lend (M1 := diskM db6 F sf kf) (W1 := [⟨stepS, 67, .slice sf F.steps.length kf, F.steps⟩])).pick [0] rfl)) ?_
      rintro _ w180 ⟨D181, sa182, sk183, ⟨e184, rfl, hR185⟩, H'⟩
      have H := H.back (M1 := diskM db6 F sf kf) (W1 := [⟨stepS, 67, .slice sf F.steps.length kf, F.steps⟩]) H'
      have H := H.perms (M' := ((b28, .cells #[.I ((ls[i]).kind), .string ((ls[i]).name), .string ((ls[i]).to), .I ((ls[i]).sector), .slice a4q22 ((ls[i]).data.length) k4q22] 40 (0, 0)) :: (diskM db2 D sa sk ++ diskM db6 D181 sa182 sk183))) (W' := [⟨stepS, 67, .slice sa182 D181.steps.length sk183, D181.steps⟩, ⟨stepS, 67, .slice sa D.steps.length sk, D.steps⟩]) ((permB [(b28, .cells #[.I ((ls[i]).kind), .string ((ls[i]).name), .string ((ls[i]).to), .I ((ls[i]).sector), .slice a4q22 ((ls[i]).data.length) k4q22] 40 (0, 0))] (diskM db2 D sa sk) (diskM db6 D181 sa182 sk183)).symm) (List.Perm.refl _)
      have H : Hp w S [] ((b28, .cells #[.I ((ls[i]).kind), .string ((ls[i]).name), .string ((ls[i]).to), .I ((ls[i]).sector), .slice a4q22 ((ls[i]).data.length) k4q22] 40 (0, 0)) :: (diskM db2 D sa sk ++ diskM db6 D181 sa182 sk183)) [⟨stepS, 67, .slice sa182 D181.steps.length sk183, D181.steps⟩, ⟨stepS, 67, .slice sa D.steps.length sk, D.steps⟩] [Rp SB [.slice a4q22 ((ls[i]).data.length) k4q22] ((ls[i]).data), Fc b18 o19 [.I ((ls[i]).kind), .string ((ls[i]).name), .string ((ls[i]).to), .I ((ls[i]).sector), .slice a4q22 ((ls[i]).data.length) k4q22], Rp (Shape.slice actS) [.slice la ls.length lk] ls] _ := H
      have hR185 : WriteR F ((ls[i]).name) ((ls[i]).sector) ((ls[i]).data) e184 D181 := hR185
      refine qF 1 [(0, .slice la ls.length lk), (1, .I n), (5, .P db2 0), (6, .P db6 0), (7, .I dn), (8, .I i), (9, .P b28 0), (10, .I e184), (11, .I 0)] ?_
      refine qR 3 [.c [5, 0, 1, 0, 0, 1, 0, 0, 4, 0, 0], .c [5, 0, 1, 0, 0, 1, 0, 0, 4, 0, 1], .c [5, 0, 1, 0, 0, 1, 0, 0, 5], .b 1, .c [5, 0, 1, 0, 0, 2], .l [5, 0, 1, 0, 0], .b 0, .c [6]] [(0, .slice la ls.length lk), (1, .I n), (5, .P db2 0), (6, .P db6 0), (7, .I dn), (8, .I i), (9, .P b28 0), (10, .I e184), (11, .I 0)] ?_
      refine qG (sq 0 2) ?_
      refine qP 1 (sq 1 2) [(0, .slice la ls.length lk), (1, .I n), (5, .P db2 0), (6, .P db6 0), (7, .I dn), (8, .I i), (9, .P b28 0), (10, .I e184), (11, .I 0), (99, .P db2 0)] ?_
      have H := H.frontW 1 (W' := [⟨stepS, 67, .slice sa D.steps.length sk, D.steps⟩, ⟨stepS, 67, .slice sa182 D181.steps.length sk183, D181.steps⟩]) rfl
      have H := H.perms (M' := diskM db2 D sa sk ++ ([(b28, .cells #[.I ((ls[i]).kind), .string ((ls[i]).name), .string ((ls[i]).to), .I ((ls[i]).sector), .slice a4q22 ((ls[i]).data.length) k4q22] 40 (0, 0))] ++ diskM db6 D181 sa182 sk183)) (W' := [⟨stepS, 67, .slice sa D.steps.length sk, D.steps⟩, ⟨stepS, 67, .slice sa182 D181.steps.length sk183, D181.steps⟩]) (permA [(b28, .cells #[.I ((ls[i]).kind), .string ((ls[i]).name), .string ((ls[i]).to), .I ((ls[i]).sector), .slice a4q22 ((ls[i]).data.length) k4q22] 40 (0, 0))] (diskM db2 D sa sk) (diskM db6 D181 sa182 sk183)) (List.Perm.refl _)
      refine RW.callS (d := some 100) (r := (sq 2 2)) (g := 19) (args := #[.P db2 0]) (by as_aux_lemma => kernel_rfl) (dDead hsim.liveD ((H.lend (M1 := diskM db2 D sa sk) (W1 := [⟨stepS, 67, .slice sa D.steps.length sk, D.steps⟩])).pick [] rfl)) ?_
      rintro _ w186 ⟨rfl, H'⟩
      have H := H.back (M1 := diskM db2 D sa sk) (W1 := [⟨stepS, 67, .slice sa D.steps.length sk, D.steps⟩]) H'
      have H := H.perms (M' := ((b28, .cells #[.I ((ls[i]).kind), .string ((ls[i]).name), .string ((ls[i]).to), .I ((ls[i]).sector), .slice a4q22 ((ls[i]).data.length) k4q22] 40 (0, 0)) :: (diskM db2 D sa sk ++ diskM db6 D181 sa182 sk183))) (W' := [⟨stepS, 67, .slice sa D.steps.length sk, D.steps⟩, ⟨stepS, 67, .slice sa182 D181.steps.length sk183, D181.steps⟩]) ((permA [(b28, .cells #[.I ((ls[i]).kind), .string ((ls[i]).name), .string ((ls[i]).to), .I ((ls[i]).sector), .slice a4q22 ((ls[i]).data.length) k4q22] 40 (0, 0))] (diskM db2 D sa sk) (diskM db6 D181 sa182 sk183)).symm) (List.Perm.refl _)
      have H : Hp w S [] ((b28, .cells #[.I ((ls[i]).kind), .string ((ls[i]).name), .string ((ls[i]).to), .I ((ls[i]).sector), .slice a4q22 ((ls[i]).data.length) k4q22] 40 (0, 0)) :: (diskM db2 D sa sk ++ diskM db6 D181 sa182 sk183)) [⟨stepS, 67, .slice sa D.steps.length sk, D.steps⟩, ⟨stepS, 67, .slice sa182 D181.steps.length sk183, D181.steps⟩] [Rp SB [.slice a4q22 ((ls[i]).data.length) k4q22] ((ls[i]).data), Fc b18 o19 [.I ((ls[i]).kind), .string ((ls[i]).name), .string ((ls[i]).to), .I ((ls[i]).sector), .slice a4q22 ((ls[i]).data.length) k4q22], Rp (Shape.slice actS) [.slice la ls.length lk] ls] _ := H
      refine qF 0 [(0, .slice la ls.length lk), (1, .I n), (5, .P db2 0), (6, .P db6 0), (7, .I dn), (8, .I i), (9, .P b28 0), (10, .I e184), (11, .I 0), (100, .bool false)] ?_
      refine qR 4 [.c [5, 0, 1, 0, 0, 1, 0, 0, 5, 0, 0], .c [5, 0, 1, 0, 0, 1, 0, 0, 5, 0, 1], .c [5, 0, 1, 0, 0, 1, 0, 0, 6], .b 1, .c [5, 0, 1, 0, 0, 2], .l [5, 0, 1, 0, 0], .b 0, .c [6]] [(0, .slice la ls.length lk), (1, .I n), (5, .P db2 0), (6, .P db6 0), (7, .I dn), (8, .I i), (9, .P b28 0), (10, .I e184), (11, .I 0)] ?_
      refine qG (sq 0 2) ?_
      refine qP 1 (sq 1 2) [(0, .slice la ls.length lk), (1, .I n), (5, .P db2 0), (6, .P db6 0), (7, .I dn), (8, .I i), (9, .P b28 0), (10, .I e184), (11, .I 0), (101, .P b28 0)] ?_
      refine qL .seq 102 (sq 2 2) 3 b28 0 0 (.I ((ls[i]).kind)) (H.cells 0 rfl) ?_
      refine qF 0 [(0, .slice la ls.length lk), (1, .I n), (5, .P db2 0), (6, .P db6 0), (7, .I dn), (8, .I i), (9, .P b28 0), (10, .I e184), (11, .I 0), (102, .I ((ls[i]).kind))] ?_
      refine qR 3 [.c [5, 0, 1, 0, 0, 1, 0, 0, 5, 0, 1, 0, 1], .b 3, .c [5, 0, 1, 0, 0, 1, 0, 0, 6], .b 1, .c [5, 0, 1, 0, 0, 2], .l [5, 0, 1, 0, 0], .b 0, .c [6]] [(0, .slice la ls.length lk), (1, .I n), (5, .P db2 0), (6, .P db6 0), (7, .I dn), (8, .I i), (9, .P b28 0), (10, .I e184), (11, .I 0), (102, .I ((ls[i]).kind)), (103, .bool (((ls[i]).kind) == 1))] ?_
      refine qE ((ls[i]).kind) 1 (fun h187 => ?_) (fun h187 => ?_)
      ·
       refine qG (sq 0 9) ?_
       refine qP 2 (sq 2 9) [(0, .slice la ls.length lk), (1, .I n), (5, .P db2 0), (6, .P db6 0), (7, .I dn), (8, .I i), (9, .P b28 0), (10, .I e184), (11, .I 0), (105, .P db2 0), (106, .P b28 1)] ?_
       refine qL .seq 107 (sq 3 9) 9 b28 1 1 (.string ((ls[i]).name)) (H.cells 0 rfl) ?_
       refine qP 1 (sq 4 9) [(0, .slice la ls.length lk), (1, .I n), (5, .P db2 0), (6, .P db6 0), (7, .I dn), (8, .I i), (9, .P b28 0), (10, .I e184), (11, .I 0), (105, .P db2 0), (107, .string ((ls[i]).name)), (108, .P b28 3)] ?_
       refine qL .seq 109 (sq 5 9) 3 b28 3 3 (.I ((ls[i]).sector)) (H.cells 0 rfl) ?_
       refine qP 1 (sq 6 9) [(0, .slice la ls.length lk), (1, .I n), (5, .P db2 0), (6, .P db6 0), (7, .I dn), (8, .I i), (10, .I e184), (11, .I 0), (105, .P db2 0), (107, .string ((ls[i]).name)), (109, .I ((ls[i]).sector)), (110, .P b28 4)] ?_
       refine qL .seq 111 (sq 7 9) 24 b28 4 4 (.slice a4q22 ((ls[i]).data.length) k4q22) (H.cells 0 rfl) ?_
       have H := H.perms (M' := diskM db2 D sa sk ++ ([(b28, .cells #[.I ((ls[i]).kind), .string ((ls[i]).name), .string ((ls[i]).to), .I ((ls[i]).sector), .slice a4q22 ((ls[i]).data.length) k4q22] 40 (0, 0))] ++ diskM db6 D181 sa182 sk183)) (W' := [⟨stepS, 67, .slice sa D.steps.length sk, D.steps⟩, ⟨stepS, 67, .slice sa182 D181.steps.length sk183, D181.steps⟩]) (permA [(b28, .cells #[.I ((ls[i]).kind), .string ((ls[i]).name), .string ((ls[i]).to), .I ((ls[i]).sector), .slice a4q22 ((ls[i]).data.length) k4q22] 40 (0, 0))] (diskM db2 D sa sk) (diskM db6 D181 sa182 sk183)) (List.Perm.refl _)
       refine RW.callS (d := some 112) (r := (sq 8 9)) (g := 8) (args := #[.P db2 0, .string ((ls[i]).name), .I ((ls[i]).sector), .slice a4q22 ((ls[i]).data.length) k4q22]) (by as_aux_lemma => kernel_rfl) (dWriteN (hsim.okD) (by omega) (hsim.liveD) (fun _ => by omega) (by first | assumption | decide | (simp [maxLen]; done)) (by first | omega | decide) (xs := ((ls[i]).data)) (rfl) ((H.lend (M1 := diskM db2 D sa sk) (W1 := [⟨stepS, 67, .slice sa D.steps.length sk, D.steps⟩])).pick [0] rfl)) ?_
       rintro _ w188 ⟨D189, sa190, sk191, ⟨e192, rfl, hR193⟩, H'⟩
       have H := H.back (M1 := diskM db2 D sa sk) (W1 := [⟨stepS, 67, .slice sa D.steps.length sk, D.steps⟩]) H'
       have H := H.perms (M' := ((b28, .cells #[.I ((ls[i]).kind), .string ((ls[i]).name), .string ((ls[i]).to), .I ((ls[i]).sector), .slice a4q22 ((ls[i]).data.length) k4q22] 40 (0, 0)) :: (diskM db2 D189 sa190 sk191 ++ diskM db6 D181 sa182 sk183))) (W' := [⟨stepS, 67, .slice sa190 D189.steps.length sk191, D189.steps⟩, ⟨stepS, 67, .slice sa182 D181.steps.length sk183, D181.steps⟩]) ((permA [(b28, .cells #[.I ((ls[i]).kind), .string ((ls[i]).name), .string ((ls[i]).to), .I ((ls[i]).sector), .slice a4q22 ((ls[i]).data.length) k4q22] 40 (0, 0))] (diskM db2 D189 sa190 sk191) (diskM db6 D181 sa182 sk183)).symm) (List.Perm.refl _)
       have H : Hp w S [] ((b28, .cells #[.I ((ls[i]).kind), .string ((ls[i]).name), .string ((ls[i]).to), .I ((ls[i]).sector), .slice a4q22 ((ls[i]).data.length) k4q22] 40 (0, 0)) :: (diskM db2 D189 sa190 sk191 ++ diskM db6 D181 sa182 sk183)) [⟨stepS, 67, .slice sa190 D189.steps.length sk191, D189.steps⟩, ⟨stepS, 67, .slice sa182 D181.steps.length sk183, D181.steps⟩] [Rp SB [.slice a4q22 ((ls[i]).data.length) k4q22] ((ls[i]).data), Fc b18 o19 [.I ((ls[i]).kind), .string ((ls[i]).name), .string ((ls[i]).to), .I ((ls[i]).sector), .slice a4q22 ((ls[i]).data.length) k4q22], Rp (Shape.slice actS) [.slice la ls.length lk] ls] _ := H
       have hR193 : WriteR D ((ls[i]).name) ((ls[i]).sector) ((ls[i]).data) e192 D189 := hR193
       have hB := Both.write hsim (by assumption) hR185 hR193
       refine qF 1 [(0, .slice la ls.length lk), (1, .I n), (5, .P db2 0), (6, .P db6 0), (7, .I dn), (8, .I i), (10, .I e184), (11, .I e192)] ?_
       refine qR 3 [.c [5, 0, 1, 0, 0, 1, 0, 0, 6, 0, 0], .c [5, 0, 1, 0, 0, 1, 0, 0, 6, 0, 1], .c [5, 0, 1, 0, 0, 1, 0, 0, 7], .b 1, .c [5, 0, 1, 0, 0, 2], .l [5, 0, 1, 0, 0], .b 0, .c [6]] [(0, .slice la ls.length lk), (1, .I n), (5, .P db2 0), (6, .P db6 0), (7, .I dn), (8, .I i), (10, .I e184), (11, .I e192)] ?_
       refine qG (sq 0 7) ?_
       refine qP 3 (sq 3 7) [(0, .slice la ls.length lk), (1, .I n), (5, .P db2 0), (6, .P db6 0), (7, .I dn), (8, .I i), (10, .I e184), (11, .I e192), (135, .bool (e184 == 0))] ?_
       refine tE (fun b_ => [(0, .slice la ls.length lk), (1, .I n), (5, .P db2 0), (6, .P db6 0), (7, .I dn), (8, .I i), (10, .I e184), (11, .I e192), (135, .bool b_)]) e184 0 (fun h194 => ?_) (fun h194 => ?_)
       ·
        refine qF 4 [(0, .slice la ls.length lk), (1, .I n), (5, .P db2 0), (6, .P db6 0), (7, .I dn), (8, .I i), (10, .I e184), (11, .I e192), (139, .bool (dn == n))] ?_
        refine qE dn n (fun h195 => ?_) (fun h195 => ?_)
        ·
         obtain ⟨hg, hdead2, hok2, hst2⟩ := hB.stop h194 (by omega)
         refine qR 2 [.c [5, 0, 1, 0, 0, 1, 0, 0, 6, 0, 1, 0, 0, 0], .c [5, 0, 1, 0, 0, 1, 0, 0, 6, 0, 1, 0, 0, 1], .c [5, 0, 1, 0, 0, 1, 0, 0, 6, 0, 1, 0, 1], .c [5, 0, 1, 0, 0, 1, 0, 0, 7], .b 1, .c [5, 0, 1, 0, 0, 2], .l [5, 0, 1, 0, 0], .b 0, .c [6]] [(5, .P db2 0), (11, .I e192)] ?_
         refine qG (sq 0 7) ?_
         refine qP 3 (sq 3 7) [(5, .P db2 0), (142, .bool (e192 != 70))] ?_
         refine tN (fun b_ => [(5, .P db2 0), (142, .bool b_)]) e192 70 (fun h196 => ?_) (fun h196 => ?_)
         ·
          omega
         ·
          refine qP 1 (sq 4 7) [(5, .P db2 0), (142, .bool false), (143, .P db2 0)] ?_
          have H := H.perms (M' := diskM db2 D189 sa190 sk191 ++ ([(b28, .cells #[.I ((ls[i]).kind), .string ((ls[i]).name), .string ((ls[i]).to), .I ((ls[i]).sector), .slice a4q22 ((ls[i]).data.length) k4q22] 40 (0, 0))] ++ diskM db6 D181 sa182 sk183)) (W' := [⟨stepS, 67, .slice sa190 D189.steps.length sk191, D189.steps⟩, ⟨stepS, 67, .slice sa182 D181.steps.length sk183, D181.steps⟩]) (permA [(b28, .cells #[.I ((ls[i]).kind), .string ((ls[i]).name), .string ((ls[i]).to), .I ((ls[i]).sector), .slice a4q22 ((ls[i]).data.length) k4q22] 40 (0, 0))] (diskM db2 D189 sa190 sk191) (diskM db6 D181 sa182 sk183)) (List.Perm.refl _)
          refine RW.callS (d := some 144) (r := (sq 5 7)) (g := 19) (args := #[.P db2 0]) (by as_aux_lemma => kernel_rfl) (dDeadT hdead2 ((H.lend (M1 := diskM db2 D189 sa190 sk191) (W1 := [⟨stepS, 67, .slice sa190 D189.steps.length sk191, D189.steps⟩])).pick [] rfl)) ?_
          rintro _ w197 ⟨rfl, H'⟩
          have H := H.back (M1 := diskM db2 D189 sa190 sk191) (W1 := [⟨stepS, 67, .slice sa190 D189.steps.length sk191, D189.steps⟩]) H'
          have H := H.perms (M' := ((b28, .cells #[.I ((ls[i]).kind), .string ((ls[i]).name), .string ((ls[i]).to), .I ((ls[i]).sector), .slice a4q22 ((ls[i]).data.length) k4q22] 40 (0, 0)) :: (diskM db2 D189 sa190 sk191 ++ diskM db6 D181 sa182 sk183))) (W' := [⟨stepS, 67, .slice sa190 D189.steps.length sk191, D189.steps⟩, ⟨stepS, 67, .slice sa182 D181.steps.length sk183, D181.steps⟩]) ((permA [(b28, .cells #[.I ((ls[i]).kind), .string ((ls[i]).name), .string ((ls[i]).to), .I ((ls[i]).sector), .slice a4q22 ((ls[i]).data.length) k4q22] 40 (0, 0))] (diskM db2 D189 sa190 sk191) (diskM db6 D181 sa182 sk183)).symm) (List.Perm.refl _)
          have H : Hp w S [] ((b28, .cells #[.I ((ls[i]).kind), .string ((ls[i]).name), .string ((ls[i]).to), .I ((ls[i]).sector), .slice a4q22 ((ls[i]).data.length) k4q22] 40 (0, 0)) :: (diskM db2 D189 sa190 sk191 ++ diskM db6 D181 sa182 sk183)) [⟨stepS, 67, .slice sa190 D189.steps.length sk191, D189.steps⟩, ⟨stepS, 67, .slice sa182 D181.steps.length sk183, D181.steps⟩] [Rp SB [.slice a4q22 ((ls[i]).data.length) k4q22] ((ls[i]).data), Fc b18 o19 [.I ((ls[i]).kind), .string ((ls[i]).name), .string ((ls[i]).to), .I ((ls[i]).sector), .slice a4q22 ((ls[i]).data.length) k4q22], Rp (Shape.slice actS) [.slice la ls.length lk] ls] _ := H
          refine qF 2 [(5, .P db2 0), (146, .bool false)] ?_
          refine qR 5 [.c [6, 0, 0], .c [6, 0, 1], .c [7]] [(5, .P db2 0)] ?_
          refine qG (sq 0 2) ?_
          refine qP 1 (sq 1 2) [(5, .P db2 0), (154, .P db2 0)] ?_
          have H := H.perms (M' := diskM db2 D189 sa190 sk191 ++ ([(b28, .cells #[.I ((ls[i]).kind), .string ((ls[i]).name), .string ((ls[i]).to), .I ((ls[i]).sector), .slice a4q22 ((ls[i]).data.length) k4q22] 40 (0, 0))] ++ diskM db6 D181 sa182 sk183)) (W' := [⟨stepS, 67, .slice sa190 D189.steps.length sk191, D189.steps⟩, ⟨stepS, 67, .slice sa182 D181.steps.length sk183, D181.steps⟩]) (permA [(b28, .cells #[.I ((ls[i]).kind), .string ((ls[i]).name), .string ((ls[i]).to), .I ((ls[i]).sector), .slice a4q22 ((ls[i]).data.length) k4q22] 40 (0, 0))] (diskM db2 D189 sa190 sk191) (diskM db6 D181 sa182 sk183)) (List.Perm.refl _)
          refine RW.callS (d := some 155) (r := (sq 2 2)) (g := 19) (args := #[.P db2 0]) (by as_aux_lemma => kernel_rfl) (dDeadT hdead2 ((H.lend (M1 := diskM db2 D189 sa190 sk191) (W1 := [⟨stepS, 67, .slice sa190 D189.steps.length sk191, D189.steps⟩])).pick [] rfl)) ?_
          rintro _ w198 ⟨rfl, H'⟩
          have H := H.back (M1 := diskM db2 D189 sa190 sk191) (W1 := [⟨stepS, 67, .slice sa190 D189.steps.length sk191, D189.steps⟩]) H'
          have H := H.perms (M' := ((b28, .cells #[.I ((ls[i]).kind), .string ((ls[i]).name), .string ((ls[i]).to), .I ((ls[i]).sector), .slice a4q22 ((ls[i]).data.length) k4q22] 40 (0, 0)) :: (diskM db2 D189 sa190 sk191 ++ diskM db6 D181 sa182 sk183))) (W' := [⟨stepS, 67, .slice sa190 D189.steps.length sk191, D189.steps⟩, ⟨stepS, 67, .slice sa182 D181.steps.length sk183, D181.steps⟩]) ((permA [(b28, .cells #[.I ((ls[i]).kind), .string ((ls[i]).name), .string ((ls[i]).to), .I ((ls[i]).sector), .slice a4q22 ((ls[i]).data.length) k4q22] 40 (0, 0))] (diskM db2 D189 sa190 sk191) (diskM db6 D181 sa182 sk183)).symm) (List.Perm.refl _)
          have H : Hp w S [] ((b28, .cells #[.I ((ls[i]).kind), .string ((ls[i]).name), .string ((ls[i]).to), .I ((ls[i]).sector), .slice a4q22 ((ls[i]).data.length) k4q22] 40 (0, 0)) :: (diskM db2 D189 sa190 sk191 ++ diskM db6 D181 sa182 sk183)) [⟨stepS, 67, .slice sa190 D189.steps.length sk191, D189.steps⟩, ⟨stepS, 67, .slice sa182 D181.steps.length sk183, D181.steps⟩] [Rp SB [.slice a4q22 ((ls[i]).data.length) k4q22] ((ls[i]).data), Fc b18 o19 [.I ((ls[i]).kind), .string ((ls[i]).name), .string ((ls[i]).to), .I ((ls[i]).sector), .slice a4q22 ((ls[i]).data.length) k4q22], Rp (Shape.slice actS) [.slice la ls.length lk] ls] _ := H
          refine qF 0 [(5, .P db2 0), (155, .bool true)] ?_
          refine qR 2 [.c [6, 0, 1, 0, 0], .c [6, 0, 1, 0, 1], .c [7]] [(5, .P db2 0)] ?_
          refine qG (sq 0 7) ?_
          refine qP 1 (sq 1 7) [(5, .P db2 0), (157, .P db2 0)] ?_
          have H := H.perms (M' := diskM db2 D189 sa190 sk191 ++ ([(b28, .cells #[.I ((ls[i]).kind), .string ((ls[i]).name), .string ((ls[i]).to), .I ((ls[i]).sector), .slice a4q22 ((ls[i]).data.length) k4q22] 40 (0, 0))] ++ diskM db6 D181 sa182 sk183)) (W' := [⟨stepS, 67, .slice sa190 D189.steps.length sk191, D189.steps⟩, ⟨stepS, 67, .slice sa182 D181.steps.length sk183, D181.steps⟩]) (permA [(b28, .cells #[.I ((ls[i]).kind), .string ((ls[i]).name), .string ((ls[i]).to), .I ((ls[i]).sector), .slice a4q22 ((ls[i]).data.length) k4q22] 40 (0, 0))] (diskM db2 D189 sa190 sk191) (diskM db6 D181 sa182 sk183)) (List.Perm.refl _)
          refine RW.callS (d := some 158) (r := (sq 2 7)) (g := 11) (args := #[.P db2 0, .string (⟨#[97]⟩ : ByteArray)]) (by as_aux_lemma => kernel_rfl) (dSizeX hdead2 ((H.lend (M1 := diskM db2 D189 sa190 sk191) (W1 := [⟨stepS, 67, .slice sa190 D189.steps.length sk191, D189.steps⟩])).pick [] rfl)) ?_
          rintro _ w199 ⟨rfl, H'⟩
          have H := H.back (M1 := diskM db2 D189 sa190 sk191) (W1 := [⟨stepS, 67, .slice sa190 D189.steps.length sk191, D189.steps⟩]) H'
          have H := H.perms (M' := ((b28, .cells #[.I ((ls[i]).kind), .string ((ls[i]).name), .string ((ls[i]).to), .I ((ls[i]).sector), .slice a4q22 ((ls[i]).data.length) k4q22] 40 (0, 0)) :: (diskM db2 D189 sa190 sk191 ++ diskM db6 D181 sa182 sk183))) (W' := [⟨stepS, 67, .slice sa190 D189.steps.length sk191, D189.steps⟩, ⟨stepS, 67, .slice sa182 D181.steps.length sk183, D181.steps⟩]) ((permA [(b28, .cells #[.I ((ls[i]).kind), .string ((ls[i]).name), .string ((ls[i]).to), .I ((ls[i]).sector), .slice a4q22 ((ls[i]).data.length) k4q22] 40 (0, 0))] (diskM db2 D189 sa190 sk191) (diskM db6 D181 sa182 sk183)).symm) (List.Perm.refl _)
          have H : Hp w S [] ((b28, .cells #[.I ((ls[i]).kind), .string ((ls[i]).name), .string ((ls[i]).to), .I ((ls[i]).sector), .slice a4q22 ((ls[i]).data.length) k4q22] 40 (0, 0)) :: (diskM db2 D189 sa190 sk191 ++ diskM db6 D181 sa182 sk183)) [⟨stepS, 67, .slice sa190 D189.steps.length sk191, D189.steps⟩, ⟨stepS, 67, .slice sa182 D181.steps.length sk183, D181.steps⟩] [Rp SB [.slice a4q22 ((ls[i]).data.length) k4q22] ((ls[i]).data), Fc b18 o19 [.I ((ls[i]).kind), .string ((ls[i]).name), .string ((ls[i]).to), .I ((ls[i]).sector), .slice a4q22 ((ls[i]).data.length) k4q22], Rp (Shape.slice actS) [.slice la ls.length lk] ls] _ := H
          refine qF 5 [(5, .P db2 0), (13, .I 70)] ?_
          refine qR 1 [.c [6, 0, 1, 0, 1, 0], .c [6, 0, 1, 0, 2], .c [7]] [(5, .P db2 0), (13, .I 70)] ?_
          refine qG (sq 0 14) ?_
          refine qP 4 (sq 4 14) [(5, .P db2 0), (163, .bool false), (164, .P db2 0)] ?_
          have H := H.perms (M' := diskM db2 D189 sa190 sk191 ++ ([(b28, .cells #[.I ((ls[i]).kind), .string ((ls[i]).name), .string ((ls[i]).to), .I ((ls[i]).sector), .slice a4q22 ((ls[i]).data.length) k4q22] 40 (0, 0))] ++ diskM db6 D181 sa182 sk183)) (W' := [⟨stepS, 67, .slice sa190 D189.steps.length sk191, D189.steps⟩, ⟨stepS, 67, .slice sa182 D181.steps.length sk183, D181.steps⟩]) (permA [(b28, .cells #[.I ((ls[i]).kind), .string ((ls[i]).name), .string ((ls[i]).to), .I ((ls[i]).sector), .slice a4q22 ((ls[i]).data.length) k4q22] 40 (0, 0))] (diskM db2 D189 sa190 sk191) (diskM db6 D181 sa182 sk183)) (List.Perm.refl _)
          refine RW.callS (d := some 165) (r := (sq 5 14)) (g := 20) (args := #[.P db2 0]) (by as_aux_lemma => kernel_rfl) (dNames hdead2 ((H.lend (M1 := diskM db2 D189 sa190 sk191) (W1 := [⟨stepS, 67, .slice sa190 D189.steps.length sk191, D189.steps⟩])).pick [] rfl)) ?_
          rintro _ w200 ⟨rfl, H'⟩
          have H := H.back (M1 := diskM db2 D189 sa190 sk191) (W1 := [⟨stepS, 67, .slice sa190 D189.steps.length sk191, D189.steps⟩]) H'
          have H := H.perms (M' := ((b28, .cells #[.I ((ls[i]).kind), .string ((ls[i]).name), .string ((ls[i]).to), .I ((ls[i]).sector), .slice a4q22 ((ls[i]).data.length) k4q22] 40 (0, 0)) :: (diskM db2 D189 sa190 sk191 ++ diskM db6 D181 sa182 sk183))) (W' := [⟨stepS, 67, .slice sa190 D189.steps.length sk191, D189.steps⟩, ⟨stepS, 67, .slice sa182 D181.steps.length sk183, D181.steps⟩]) ((permA [(b28, .cells #[.I ((ls[i]).kind), .string ((ls[i]).name), .string ((ls[i]).to), .I ((ls[i]).sector), .slice a4q22 ((ls[i]).data.length) k4q22] 40 (0, 0))] (diskM db2 D189 sa190 sk191) (diskM db6 D181 sa182 sk183)).symm) (List.Perm.refl _)
          have H : Hp w S [] ((b28, .cells #[.I ((ls[i]).kind), .string ((ls[i]).name), .string ((ls[i]).to), .I ((ls[i]).sector), .slice a4q22 ((ls[i]).data.length) k4q22] 40 (0, 0)) :: (diskM db2 D189 sa190 sk191 ++ diskM db6 D181 sa182 sk183)) [⟨stepS, 67, .slice sa190 D189.steps.length sk191, D189.steps⟩, ⟨stepS, 67, .slice sa182 D181.steps.length sk183, D181.steps⟩] [Rp SB [.slice a4q22 ((ls[i]).data.length) k4q22] ((ls[i]).data), Fc b18 o19 [.I ((ls[i]).kind), .string ((ls[i]).name), .string ((ls[i]).to), .I ((ls[i]).sector), .slice a4q22 ((ls[i]).data.length) k4q22], Rp (Shape.slice actS) [.slice la ls.length lk] ls] _ := H
          refine qP 5 (sq 10 14) [(5, .P db2 0), (169, .bool false), (170, .P db2 0)] ?_
          refine RW.makeW Sb (κ := .seq) (d := some 171) (r := (sq 11 14)) (T := 24) (e := 5) (by_ := 1) (v0 := .int .u8 0) (0#8 : BitVec 8) (kl := .i64) (kc := .i64) (lv := 64) (cv := 64) (by as_aux_lemma => kernel_rfl) (nofun) (by as_aux_lemma => kernel_rfl) rfl H 64 64 (by omega) (by omega) (by omega) (by omega) (by omega) (fun _ _ => rfl) ?_
          intro b201 w202 H
          have H : Hp w S [] ((b28, .cells #[.I ((ls[i]).kind), .string ((ls[i]).name), .string ((ls[i]).to), .I ((ls[i]).sector), .slice a4q22 ((ls[i]).data.length) k4q22] 40 (0, 0)) :: (diskM db2 D189 sa190 sk191 ++ diskM db6 D181 sa182 sk183)) [⟨Sb, 5, .slice (some ⟨b201, 0, none⟩) 64 64, (List.replicate 64 (0#8 : BitVec 8))⟩, ⟨stepS, 67, .slice sa190 D189.steps.length sk191, D189.steps⟩, ⟨stepS, 67, .slice sa182 D181.steps.length sk183, D181.steps⟩] [Rp SB [.slice a4q22 ((ls[i]).data.length) k4q22] ((ls[i]).data), Fc b18 o19 [.I ((ls[i]).kind), .string ((ls[i]).name), .string ((ls[i]).to), .I ((ls[i]).sector), .slice a4q22 ((ls[i]).data.length) k4q22], Rp (Shape.slice actS) [.slice la ls.length lk] ls] _ := H
          have H := H.frontW 1 (W' := [⟨stepS, 67, .slice sa190 D189.steps.length sk191, D189.steps⟩, ⟨Sb, 5, .slice (some ⟨b201, 0, none⟩) 64 64, (List.replicate 64 (0#8 : BitVec 8))⟩, ⟨stepS, 67, .slice sa182 D181.steps.length sk183, D181.steps⟩]) rfl
          have H := H.perms (M' := diskM db2 D189 sa190 sk191 ++ ([(b28, .cells #[.I ((ls[i]).kind), .string ((ls[i]).name), .string ((ls[i]).to), .I ((ls[i]).sector), .slice a4q22 ((ls[i]).data.length) k4q22] 40 (0, 0))] ++ diskM db6 D181 sa182 sk183)) (W' := [⟨stepS, 67, .slice sa190 D189.steps.length sk191, D189.steps⟩, ⟨Sb, 5, .slice (some ⟨b201, 0, none⟩) 64 64, (List.replicate 64 (0#8 : BitVec 8))⟩, ⟨stepS, 67, .slice sa182 D181.steps.length sk183, D181.steps⟩]) (permA [(b28, .cells #[.I ((ls[i]).kind), .string ((ls[i]).name), .string ((ls[i]).to), .I ((ls[i]).sector), .slice a4q22 ((ls[i]).data.length) k4q22] 40 (0, 0))] (diskM db2 D189 sa190 sk191) (diskM db6 D181 sa182 sk183)) (List.Perm.refl _)
          refine RW.callS (d := some 172) (r := (sq 12 14)) (g := 8) (args := #[.P db2 0, .string (⟨#[97]⟩ : ByteArray), .I 0, .slice (some ⟨b201, 0, none⟩) 64 64]) (by as_aux_lemma => kernel_rfl) (dWriteX hdead2 ((H.lend (M1 := diskM db2 D189 sa190 sk191) (W1 := [⟨stepS, 67, .slice sa190 D189.steps.length sk191, D189.steps⟩])).pick [] rfl)) ?_
          rintro _ w203 ⟨rfl, H'⟩
          have H := H.back (M1 := diskM db2 D189 sa190 sk191) (W1 := [⟨stepS, 67, .slice sa190 D189.steps.length sk191, D189.steps⟩]) H'
          have H := H.perms (M' := ((b28, .cells #[.I ((ls[i]).kind), .string ((ls[i]).name), .string ((ls[i]).to), .I ((ls[i]).sector), .slice a4q22 ((ls[i]).data.length) k4q22] 40 (0, 0)) :: (diskM db2 D189 sa190 sk191 ++ diskM db6 D181 sa182 sk183))) (W' := [⟨stepS, 67, .slice sa190 D189.steps.length sk191, D189.steps⟩, ⟨Sb, 5, .slice (some ⟨b201, 0, none⟩) 64 64, (List.replicate 64 (0#8 : BitVec 8))⟩, ⟨stepS, 67, .slice sa182 D181.steps.length sk183, D181.steps⟩]) ((permA [(b28, .cells #[.I ((ls[i]).kind), .string ((ls[i]).name), .string ((ls[i]).to), .I ((ls[i]).sector), .slice a4q22 ((ls[i]).data.length) k4q22] 40 (0, 0))] (diskM db2 D189 sa190 sk191) (diskM db6 D181 sa182 sk183)).symm) (List.Perm.refl _)
          have H : Hp w S [] ((b28, .cells #[.I ((ls[i]).kind), .string ((ls[i]).name), .string ((ls[i]).to), .I ((ls[i]).sector), .slice a4q22 ((ls[i]).data.length) k4q22] 40 (0, 0)) :: (diskM db2 D189 sa190 sk191 ++ diskM db6 D181 sa182 sk183)) [⟨stepS, 67, .slice sa190 D189.steps.length sk191, D189.steps⟩, ⟨Sb, 5, .slice (some ⟨b201, 0, none⟩) 64 64, (List.replicate 64 (0#8 : BitVec 8))⟩, ⟨stepS, 67, .slice sa182 D181.steps.length sk183, D181.steps⟩] [Rp SB [.slice a4q22 ((ls[i]).data.length) k4q22] ((ls[i]).data), Fc b18 o19 [.I ((ls[i]).kind), .string ((ls[i]).name), .string ((ls[i]).to), .I ((ls[i]).sector), .slice a4q22 ((ls[i]).data.length) k4q22], Rp (Shape.slice actS) [.slice la ls.length lk] ls] _ := H
          refine qF 2 [(5, .P db2 0), (174, .bool false)] ?_
          refine qR 3 [.c [7, 0], .c [8]] [(5, .P db2 0)] ?_
          refine qG (sq 0 2) ?_
          refine qP 1 (sq 1 2) [(5, .P db2 0), (175, .P db2 0)] ?_
          have H := H.perms (M' := diskM db2 D189 sa190 sk191 ++ ([(b28, .cells #[.I ((ls[i]).kind), .string ((ls[i]).name), .string ((ls[i]).to), .I ((ls[i]).sector), .slice a4q22 ((ls[i]).data.length) k4q22] 40 (0, 0))] ++ diskM db6 D181 sa182 sk183)) (W' := [⟨stepS, 67, .slice sa190 D189.steps.length sk191, D189.steps⟩, ⟨Sb, 5, .slice (some ⟨b201, 0, none⟩) 64 64, (List.replicate 64 (0#8 : BitVec 8))⟩, ⟨stepS, 67, .slice sa182 D181.steps.length sk183, D181.steps⟩]) (permA [(b28, .cells #[.I ((ls[i]).kind), .string ((ls[i]).name), .string ((ls[i]).to), .I ((ls[i]).sector), .slice a4q22 ((ls[i]).data.length) k4q22] 40 (0, 0))] (diskM db2 D189 sa190 sk191) (diskM db6 D181 sa182 sk183)) (List.Perm.refl _)
          refine RW.callS (d := some 176) (r := (sq 2 2)) (g := 10) (args := #[.P db2 0, .slice none 0 0]) (by as_aux_lemma => kernel_rfl) (dCrash0 (hok2) (by rw [hst2]; omega) ((H.lend (M1 := diskM db2 D189 sa190 sk191) (W1 := [⟨stepS, 67, .slice sa190 D189.steps.length sk191, D189.steps⟩])).pick [] rfl)) ?_
          rintro _ w204 ⟨rfl, ns205, nb206, H'⟩
          have H := H.back (M1 := diskM db2 D189 sa190 sk191) (W1 := [⟨stepS, 67, .slice sa190 D189.steps.length sk191, D189.steps⟩]) H'
          have H := H.perms (M' := ((b28, .cells #[.I ((ls[i]).kind), .string ((ls[i]).name), .string ((ls[i]).to), .I ((ls[i]).sector), .slice a4q22 ((ls[i]).data.length) k4q22] 40 (0, 0)) :: (diskM db2 (crashD D189 [] ns205 nb206) none 0 ++ diskM db6 D181 sa182 sk183))) (W' := [⟨stepS, 67, .slice none ((crashD D189 [] ns205 nb206).steps.length) 0, (crashD D189 [] ns205 nb206).steps⟩, ⟨Sb, 5, .slice (some ⟨b201, 0, none⟩) 64 64, (List.replicate 64 (0#8 : BitVec 8))⟩, ⟨stepS, 67, .slice sa182 D181.steps.length sk183, D181.steps⟩]) ((permA [(b28, .cells #[.I ((ls[i]).kind), .string ((ls[i]).name), .string ((ls[i]).to), .I ((ls[i]).sector), .slice a4q22 ((ls[i]).data.length) k4q22] 40 (0, 0))] (diskM db2 (crashD D189 [] ns205 nb206) none 0) (diskM db6 D181 sa182 sk183)).symm) (List.Perm.refl _)
          have H : Hp w S [] ((b28, .cells #[.I ((ls[i]).kind), .string ((ls[i]).name), .string ((ls[i]).to), .I ((ls[i]).sector), .slice a4q22 ((ls[i]).data.length) k4q22] 40 (0, 0)) :: (diskM db2 (crashD D189 [] ns205 nb206) none 0 ++ diskM db6 D181 sa182 sk183)) [⟨stepS, 67, .slice none ((crashD D189 [] ns205 nb206).steps.length) 0, (crashD D189 [] ns205 nb206).steps⟩, ⟨Sb, 5, .slice (some ⟨b201, 0, none⟩) 64 64, (List.replicate 64 (0#8 : BitVec 8))⟩, ⟨stepS, 67, .slice sa182 D181.steps.length sk183, D181.steps⟩] [Rp SB [.slice a4q22 ((ls[i]).data.length) k4q22] ((ls[i]).data), Fc b18 o19 [.I ((ls[i]).kind), .string ((ls[i]).name), .string ((ls[i]).to), .I ((ls[i]).sector), .slice a4q22 ((ls[i]).data.length) k4q22], Rp (Shape.slice actS) [.slice la ls.length lk] ls] _ := H
          have hokZ := DOk.crashD' hok2 [] ns205 nb206
          refine qF 0 [(5, .P db2 0)] ?_
          refine qR 1 [.c [8, 0], .c [9]] [(5, .P db2 0)] ?_
          refine qG (sq 0 13) ?_
          refine qP 1 (sq 1 13) [(5, .P db2 0), (177, .P db2 0)] ?_
          have H := H.perms (M' := diskM db2 (crashD D189 [] ns205 nb206) none 0 ++ ([(b28, .cells #[.I ((ls[i]).kind), .string ((ls[i]).name), .string ((ls[i]).to), .I ((ls[i]).sector), .slice a4q22 ((ls[i]).data.length) k4q22] 40 (0, 0))] ++ diskM db6 D181 sa182 sk183)) (W' := [⟨stepS, 67, .slice none ((crashD D189 [] ns205 nb206).steps.length) 0, (crashD D189 [] ns205 nb206).steps⟩, ⟨Sb, 5, .slice (some ⟨b201, 0, none⟩) 64 64, (List.replicate 64 (0#8 : BitVec 8))⟩, ⟨stepS, 67, .slice sa182 D181.steps.length sk183, D181.steps⟩]) (permA [(b28, .cells #[.I ((ls[i]).kind), .string ((ls[i]).name), .string ((ls[i]).to), .I ((ls[i]).sector), .slice a4q22 ((ls[i]).data.length) k4q22] 40 (0, 0))] (diskM db2 (crashD D189 [] ns205 nb206) none 0) (diskM db6 D181 sa182 sk183)) (List.Perm.refl _)
          refine RW.callS (d := some 178) (r := (sq 2 13)) (g := 19) (args := #[.P db2 0]) (by as_aux_lemma => kernel_rfl) (dDead rfl ((H.lend (M1 := diskM db2 (crashD D189 [] ns205 nb206) none 0) (W1 := [⟨stepS, 67, .slice none ((crashD D189 [] ns205 nb206).steps.length) 0, (crashD D189 [] ns205 nb206).steps⟩])).pick [] rfl)) ?_
          rintro _ w207 ⟨rfl, H'⟩
          have H := H.back (M1 := diskM db2 (crashD D189 [] ns205 nb206) none 0) (W1 := [⟨stepS, 67, .slice none ((crashD D189 [] ns205 nb206).steps.length) 0, (crashD D189 [] ns205 nb206).steps⟩]) H'
          have H := H.perms (M' := ((b28, .cells #[.I ((ls[i]).kind), .string ((ls[i]).name), .string ((ls[i]).to), .I ((ls[i]).sector), .slice a4q22 ((ls[i]).data.length) k4q22] 40 (0, 0)) :: (diskM db2 (crashD D189 [] ns205 nb206) none 0 ++ diskM db6 D181 sa182 sk183))) (W' := [⟨stepS, 67, .slice none ((crashD D189 [] ns205 nb206).steps.length) 0, (crashD D189 [] ns205 nb206).steps⟩, ⟨Sb, 5, .slice (some ⟨b201, 0, none⟩) 64 64, (List.replicate 64 (0#8 : BitVec 8))⟩, ⟨stepS, 67, .slice sa182 D181.steps.length sk183, D181.steps⟩]) ((permA [(b28, .cells #[.I ((ls[i]).kind), .string ((ls[i]).name), .string ((ls[i]).to), .I ((ls[i]).sector), .slice a4q22 ((ls[i]).data.length) k4q22] 40 (0, 0))] (diskM db2 (crashD D189 [] ns205 nb206) none 0) (diskM db6 D181 sa182 sk183)).symm) (List.Perm.refl _)
          have H : Hp w S [] ((b28, .cells #[.I ((ls[i]).kind), .string ((ls[i]).name), .string ((ls[i]).to), .I ((ls[i]).sector), .slice a4q22 ((ls[i]).data.length) k4q22] 40 (0, 0)) :: (diskM db2 (crashD D189 [] ns205 nb206) none 0 ++ diskM db6 D181 sa182 sk183)) [⟨stepS, 67, .slice none ((crashD D189 [] ns205 nb206).steps.length) 0, (crashD D189 [] ns205 nb206).steps⟩, ⟨Sb, 5, .slice (some ⟨b201, 0, none⟩) 64 64, (List.replicate 64 (0#8 : BitVec 8))⟩, ⟨stepS, 67, .slice sa182 D181.steps.length sk183, D181.steps⟩] [Rp SB [.slice a4q22 ((ls[i]).data.length) k4q22] ((ls[i]).data), Fc b18 o19 [.I ((ls[i]).kind), .string ((ls[i]).name), .string ((ls[i]).to), .I ((ls[i]).sector), .slice a4q22 ((ls[i]).data.length) k4q22], Rp (Shape.slice actS) [.slice la ls.length lk] ls] _ := H
          refine qP 3 (sq 5 13) [(180, .bool true), (181, .P db2 0)] ?_
          refine RW.makeW Sb (κ := .seq) (d := some 182) (r := (sq 6 13)) (T := 24) (e := 5) (by_ := 1) (v0 := .int .u8 0) (0#8 : BitVec 8) (kl := .i64) (kc := .i64) (lv := 64) (cv := 64) (by as_aux_lemma => kernel_rfl) (nofun) (by as_aux_lemma => kernel_rfl) rfl H 64 64 (by omega) (by omega) (by omega) (by omega) (by omega) (fun _ _ => rfl) ?_
          intro b208 w209 H
          have H : Hp w S [] ((b28, .cells #[.I ((ls[i]).kind), .string ((ls[i]).name), .string ((ls[i]).to), .I ((ls[i]).sector), .slice a4q22 ((ls[i]).data.length) k4q22] 40 (0, 0)) :: (diskM db2 (crashD D189 [] ns205 nb206) none 0 ++ diskM db6 D181 sa182 sk183)) [⟨Sb, 5, .slice (some ⟨b208, 0, none⟩) 64 64, (List.replicate 64 (0#8 : BitVec 8))⟩, ⟨stepS, 67, .slice none ((crashD D189 [] ns205 nb206).steps.length) 0, (crashD D189 [] ns205 nb206).steps⟩, ⟨Sb, 5, .slice (some ⟨b201, 0, none⟩) 64 64, (List.replicate 64 (0#8 : BitVec 8))⟩, ⟨stepS, 67, .slice sa182 D181.steps.length sk183, D181.steps⟩] [Rp SB [.slice a4q22 ((ls[i]).data.length) k4q22] ((ls[i]).data), Fc b18 o19 [.I ((ls[i]).kind), .string ((ls[i]).name), .string ((ls[i]).to), .I ((ls[i]).sector), .slice a4q22 ((ls[i]).data.length) k4q22], Rp (Shape.slice actS) [.slice la ls.length lk] ls] _ := H
          have H : Hp w S [] ((b28, .cells #[.I ((ls[i]).kind), .string ((ls[i]).name), .string ((ls[i]).to), .I ((ls[i]).sector), .slice a4q22 ((ls[i]).data.length) k4q22] 40 (0, 0)) :: (diskM db2 (crashD D189 [] ns205 nb206) none 0 ++ diskM db6 D181 sa182 sk183)) [⟨stepS, 67, .slice none ((crashD D189 [] ns205 nb206).steps.length) 0, (crashD D189 [] ns205 nb206).steps⟩, ⟨Sb, 5, .slice (some ⟨b201, 0, none⟩) 64 64, (List.replicate 64 (0#8 : BitVec 8))⟩, ⟨stepS, 67, .slice sa182 D181.steps.length sk183, D181.steps⟩] [Rp SB [.slice (some ⟨b208, 0, none⟩) 64 64] (List.replicate 64 (0#8 : BitVec 8)), Rp SB [.slice a4q22 ((ls[i]).data.length) k4q22] ((ls[i]).data), Fc b18 o19 [.I ((ls[i]).kind), .string ((ls[i]).name), .string ((ls[i]).to), .I ((ls[i]).sector), .slice a4q22 ((ls[i]).data.length) k4q22], Rp (Shape.slice actS) [.slice la ls.length lk] ls] _ := H.freezeW 0 rfl
          have H := H.perms (M' := diskM db2 (crashD D189 [] ns205 nb206) none 0 ++ ([(b28, .cells #[.I ((ls[i]).kind), .string ((ls[i]).name), .string ((ls[i]).to), .I ((ls[i]).sector), .slice a4q22 ((ls[i]).data.length) k4q22] 40 (0, 0))] ++ diskM db6 D181 sa182 sk183)) (W' := [⟨stepS, 67, .slice none ((crashD D189 [] ns205 nb206).steps.length) 0, (crashD D189 [] ns205 nb206).steps⟩, ⟨Sb, 5, .slice (some ⟨b201, 0, none⟩) 64 64, (List.replicate 64 (0#8 : BitVec 8))⟩, ⟨stepS, 67, .slice sa182 D181.steps.length sk183, D181.steps⟩]) (permA [(b28, .cells #[.I ((ls[i]).kind), .string ((ls[i]).name), .string ((ls[i]).to), .I ((ls[i]).sector), .slice a4q22 ((ls[i]).data.length) k4q22] 40 (0, 0))] (diskM db2 (crashD D189 [] ns205 nb206) none 0) (diskM db6 D181 sa182 sk183)) (List.Perm.refl _)
          refine RW.callS (d := some 183) (r := (sq 7 13)) (g := 8) (args := #[.P db2 0, .string (⟨#[122, 122, 57]⟩ : ByteArray), .I 0, .slice (some ⟨b208, 0, none⟩) 64 64]) (by as_aux_lemma => kernel_rfl) (dWriteN (hokZ) (Nat.zero_le _) (rfl) (fun h => by cases h) (by first | assumption | decide | (simp [maxLen]; done)) (by first | omega | decide) (xs := (List.replicate 64 (0#8 : BitVec 8))) (by simp) ((H.lend (M1 := diskM db2 (crashD D189 [] ns205 nb206) none 0) (W1 := [⟨stepS, 67, .slice none ((crashD D189 [] ns205 nb206).steps.length) 0, (crashD D189 [] ns205 nb206).steps⟩])).pick [0] rfl)) ?_
          rintro _ w210 ⟨D211, sa212, sk213, ⟨e214, rfl, hR215⟩, H'⟩
          have H := H.back (M1 := diskM db2 (crashD D189 [] ns205 nb206) none 0) (W1 := [⟨stepS, 67, .slice none ((crashD D189 [] ns205 nb206).steps.length) 0, (crashD D189 [] ns205 nb206).steps⟩]) H'
          have H := H.perms (M' := ((b28, .cells #[.I ((ls[i]).kind), .string ((ls[i]).name), .string ((ls[i]).to), .I ((ls[i]).sector), .slice a4q22 ((ls[i]).data.length) k4q22] 40 (0, 0)) :: (diskM db2 D211 sa212 sk213 ++ diskM db6 D181 sa182 sk183))) (W' := [⟨stepS, 67, .slice sa212 D211.steps.length sk213, D211.steps⟩, ⟨Sb, 5, .slice (some ⟨b201, 0, none⟩) 64 64, (List.replicate 64 (0#8 : BitVec 8))⟩, ⟨stepS, 67, .slice sa182 D181.steps.length sk183, D181.steps⟩]) ((permA [(b28, .cells #[.I ((ls[i]).kind), .string ((ls[i]).name), .string ((ls[i]).to), .I ((ls[i]).sector), .slice a4q22 ((ls[i]).data.length) k4q22] 40 (0, 0))] (diskM db2 D211 sa212 sk213) (diskM db6 D181 sa182 sk183)).symm) (List.Perm.refl _)
          have H : Hp w S [] ((b28, .cells #[.I ((ls[i]).kind), .string ((ls[i]).name), .string ((ls[i]).to), .I ((ls[i]).sector), .slice a4q22 ((ls[i]).data.length) k4q22] 40 (0, 0)) :: (diskM db2 D211 sa212 sk213 ++ diskM db6 D181 sa182 sk183)) [⟨stepS, 67, .slice sa212 D211.steps.length sk213, D211.steps⟩, ⟨Sb, 5, .slice (some ⟨b201, 0, none⟩) 64 64, (List.replicate 64 (0#8 : BitVec 8))⟩, ⟨stepS, 67, .slice sa182 D181.steps.length sk183, D181.steps⟩] [Rp SB [.slice (some ⟨b208, 0, none⟩) 64 64] (List.replicate 64 (0#8 : BitVec 8)), Rp SB [.slice a4q22 ((ls[i]).data.length) k4q22] ((ls[i]).data), Fc b18 o19 [.I ((ls[i]).kind), .string ((ls[i]).name), .string ((ls[i]).to), .I ((ls[i]).sector), .slice a4q22 ((ls[i]).data.length) k4q22], Rp (Shape.slice actS) [.slice la ls.length lk] ls] _ := H
          have hR215 : WriteR (crashD D189 [] ns205 nb206) (⟨#[122, 122, 57]⟩ : ByteArray) 0 (List.replicate 64 (0#8 : BitVec 8)) e214 D211 := hR215
          have he70 := WriteR.not70 hR215 (notStops rfl)
          refine qP 3 (sq 10 13) [(186, .bool (e214 != 70))] ?_
          refine tN (fun b_ => [(186, .bool b_)]) e214 70 (fun h216 => ?_) (fun h216 => ?_)
          ·
           refine qK .seq (some 187) (sq 11 13) 12 #[] (heads_spec (S := fun _ => True)) ?_
           rintro _ w217 hE218 rfl
           have H := H.ext hE218
           refine qF 2 [(4, .bool true)] ?_
           refine qT (.bool true) Try.func5 ?_
           exact ⟨_, rfl, H.done, rfl⟩
          ·
           exact absurd h216 he70
        ·
         obtain ⟨hg, hsim2, hleft2, hlD2, hlF2⟩ := hB.go h194 (by have := hsim.left0; omega)
         refine qR 4 [.c [5, 0, 1, 0, 0, 1, 0, 0, 7, 0, 1], .c [5, 0, 1, 0, 0, 1, 0, 0, 8], .b 1, .c [5, 0, 1, 0, 0, 2], .l [5, 0, 1, 0, 0], .b 0, .c [6]] [(0, .slice la ls.length lk), (1, .I n), (5, .P db2 0), (6, .P db6 0), (7, .I dn), (8, .I i), (10, .I e184), (149, .bool (e192 != e184))] ?_
         refine qN e192 e184 (fun h219 => ?_) (fun h219 => ?_)
         ·
          omega
         ·
          refine qR 3 [.c [5, 0, 1, 0, 0, 1, 0, 0, 9], .b 1, .c [5, 0, 1, 0, 0, 2], .l [5, 0, 1, 0, 0], .b 0, .c [6]] [(0, .slice la ls.length lk), (1, .I n), (5, .P db2 0), (6, .P db6 0), (7, .I dn), (8, .I i), (151, .bool (e184 == 0))] ?_
          refine qE e184 0 (fun h220 => ?_) (fun h220 => ?_)
          ·
           refine qG (sq 0 3) ?_
           refine qP 1 (sq 1 3) [(0, .slice la ls.length lk), (1, .I n), (5, .P db2 0), (6, .P db6 0), (7, .I dn), (8, .I i), (152, .I dn)] ?_
           refine qI .seq 153 (sq 2 3) (dn + 1) ?_
           refine qF 1 [(0, .slice la ls.length lk), (1, .I n), (5, .P db2 0), (6, .P db6 0), (7, .I (dn + 1)), (8, .I i)] ?_
           refine qR 1 [.c [5, 0, 1, 0, 0, 2], .l [5, 0, 1, 0, 0], .b 0, .c [6]] [(0, .slice la ls.length lk), (1, .I n), (5, .P db2 0), (6, .P db6 0), (7, .I (dn + 1)), (8, .I i)] ?_
           refine qG (sq 0 3) ?_
           refine qP 1 (sq 1 3) [(0, .slice la ls.length lk), (1, .I n), (5, .P db2 0), (6, .P db6 0), (7, .I (dn + 1)), (8, .I i), (43, .I i)] ?_
           refine qI .seq 44 (sq 2 3) ((i : Int) + 1) ?_
           refine qF 1 [(0, .slice la ls.length lk), (1, .I n), (5, .P db2 0), (6, .P db6 0), (7, .I (dn + 1)), (8, .I ((i : Int) + 1))] ?_
           skip
           have H := H.pick [2] rfl
           have H := H.drop (M' := ((diskM db2 D189 sa190 sk191 ++ diskM db6 D181 sa182 sk183))) (W' := [⟨stepS, 67, .slice sa190 D189.steps.length sk191, D189.steps⟩, ⟨stepS, 67, .slice sa182 D181.steps.length sk183, D181.steps⟩]) (by repeat (first | exact List.Sublist.refl _ | apply List.Sublist.cons_cons | apply List.Sublist.cons)) (by repeat (first | exact List.Sublist.refl _ | apply List.Sublist.cons_cons | apply List.Sublist.cons))
           exact WK.back (hback14 (i + 1, D189, sa190, sk191, D181, sa182, sk183, dn + 1) _ ⟨H, by omega, hsim2, by omega, by omega, by omega, by omega⟩ (by first | omega | (simp only []; omega))) (by as_aux_lemma => kernel_rfl)
          ·
           omega
       ·
        obtain ⟨hg, hD9, hF9⟩ := hB.bad h194
        have hsim2 : Sim D189 D181 := by rw [hD9, hF9]; exact hsim
        have hl2 : D189.left = D.left ∧ D189.steps.length ≤ D.steps.length ∧ D181.steps.length ≤ F.steps.length := by rw [hD9, hF9]; exact ⟨rfl, Nat.le_refl _, Nat.le_refl _⟩
        refine qF 4 [(0, .slice la ls.length lk), (1, .I n), (5, .P db2 0), (6, .P db6 0), (7, .I dn), (8, .I i), (10, .I e184), (11, .I e192), (139, .bool false)] ?_
        refine qR 5 [.c [5, 0, 1, 0, 0, 1, 0, 0, 7, 0, 1], .c [5, 0, 1, 0, 0, 1, 0, 0, 8], .b 1, .c [5, 0, 1, 0, 0, 2], .l [5, 0, 1, 0, 0], .b 0, .c [6]] [(0, .slice la ls.length lk), (1, .I n), (5, .P db2 0), (6, .P db6 0), (7, .I dn), (8, .I i), (10, .I e184), (149, .bool (e192 != e184))] ?_
        refine qN e192 e184 (fun h221 => ?_) (fun h221 => ?_)
        ·
         omega
        ·
         refine qR 3 [.c [5, 0, 1, 0, 0, 1, 0, 0, 9], .b 1, .c [5, 0, 1, 0, 0, 2], .l [5, 0, 1, 0, 0], .b 0, .c [6]] [(0, .slice la ls.length lk), (1, .I n), (5, .P db2 0), (6, .P db6 0), (7, .I dn), (8, .I i), (151, .bool (e184 == 0))] ?_
         refine qE e184 0 (fun h222 => ?_) (fun h222 => ?_)
         ·
          omega
         ·
          refine qR 2 [.c [5, 0, 1, 0, 0, 2], .l [5, 0, 1, 0, 0], .b 0, .c [6]] [(0, .slice la ls.length lk), (1, .I n), (5, .P db2 0), (6, .P db6 0), (7, .I dn), (8, .I i)] ?_
          refine qG (sq 0 3) ?_
          refine qP 1 (sq 1 3) [(0, .slice la ls.length lk), (1, .I n), (5, .P db2 0), (6, .P db6 0), (7, .I dn), (8, .I i), (43, .I i)] ?_
          refine qI .seq 44 (sq 2 3) ((i : Int) + 1) ?_
          refine qF 1 [(0, .slice la ls.length lk), (1, .I n), (5, .P db2 0), (6, .P db6 0), (7, .I dn), (8, .I ((i : Int) + 1))] ?_
          skip
          have H := H.pick [2] rfl
          have H := H.drop (M' := ((diskM db2 D189 sa190 sk191 ++ diskM db6 D181 sa182 sk183))) (W' := [⟨stepS, 67, .slice sa190 D189.steps.length sk191, D189.steps⟩, ⟨stepS, 67, .slice sa182 D181.steps.length sk183, D181.steps⟩]) (by repeat (first | exact List.Sublist.refl _ | apply List.Sublist.cons_cons | apply List.Sublist.cons)) (by repeat (first | exact List.Sublist.refl _ | apply List.Sublist.cons_cons | apply List.Sublist.cons))
          exact WK.back (hback14 (i + 1, D189, sa190, sk191, D181, sa182, sk183, dn) _ ⟨H, by omega, hsim2, by omega, by omega, by omega, by omega⟩ (by first | omega | (simp only []; omega))) (by as_aux_lemma => kernel_rfl)
      ·
       omega
     ·
      omega
   ·
    refine qR 3 [.c [6, 0, 0], .c [6, 0, 1], .c [7]] [(5, .P db2 0)] ?_
    refine qG (sq 0 2) ?_
    refine qP 1 (sq 1 2) [(5, .P db2 0), (154, .P db2 0)] ?_
    have H := H.perms (M' := diskM db2 D sa sk ++ ([] ++ diskM db6 F sf kf)) (W' := [⟨stepS, 67, .slice sa D.steps.length sk, D.steps⟩, ⟨stepS, 67, .slice sf F.steps.length kf, F.steps⟩]) (permA [] (diskM db2 D sa sk) (diskM db6 F sf kf)) (List.Perm.refl _)
    refine RW.callS (d := some 155) (r := (sq 2 2)) (g := 19) (args := #[.P db2 0]) (by as_aux_lemma => kernel_rfl) (dDead hsim.liveD ((H.lend (M1 := diskM db2 D sa sk) (W1 := [⟨stepS, 67, .slice sa D.steps.length sk, D.steps⟩])).pick [] rfl)) ?_
    rintro _ w223 ⟨rfl, H'⟩
    have H := H.back (M1 := diskM db2 D sa sk) (W1 := [⟨stepS, 67, .slice sa D.steps.length sk, D.steps⟩]) H'
    have H := H.perms (M' := ((diskM db2 D sa sk ++ diskM db6 F sf kf))) (W' := [⟨stepS, 67, .slice sa D.steps.length sk, D.steps⟩, ⟨stepS, 67, .slice sf F.steps.length kf, F.steps⟩]) ((permA [] (diskM db2 D sa sk) (diskM db6 F sf kf)).symm) (List.Perm.refl _)
    have H : Hp w S [] ((diskM db2 D sa sk ++ diskM db6 F sf kf)) [⟨stepS, 67, .slice sa D.steps.length sk, D.steps⟩, ⟨stepS, 67, .slice sf F.steps.length kf, F.steps⟩] [Rp (Shape.slice actS) [.slice la ls.length lk] ls] _ := H
    refine qF 0 [(5, .P db2 0), (155, .bool false)] ?_
    refine qR 3 [.c [7, 0], .c [8]] [(5, .P db2 0)] ?_
    refine qG (sq 0 2) ?_
    refine qP 1 (sq 1 2) [(5, .P db2 0), (175, .P db2 0)] ?_
    have H := H.perms (M' := diskM db2 D sa sk ++ ([] ++ diskM db6 F sf kf)) (W' := [⟨stepS, 67, .slice sa D.steps.length sk, D.steps⟩, ⟨stepS, 67, .slice sf F.steps.length kf, F.steps⟩]) (permA [] (diskM db2 D sa sk) (diskM db6 F sf kf)) (List.Perm.refl _)
    refine RW.callS (d := some 176) (r := (sq 2 2)) (g := 10) (args := #[.P db2 0, .slice none 0 0]) (by as_aux_lemma => kernel_rfl) (dCrash0 (hsim.okD) (by omega) ((H.lend (M1 := diskM db2 D sa sk) (W1 := [⟨stepS, 67, .slice sa D.steps.length sk, D.steps⟩])).pick [] rfl)) ?_
    rintro _ w224 ⟨rfl, ns225, nb226, H'⟩
    have H := H.back (M1 := diskM db2 D sa sk) (W1 := [⟨stepS, 67, .slice sa D.steps.length sk, D.steps⟩]) H'
    have H := H.perms (M' := ((diskM db2 (crashD D [] ns225 nb226) none 0 ++ diskM db6 F sf kf))) (W' := [⟨stepS, 67, .slice none ((crashD D [] ns225 nb226).steps.length) 0, (crashD D [] ns225 nb226).steps⟩, ⟨stepS, 67, .slice sf F.steps.length kf, F.steps⟩]) ((permA [] (diskM db2 (crashD D [] ns225 nb226) none 0) (diskM db6 F sf kf)).symm) (List.Perm.refl _)
    have H : Hp w S [] ((diskM db2 (crashD D [] ns225 nb226) none 0 ++ diskM db6 F sf kf)) [⟨stepS, 67, .slice none ((crashD D [] ns225 nb226).steps.length) 0, (crashD D [] ns225 nb226).steps⟩, ⟨stepS, 67, .slice sf F.steps.length kf, F.steps⟩] [Rp (Shape.slice actS) [.slice la ls.length lk] ls] _ := H
    have hokZ := DOk.crashD' hsim.okD [] ns225 nb226
    refine qF 0 [(5, .P db2 0)] ?_
    refine qR 1 [.c [8, 0], .c [9]] [(5, .P db2 0)] ?_
    refine qG (sq 0 13) ?_
    refine qP 1 (sq 1 13) [(5, .P db2 0), (177, .P db2 0)] ?_
    have H := H.perms (M' := diskM db2 (crashD D [] ns225 nb226) none 0 ++ ([] ++ diskM db6 F sf kf)) (W' := [⟨stepS, 67, .slice none ((crashD D [] ns225 nb226).steps.length) 0, (crashD D [] ns225 nb226).steps⟩, ⟨stepS, 67, .slice sf F.steps.length kf, F.steps⟩]) (permA [] (diskM db2 (crashD D [] ns225 nb226) none 0) (diskM db6 F sf kf)) (List.Perm.refl _)
    refine RW.callS (d := some 178) (r := (sq 2 13)) (g := 19) (args := #[.P db2 0]) (by as_aux_lemma => kernel_rfl) (dDead rfl ((H.lend (M1 := diskM db2 (crashD D [] ns225 nb226) none 0) (W1 := [⟨stepS, 67, .slice none ((crashD D [] ns225 nb226).steps.length) 0, (crashD D [] ns225 nb226).steps⟩])).pick [] rfl)) ?_
    rintro _ w227 ⟨rfl, H'⟩
    have H := H.back (M1 := diskM db2 (crashD D [] ns225 nb226) none 0) (W1 := [⟨stepS, 67, .slice none ((crashD D [] ns225 nb226).steps.length) 0, (crashD D [] ns225 nb226).steps⟩]) H'
    have H := H.perms (M' := ((diskM db2 (crashD D [] ns225 nb226) none 0 ++ diskM db6 F sf kf))) (W' := [⟨stepS, 67, .slice none ((crashD D [] ns225 nb226).steps.length) 0, (crashD D [] ns225 nb226).steps⟩, ⟨stepS, 67, .slice sf F.steps.length kf, F.steps⟩]) ((permA [] (diskM db2 (crashD D [] ns225 nb226) none 0) (diskM db6 F sf kf)).symm) (List.Perm.refl _)
    have H : Hp w S [] ((diskM db2 (crashD D [] ns225 nb226) none 0 ++ diskM db6 F sf kf)) [⟨stepS, 67, .slice none ((crashD D [] ns225 nb226).steps.length) 0, (crashD D [] ns225 nb226).steps⟩, ⟨stepS, 67, .slice sf F.steps.length kf, F.steps⟩] [Rp (Shape.slice actS) [.slice la ls.length lk] ls] _ := H
    refine qP 3 (sq 5 13) [(180, .bool true), (181, .P db2 0)] ?_
    refine RW.makeW Sb (κ := .seq) (d := some 182) (r := (sq 6 13)) (T := 24) (e := 5) (by_ := 1) (v0 := .int .u8 0) (0#8 : BitVec 8) (kl := .i64) (kc := .i64) (lv := 64) (cv := 64) (by as_aux_lemma => kernel_rfl) (nofun) (by as_aux_lemma => kernel_rfl) rfl H 64 64 (by omega) (by omega) (by omega) (by omega) (by omega) (fun _ _ => rfl) ?_
    intro b228 w229 H
    have H : Hp w S [] ((diskM db2 (crashD D [] ns225 nb226) none 0 ++ diskM db6 F sf kf)) [⟨Sb, 5, .slice (some ⟨b228, 0, none⟩) 64 64, (List.replicate 64 (0#8 : BitVec 8))⟩, ⟨stepS, 67, .slice none ((crashD D [] ns225 nb226).steps.length) 0, (crashD D [] ns225 nb226).steps⟩, ⟨stepS, 67, .slice sf F.steps.length kf, F.steps⟩] [Rp (Shape.slice actS) [.slice la ls.length lk] ls] _ := H
    have H : Hp w S [] ((diskM db2 (crashD D [] ns225 nb226) none 0 ++ diskM db6 F sf kf)) [⟨stepS, 67, .slice none ((crashD D [] ns225 nb226).steps.length) 0, (crashD D [] ns225 nb226).steps⟩, ⟨stepS, 67, .slice sf F.steps.length kf, F.steps⟩] [Rp SB [.slice (some ⟨b228, 0, none⟩) 64 64] (List.replicate 64 (0#8 : BitVec 8)), Rp (Shape.slice actS) [.slice la ls.length lk] ls] _ := H.freezeW 0 rfl
    have H := H.perms (M' := diskM db2 (crashD D [] ns225 nb226) none 0 ++ ([] ++ diskM db6 F sf kf)) (W' := [⟨stepS, 67, .slice none ((crashD D [] ns225 nb226).steps.length) 0, (crashD D [] ns225 nb226).steps⟩, ⟨stepS, 67, .slice sf F.steps.length kf, F.steps⟩]) (permA [] (diskM db2 (crashD D [] ns225 nb226) none 0) (diskM db6 F sf kf)) (List.Perm.refl _)
    refine RW.callS (d := some 183) (r := (sq 7 13)) (g := 8) (args := #[.P db2 0, .string (⟨#[122, 122, 57]⟩ : ByteArray), .I 0, .slice (some ⟨b228, 0, none⟩) 64 64]) (by as_aux_lemma => kernel_rfl) (dWriteN (hokZ) (Nat.zero_le _) (rfl) (fun h => by cases h) (by first | assumption | decide | (simp [maxLen]; done)) (by first | omega | decide) (xs := (List.replicate 64 (0#8 : BitVec 8))) (by simp) ((H.lend (M1 := diskM db2 (crashD D [] ns225 nb226) none 0) (W1 := [⟨stepS, 67, .slice none ((crashD D [] ns225 nb226).steps.length) 0, (crashD D [] ns225 nb226).steps⟩])).pick [0] rfl)) ?_
    rintro _ w230 ⟨D231, sa232, sk233, ⟨e234, rfl, hR235⟩, H'⟩
    have H := H.back (M1 := diskM db2 (crashD D [] ns225 nb226) none 0) (W1 := [⟨stepS, 67, .slice none ((crashD D [] ns225 nb226).steps.length) 0, (crashD D [] ns225 nb226).steps⟩]) H'
    have H := H.perms (M' := ((diskM db2 D231 sa232 sk233 ++ diskM db6 F sf kf))) (W' := [⟨stepS, 67, .slice sa232 D231.steps.length sk233, D231.steps⟩, ⟨stepS, 67, .slice sf F.steps.length kf, F.steps⟩]) ((permA [] (diskM db2 D231 sa232 sk233) (diskM db6 F sf kf)).symm) (List.Perm.refl _)
    have H : Hp w S [] ((diskM db2 D231 sa232 sk233 ++ diskM db6 F sf kf)) [⟨stepS, 67, .slice sa232 D231.steps.length sk233, D231.steps⟩, ⟨stepS, 67, .slice sf F.steps.length kf, F.steps⟩] [Rp SB [.slice (some ⟨b228, 0, none⟩) 64 64] (List.replicate 64 (0#8 : BitVec 8)), Rp (Shape.slice actS) [.slice la ls.length lk] ls] _ := H
    have hR235 : WriteR (crashD D [] ns225 nb226) (⟨#[122, 122, 57]⟩ : ByteArray) 0 (List.replicate 64 (0#8 : BitVec 8)) e234 D231 := hR235
    have he70 := WriteR.not70 hR235 (notStops rfl)
    refine qP 3 (sq 10 13) [(186, .bool (e234 != 70))] ?_
    refine tN (fun b_ => [(186, .bool b_)]) e234 70 (fun h236 => ?_) (fun h236 => ?_)
    ·
     refine qK .seq (some 187) (sq 11 13) 12 #[] (heads_spec (S := fun _ => True)) ?_
     rintro _ w237 hE238 rfl
     have H := H.ext hE238
     refine qF 2 [(4, .bool true)] ?_
     refine qT (.bool true) Try.func5 ?_
     exact ⟨_, rfl, H.done, rfl⟩
    ·
     exact absurd h236 he70


end Go.Proofs.Ytekgjnblidjloaa
