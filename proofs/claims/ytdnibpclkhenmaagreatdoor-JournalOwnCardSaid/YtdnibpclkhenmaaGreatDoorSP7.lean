import Derived.Test.YtdnibpclkhenmaaGreatDoorSP6
import Derived.Test.YtdnibpclkhenmaaGreatDoorSG7
namespace Go.Proofs.YtdnibpclkhenmaaGreatDoor
open Go.BX
def segN (nm : ByteArray) (g : Nat) : Option Sg → ByteArray
 | none => ⟨#[]⟩
 | some _ => sN nm g
def JL (D : DiskD) (nm : ByteArray) (B : Bs) (R0 R : List Bs) (g : Nat) (seg : ByteArray) (σ : Bs) (sy : Bool) (q : Nat) : Prop :=
 ∃ V cur, LJ D nm V cur g ∧ V.B = B ∧ V.hi ++ loO cur = R0 ∧ V.hi ++ hiO cur = R ∧ seg = segN nm g cur ∧ σ = framesF (hiO cur) ∧ (sy = true → loO cur = hiO cur) ∧ (sy = false → cur ≠ none) ∧ V.segs.length ≤ q
theorem sN_ne (nm : ByteArray) (n : Nat) : (sN nm n).toList ≠ (⟨#[]⟩ : ByteArray).toList := fun e => by
 have := congrArg (fun q => q.data.toList) (toList_inj e)
 simp only [fN_list] at this
 simp at this
theorem JL.app {D' : DiskD} {nm : ByteArray} {V : VV} {cur : Option Sg} {g q : Nat} {r : Bs} {c : Sg} (hq : V.segs.length ≤ q) (h1 : c.hi = hiO cur ++ [r]) (h2 : c.lo = loO cur) (h : LJ D' nm V (some c) (gO g cur)) :
 JL D' nm V.B (V.hi ++ loO cur) ((V.hi ++ hiO cur) ++ [r]) (gO g cur) (sN nm (gO g cur)) (framesF (hiO cur ++ [r])) false q :=
 ⟨V, some c, h, rfl, by show V.hi ++ c.lo = _; rw [h2], by show V.hi ++ c.hi = _; rw [h1, List.append_assoc], rfl, by show _ = framesF c.hi; rw [h1], fun e => (by cases e), nofun, hq⟩
theorem JL.fresh {D' : DiskD} {nm : ByteArray} {V : VV} {g : Nat} (h : LJ D' nm V none g) : JL D' nm V.B V.hi V.hi g ⟨#[]⟩ [] true V.segs.length :=
 ⟨V, none, h, rfl, List.append_nil _, List.append_nil _, rfl, rfl, fun _ => rfl, fun e => (by cases e), Nat.le_refl _⟩
theorem JL.js {D : DiskD} {nm : ByteArray} {B : Bs} {R0 R : List Bs} {g : Nat} {seg : ByteArray} {σ : Bs} {sy : Bool} {q : Nat} (h : JL D nm B R0 R g seg σ sy q) : JS D nm g fun B' lo hi => B' = B ∧ R0 <+: lo ∧ hi <+: R := by
 obtain ⟨V, cur, hL, rfl, rfl, rfl, -⟩ := h
 exact hL.lv.js
theorem gO_le (g : Nat) (o : Option Sg) : gO g o ≤ g + 1 := by cases o <;> simp [gO]
section
variable {S : Nat → Prop} {w : World} {O : List Nat} {db : Nat} {D : DiskD} {sa : Option Addr} {sk : Nat}
theorem dDead {b : Bool} (hd : D.dead = b) (H0 : Hp w S O (diskM db D sa sk) [diskW D sa sk] [] w) :
 Calls Tryz.prog 51 #[.P db 0] w (Ret fun v w' => v = .bool b ∧ Hp w S O (diskM db D sa sk) [diskW D sa sk] [] w') := by
 obtain ⟨sb, nb, A, lc, L, c, fs, steps, armed, left, dead⟩ := D
 obtain rfl : dead = b := hd
 cases dead
 · refine (dead_false (S := fun _ => True) (H0.viewM 0 rfl (by simp))).mono fun e w' hh => ?_
   obtain ⟨v, he, hE, hv⟩ := hh
   exact ⟨v, he, hv, H0.ext hE⟩
 · refine (dead_true (S := fun _ => True) (H0.viewM 0 rfl (by simp))).mono fun e w' hh => ?_
   obtain ⟨v, he, hE, hv⟩ := hh
   exact ⟨v, he, hv, H0.ext hE⟩
end
theorem JS.dryd {D : DiskD} {nm : ByteArray} {G : Nat} {P : Bs → List Bs → List Bs → Prop} (h : JS D nm G P) : JS (dry D) nm G P := h.step (fun k => ⟨0, fun V _ h => by rw [nmAt_dry]; exact h⟩) fun q A h => ⟨h.safe, fun x hx => (by cases hx)⟩
theorem crC_nil (D : DiskD) : (crC D []).A = (D.safe, D.sc) ∧ (crC D []).fs = D.files := by
 have key : ∀ (l : List StepD) (C : CrS), (l.foldl (crStep 0 []) C).A = C.A ∧ (l.foldl (crStep 0 []) C).fs = C.fs := by
  intro l
  induction l with
  | nil => exact fun C => ⟨rfl, rfl⟩
  | cons x l ih =>
   intro C
   obtain ⟨a, b⟩ := ih (crStep 0 [] C x)
   rw [List.foldl_cons, a, b]
   by_cases h3 : x.kind = 3
   · rw [crStep_no h3 (by unfold bitOf; simp)]; exact ⟨rfl, rfl⟩
   · rw [crStep_pass h3 (by omega)]; exact ⟨rfl, rfl⟩
 exact key D.steps ⟨(D.safe, D.sc), 0, 0, D.files⟩
theorem JS.dryc {D : DiskD} {nm : ByteArray} {G : Nat} {P : Bs → List Bs → List Bs → Prop} (h : JS (dry D) nm G P) (ns : Nat → Nat) (nb : Nat) : JS (crashD D [] ns nb) nm G P := by
 obtain ⟨a, b⟩ := crC_nil D
 refine h.step (fun k => ⟨0, fun V _ h => ?_⟩) fun q A h => ?_
 · rw [nmAt_dry] at h
   unfold nmAt nmL
   show NV nm (([] : List StepD).take k |>.foldl mapN ((crC D []).A.1, (crC D []).A.2)).1 V
   rw [List.take_nil, List.foldl_nil, a]
   exact h
 · obtain ⟨f, c, d, e⟩ := h.safe
   refine ⟨⟨(if some f.p ∈ ((crC D []).A.1).map (·.2.1) then visit (ns f.p) f else f), List.mem_map.2 ⟨f, by rw [b]; exact c, rfl⟩, ?_, ?_⟩, fun x hx => (by cases hx)⟩
   · split <;> exact d
   · split <;> exact e
theorem NmC.ofNow {D : DiskD} (hd : DI D) : NmC D D.steps.length D.now.length := ⟨D.now.map (·.1), by rw [List.length_map]; exact Nat.le_refl _, fun x hx => Classical.byContradiction fun hn => by
 rw [← nm_now hd.ok] at hx
 exact hx (mfind_none.2 hn)⟩
theorem Cp.now {D D' : DiskD} {c : Nat} (h : Cp c D D') (hd : DI D) (hd' : DI D') : D'.now.length ≤ D.now.length + c := (h _ (NmC.ofNow hd)).1.now hd'
section
variable {S : Nat → Prop} {w : World} {O : List Nat} {db : Nat} {D : DiskD} {sa : Option Addr} {sk : Nat}
theorem dSizeNo {name : ByteArray} (hok : DOk D) (hd : D.dead = false) (hn : mfind name D.now = none) (H0 : Hp w S O (diskM db D sa sk) [diskW D sa sk] [] w) :
 Calls Tryz.prog 49 #[.P db 0, .string name] w (Ret fun v w' => v = .tuple #[.I 0, .I 71] ∧ Hp w S O (diskM db D sa sk) [diskW D sa sk] [] w') :=
 (dSize hok hd H0).mono fun e w' hh => by
  obtain ⟨v, he, ⟨hv, -⟩ | ⟨g, hg, hgn, -⟩, H'⟩ := hh
  · exact ⟨v, he, hv, H'⟩
  · rw [hn] at hgn; cases hgn
end
theorem DI.noEmpty {D : DiskD} (hd : DI D) : mfind (⟨#[]⟩ : ByteArray) D.now = none := by
 rw [nm_now hd.ok]
 cases h : mfind (⟨#[]⟩ : ByteArray) (nmAt D D.steps.length) with
 | none => rfl
 | some o => exact absurd (hd.form _ _ _ h).size.2 (by unfold nmI; rw [if_neg (by simp)]; decide)
def PlainN (x : ByteArray) : Prop := PlainB x ∧ x.size ≠ 0
theorem bytes_at {x : ByteArray} {j : Nat} (h : j < (bytesOf x).length) (h' : j < x.data.toList.length) : ((bytesOf x)[j]).toNat = (x.data.toList[j]).toNat := by
 have e : (bytesOf x)[j] = BitVec.ofNat 8 (x.data.toList[j]).toNat := List.getElem_map _
 have a := (x.data.toList[j]).toNat_lt
 rw [e, BitVec.toNat_ofNat, Nat.mod_eq_of_lt a]
theorem bytes_lt {x : ByteArray} {j : Nat} : j < (bytesOf x).length ↔ j < x.data.toList.length := by unfold bytesOf; rw [List.length_map]
theorem plain_of {x : ByteArray} (h1 : x.size ≤ 16) (h2 : ∀ j (h : j < (bytesOf x).length), 97 ≤ ((bytesOf x)[j]).toNat ∧ ((bytesOf x)[j]).toNat ≤ 122) : PlainB x := by
 refine ⟨h1, fun b hb => ?_⟩
 obtain ⟨j, hj, rfl⟩ := List.mem_iff_getElem.1 hb
 have := h2 j (bytes_lt.2 hj)
 rwa [bytes_at _ hj] at this
theorem plain_at {x : ByteArray} (h : PlainB x) {j : Nat} (hj : j < (bytesOf x).length) : 97 ≤ ((bytesOf x)[j]).toNat ∧ ((bytesOf x)[j]).toNat ≤ 122 := by
 rw [bytes_at hj (bytes_lt.1 hj)]
 exact h.2 _ (List.getElem_mem _)
theorem ba_empty {x : ByteArray} (h : x.size = 0) : x = ⟨#[]⟩ := by
 obtain ⟨d⟩ := x
 rw [show d = #[] from Array.eq_empty_of_size_eq_zero h]
theorem plain_bad {x : ByteArray} {i : Nat} (hi : i < (bytesOf x).length) (h : ¬ (97 ≤ ((bytesOf x)[i]).toNat ∧ ((bytesOf x)[i]).toNat ≤ 122)) : false = true ↔ PlainN x := ⟨nofun, fun hP => absurd (plain_at hP.1 hi) h⟩
theorem plain_fin {x : ByteArray} (h : x.toList ≠ (⟨#[]⟩ : ByteArray).toList) (hall : ∀ j (h : j < (bytesOf x).length), 97 ≤ ((bytesOf x)[j]).toNat ∧ ((bytesOf x)[j]).toNat ≤ 122) : decide ((((x.size : Nat) : Int) : Int) ≤ 16) = true ↔ PlainN x :=
 ⟨fun h1 => ⟨plain_of (by have := of_decide_eq_true h1; omega) hall, fun h0 => h (by rw [ba_empty h0])⟩, fun hP => decide_eq_true (by have := hP.1.1; omega)⟩
theorem plain_emp {x : ByteArray} (h : x.toList = (⟨#[]⟩ : ByteArray).toList) : false = true ↔ PlainN x := ⟨nofun, fun hP => absurd (show x.size = 0 by rw [toList_inj h]; rfl) hP.2⟩
end Go.Proofs.YtdnibpclkhenmaaGreatDoor
