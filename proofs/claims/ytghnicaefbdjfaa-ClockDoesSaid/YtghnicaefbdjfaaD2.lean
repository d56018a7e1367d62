import Derived.Test.YtghnicaefbdjfaaD1
import Derived.Shelf.SlSortCmp.WholeK
import Derived.Shelf.SlGeneric
namespace Go.Proofs.Ytghnicaefbdjfaa
open Go.BX Go.Shelf

def Try.sortTmr_ren : Go.Shelf.Ren := ⟨fun | 6 => 33 | 15 => 36 | 14 => 35 | 28 => 45 | 29 => 46 | 20 => 37 | 21 => 38 | 22 => 39 | 23 => 40 | 24 => 41 | 25 => 42 | 26 => 43 | 27 => 44 | 46 => 47 | 47 => 48 | 48 => 49 | 49 => 50 | 50 => 51 | 57 => 52 | n => n, fun | 22 => 55 | 24 => 57 | 25 => 61 | 3 => 3 | 39 => 71 | 0 => 0 | 53 => 80 | 55 => 82 | 4 => 4 | 46 => 74 | 45 => 73 | 50 => 54 | 5 => 5 | 9 => 9 | 66 => 83 | 70 => 87 | 76 => 89 | 77 => 90 | n => n, fun | n => n⟩
theorem Try.sortTmr : Go.Proofs.SlLaysF0.n6 Try.prog Try.sortTmr_ren := {
  mixed := by kernel_rfl
  f6 := ⟨Try.f33.name, by decide, Try.func33.trans (congrArg some (by kernel_rfl))⟩
  f14 := ⟨Try.f35.name, by decide, Try.func35.trans (congrArg some (by kernel_rfl))⟩
  f15 := Try.func36.trans (congrArg some (by kernel_rfl))
  f20 := ⟨Try.f37.name, by decide, Try.func37.trans (congrArg some (by kernel_rfl))⟩
  f21 := ⟨Try.f38.name, by decide, Try.func38.trans (congrArg some (by kernel_rfl))⟩
  f22 := ⟨Try.f39.name, by decide, Try.func39.trans (congrArg some (by kernel_rfl))⟩
  f23 := ⟨Try.f40.name, by decide, Try.func40.trans (congrArg some (by kernel_rfl))⟩
  f24 := ⟨Try.f41.name, by decide, Try.func41.trans (congrArg some (by kernel_rfl))⟩
  f25 := ⟨Try.f42.name, by decide, Try.func42.trans (congrArg some (by kernel_rfl))⟩
  f26 := ⟨Try.f43.name, by decide, Try.func43.trans (congrArg some (by kernel_rfl))⟩
  f27 := ⟨Try.f44.name, by decide, Try.func44.trans (congrArg some (by kernel_rfl))⟩
  f28 := Try.func45.trans (congrArg some (by kernel_rfl))
  f29 := Try.func46.trans (congrArg some (by kernel_rfl))
  f46 := ⟨Try.f47.name, by decide, Try.func47.trans (congrArg some (by kernel_rfl))⟩
  f47 := Try.func48.trans (congrArg some (by kernel_rfl))
  f48 := Try.func49.trans (congrArg some (by kernel_rfl))
  f49 := ⟨Try.f50.name, by decide, Try.func50.trans (congrArg some (by kernel_rfl))⟩
  f50 := ⟨Try.f51.name, by decide, Try.func51.trans (congrArg some (by kernel_rfl))⟩
  f57 := ⟨Try.f52.name, by decide, Try.func52.trans (congrArg some (by kernel_rfl))⟩
  t0 := Try.underlying0
  a0 := Try.isAgg0
  z0 := Try.sizeOf0
  v0 := Try.zeroValue0
  t3 := Try.underlying3
  a3 := Try.isAgg3
  z3 := Try.sizeOf3
  v3 := Try.zeroValue3
  t4 := Try.underlying4
  a4 := Try.isAgg4
  z4 := Try.sizeOf4
  v4 := Try.zeroValue4
  t5 := Try.underlying5
  a5 := Try.isAgg5
  z5 := Try.sizeOf5
  v5 := Try.zeroValue5
  t9 := Try.underlying9
  a9 := Try.isAgg9
  z9 := Try.sizeOf9
  v9 := Try.zeroValue9
  t22 := Try.underlying55
  a22 := Try.isAgg55
  z22 := Try.sizeOf55
  v22 := Try.zeroValue55
  t25 := Try.underlying61
  a25 := Try.isAgg61
  z25 := Try.sizeOf61
  v25 := Try.zeroValue61
  t39 := Try.underlying71
  a39 := Try.isAgg71
  z39 := Try.sizeOf71
  v39 := Try.zeroValue71
  t45 := Try.underlying73
  a45 := Try.isAgg73
  z45 := Try.sizeOf73
  v45 := Try.zeroValue73
  t46 := Try.underlying74
  a46 := Try.isAgg74
  z46 := Try.sizeOf74
  v46 := Try.zeroValue74
  t50 := Try.underlying54
  a50 := Try.isAgg54
  z50 := Try.sizeOf54
  v50 := Try.zeroValue54
  t53 := Try.underlying80
  a53 := Try.isAgg80
  z53 := Try.sizeOf80
  v53 := Try.zeroValue80
  t55 := Try.underlying82
  a55 := Try.isAgg82
  z55 := Try.sizeOf82
  v55 := Try.zeroValue82
  t66 := Try.underlying83
  a66 := Try.isAgg83
  z66 := Try.sizeOf83
  v66 := Try.zeroValue83
  t70 := Try.underlying87
  a70 := Try.isAgg87
  z70 := Try.sizeOf87
  v70 := Try.zeroValue87
  t76 := Try.underlying89
  a76 := Try.isAgg89
  z76 := Try.sizeOf89
  v76 := Try.zeroValue89
  t77 := Try.underlying90
  a77 := Try.isAgg90
  z77 := Try.sizeOf90
  v77 := Try.zeroValue90 }


instance : Inhabited Tmr := ⟨⟨0, 0⟩⟩
def encT (x : Tmr) : List Value := [.int .i64 x.when, .int .i64 x.id]
def cmpT (x y : Tmr) : Int := orI [cmpI x.when y.when, cmpI x.id y.id]
def ltT (x y : Tmr) : Bool := decide (x.when < y.when ∨ x.when = y.when ∧ x.id < y.id)
theorem ltOf_cmpT (x y : Tmr) : Go.Proofs.ltOf cmpT x y = ltT x y := by
  unfold Go.Proofs.ltOf ltT cmpT orI orI orI cmpI
  congr 1
  rw [eq_iff_iff]
  by_cases h1 : x.when < y.when
  · simp [h1]
  · by_cases h2 : y.when < x.when
    · simp [h1, h2]; omega
    · have h3 : x.when = y.when := by omega
      by_cases h4 : x.id < y.id
      · simp [h3, h4]
      · by_cases h5 : y.id < x.id <;> simp [h3, h4, h5]
theorem cmpT_swo : Go.Sort.SWO (Go.Proofs.ltOf cmpT) where
  irrefl x := by rw [ltOf_cmpT]; exact decide_eq_false (by omega)
  trans x y z h1 h2 := by rw [ltOf_cmpT] at *; have h1 := of_decide_eq_true h1; have h2 := of_decide_eq_true h2; exact decide_eq_true (by omega)
  ntrans x y z h1 h2 := by rw [ltOf_cmpT] at *; have h1 := of_decide_eq_false h1; have h2 := of_decide_eq_false h2; exact decide_eq_false (by omega)
theorem cmpT_lays (blk off size : Nat) (w : World) : Go.Proofs.CmpLays Try.prog 28 #[] encT 2 cmpT blk off size w :=
  fun m os dk _ x y => (cmp_same (S := fun _ => True) x.when x.id y.when y.id).mono fun e w' h => by
    obtain ⟨v, he, hv, q, os', hw⟩ := h
    exact ⟨he.trans (by rw [hv]; rfl), q, os', hw⟩
theorem tmr_enc {S : Nat → Prop} {w : World} {x : Tmr} {cs : List Value} (h : tmrS.rep S w cs x) : cs = encT x := by
  obtain ⟨rfl, _, _⟩ := tmr_open h
  rfl
theorem sort_tmr {S : Nat → Prop} {w : World} {O : List Nat} {b cap : Nat} {xs : List Tmr} (H0 : Hp w S O [] [⟨tmrS, 57, .slice (some ⟨b, 0, none⟩) xs.length cap, xs⟩] [] w) (hp : 0 < xs.length) (hsz : xs.length < 4611686018427387904) :
    Calls Try.prog 33 #[.slice (some ⟨b, 0, none⟩) xs.length cap, .func (.func 28) #[] #[]] w (Ret fun v w' => v = .tuple #[] ∧ ∃ ys : List Tmr, ys.Perm xs ∧ ys.Pairwise (fun x y => ltT y x = false) ∧ Hp w S O [] [⟨tmrS, 57, .slice (some ⟨b, 0, none⟩) xs.length cap, ys⟩] [] w') := by
  obtain ⟨hH, hb⟩ := H0.holdsK (enc := encT) (k := 2) rfl (by decide) (fun _ _ _ _ h => tmr_enc h) hp
  have eg : ∀ args w, (callFunc 28 args).run Try.prog w = .ok (.enter 28 args) w := Go.Proofs.enters_of Try.func28 (by kernel_rfl) rfl
  have h := Go.Proofs.AnyQ.slices_SortFunc Try.sortTmr 2 (fun w => Try.isAgg57 w) (fun w => Try.sizeOf57 w) encT (fun _ => rfl) (fun x v hv => by simp [encT] at hv; rcases hv with rfl | rfl <;> rfl) cmpT cmpT_swo 28 #[] b 0 cap xs.toArray w eg (cmpT_lays b 0 _ w) hH hb (by simpa using hsz)
  change Calls Try.prog 33 _ _ _ at h
  simp only [List.size_toArray] at h
  refine h.mono fun e w' hh => ?_
  obtain ⟨he, d', n, os, hperm, hsort, rfl⟩ := hh
  have hd : d'.toList.Perm xs := by
    have h3 := hperm.2.2
    have h1 : d'.size = xs.length := by simpa using hperm.1
    rw [show d'.extract 0 xs.length = d' by rw [← h1]; simp, show xs.toArray.extract 0 xs.length = xs.toArray by simp] at h3
    simpa using h3
  refine ⟨_, he, rfl, d'.toList, hd, ?_, H0.sortedK (enc := encT) (k := 2) rfl (by decide) (fun _ _ _ _ h => tmr_enc h) (fun _ => rfl) hp hd⟩
  rw [List.pairwise_iff_getElem]
  intro i j hi hj hij
  have h1 : d'.size = xs.length := by simpa using hperm.1
  simp only [Array.length_toList] at hi hj
  have := hsort i j (Nat.zero_le _) hij (by omega)
  rw [ltOf_cmpT, getElem!_pos d' j hj, getElem!_pos d' i hi] at this
  simpa using this


end Go.Proofs.Ytghnicaefbdjfaa
