import Derived.Test.YtdnibpclkhenmaaGreatDoorSBxB
import Derived.Test.YtdnibpclkhenmaaGreatDoorSJL
namespace Go.Proofs.YtdnibpclkhenmaaGreatDoor
open Go.BX
theorem heads_crash {D2 D3 : DiskD} {nm seg seg' : ByteArray} {B B' : Bs} {R R0' R' : List Bs} {g g' : Nat} {σ σ' : Bs} {sy' : Bool} {n m t q c n' m' t' q' c' : Nat} (h2 : JW D2 nm B R R g seg σ true n m t q c) (h3 : JW D3 nm B' R0' R' g' seg' σ' sy' n' m' t' q' c') (hmm : m ≤ m') (hdry : Dry D2 D3) (ns : Nat → Nat) (nb : Nat) : CW (crashD D3 [] ns nb) nm m' c' fun B' lo hi => B' = B ∧ R <+: lo ∧ hi <+: R :=
 ⟨h3.di.crash [] ns nb, rfl, rfl, rfl, JS.dryc (hdry _ _ _ ((h2.jl.js.mono (Nat.le_trans h2.gm hmm) fun _ _ _ h => h).dryd)) ns nb, h3.cap.crash [] ns nb⟩
theorem CW.hb1 {B B0 : Bs} {R R0 : List Bs} {m : Nat} (h0 : B0.length ≤ 4194304) (h1 : R0.length ≤ m) (h2 : ∀ r ∈ R0, r.length ≤ 4194304) (h : ∃ lo hi : List Bs, (B = B0 ∧ R0 <+: lo ∧ hi <+: R0) ∧ lo <+: R ∧ R <+: hi) : B.length ≤ 4194304 ∧ R.length ≤ m ∧ ∀ r ∈ R, r.length ≤ 4194304 := by
 obtain ⟨rfl, rfl⟩ := found_one h
 exact ⟨h0, h1, h2⟩
end Go.Proofs.YtdnibpclkhenmaaGreatDoor
