import Derived.Test.YtdnibpclkhenmaaGreatDoorSBxB
import Derived.Test.YtdnibpclkhenmaaGreatDoorSJL
import Derived.Test.YtdnibpclkhenmaaGreatDoorSBxA
namespace Go.Proofs.YtdnibpclkhenmaaGreatDoor
open Go.BX
section
variable {P : Program} {n : Nat} {ds : List Deferred} {ops : Array Oper} {K : Env → World → Prop} {l r : List (Nat × Kd)} {σ : Env} {w : World} {d : Option Tmp} {κ : Kd}
variable {w0 : World} {S : Nat → Prop} {O : List Nat} {M : Heap} {W : List OwnS} {G : List Fact}
end
def mayP (b t : Bs) (R0 L : List Bs) (torn : Bool) (base : Bs) (l : List Bs) : Prop := (torn = true ∧ l = [] ∧ base = t) ∨ (base = b ∧ R0 <+: l ∧ l <+: R0 ++ L)
theorem mayP.two {b t : Bs} {R0 L : List Bs} {torn : Bool} {base : Bs} {l : List Bs} (h : mayP b t R0 L torn base l) (hn : ¬ (torn = true ∧ l = [] ∧ base = t)) : base = b ∧ R0 <+: l ∧ l <+: R0 ++ L := h.resolve_left hn
end Go.Proofs.YtdnibpclkhenmaaGreatDoor
