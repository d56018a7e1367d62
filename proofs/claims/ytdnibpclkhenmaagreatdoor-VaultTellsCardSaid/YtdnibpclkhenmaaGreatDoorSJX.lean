import Derived.Test.YtdnibpclkhenmaaGreatDoorSBxB
import Derived.Test.YtdnibpclkhenmaaGreatDoorSJD
import Derived.Test.YtdnibpclkhenmaaGreatDoorSJP
namespace Go.Proofs.YtdnibpclkhenmaaGreatDoor
open Go.BX
theorem Hp.reS {w0 w : World} {S S2 : Nat → Prop} {O : List Nat} {T : TypeId} {v : Value} {xs : List (BitVec 8)} (H : Hp w0 S2 O [] [⟨Sb, T, v, xs⟩] [] w) : Hp w0 S O [] [⟨Sb, T, v, xs⟩] [] w :=
 ⟨H.below, H.own, fun o ho => ⟨by
  obtain ⟨cs, h1, h2, h3⟩ := (H.slc o ho).1
  obtain rfl := List.mem_singleton.1 ho
  exact ⟨cs, h1, h2, h3⟩, (H.slc o ho).2⟩, H.nodup, fun F hF => by cases hF⟩
end Go.Proofs.YtdnibpclkhenmaaGreatDoor
