import Derived.Test.YtppcdmbkgficiaaW4
namespace Go.Proofs.Ytppcdmbkgficiaa
open Go.BX

theorem gotOf_keep {W D : Wr} {e kind frm : Int} {hd : Hdr} {ok : Bool} (h : (D, e) = gotOf W kind frm hd ok) : D.heads = W.heads ∧ D.nodes = W.nodes ∧ D.chunks = W.chunks := by
 unfold gotOf at h
 split at h
 · obtain ⟨rfl, -⟩ := Prod.mk.inj h; exact ⟨rfl, rfl, rfl⟩
 · split at h
   · obtain ⟨rfl, -⟩ := Prod.mk.inj h; exact ⟨rfl, rfl, rfl⟩
   · split at h
     · obtain ⟨rfl, -⟩ := Prod.mk.inj h; exact ⟨rfl, rfl, rfl⟩
     · split at h <;> (obtain ⟨rfl, -⟩ := Prod.mk.inj h; exact ⟨rfl, rfl, rfl⟩)
def settleF (W : Wr) : List Msg := if rightW W = true ∧ W.done = 1 then settlesTo W W.heads.length else []

end Go.Proofs.Ytppcdmbkgficiaa
