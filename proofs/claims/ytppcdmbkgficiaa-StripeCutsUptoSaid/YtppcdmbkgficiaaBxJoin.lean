/-
  THE ENGINE: ways that part within a region come together behind it.
  No condition.
-/
import Derived.Test.YtppcdmbkgficiaaBxCore
namespace Go.BX
theorem WK.join {P : Program} {f : FuncId} {n : Nat} {k : List Item} {σ : Env} {ds : List Deferred} {w : World} {R : Ending → World → Prop} {α : Type} (Q : α → Prop) (F : α → Env) (k' : List Item)
    (h : (∀ x, Q x → WK P f n k' (F x) ds w R) → WK P f n k σ ds w R) (hj : ∀ x, Q x → WK P f n k' (F x) ds w R) : WK P f n k σ ds w R := h hj
theorem WK.joinW {P : Program} {f : FuncId} {n : Nat} {k : List Item} {σ : Env} {ds : List Deferred} {w : World} {R : Ending → World → Prop} (Q : World → Prop) (σ' : Env) (k' : List Item)
    (h : (∀ w', Q w' → WK P f n k' σ' ds w' R) → WK P f n k σ ds w R) (hj : ∀ w', Q w' → WK P f n k' σ' ds w' R) : WK P f n k σ ds w R := h hj
theorem WK.joinV {P : Program} {f : FuncId} {n : Nat} {k : List Item} {σ : Env} {ds : List Deferred} {w : World} {R : Ending → World → Prop} {α : Type} (Q : α → World → Prop) (F : α → Env) (k' : List Item)
    (h : (∀ x w', Q x w' → WK P f n k' (F x) ds w' R) → WK P f n k σ ds w R) (hj : ∀ x w', Q x w' → WK P f n k' (F x) ds w' R) : WK P f n k σ ds w R := h hj
end Go.BX
