import Derived.Test.YtppcdmbkgficiaaSBxA
import Derived.Test.YtppcdmbkgficiaaSE5
namespace Go.Proofs.Ytppcdmbkgficiaa
open Go.BX
def okS (size k n : Int) : Prop := 0 ≤ size ∧ size ≤ 65536 ∧ 1 ≤ k ∧ k ≤ n ∧ n ≤ 255
instance (size k n : Int) : Decidable (okS size k n) := by
 unfold okS
 infer_instance
def okL4 (size k : Int) : Prop := 0 ≤ size ∧ size ≤ 65536 ∧ 1 ≤ k ∧ k ≤ 255
instance (size k : Int) : Decidable (okL4 size k) := by
 unfold okL4
 infer_instance
def llG (size k : Int) : Int := if okL4 size k then ((lenOf size.toNat k.toNat : Nat) : Int) else 0
def elG (size k : Int) : Int := if okL4 size k then 0 else 2
theorem toNil {α : Type} {sh : Shape α} {P : Program} {f : Nat} {args : Array Value} {S : Nat → Prop} {w : World} {x : Int} (hc : Calls P f args w (Ret fun v w' => Ext w w' ∧ v = .tuple #[.slice none 0 0, .I x])) {L : List α} (hL : L = []) :
 Calls P f args w (Ret fun v w' => Ext w w' ∧ ∃ (a : Option Addr) (c : Nat), v = .tuple #[.slice a L.length c, .I x] ∧ sh.slice.rep (Nw S w) w' [.slice a L.length c] L) :=
 hc.mono fun e W' ⟨v, he, hE, hv⟩ => ⟨v, he, hE, none, 0, by rw [hv, hL]; rfl, by rw [hL]; exact Shape.slice_nil⟩
theorem lenR_gen {S : Nat → Prop} {w : World} (size k : Int) : Calls Try.prog 36 #[.I size, .I k] w (Ret fun v w' => Ext w w' ∧ v = .tuple #[.I (llG size k), .I (elG size k)]) := by
 by_cases h : okL4 size k
 · obtain ⟨_, _, _, _⟩ := id h
   obtain ⟨size, rfl⟩ : ∃ m : Nat, size = (m : Int) := ⟨size.toNat, by omega⟩
   obtain ⟨k, rfl⟩ : ∃ m : Nat, k = (m : Int) := ⟨k.toNat, by omega⟩
   have a : llG size k = ((lenOf size k : Nat) : Int) := if_pos h
   have b : elG size k = 0 := if_pos h
   rw [a, b]
   exact r4len_ok (S := S) size k (by omega) (by omega) (by omega)
 · have a : llG size k = 0 := if_neg h
   have b : elG size k = 2 := if_neg h
   rw [a, b]
   exact r4len_bad (S := S) size k h
end Go.Proofs.Ytppcdmbkgficiaa
