/-
  No cell of these rows narrows 'for every input' (looked for: loops, veiled, ifaces, maps, wideKeys, modest, calm, conditions, laid).
  DERIVED. THE GIVEN ROWS OF THIS SEAT. 4 by the template 'for every input the law returns true; each argument reads behind the call as it read before'; 0 by the template 'total and deterministic' (their statements: YtghnicaefbdjfaaTotals.lean).
  GIVEN WITH THE SEED: the statements are not yours to turn. If you find one false, say at which input.
  Laid BY PROGRAM, IN A SANDBOX (cutbox-rows.mjs): the forced cells as the released guide's own fill.sh prints them over the translation 5ec92d192e347142… (all of the seat's roots in one cut). By AI agents, Wed Nov 11 2026. No macro, syntax, notation, axiom, sorry.
-/
import Derived.Test.YtghnicaefbdjfaaChecked
import GoSem.Claim
import GoSem.ClaimJoined
import GoSem.ClaimMapViews
import Derived.JoinedTies
import Derived.KernelRfl
namespace Go.Proofs.Ytghnicaefbdjfaa
/- THE CELL 'sum', in the pinned program and in every row, IS THE sha256 OF THE DUMP (.gsa) THAT YtghnicaefbdjfaaProg.lean LOADS. Nothing in Lean hashes anything: it is a label: what it is worth is what the hold of that sum in a sandbox is worth. -/
noncomputable def Try.pinned : Pinned := { name := "ytghnicaefbdjfaa", sum := "5ec92d192e34714254380687d7b8f4a675e193fc9774f3f311d89d27b04186bd", checked := Try.checked }
namespace Rows
def none {H : Type} : Left H := { results := [], args := [] }

/-- 'buttresslaw17.ClockSkew': WHATEVER THE INPUT: true; the input reads as it did. -/
def clockSkewSpec : ChangeSpec := { name := "clockSkew", fn := fun _ => fun
  | [d1, d2, d3, d4, d5] => { results := [.lit (.bool true)], args := [d1, d2, d3, d4, d5] }
  | _ => none }
def clockSkewRow : OpenClaim := { program := "ytghnicaefbdjfaa", sum := "5ec92d192e34714254380687d7b8f4a675e193fc9774f3f311d89d27b04186bd", func := "buttress/buttresslaw17.ClockSkew", spec := "clockSkew", unfollowed := true, recurses := true, apart := false }
def ClockSkewSaid : Prop := clockSkewRow.holds Try.pinned (OpenSpec.ofChange clockSkewSpec)

/-- ITS FALSE NEIGHBOUR: 'it returns false'. Refute it at one input. -/
def clockSkewWrong : ChangeSpec := { name := "clockSkew", fn := fun _ => fun
  | [d1, d2, d3, d4, d5] => { results := [.lit (.bool false)], args := [d1, d2, d3, d4, d5] }
  | _ => none }
def ClockSkewWrongFalsely : Prop := clockSkewRow.holds Try.pinned (OpenSpec.ofChange clockSkewWrong)

/-- 'buttresslaw17.ClockRings': WHATEVER THE INPUT: true; the input reads as it did. -/
def clockRingsSpec : ChangeSpec := { name := "clockRings", fn := fun _ => fun
  | [d1, d2] => { results := [.lit (.bool true)], args := [d1, d2] }
  | _ => none }
def clockRingsRow : OpenClaim := { program := "ytghnicaefbdjfaa", sum := "5ec92d192e34714254380687d7b8f4a675e193fc9774f3f311d89d27b04186bd", func := "buttress/buttresslaw17.ClockRings", spec := "clockRings", unfollowed := true, recurses := true, apart := false }
def ClockRingsSaid : Prop := clockRingsRow.holds Try.pinned (OpenSpec.ofChange clockRingsSpec)

/-- ITS FALSE NEIGHBOUR: 'it returns false'. Refute it at one input. -/
def clockRingsWrong : ChangeSpec := { name := "clockRings", fn := fun _ => fun
  | [d1, d2] => { results := [.lit (.bool false)], args := [d1, d2] }
  | _ => none }
def ClockRingsWrongFalsely : Prop := clockRingsRow.holds Try.pinned (OpenSpec.ofChange clockRingsWrong)

/-- 'buttresslaw17.ClockDoes': WHATEVER THE INPUT: true; the input reads as it did. -/
def clockDoesSpec : ChangeSpec := { name := "clockDoes", fn := fun _ => fun
  | [d1, d2, d3, d4, d5] => { results := [.lit (.bool true)], args := [d1, d2, d3, d4, d5] }
  | _ => none }
def clockDoesRow : OpenClaim := { program := "ytghnicaefbdjfaa", sum := "5ec92d192e34714254380687d7b8f4a675e193fc9774f3f311d89d27b04186bd", func := "buttress/buttresslaw17.ClockDoes", spec := "clockDoes", unfollowed := true, recurses := true, apart := false }
def ClockDoesSaid : Prop := clockDoesRow.holds Try.pinned (OpenSpec.ofChange clockDoesSpec)

/-- ITS FALSE NEIGHBOUR: 'it returns false'. Refute it at one input. -/
def clockDoesWrong : ChangeSpec := { name := "clockDoes", fn := fun _ => fun
  | [d1, d2, d3, d4, d5] => { results := [.lit (.bool false)], args := [d1, d2, d3, d4, d5] }
  | _ => none }
def ClockDoesWrongFalsely : Prop := clockDoesRow.holds Try.pinned (OpenSpec.ofChange clockDoesWrong)

/-- 'buttresslaw17.ClockNobody': WHATEVER THE INPUT: true; the input reads as it did. -/
def clockNobodySpec : ChangeSpec := { name := "clockNobody", fn := fun _ => fun
  | [d] => { results := [.lit (.bool true)], args := [d] }
  | _ => none }
def clockNobodyRow : OpenClaim := { program := "ytghnicaefbdjfaa", sum := "5ec92d192e34714254380687d7b8f4a675e193fc9774f3f311d89d27b04186bd", func := "buttress/buttresslaw17.ClockNobody", spec := "clockNobody", unfollowed := true, recurses := true, apart := false }
def ClockNobodySaid : Prop := clockNobodyRow.holds Try.pinned (OpenSpec.ofChange clockNobodySpec)

/-- ITS FALSE NEIGHBOUR: 'it returns false'. Refute it at one input. -/
def clockNobodyWrong : ChangeSpec := { name := "clockNobody", fn := fun _ => fun
  | [d] => { results := [.lit (.bool false)], args := [d] }
  | _ => none }
def ClockNobodyWrongFalsely : Prop := clockNobodyRow.holds Try.pinned (OpenSpec.ofChange clockNobodyWrong)

/- THE SECOND FORM. 'bulk': how many values and letters a reading holds, each counted each time it is reached (what is shared counts as often as it is met; a slice's spare places count too). A statement '..UptoSaid' is the law's where the arguments, and the package variables that the reading takes, are together of bulk at most 1048576: NARROWER than '..Said'. Prove '..Said' where nothing that the law and all that it calls make is longer than what came in: it says more and counts as full. Else prove '..UptoSaid'. A law counts once. -/
mutual
def uptoBulk {H : Type} : DataW H → Nat
  | .lit (.string bytes) => bytes.length + 1
  | .lit _ => 1
  | .nil => 1
  | .ptr d => uptoBulk d + 1
  | .slice elems spare => uptoBulkAll elems + uptoBulkAll spare + 1
  | .agg parts => uptoBulkAll parts + 1
  | .iface _ d => uptoBulk d + 1
  | .map entries => uptoBulkEntries entries + 1
  | .held _ => 1
def uptoBulkAll {H : Type} : List (DataW H) → Nat
  | [] => 0
  | d :: r => uptoBulk d + uptoBulkAll r
def uptoBulkEntries {H : Type} : List (Lit × DataW H) → Nat
  | [] => 0
  | x :: r => uptoBulkEntry x + uptoBulkEntries r
def uptoBulkEntry {H : Type} : Lit × DataW H → Nat
  | (.string bytes, d) => bytes.length + uptoBulk d + 1
  | (_, d) => uptoBulk d + 1
 end
def uptoSmall : (H : Type) → List (DataW H) → Bool := fun _ ds => decide (uptoBulkAll ds ≤ 1048576)
def OpenSpec.upto (s : _root_.Go.ChangeSpec) : _root_.Go.OpenSpec := { _root_.Go.OpenSpec.ofChange s with cond := some uptoSmall }

/-- 'buttresslaw17.ClockSkew', WHERE WHAT IT READS IS OF BULK AT MOST 1048576: true; the input reads as it did. -/
def clockSkewUptoRow : OpenClaim := { program := "ytghnicaefbdjfaa", sum := "5ec92d192e34714254380687d7b8f4a675e193fc9774f3f311d89d27b04186bd", func := "buttress/buttresslaw17.ClockSkew", spec := "clockSkew", unfollowed := true, recurses := true, apart := false, narrowed := true }
def ClockSkewUptoSaid : Prop := clockSkewUptoRow.holds Try.pinned (OpenSpec.upto clockSkewSpec)

/-- 'buttresslaw17.ClockRings', WHERE WHAT IT READS IS OF BULK AT MOST 1048576: true; the input reads as it did. -/
def clockRingsUptoRow : OpenClaim := { program := "ytghnicaefbdjfaa", sum := "5ec92d192e34714254380687d7b8f4a675e193fc9774f3f311d89d27b04186bd", func := "buttress/buttresslaw17.ClockRings", spec := "clockRings", unfollowed := true, recurses := true, apart := false, narrowed := true }
def ClockRingsUptoSaid : Prop := clockRingsUptoRow.holds Try.pinned (OpenSpec.upto clockRingsSpec)

/-- 'buttresslaw17.ClockDoes', WHERE WHAT IT READS IS OF BULK AT MOST 1048576: true; the input reads as it did. -/
def clockDoesUptoRow : OpenClaim := { program := "ytghnicaefbdjfaa", sum := "5ec92d192e34714254380687d7b8f4a675e193fc9774f3f311d89d27b04186bd", func := "buttress/buttresslaw17.ClockDoes", spec := "clockDoes", unfollowed := true, recurses := true, apart := false, narrowed := true }
def ClockDoesUptoSaid : Prop := clockDoesUptoRow.holds Try.pinned (OpenSpec.upto clockDoesSpec)

/-- 'buttresslaw17.ClockNobody', WHERE WHAT IT READS IS OF BULK AT MOST 1048576: true; the input reads as it did. -/
def clockNobodyUptoRow : OpenClaim := { program := "ytghnicaefbdjfaa", sum := "5ec92d192e34714254380687d7b8f4a675e193fc9774f3f311d89d27b04186bd", func := "buttress/buttresslaw17.ClockNobody", spec := "clockNobody", unfollowed := true, recurses := true, apart := false, narrowed := true }
def ClockNobodyUptoSaid : Prop := clockNobodyUptoRow.holds Try.pinned (OpenSpec.upto clockNobodySpec)

end Rows
end Go.Proofs.Ytghnicaefbdjfaa
