/-
  No cell of these rows narrows 'for every input' (looked for: loops, veiled, ifaces, maps, wideKeys, modest, calm, conditions, laid).
  DERIVED. THE GIVEN ROWS OF THIS SEAT. 2 by the template 'for every input the law returns true; each argument reads behind the call as it read before'; 0 by the template 'total and deterministic' (their statements: YtppcdmbkgficiaaGreatTotals.lean).
  GIVEN WITH THE SEED: the statements are not yours to turn. If you find one false, say at which input.
  Laid BY PROGRAM, IN A SANDBOX (cutbox-rows.mjs): the forced cells as the released guide's own fill.sh prints them over the translation 4b2fb7fa5640fd85… (all of the seat's roots in one cut). By AI agents, Wed Nov 11 2026. No macro, syntax, notation, axiom, sorry.
-/
import Derived.Test.YtppcdmbkgficiaaGreatChecked
import GoSem.Claim
import GoSem.ClaimJoined
import GoSem.ClaimMapViews
import Derived.JoinedTies
import Derived.KernelRfl
namespace Go.Proofs.YtppcdmbkgficiaaGreat
/- THE CELL 'sum', in the pinned program and in every row, IS THE sha256 OF THE DUMP (.gsa) THAT YtppcdmbkgficiaaGreatProg.lean LOADS. Nothing in Lean hashes anything: it is a label: what it is worth is what the hold of that sum in a sandbox is worth. -/
noncomputable def Tryz.pinned : Pinned := { name := "ytppcdmbkgficiaagreat", sum := "4b2fb7fa5640fd85aa81977e61ea1272a8a27cacdda73bc44b12a3d4f1a37383", checked := Tryz.checked }
namespace Rows
def none {H : Type} : Left H := { results := [], args := [] }

/-- 'buttresslaw21.FetcherBegins': WHATEVER THE INPUT: true; the input reads as it did. -/
def fetcherBeginsSpec : ChangeSpec := { name := "fetcherBegins", fn := fun _ => fun
  | [d1, d2, d3, d4] => { results := [.lit (.bool true)], args := [d1, d2, d3, d4] }
  | _ => none }
def fetcherBeginsRow : OpenClaim := { program := "ytppcdmbkgficiaagreat", sum := "4b2fb7fa5640fd85aa81977e61ea1272a8a27cacdda73bc44b12a3d4f1a37383", func := "buttress/buttresslaw21.FetcherBegins", spec := "fetcherBegins", unfollowed := true, recurses := true, apart := false }
def FetcherBeginsSaid : Prop := fetcherBeginsRow.holds Tryz.pinned (OpenSpec.ofChange fetcherBeginsSpec)

/-- ITS FALSE NEIGHBOUR: 'it returns false'. Refute it at one input. -/
def fetcherBeginsWrong : ChangeSpec := { name := "fetcherBegins", fn := fun _ => fun
  | [d1, d2, d3, d4] => { results := [.lit (.bool false)], args := [d1, d2, d3, d4] }
  | _ => none }
def FetcherBeginsWrongFalsely : Prop := fetcherBeginsRow.holds Tryz.pinned (OpenSpec.ofChange fetcherBeginsWrong)

/-- 'buttresslaw22.MoverBegins': WHATEVER THE INPUT: true; the input reads as it did. -/
def moverBeginsSpec : ChangeSpec := { name := "moverBegins", fn := fun _ => fun
  | [d1, d2, d3, d4, d5, d6] => { results := [.lit (.bool true)], args := [d1, d2, d3, d4, d5, d6] }
  | _ => none }
def moverBeginsRow : OpenClaim := { program := "ytppcdmbkgficiaagreat", sum := "4b2fb7fa5640fd85aa81977e61ea1272a8a27cacdda73bc44b12a3d4f1a37383", func := "buttress/buttresslaw22.MoverBegins", spec := "moverBegins", unfollowed := true, recurses := true, apart := false }
def MoverBeginsSaid : Prop := moverBeginsRow.holds Tryz.pinned (OpenSpec.ofChange moverBeginsSpec)

/-- ITS FALSE NEIGHBOUR: 'it returns false'. Refute it at one input. -/
def moverBeginsWrong : ChangeSpec := { name := "moverBegins", fn := fun _ => fun
  | [d1, d2, d3, d4, d5, d6] => { results := [.lit (.bool false)], args := [d1, d2, d3, d4, d5, d6] }
  | _ => none }
def MoverBeginsWrongFalsely : Prop := moverBeginsRow.holds Tryz.pinned (OpenSpec.ofChange moverBeginsWrong)

/- THE SECOND FORM. 'bulk': how many values and letters a reading holds, each counted each time it is reached (what is shared counts as often as it is met; a slice's spare places count too). A statement '..UptoSaid' is the law's where the arguments, and the package variables that the reading takes, are together of bulk at most 1048576: NARROWER than '..Said'. Prove '..Said' where nothing that the law and all that it calls make is longer than what came in: it says more and counts as full. Else prove '..UptoSaid'. A law counts once. -/
mutual
def uptoBulk {H : Type} : DataW H → Nat
  | .lit (.string bytes) => bytes.length + 1
  | .lit _ => 1
  | .nil => 1
  | .ptr d => uptoBulk d + 1
  | .slice elems spare => uptoBulkAll elems + uptoBulkAll spare + 1
  | .agg parts => uptoBulkAll parts + 1
  | .iface _ d => uptoBulk d + 1
  | .map entries => uptoBulkEntries entries + 1
  | .held _ => 1
def uptoBulkAll {H : Type} : List (DataW H) → Nat
  | [] => 0
  | d :: r => uptoBulk d + uptoBulkAll r
def uptoBulkEntries {H : Type} : List (Lit × DataW H) → Nat
  | [] => 0
  | x :: r => uptoBulkEntry x + uptoBulkEntries r
def uptoBulkEntry {H : Type} : Lit × DataW H → Nat
  | (.string bytes, d) => bytes.length + uptoBulk d + 1
  | (_, d) => uptoBulk d + 1
 end
def uptoSmall : (H : Type) → List (DataW H) → Bool := fun _ ds => decide (uptoBulkAll ds ≤ 1048576)
def OpenSpec.upto (s : _root_.Go.ChangeSpec) : _root_.Go.OpenSpec := { _root_.Go.OpenSpec.ofChange s with cond := some uptoSmall }

/-- 'buttresslaw21.FetcherBegins', WHERE WHAT IT READS IS OF BULK AT MOST 1048576: true; the input reads as it did. -/
def fetcherBeginsUptoRow : OpenClaim := { program := "ytppcdmbkgficiaagreat", sum := "4b2fb7fa5640fd85aa81977e61ea1272a8a27cacdda73bc44b12a3d4f1a37383", func := "buttress/buttresslaw21.FetcherBegins", spec := "fetcherBegins", unfollowed := true, recurses := true, apart := false, narrowed := true }
def FetcherBeginsUptoSaid : Prop := fetcherBeginsUptoRow.holds Tryz.pinned (OpenSpec.upto fetcherBeginsSpec)

/-- 'buttresslaw22.MoverBegins', WHERE WHAT IT READS IS OF BULK AT MOST 1048576: true; the input reads as it did. -/
def moverBeginsUptoRow : OpenClaim := { program := "ytppcdmbkgficiaagreat", sum := "4b2fb7fa5640fd85aa81977e61ea1272a8a27cacdda73bc44b12a3d4f1a37383", func := "buttress/buttresslaw22.MoverBegins", spec := "moverBegins", unfollowed := true, recurses := true, apart := false, narrowed := true }
def MoverBeginsUptoSaid : Prop := moverBeginsUptoRow.holds Tryz.pinned (OpenSpec.upto moverBeginsSpec)

end Rows
end Go.Proofs.YtppcdmbkgficiaaGreat
