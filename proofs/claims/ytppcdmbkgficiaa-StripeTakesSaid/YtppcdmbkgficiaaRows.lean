/-
  No cell of these rows narrows 'for every input' (looked for: loops, veiled, ifaces, maps, wideKeys, modest, calm, conditions, laid).
  DERIVED. THE GIVEN ROWS OF THIS SEAT. 15 by the template 'for every input the law returns true; each argument reads behind the call as it read before'; 0 by the template 'total and deterministic' (their statements: YtppcdmbkgficiaaTotals.lean).
  GIVEN WITH THE SEED: the statements are not yours to turn. If you find one false, say at which input.
  Laid BY PROGRAM, IN A SANDBOX (cutbox-rows.mjs): the forced cells as the released guide's own fill.sh prints them over the translation 477f9562ff23b37c… (all of the seat's roots in one cut). By AI agents, Wed Nov 11 2026. No macro, syntax, notation, axiom, sorry.
-/
import Derived.Test.YtppcdmbkgficiaaChecked
import GoSem.Claim
import GoSem.ClaimJoined
import GoSem.ClaimMapViews
import Derived.JoinedTies
import Derived.KernelRfl
namespace Go.Proofs.Ytppcdmbkgficiaa
/- THE CELL 'sum', in the pinned program and in every row, IS THE sha256 OF THE DUMP (.gsa) THAT YtppcdmbkgficiaaProg.lean LOADS. Nothing in Lean hashes anything: it is a label: what it is worth is what the hold of that sum in a sandbox is worth. -/
noncomputable def Try.pinned : Pinned := { name := "ytppcdmbkgficiaa", sum := "477f9562ff23b37ca9607239e35aba4616d093179f34b62a8439b227d7310497", checked := Try.checked }
namespace Rows
def none {H : Type} : Left H := { results := [], args := [] }

/-- 'buttresslaw20.WriterBegins': WHATEVER THE INPUT: true; the input reads as it did. -/
def writerBeginsSpec : ChangeSpec := { name := "writerBegins", fn := fun _ => fun
  | [d1, d2, d3, d4, d5, d6, d7, d8] => { results := [.lit (.bool true)], args := [d1, d2, d3, d4, d5, d6, d7, d8] }
  | _ => none }
def writerBeginsRow : OpenClaim := { program := "ytppcdmbkgficiaa", sum := "477f9562ff23b37ca9607239e35aba4616d093179f34b62a8439b227d7310497", func := "buttress/buttresslaw20.WriterBegins", spec := "writerBegins", unfollowed := true, recurses := true, apart := false }
def WriterBeginsSaid : Prop := writerBeginsRow.holds Try.pinned (OpenSpec.ofChange writerBeginsSpec)

/-- ITS FALSE NEIGHBOUR: 'it returns false'. Refute it at one input. -/
def writerBeginsWrong : ChangeSpec := { name := "writerBegins", fn := fun _ => fun
  | [d1, d2, d3, d4, d5, d6, d7, d8] => { results := [.lit (.bool false)], args := [d1, d2, d3, d4, d5, d6, d7, d8] }
  | _ => none }
def WriterBeginsWrongFalsely : Prop := writerBeginsRow.holds Try.pinned (OpenSpec.ofChange writerBeginsWrong)

/-- 'buttresslaw20.WriterAgain': WHATEVER THE INPUT: true; the input reads as it did. -/
def writerAgainSpec : ChangeSpec := { name := "writerAgain", fn := fun _ => fun
  | [d1, d2, d3] => { results := [.lit (.bool true)], args := [d1, d2, d3] }
  | _ => none }
def writerAgainRow : OpenClaim := { program := "ytppcdmbkgficiaa", sum := "477f9562ff23b37ca9607239e35aba4616d093179f34b62a8439b227d7310497", func := "buttress/buttresslaw20.WriterAgain", spec := "writerAgain", unfollowed := true, recurses := true, apart := false }
def WriterAgainSaid : Prop := writerAgainRow.holds Try.pinned (OpenSpec.ofChange writerAgainSpec)

/-- ITS FALSE NEIGHBOUR: 'it returns false'. Refute it at one input. -/
def writerAgainWrong : ChangeSpec := { name := "writerAgain", fn := fun _ => fun
  | [d1, d2, d3] => { results := [.lit (.bool false)], args := [d1, d2, d3] }
  | _ => none }
def WriterAgainWrongFalsely : Prop := writerAgainRow.holds Try.pinned (OpenSpec.ofChange writerAgainWrong)

/-- 'buttresslaw20.WriterEnds': WHATEVER THE INPUT: true; the input reads as it did. -/
def writerEndsSpec : ChangeSpec := { name := "writerEnds", fn := fun _ => fun
  | [d1, d2] => { results := [.lit (.bool true)], args := [d1, d2] }
  | _ => none }
def writerEndsRow : OpenClaim := { program := "ytppcdmbkgficiaa", sum := "477f9562ff23b37ca9607239e35aba4616d093179f34b62a8439b227d7310497", func := "buttress/buttresslaw20.WriterEnds", spec := "writerEnds", unfollowed := true, recurses := true, apart := false }
def WriterEndsSaid : Prop := writerEndsRow.holds Try.pinned (OpenSpec.ofChange writerEndsSpec)

/-- ITS FALSE NEIGHBOUR: 'it returns false'. Refute it at one input. -/
def writerEndsWrong : ChangeSpec := { name := "writerEnds", fn := fun _ => fun
  | [d1, d2] => { results := [.lit (.bool false)], args := [d1, d2] }
  | _ => none }
def WriterEndsWrongFalsely : Prop := writerEndsRow.holds Try.pinned (OpenSpec.ofChange writerEndsWrong)

/-- 'buttresslaw04.StripeAdds': WHATEVER THE INPUT: true; the input reads as it did. -/
def stripeAddsSpec : ChangeSpec := { name := "stripeAdds", fn := fun _ => fun
  | [d1, d2, d3, d4] => { results := [.lit (.bool true)], args := [d1, d2, d3, d4] }
  | _ => none }
def stripeAddsRow : OpenClaim := { program := "ytppcdmbkgficiaa", sum := "477f9562ff23b37ca9607239e35aba4616d093179f34b62a8439b227d7310497", func := "buttress/buttresslaw04.StripeAdds", spec := "stripeAdds", unfollowed := true, recurses := true, apart := false }
def StripeAddsSaid : Prop := stripeAddsRow.holds Try.pinned (OpenSpec.ofChange stripeAddsSpec)

/-- ITS FALSE NEIGHBOUR: 'it returns false'. Refute it at one input. -/
def stripeAddsWrong : ChangeSpec := { name := "stripeAdds", fn := fun _ => fun
  | [d1, d2, d3, d4] => { results := [.lit (.bool false)], args := [d1, d2, d3, d4] }
  | _ => none }
def StripeAddsWrongFalsely : Prop := stripeAddsRow.holds Try.pinned (OpenSpec.ofChange stripeAddsWrong)

/-- 'buttresslaw04.StripePlain': WHATEVER THE INPUT: true; the input reads as it did. -/
def stripePlainSpec : ChangeSpec := { name := "stripePlain", fn := fun _ => fun
  | [d1, d2, d3] => { results := [.lit (.bool true)], args := [d1, d2, d3] }
  | _ => none }
def stripePlainRow : OpenClaim := { program := "ytppcdmbkgficiaa", sum := "477f9562ff23b37ca9607239e35aba4616d093179f34b62a8439b227d7310497", func := "buttress/buttresslaw04.StripePlain", spec := "stripePlain", unfollowed := true, recurses := true, apart := false }
def StripePlainSaid : Prop := stripePlainRow.holds Try.pinned (OpenSpec.ofChange stripePlainSpec)

/-- ITS FALSE NEIGHBOUR: 'it returns false'. Refute it at one input. -/
def stripePlainWrong : ChangeSpec := { name := "stripePlain", fn := fun _ => fun
  | [d1, d2, d3] => { results := [.lit (.bool false)], args := [d1, d2, d3] }
  | _ => none }
def StripePlainWrongFalsely : Prop := stripePlainRow.holds Try.pinned (OpenSpec.ofChange stripePlainWrong)

/-- 'buttresslaw04.StripeBack': WHATEVER THE INPUT: true; the input reads as it did. -/
def stripeBackSpec : ChangeSpec := { name := "stripeBack", fn := fun _ => fun
  | [d1, d2, d3, d4] => { results := [.lit (.bool true)], args := [d1, d2, d3, d4] }
  | _ => none }
def stripeBackRow : OpenClaim := { program := "ytppcdmbkgficiaa", sum := "477f9562ff23b37ca9607239e35aba4616d093179f34b62a8439b227d7310497", func := "buttress/buttresslaw04.StripeBack", spec := "stripeBack", unfollowed := true, recurses := true, apart := false }
def StripeBackSaid : Prop := stripeBackRow.holds Try.pinned (OpenSpec.ofChange stripeBackSpec)

/-- ITS FALSE NEIGHBOUR: 'it returns false'. Refute it at one input. -/
def stripeBackWrong : ChangeSpec := { name := "stripeBack", fn := fun _ => fun
  | [d1, d2, d3, d4] => { results := [.lit (.bool false)], args := [d1, d2, d3, d4] }
  | _ => none }
def StripeBackWrongFalsely : Prop := stripeBackRow.holds Try.pinned (OpenSpec.ofChange stripeBackWrong)

/-- 'buttresslaw04.StripeCuts': WHATEVER THE INPUT: true; the input reads as it did. -/
def stripeCutsSpec : ChangeSpec := { name := "stripeCuts", fn := fun _ => fun
  | [d1, d2, d3, d4, d5] => { results := [.lit (.bool true)], args := [d1, d2, d3, d4, d5] }
  | _ => none }
def stripeCutsRow : OpenClaim := { program := "ytppcdmbkgficiaa", sum := "477f9562ff23b37ca9607239e35aba4616d093179f34b62a8439b227d7310497", func := "buttress/buttresslaw04.StripeCuts", spec := "stripeCuts", unfollowed := true, recurses := true, apart := false }
def StripeCutsSaid : Prop := stripeCutsRow.holds Try.pinned (OpenSpec.ofChange stripeCutsSpec)

/-- ITS FALSE NEIGHBOUR: 'it returns false'. Refute it at one input. -/
def stripeCutsWrong : ChangeSpec := { name := "stripeCuts", fn := fun _ => fun
  | [d1, d2, d3, d4, d5] => { results := [.lit (.bool false)], args := [d1, d2, d3, d4, d5] }
  | _ => none }
def StripeCutsWrongFalsely : Prop := stripeCutsRow.holds Try.pinned (OpenSpec.ofChange stripeCutsWrong)

/-- 'buttresslaw04.StripeTakes': WHATEVER THE INPUT: true; the input reads as it did. -/
def stripeTakesSpec : ChangeSpec := { name := "stripeTakes", fn := fun _ => fun
  | [d1, d2, d3, d4, d5, d6] => { results := [.lit (.bool true)], args := [d1, d2, d3, d4, d5, d6] }
  | _ => none }
def stripeTakesRow : OpenClaim := { program := "ytppcdmbkgficiaa", sum := "477f9562ff23b37ca9607239e35aba4616d093179f34b62a8439b227d7310497", func := "buttress/buttresslaw04.StripeTakes", spec := "stripeTakes", unfollowed := true, recurses := true, apart := false }
def StripeTakesSaid : Prop := stripeTakesRow.holds Try.pinned (OpenSpec.ofChange stripeTakesSpec)

/-- ITS FALSE NEIGHBOUR: 'it returns false'. Refute it at one input. -/
def stripeTakesWrong : ChangeSpec := { name := "stripeTakes", fn := fun _ => fun
  | [d1, d2, d3, d4, d5, d6] => { results := [.lit (.bool false)], args := [d1, d2, d3, d4, d5, d6] }
  | _ => none }
def StripeTakesWrongFalsely : Prop := stripeTakesRow.holds Try.pinned (OpenSpec.ofChange stripeTakesWrong)

/-- 'buttresslaw04.StripeTold': WHATEVER THE INPUT: true; the input reads as it did. -/
def stripeToldSpec : ChangeSpec := { name := "stripeTold", fn := fun _ => fun
  | [d1, d2, d3, d4, d5, d6] => { results := [.lit (.bool true)], args := [d1, d2, d3, d4, d5, d6] }
  | _ => none }
def stripeToldRow : OpenClaim := { program := "ytppcdmbkgficiaa", sum := "477f9562ff23b37ca9607239e35aba4616d093179f34b62a8439b227d7310497", func := "buttress/buttresslaw04.StripeTold", spec := "stripeTold", unfollowed := true, recurses := true, apart := false }
def StripeToldSaid : Prop := stripeToldRow.holds Try.pinned (OpenSpec.ofChange stripeToldSpec)

/-- ITS FALSE NEIGHBOUR: 'it returns false'. Refute it at one input. -/
def stripeToldWrong : ChangeSpec := { name := "stripeTold", fn := fun _ => fun
  | [d1, d2, d3, d4, d5, d6] => { results := [.lit (.bool false)], args := [d1, d2, d3, d4, d5, d6] }
  | _ => none }
def StripeToldWrongFalsely : Prop := stripeToldRow.holds Try.pinned (OpenSpec.ofChange stripeToldWrong)

/-- 'buttresslaw20.WriterAll': WHATEVER THE INPUT: true; the input reads as it did. -/
def writerAllSpec : ChangeSpec := { name := "writerAll", fn := fun _ => fun
  | [d1, d2, d3, d4] => { results := [.lit (.bool true)], args := [d1, d2, d3, d4] }
  | _ => none }
def writerAllRow : OpenClaim := { program := "ytppcdmbkgficiaa", sum := "477f9562ff23b37ca9607239e35aba4616d093179f34b62a8439b227d7310497", func := "buttress/buttresslaw20.WriterAll", spec := "writerAll", unfollowed := true, recurses := true, apart := false }
def WriterAllSaid : Prop := writerAllRow.holds Try.pinned (OpenSpec.ofChange writerAllSpec)

/-- ITS FALSE NEIGHBOUR: 'it returns false'. Refute it at one input. -/
def writerAllWrong : ChangeSpec := { name := "writerAll", fn := fun _ => fun
  | [d1, d2, d3, d4] => { results := [.lit (.bool false)], args := [d1, d2, d3, d4] }
  | _ => none }
def WriterAllWrongFalsely : Prop := writerAllRow.holds Try.pinned (OpenSpec.ofChange writerAllWrong)

/-- 'buttresslaw21.FetcherOrders': WHATEVER THE INPUT: true; the input reads as it did. -/
def fetcherOrdersSpec : ChangeSpec := { name := "fetcherOrders", fn := fun _ => fun
  | [d1, d2, d3, d4, d5] => { results := [.lit (.bool true)], args := [d1, d2, d3, d4, d5] }
  | _ => none }
def fetcherOrdersRow : OpenClaim := { program := "ytppcdmbkgficiaa", sum := "477f9562ff23b37ca9607239e35aba4616d093179f34b62a8439b227d7310497", func := "buttress/buttresslaw21.FetcherOrders", spec := "fetcherOrders", unfollowed := true, recurses := true, apart := false }
def FetcherOrdersSaid : Prop := fetcherOrdersRow.holds Try.pinned (OpenSpec.ofChange fetcherOrdersSpec)

/-- ITS FALSE NEIGHBOUR: 'it returns false'. Refute it at one input. -/
def fetcherOrdersWrong : ChangeSpec := { name := "fetcherOrders", fn := fun _ => fun
  | [d1, d2, d3, d4, d5] => { results := [.lit (.bool false)], args := [d1, d2, d3, d4, d5] }
  | _ => none }
def FetcherOrdersWrongFalsely : Prop := fetcherOrdersRow.holds Try.pinned (OpenSpec.ofChange fetcherOrdersWrong)

/-- 'buttresslaw21.FetcherGives': WHATEVER THE INPUT: true; the input reads as it did. -/
def fetcherGivesSpec : ChangeSpec := { name := "fetcherGives", fn := fun _ => fun
  | [d1, d2, d3, d4] => { results := [.lit (.bool true)], args := [d1, d2, d3, d4] }
  | _ => none }
def fetcherGivesRow : OpenClaim := { program := "ytppcdmbkgficiaa", sum := "477f9562ff23b37ca9607239e35aba4616d093179f34b62a8439b227d7310497", func := "buttress/buttresslaw21.FetcherGives", spec := "fetcherGives", unfollowed := true, recurses := true, apart := false }
def FetcherGivesSaid : Prop := fetcherGivesRow.holds Try.pinned (OpenSpec.ofChange fetcherGivesSpec)

/-- ITS FALSE NEIGHBOUR: 'it returns false'. Refute it at one input. -/
def fetcherGivesWrong : ChangeSpec := { name := "fetcherGives", fn := fun _ => fun
  | [d1, d2, d3, d4] => { results := [.lit (.bool false)], args := [d1, d2, d3, d4] }
  | _ => none }
def FetcherGivesWrongFalsely : Prop := fetcherGivesRow.holds Try.pinned (OpenSpec.ofChange fetcherGivesWrong)

/-- 'buttresslaw21.FetcherEnds': WHATEVER THE INPUT: true; the input reads as it did. -/
def fetcherEndsSpec : ChangeSpec := { name := "fetcherEnds", fn := fun _ => fun
  | [d1, d2] => { results := [.lit (.bool true)], args := [d1, d2] }
  | _ => none }
def fetcherEndsRow : OpenClaim := { program := "ytppcdmbkgficiaa", sum := "477f9562ff23b37ca9607239e35aba4616d093179f34b62a8439b227d7310497", func := "buttress/buttresslaw21.FetcherEnds", spec := "fetcherEnds", unfollowed := true, recurses := true, apart := false }
def FetcherEndsSaid : Prop := fetcherEndsRow.holds Try.pinned (OpenSpec.ofChange fetcherEndsSpec)

/-- ITS FALSE NEIGHBOUR: 'it returns false'. Refute it at one input. -/
def fetcherEndsWrong : ChangeSpec := { name := "fetcherEnds", fn := fun _ => fun
  | [d1, d2] => { results := [.lit (.bool false)], args := [d1, d2] }
  | _ => none }
def FetcherEndsWrongFalsely : Prop := fetcherEndsRow.holds Try.pinned (OpenSpec.ofChange fetcherEndsWrong)

/-- 'buttresslaw22.MoverMoves': WHATEVER THE INPUT: true; the input reads as it did. -/
def moverMovesSpec : ChangeSpec := { name := "moverMoves", fn := fun _ => fun
  | [d1, d2, d3, d4, d5] => { results := [.lit (.bool true)], args := [d1, d2, d3, d4, d5] }
  | _ => none }
def moverMovesRow : OpenClaim := { program := "ytppcdmbkgficiaa", sum := "477f9562ff23b37ca9607239e35aba4616d093179f34b62a8439b227d7310497", func := "buttress/buttresslaw22.MoverMoves", spec := "moverMoves", unfollowed := true, recurses := true, apart := false }
def MoverMovesSaid : Prop := moverMovesRow.holds Try.pinned (OpenSpec.ofChange moverMovesSpec)

/-- ITS FALSE NEIGHBOUR: 'it returns false'. Refute it at one input. -/
def moverMovesWrong : ChangeSpec := { name := "moverMoves", fn := fun _ => fun
  | [d1, d2, d3, d4, d5] => { results := [.lit (.bool false)], args := [d1, d2, d3, d4, d5] }
  | _ => none }
def MoverMovesWrongFalsely : Prop := moverMovesRow.holds Try.pinned (OpenSpec.ofChange moverMovesWrong)

/-- 'buttresslaw22.MoverFails': WHATEVER THE INPUT: true; the input reads as it did. -/
def moverFailsSpec : ChangeSpec := { name := "moverFails", fn := fun _ => fun
  | [d1, d2, d3, d4] => { results := [.lit (.bool true)], args := [d1, d2, d3, d4] }
  | _ => none }
def moverFailsRow : OpenClaim := { program := "ytppcdmbkgficiaa", sum := "477f9562ff23b37ca9607239e35aba4616d093179f34b62a8439b227d7310497", func := "buttress/buttresslaw22.MoverFails", spec := "moverFails", unfollowed := true, recurses := true, apart := false }
def MoverFailsSaid : Prop := moverFailsRow.holds Try.pinned (OpenSpec.ofChange moverFailsSpec)

/-- ITS FALSE NEIGHBOUR: 'it returns false'. Refute it at one input. -/
def moverFailsWrong : ChangeSpec := { name := "moverFails", fn := fun _ => fun
  | [d1, d2, d3, d4] => { results := [.lit (.bool false)], args := [d1, d2, d3, d4] }
  | _ => none }
def MoverFailsWrongFalsely : Prop := moverFailsRow.holds Try.pinned (OpenSpec.ofChange moverFailsWrong)

/- THE SECOND FORM. 'bulk': how many values and letters a reading holds, each counted each time it is reached (what is shared counts as often as it is met; a slice's spare places count too). A statement '..UptoSaid' is the law's where the arguments, and the package variables that the reading takes, are together of bulk at most 1048576: NARROWER than '..Said'. Prove '..Said' where nothing that the law and all that it calls make is longer than what came in: it says more and counts as full. Else prove '..UptoSaid'. A law counts once. -/
mutual
def uptoBulk {H : Type} : DataW H → Nat
  | .lit (.string bytes) => bytes.length + 1
  | .lit _ => 1
  | .nil => 1
  | .ptr d => uptoBulk d + 1
  | .slice elems spare => uptoBulkAll elems + uptoBulkAll spare + 1
  | .agg parts => uptoBulkAll parts + 1
  | .iface _ d => uptoBulk d + 1
  | .map entries => uptoBulkEntries entries + 1
  | .held _ => 1
def uptoBulkAll {H : Type} : List (DataW H) → Nat
  | [] => 0
  | d :: r => uptoBulk d + uptoBulkAll r
def uptoBulkEntries {H : Type} : List (Lit × DataW H) → Nat
  | [] => 0
  | x :: r => uptoBulkEntry x + uptoBulkEntries r
def uptoBulkEntry {H : Type} : Lit × DataW H → Nat
  | (.string bytes, d) => bytes.length + uptoBulk d + 1
  | (_, d) => uptoBulk d + 1
 end
def uptoSmall : (H : Type) → List (DataW H) → Bool := fun _ ds => decide (uptoBulkAll ds ≤ 1048576)
def OpenSpec.upto (s : _root_.Go.ChangeSpec) : _root_.Go.OpenSpec := { _root_.Go.OpenSpec.ofChange s with cond := some uptoSmall }

/-- 'buttresslaw20.WriterBegins', WHERE WHAT IT READS IS OF BULK AT MOST 1048576: true; the input reads as it did. -/
def writerBeginsUptoRow : OpenClaim := { program := "ytppcdmbkgficiaa", sum := "477f9562ff23b37ca9607239e35aba4616d093179f34b62a8439b227d7310497", func := "buttress/buttresslaw20.WriterBegins", spec := "writerBegins", unfollowed := true, recurses := true, apart := false, narrowed := true }
def WriterBeginsUptoSaid : Prop := writerBeginsUptoRow.holds Try.pinned (OpenSpec.upto writerBeginsSpec)

/-- 'buttresslaw20.WriterAgain', WHERE WHAT IT READS IS OF BULK AT MOST 1048576: true; the input reads as it did. -/
def writerAgainUptoRow : OpenClaim := { program := "ytppcdmbkgficiaa", sum := "477f9562ff23b37ca9607239e35aba4616d093179f34b62a8439b227d7310497", func := "buttress/buttresslaw20.WriterAgain", spec := "writerAgain", unfollowed := true, recurses := true, apart := false, narrowed := true }
def WriterAgainUptoSaid : Prop := writerAgainUptoRow.holds Try.pinned (OpenSpec.upto writerAgainSpec)

/-- 'buttresslaw20.WriterEnds', WHERE WHAT IT READS IS OF BULK AT MOST 1048576: true; the input reads as it did. -/
def writerEndsUptoRow : OpenClaim := { program := "ytppcdmbkgficiaa", sum := "477f9562ff23b37ca9607239e35aba4616d093179f34b62a8439b227d7310497", func := "buttress/buttresslaw20.WriterEnds", spec := "writerEnds", unfollowed := true, recurses := true, apart := false, narrowed := true }
def WriterEndsUptoSaid : Prop := writerEndsUptoRow.holds Try.pinned (OpenSpec.upto writerEndsSpec)

/-- 'buttresslaw04.StripeAdds', WHERE WHAT IT READS IS OF BULK AT MOST 1048576: true; the input reads as it did. -/
def stripeAddsUptoRow : OpenClaim := { program := "ytppcdmbkgficiaa", sum := "477f9562ff23b37ca9607239e35aba4616d093179f34b62a8439b227d7310497", func := "buttress/buttresslaw04.StripeAdds", spec := "stripeAdds", unfollowed := true, recurses := true, apart := false, narrowed := true }
def StripeAddsUptoSaid : Prop := stripeAddsUptoRow.holds Try.pinned (OpenSpec.upto stripeAddsSpec)

/-- 'buttresslaw04.StripePlain', WHERE WHAT IT READS IS OF BULK AT MOST 1048576: true; the input reads as it did. -/
def stripePlainUptoRow : OpenClaim := { program := "ytppcdmbkgficiaa", sum := "477f9562ff23b37ca9607239e35aba4616d093179f34b62a8439b227d7310497", func := "buttress/buttresslaw04.StripePlain", spec := "stripePlain", unfollowed := true, recurses := true, apart := false, narrowed := true }
def StripePlainUptoSaid : Prop := stripePlainUptoRow.holds Try.pinned (OpenSpec.upto stripePlainSpec)

/-- 'buttresslaw04.StripeBack', WHERE WHAT IT READS IS OF BULK AT MOST 1048576: true; the input reads as it did. -/
def stripeBackUptoRow : OpenClaim := { program := "ytppcdmbkgficiaa", sum := "477f9562ff23b37ca9607239e35aba4616d093179f34b62a8439b227d7310497", func := "buttress/buttresslaw04.StripeBack", spec := "stripeBack", unfollowed := true, recurses := true, apart := false, narrowed := true }
def StripeBackUptoSaid : Prop := stripeBackUptoRow.holds Try.pinned (OpenSpec.upto stripeBackSpec)

/-- 'buttresslaw04.StripeCuts', WHERE WHAT IT READS IS OF BULK AT MOST 1048576: true; the input reads as it did. -/
def stripeCutsUptoRow : OpenClaim := { program := "ytppcdmbkgficiaa", sum := "477f9562ff23b37ca9607239e35aba4616d093179f34b62a8439b227d7310497", func := "buttress/buttresslaw04.StripeCuts", spec := "stripeCuts", unfollowed := true, recurses := true, apart := false, narrowed := true }
def StripeCutsUptoSaid : Prop := stripeCutsUptoRow.holds Try.pinned (OpenSpec.upto stripeCutsSpec)

/-- 'buttresslaw04.StripeTakes', WHERE WHAT IT READS IS OF BULK AT MOST 1048576: true; the input reads as it did. -/
def stripeTakesUptoRow : OpenClaim := { program := "ytppcdmbkgficiaa", sum := "477f9562ff23b37ca9607239e35aba4616d093179f34b62a8439b227d7310497", func := "buttress/buttresslaw04.StripeTakes", spec := "stripeTakes", unfollowed := true, recurses := true, apart := false, narrowed := true }
def StripeTakesUptoSaid : Prop := stripeTakesUptoRow.holds Try.pinned (OpenSpec.upto stripeTakesSpec)

/-- 'buttresslaw04.StripeTold', WHERE WHAT IT READS IS OF BULK AT MOST 1048576: true; the input reads as it did. -/
def stripeToldUptoRow : OpenClaim := { program := "ytppcdmbkgficiaa", sum := "477f9562ff23b37ca9607239e35aba4616d093179f34b62a8439b227d7310497", func := "buttress/buttresslaw04.StripeTold", spec := "stripeTold", unfollowed := true, recurses := true, apart := false, narrowed := true }
def StripeToldUptoSaid : Prop := stripeToldUptoRow.holds Try.pinned (OpenSpec.upto stripeToldSpec)

/-- 'buttresslaw20.WriterAll', WHERE WHAT IT READS IS OF BULK AT MOST 1048576: true; the input reads as it did. -/
def writerAllUptoRow : OpenClaim := { program := "ytppcdmbkgficiaa", sum := "477f9562ff23b37ca9607239e35aba4616d093179f34b62a8439b227d7310497", func := "buttress/buttresslaw20.WriterAll", spec := "writerAll", unfollowed := true, recurses := true, apart := false, narrowed := true }
def WriterAllUptoSaid : Prop := writerAllUptoRow.holds Try.pinned (OpenSpec.upto writerAllSpec)

/-- 'buttresslaw21.FetcherOrders', WHERE WHAT IT READS IS OF BULK AT MOST 1048576: true; the input reads as it did. -/
def fetcherOrdersUptoRow : OpenClaim := { program := "ytppcdmbkgficiaa", sum := "477f9562ff23b37ca9607239e35aba4616d093179f34b62a8439b227d7310497", func := "buttress/buttresslaw21.FetcherOrders", spec := "fetcherOrders", unfollowed := true, recurses := true, apart := false, narrowed := true }
def FetcherOrdersUptoSaid : Prop := fetcherOrdersUptoRow.holds Try.pinned (OpenSpec.upto fetcherOrdersSpec)

/-- 'buttresslaw21.FetcherGives', WHERE WHAT IT READS IS OF BULK AT MOST 1048576: true; the input reads as it did. -/
def fetcherGivesUptoRow : OpenClaim := { program := "ytppcdmbkgficiaa", sum := "477f9562ff23b37ca9607239e35aba4616d093179f34b62a8439b227d7310497", func := "buttress/buttresslaw21.FetcherGives", spec := "fetcherGives", unfollowed := true, recurses := true, apart := false, narrowed := true }
def FetcherGivesUptoSaid : Prop := fetcherGivesUptoRow.holds Try.pinned (OpenSpec.upto fetcherGivesSpec)

/-- 'buttresslaw21.FetcherEnds', WHERE WHAT IT READS IS OF BULK AT MOST 1048576: true; the input reads as it did. -/
def fetcherEndsUptoRow : OpenClaim := { program := "ytppcdmbkgficiaa", sum := "477f9562ff23b37ca9607239e35aba4616d093179f34b62a8439b227d7310497", func := "buttress/buttresslaw21.FetcherEnds", spec := "fetcherEnds", unfollowed := true, recurses := true, apart := false, narrowed := true }
def FetcherEndsUptoSaid : Prop := fetcherEndsUptoRow.holds Try.pinned (OpenSpec.upto fetcherEndsSpec)

/-- 'buttresslaw22.MoverMoves', WHERE WHAT IT READS IS OF BULK AT MOST 1048576: true; the input reads as it did. -/
def moverMovesUptoRow : OpenClaim := { program := "ytppcdmbkgficiaa", sum := "477f9562ff23b37ca9607239e35aba4616d093179f34b62a8439b227d7310497", func := "buttress/buttresslaw22.MoverMoves", spec := "moverMoves", unfollowed := true, recurses := true, apart := false, narrowed := true }
def MoverMovesUptoSaid : Prop := moverMovesUptoRow.holds Try.pinned (OpenSpec.upto moverMovesSpec)

/-- 'buttresslaw22.MoverFails', WHERE WHAT IT READS IS OF BULK AT MOST 1048576: true; the input reads as it did. -/
def moverFailsUptoRow : OpenClaim := { program := "ytppcdmbkgficiaa", sum := "477f9562ff23b37ca9607239e35aba4616d093179f34b62a8439b227d7310497", func := "buttress/buttresslaw22.MoverFails", spec := "moverFails", unfollowed := true, recurses := true, apart := false, narrowed := true }
def MoverFailsUptoSaid : Prop := moverFailsUptoRow.holds Try.pinned (OpenSpec.upto moverFailsSpec)

end Rows
end Go.Proofs.Ytppcdmbkgficiaa
