/-
  DERIVED. GIVEN WITH THE SEED: THE CARDS: each row of YtcodkepdolmmbaaDoorRows.lean that lists a variable, with what it lists TIED to the program's text (the seventh form; the later family's looks); each row that meets fmt, with fmt's text TOLD by the authors' own Lean function (tested against real Go, not proved from fmt's source: count such statements apart). THE CARD IS WHAT COUNTS. Prove the row's statement (the work); the ties are given (YtcodkepdolmmbaaDoorTie.lean); close each card by the builder's one call (the guide's Derived/Test/ToyasCard.lean, 'card_holds'). Laid BY PROGRAM, IN A SANDBOX (cutbox-door.mjs). By AI agents, Wed Nov 11 2026. No macro, syntax, notation, axiom, sorry.
-/
import Derived.Test.YtcodkepdolmmbaaDoorRows
import GoSem.ClaimSeven
namespace Go.Proofs.YtcodkepdolmmbaaDoor
namespace Rows

/-- THE TIED CARD OF 'buttresslaw24.WitnessOpens'. -/
def witnessOpensCard : Claim7 := { stood := { row := witnessOpensRow, standIns := [], harness := (true, "0bbecf6d1c1b575ca47a8c6d65c10f4579d544fbae11b3099d65304ae3dc1421"), looks := true }, kinds := [], alts := [], laidByText := true, laidKinds := [.data, .data, .data, .data, .pinned, .pinned, .pinned, .pinned, .pinned, .pinned], laidTests := true, laidLooks := .later }
def WitnessOpensCardSaid : Prop := Claim7.holds Tryd.pinned (.plain (OpenSpec.ofChange witnessOpensSpec)) witnessOpensCard

/-- THE TIED CARD OF 'buttresslaw24.WitnessTurns'. -/
def witnessTurnsCard : Claim7 := { stood := { row := witnessTurnsRow, standIns := [], harness := (true, "0bbecf6d1c1b575ca47a8c6d65c10f4579d544fbae11b3099d65304ae3dc1421"), looks := true }, kinds := [], alts := [], laidByText := true, laidKinds := [.data, .data, .data, .data, .pinned, .pinned, .pinned, .pinned, .pinned, .pinned], laidTests := true, laidLooks := .later }
def WitnessTurnsCardSaid : Prop := Claim7.holds Tryd.pinned (.plain (OpenSpec.ofChange witnessTurnsSpec)) witnessTurnsCard

/-- THE TIED CARD OF 'buttresslaw24.WitnessKnows'. -/
def witnessKnowsCard : Claim7 := { stood := { row := witnessKnowsRow, standIns := [], harness := (true, "0bbecf6d1c1b575ca47a8c6d65c10f4579d544fbae11b3099d65304ae3dc1421"), looks := true }, kinds := [], alts := [], laidByText := true, laidKinds := [.data, .data, .data, .data, .pinned, .pinned, .pinned, .pinned, .pinned, .pinned], laidTests := true, laidLooks := .later }
def WitnessKnowsCardSaid : Prop := Claim7.holds Tryd.pinned (.plain (OpenSpec.ofChange witnessKnowsSpec)) witnessKnowsCard

/-- THE TIED CARD OF 'buttresslaw24.WitnessFewer'. -/
def witnessFewerCard : Claim7 := { stood := { row := witnessFewerRow, standIns := [], harness := (true, "0bbecf6d1c1b575ca47a8c6d65c10f4579d544fbae11b3099d65304ae3dc1421"), looks := true }, kinds := [], alts := [], laidByText := true, laidKinds := [.data, .data, .data, .data, .pinned, .pinned, .pinned, .pinned, .pinned, .pinned], laidTests := true, laidLooks := .later }
def WitnessFewerCardSaid : Prop := Claim7.holds Tryd.pinned (.plain (OpenSpec.ofChange witnessFewerSpec)) witnessFewerCard

/-- THE SECOND FORM's CARD OF 'buttresslaw24.WitnessOpens'. -/
def witnessOpensUptoCard : Claim7 := { stood := { row := witnessOpensUptoRow, standIns := [], harness := (true, "0bbecf6d1c1b575ca47a8c6d65c10f4579d544fbae11b3099d65304ae3dc1421"), looks := true }, kinds := [], alts := [], laidByText := true, laidKinds := [.data, .data, .data, .data, .pinned, .pinned, .pinned, .pinned, .pinned, .pinned], laidTests := true, laidLooks := .later }
def WitnessOpensUptoCardSaid : Prop := Claim7.holds Tryd.pinned (.plain (OpenSpec.upto witnessOpensSpec)) witnessOpensUptoCard

/-- THE SECOND FORM's CARD OF 'buttresslaw24.WitnessTurns'. -/
def witnessTurnsUptoCard : Claim7 := { stood := { row := witnessTurnsUptoRow, standIns := [], harness := (true, "0bbecf6d1c1b575ca47a8c6d65c10f4579d544fbae11b3099d65304ae3dc1421"), looks := true }, kinds := [], alts := [], laidByText := true, laidKinds := [.data, .data, .data, .data, .pinned, .pinned, .pinned, .pinned, .pinned, .pinned], laidTests := true, laidLooks := .later }
def WitnessTurnsUptoCardSaid : Prop := Claim7.holds Tryd.pinned (.plain (OpenSpec.upto witnessTurnsSpec)) witnessTurnsUptoCard

/-- THE SECOND FORM's CARD OF 'buttresslaw24.WitnessKnows'. -/
def witnessKnowsUptoCard : Claim7 := { stood := { row := witnessKnowsUptoRow, standIns := [], harness := (true, "0bbecf6d1c1b575ca47a8c6d65c10f4579d544fbae11b3099d65304ae3dc1421"), looks := true }, kinds := [], alts := [], laidByText := true, laidKinds := [.data, .data, .data, .data, .pinned, .pinned, .pinned, .pinned, .pinned, .pinned], laidTests := true, laidLooks := .later }
def WitnessKnowsUptoCardSaid : Prop := Claim7.holds Tryd.pinned (.plain (OpenSpec.upto witnessKnowsSpec)) witnessKnowsUptoCard

/-- THE SECOND FORM's CARD OF 'buttresslaw24.WitnessFewer'. -/
def witnessFewerUptoCard : Claim7 := { stood := { row := witnessFewerUptoRow, standIns := [], harness := (true, "0bbecf6d1c1b575ca47a8c6d65c10f4579d544fbae11b3099d65304ae3dc1421"), looks := true }, kinds := [], alts := [], laidByText := true, laidKinds := [.data, .data, .data, .data, .pinned, .pinned, .pinned, .pinned, .pinned, .pinned], laidTests := true, laidLooks := .later }
def WitnessFewerUptoCardSaid : Prop := Claim7.holds Tryd.pinned (.plain (OpenSpec.upto witnessFewerSpec)) witnessFewerUptoCard
end Rows
end Go.Proofs.YtcodkepdolmmbaaDoor
