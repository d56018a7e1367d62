/-
  DERIVED. GIVEN WITH THE SEED: THE CARDS: each row of YtcafjhnjhhicdaaGreatDoorRows.lean that lists a variable, with what it lists TIED to the program's text (the seventh form; the later family's looks); each row that meets fmt, with fmt's text TOLD by the authors' own Lean function (tested against real Go, not proved from fmt's source: count such statements apart). THE CARD IS WHAT COUNTS. Prove the row's statement (the work); the ties are given (YtcafjhnjhhicdaaGreatDoorTie.lean); close each card by the builder's one call (the guide's Derived/Test/ToyasCard.lean, 'card_holds'). Laid BY PROGRAM, IN A SANDBOX (cutbox-door.mjs). By AI agents, Wed Nov 11 2026. No macro, syntax, notation, axiom, sorry.
-/
import Derived.Test.YtcafjhnjhhicdaaGreatDoorRows
import GoSem.ClaimSeven
namespace Go.Proofs.YtcafjhnjhhicdaaGreatDoor
namespace Rows

/-- THE TIED CARD OF 'buttresslaw27.ConsoleApart'. -/
def consoleApartCard : Claim7 := { stood := { row := consoleApartRow, standIns := [], harness := (true, "ab8d0d84fac1d173ddf87282dd362898123844338535197c21f171096c20065b"), looks := true }, kinds := [], alts := [], laidByText := true, laidKinds := [.data, .data, .data, .data, .handle, .sentinel, .sentinel, .pinned], laidTests := true, laidLooks := .later }
def ConsoleApartCardSaid : Prop := Claim7.holds Tryz.pinned (.plain (OpenSpec.ofChange consoleApartSpec)) consoleApartCard

/-- THE TIED CARD OF 'buttresslaw27.ConsoleCodes'. -/
def consoleCodesCard : Claim7 := { stood := { row := consoleCodesRow, standIns := [], harness := (true, "ab8d0d84fac1d173ddf87282dd362898123844338535197c21f171096c20065b"), looks := true }, kinds := [], alts := [], laidByText := true, laidKinds := [.data, .data, .data, .data, .handle, .sentinel, .sentinel, .pinned], laidTests := true, laidLooks := .later }
def ConsoleCodesCardSaid : Prop := Claim7.holds Tryz.pinned (.plain (OpenSpec.ofChange consoleCodesSpec)) consoleCodesCard

/-- THE TIED CARD OF 'buttresslaw27.ConsoleNobody'. -/
def consoleNobodyCard : Claim7 := { stood := { row := consoleNobodyRow, standIns := [], harness := (true, "ab8d0d84fac1d173ddf87282dd362898123844338535197c21f171096c20065b"), looks := true }, kinds := [], alts := [], laidByText := true, laidKinds := [.data, .data, .data, .data, .handle, .sentinel, .sentinel, .pinned], laidTests := true, laidLooks := .later }
def ConsoleNobodyCardSaid : Prop := Claim7.holds Tryz.pinned (.plain (OpenSpec.ofChange consoleNobodySpec)) consoleNobodyCard

/-- THE SECOND FORM's CARD OF 'buttresslaw27.ConsoleApart'. -/
def consoleApartUptoCard : Claim7 := { stood := { row := consoleApartUptoRow, standIns := [], harness := (true, "ab8d0d84fac1d173ddf87282dd362898123844338535197c21f171096c20065b"), looks := true }, kinds := [], alts := [], laidByText := true, laidKinds := [.data, .data, .data, .data, .handle, .sentinel, .sentinel, .pinned], laidTests := true, laidLooks := .later }
def ConsoleApartUptoCardSaid : Prop := Claim7.holds Tryz.pinned (.plain (OpenSpec.upto consoleApartSpec)) consoleApartUptoCard

/-- THE SECOND FORM's CARD OF 'buttresslaw27.ConsoleCodes'. -/
def consoleCodesUptoCard : Claim7 := { stood := { row := consoleCodesUptoRow, standIns := [], harness := (true, "ab8d0d84fac1d173ddf87282dd362898123844338535197c21f171096c20065b"), looks := true }, kinds := [], alts := [], laidByText := true, laidKinds := [.data, .data, .data, .data, .handle, .sentinel, .sentinel, .pinned], laidTests := true, laidLooks := .later }
def ConsoleCodesUptoCardSaid : Prop := Claim7.holds Tryz.pinned (.plain (OpenSpec.upto consoleCodesSpec)) consoleCodesUptoCard

/-- THE SECOND FORM's CARD OF 'buttresslaw27.ConsoleNobody'. -/
def consoleNobodyUptoCard : Claim7 := { stood := { row := consoleNobodyUptoRow, standIns := [], harness := (true, "ab8d0d84fac1d173ddf87282dd362898123844338535197c21f171096c20065b"), looks := true }, kinds := [], alts := [], laidByText := true, laidKinds := [.data, .data, .data, .data, .handle, .sentinel, .sentinel, .pinned], laidTests := true, laidLooks := .later }
def ConsoleNobodyUptoCardSaid : Prop := Claim7.holds Tryz.pinned (.plain (OpenSpec.upto consoleNobodySpec)) consoleNobodyUptoCard
end Rows
end Go.Proofs.YtcafjhnjhhicdaaGreatDoor
