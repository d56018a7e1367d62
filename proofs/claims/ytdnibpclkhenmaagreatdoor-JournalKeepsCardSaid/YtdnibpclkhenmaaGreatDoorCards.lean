/-
  DERIVED. GIVEN WITH THE SEED: THE CARDS: each row of YtdnibpclkhenmaaGreatDoorRows.lean that lists a variable, with what it lists TIED to the program's text (the seventh form; the later family's looks); each row that meets fmt, with fmt's text TOLD by the authors' own Lean function (tested against real Go, not proved from fmt's source: count such statements apart). THE CARD IS WHAT COUNTS. Prove the row's statement (the work); the ties are given (YtdnibpclkhenmaaGreatDoorTie.lean); close each card by the builder's one call (the guide's Derived/Test/ToyasCard.lean, 'card_holds'). Laid BY PROGRAM, IN A SANDBOX (cutbox-door.mjs). By AI agents, Wed Nov 11 2026. No macro, syntax, notation, axiom, sorry.
-/
import Derived.Test.YtdnibpclkhenmaaGreatDoorRows
import GoSem.ClaimSeven
namespace Go.Proofs.YtdnibpclkhenmaaGreatDoor
namespace Rows

/-- THE TIED CARD OF 'buttresslaw08.JournalGrows'. -/
def journalGrowsCard : Claim7 := { stood := { row := journalGrowsRow, standIns := [], harness := (true, "c69cee6fbaf7a8730a09c12748fad2c6c9e1e680ce81b07d5b98d8e2490b8771"), looks := true }, kinds := [], alts := [], laidByText := true, laidKinds := [.data, .data, .data, .sentinel, .handle, .sentinel, .sentinel], laidTests := true, laidLooks := .later }
def JournalGrowsCardSaid : Prop := Claim7.holds Tryz.pinned (.plain (OpenSpec.ofChange journalGrowsSpec)) journalGrowsCard

/-- THE TIED CARD OF 'buttresslaw08.JournalRefuses'. -/
def journalRefusesCard : Claim7 := { stood := { row := journalRefusesRow, standIns := [], harness := (true, "c69cee6fbaf7a8730a09c12748fad2c6c9e1e680ce81b07d5b98d8e2490b8771"), looks := true }, kinds := [], alts := [], laidByText := true, laidKinds := [.data, .data, .data, .sentinel, .handle, .sentinel, .sentinel], laidTests := true, laidLooks := .later }
def JournalRefusesCardSaid : Prop := Claim7.holds Tryz.pinned (.plain (OpenSpec.ofChange journalRefusesSpec)) journalRefusesCard

/-- THE TIED CARD OF 'buttresslaw08.JournalOwn'. -/
def journalOwnCard : Claim7 := { stood := { row := journalOwnRow, standIns := [], harness := (true, "c69cee6fbaf7a8730a09c12748fad2c6c9e1e680ce81b07d5b98d8e2490b8771"), looks := true }, kinds := [], alts := [], laidByText := true, laidKinds := [.data, .data, .data, .sentinel, .handle, .sentinel, .sentinel], laidTests := true, laidLooks := .later }
def JournalOwnCardSaid : Prop := Claim7.holds Tryz.pinned (.plain (OpenSpec.ofChange journalOwnSpec)) journalOwnCard

/-- THE TIED CARD OF 'buttresslaw08.JournalApart'. -/
def journalApartCard : Claim7 := { stood := { row := journalApartRow, standIns := [], harness := (true, "c69cee6fbaf7a8730a09c12748fad2c6c9e1e680ce81b07d5b98d8e2490b8771"), looks := true }, kinds := [], alts := [], laidByText := true, laidKinds := [.data, .data, .data, .sentinel, .handle, .sentinel, .sentinel], laidTests := true, laidLooks := .later }
def JournalApartCardSaid : Prop := Claim7.holds Tryz.pinned (.plain (OpenSpec.ofChange journalApartSpec)) journalApartCard

/-- THE TIED CARD OF 'buttresslaw08.JournalKeeps'. -/
def journalKeepsCard : Claim7 := { stood := { row := journalKeepsRow, standIns := [], harness := (true, "c69cee6fbaf7a8730a09c12748fad2c6c9e1e680ce81b07d5b98d8e2490b8771"), looks := true }, kinds := [], alts := [], laidByText := true, laidKinds := [.data, .data, .data, .sentinel, .handle, .sentinel, .sentinel], laidTests := true, laidLooks := .later }
def JournalKeepsCardSaid : Prop := Claim7.holds Tryz.pinned (.plain (OpenSpec.ofChange journalKeepsSpec)) journalKeepsCard

/-- THE TIED CARD OF 'buttresslaw14.KeepRefuses'. -/
def keepRefusesCard : Claim7 := { stood := { row := keepRefusesRow, standIns := [], harness := (true, "c69cee6fbaf7a8730a09c12748fad2c6c9e1e680ce81b07d5b98d8e2490b8771"), looks := true }, kinds := [], alts := [], laidByText := true, laidKinds := [.data, .data, .data, .sentinel, .handle, .sentinel, .sentinel], laidTests := true, laidLooks := .later }
def KeepRefusesCardSaid : Prop := Claim7.holds Tryz.pinned (.plain (OpenSpec.ofChange keepRefusesSpec)) keepRefusesCard

/-- THE TIED CARD OF 'buttresslaw09.VaultTells'. -/
def vaultTellsCard : Claim7 := { stood := { row := vaultTellsRow, standIns := [], harness := (true, "c69cee6fbaf7a8730a09c12748fad2c6c9e1e680ce81b07d5b98d8e2490b8771"), looks := true }, kinds := [], alts := [], laidByText := true, laidKinds := [.data, .data, .data, .sentinel, .handle, .sentinel, .sentinel], laidTests := true, laidLooks := .later }
def VaultTellsCardSaid : Prop := Claim7.holds Tryz.pinned (.plain (OpenSpec.ofChange vaultTellsSpec)) vaultTellsCard

/-- THE TIED CARD OF 'buttresslaw09.VaultHolds'. -/
def vaultHoldsCard : Claim7 := { stood := { row := vaultHoldsRow, standIns := [], harness := (true, "c69cee6fbaf7a8730a09c12748fad2c6c9e1e680ce81b07d5b98d8e2490b8771"), looks := true }, kinds := [], alts := [], laidByText := true, laidKinds := [.data, .data, .data, .sentinel, .handle, .sentinel, .sentinel], laidTests := true, laidLooks := .later }
def VaultHoldsCardSaid : Prop := Claim7.holds Tryz.pinned (.plain (OpenSpec.ofChange vaultHoldsSpec)) vaultHoldsCard

/-- THE TIED CARD OF 'buttresslaw09.VaultRefuses'. -/
def vaultRefusesCard : Claim7 := { stood := { row := vaultRefusesRow, standIns := [], harness := (true, "c69cee6fbaf7a8730a09c12748fad2c6c9e1e680ce81b07d5b98d8e2490b8771"), looks := true }, kinds := [], alts := [], laidByText := true, laidKinds := [.data, .data, .data, .sentinel, .handle, .sentinel, .sentinel], laidTests := true, laidLooks := .later }
def VaultRefusesCardSaid : Prop := Claim7.holds Tryz.pinned (.plain (OpenSpec.ofChange vaultRefusesSpec)) vaultRefusesCard

/-- THE SECOND FORM's CARD OF 'buttresslaw08.JournalGrows'. -/
def journalGrowsUptoCard : Claim7 := { stood := { row := journalGrowsUptoRow, standIns := [], harness := (true, "c69cee6fbaf7a8730a09c12748fad2c6c9e1e680ce81b07d5b98d8e2490b8771"), looks := true }, kinds := [], alts := [], laidByText := true, laidKinds := [.data, .data, .data, .sentinel, .handle, .sentinel, .sentinel], laidTests := true, laidLooks := .later }
def JournalGrowsUptoCardSaid : Prop := Claim7.holds Tryz.pinned (.plain (OpenSpec.upto journalGrowsSpec)) journalGrowsUptoCard

/-- THE SECOND FORM's CARD OF 'buttresslaw08.JournalRefuses'. -/
def journalRefusesUptoCard : Claim7 := { stood := { row := journalRefusesUptoRow, standIns := [], harness := (true, "c69cee6fbaf7a8730a09c12748fad2c6c9e1e680ce81b07d5b98d8e2490b8771"), looks := true }, kinds := [], alts := [], laidByText := true, laidKinds := [.data, .data, .data, .sentinel, .handle, .sentinel, .sentinel], laidTests := true, laidLooks := .later }
def JournalRefusesUptoCardSaid : Prop := Claim7.holds Tryz.pinned (.plain (OpenSpec.upto journalRefusesSpec)) journalRefusesUptoCard

/-- THE SECOND FORM's CARD OF 'buttresslaw08.JournalOwn'. -/
def journalOwnUptoCard : Claim7 := { stood := { row := journalOwnUptoRow, standIns := [], harness := (true, "c69cee6fbaf7a8730a09c12748fad2c6c9e1e680ce81b07d5b98d8e2490b8771"), looks := true }, kinds := [], alts := [], laidByText := true, laidKinds := [.data, .data, .data, .sentinel, .handle, .sentinel, .sentinel], laidTests := true, laidLooks := .later }
def JournalOwnUptoCardSaid : Prop := Claim7.holds Tryz.pinned (.plain (OpenSpec.upto journalOwnSpec)) journalOwnUptoCard

/-- THE SECOND FORM's CARD OF 'buttresslaw08.JournalApart'. -/
def journalApartUptoCard : Claim7 := { stood := { row := journalApartUptoRow, standIns := [], harness := (true, "c69cee6fbaf7a8730a09c12748fad2c6c9e1e680ce81b07d5b98d8e2490b8771"), looks := true }, kinds := [], alts := [], laidByText := true, laidKinds := [.data, .data, .data, .sentinel, .handle, .sentinel, .sentinel], laidTests := true, laidLooks := .later }
def JournalApartUptoCardSaid : Prop := Claim7.holds Tryz.pinned (.plain (OpenSpec.upto journalApartSpec)) journalApartUptoCard

/-- THE SECOND FORM's CARD OF 'buttresslaw08.JournalKeeps'. -/
def journalKeepsUptoCard : Claim7 := { stood := { row := journalKeepsUptoRow, standIns := [], harness := (true, "c69cee6fbaf7a8730a09c12748fad2c6c9e1e680ce81b07d5b98d8e2490b8771"), looks := true }, kinds := [], alts := [], laidByText := true, laidKinds := [.data, .data, .data, .sentinel, .handle, .sentinel, .sentinel], laidTests := true, laidLooks := .later }
def JournalKeepsUptoCardSaid : Prop := Claim7.holds Tryz.pinned (.plain (OpenSpec.upto journalKeepsSpec)) journalKeepsUptoCard

/-- THE SECOND FORM's CARD OF 'buttresslaw14.KeepRefuses'. -/
def keepRefusesUptoCard : Claim7 := { stood := { row := keepRefusesUptoRow, standIns := [], harness := (true, "c69cee6fbaf7a8730a09c12748fad2c6c9e1e680ce81b07d5b98d8e2490b8771"), looks := true }, kinds := [], alts := [], laidByText := true, laidKinds := [.data, .data, .data, .sentinel, .handle, .sentinel, .sentinel], laidTests := true, laidLooks := .later }
def KeepRefusesUptoCardSaid : Prop := Claim7.holds Tryz.pinned (.plain (OpenSpec.upto keepRefusesSpec)) keepRefusesUptoCard

/-- THE SECOND FORM's CARD OF 'buttresslaw09.VaultTells'. -/
def vaultTellsUptoCard : Claim7 := { stood := { row := vaultTellsUptoRow, standIns := [], harness := (true, "c69cee6fbaf7a8730a09c12748fad2c6c9e1e680ce81b07d5b98d8e2490b8771"), looks := true }, kinds := [], alts := [], laidByText := true, laidKinds := [.data, .data, .data, .sentinel, .handle, .sentinel, .sentinel], laidTests := true, laidLooks := .later }
def VaultTellsUptoCardSaid : Prop := Claim7.holds Tryz.pinned (.plain (OpenSpec.upto vaultTellsSpec)) vaultTellsUptoCard

/-- THE SECOND FORM's CARD OF 'buttresslaw09.VaultHolds'. -/
def vaultHoldsUptoCard : Claim7 := { stood := { row := vaultHoldsUptoRow, standIns := [], harness := (true, "c69cee6fbaf7a8730a09c12748fad2c6c9e1e680ce81b07d5b98d8e2490b8771"), looks := true }, kinds := [], alts := [], laidByText := true, laidKinds := [.data, .data, .data, .sentinel, .handle, .sentinel, .sentinel], laidTests := true, laidLooks := .later }
def VaultHoldsUptoCardSaid : Prop := Claim7.holds Tryz.pinned (.plain (OpenSpec.upto vaultHoldsSpec)) vaultHoldsUptoCard

/-- THE SECOND FORM's CARD OF 'buttresslaw09.VaultRefuses'. -/
def vaultRefusesUptoCard : Claim7 := { stood := { row := vaultRefusesUptoRow, standIns := [], harness := (true, "c69cee6fbaf7a8730a09c12748fad2c6c9e1e680ce81b07d5b98d8e2490b8771"), looks := true }, kinds := [], alts := [], laidByText := true, laidKinds := [.data, .data, .data, .sentinel, .handle, .sentinel, .sentinel], laidTests := true, laidLooks := .later }
def VaultRefusesUptoCardSaid : Prop := Claim7.holds Tryz.pinned (.plain (OpenSpec.upto vaultRefusesSpec)) vaultRefusesUptoCard
end Rows
end Go.Proofs.YtdnibpclkhenmaaGreatDoor
