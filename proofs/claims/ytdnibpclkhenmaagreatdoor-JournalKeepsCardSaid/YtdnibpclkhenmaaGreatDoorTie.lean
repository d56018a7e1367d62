/-
  DERIVED. GIVEN WITH THE SEED: THE PROGRAM's TIES (one call each: nine closed facts by the kernel) AND EACH ROW's TIE, after the 31st guide's Derived/Test/Toyas{Tie, Card}.lean. No idea stands in it: it is a product of the set-up. Laid BY PROGRAM, IN A SANDBOX (cutbox-door.mjs). By AI agents, Wed Nov 11 2026. No macro, syntax, notation, axiom, sorry.
-/
import Derived.Test.YtdnibpclkhenmaaGreatDoorRows
import Derived.LaidByTextLater
import Derived.SevenTiedAt
import Derived.LaidSub
import Derived.LaidOnce
namespace Go.Proofs.YtdnibpclkhenmaaGreatDoor
open Go
set_option maxRecDepth 100000
theorem seatTie1 : Tryz.prog.laidByTextLater [("math/bits.deBruijn32tab", Rows.laid_math_bits_deBruijn32tab), ("math/bits.deBruijn64tab", Rows.laid_math_bits_deBruijn64tab), ("internal/strconv.uint64pow10", Rows.laid_internal_strconv_uint64pow10), ("errors.ErrUnsupported", Rows.laid_errors_ErrUnsupported), ("errors.errorType", Rows.laid_errors_errorType), ("strconv.ErrRange", Rows.laid_strconv_ErrRange), ("strconv.ErrSyntax", Rows.laid_strconv_ErrSyntax)] [.data, .data, .data, .sentinel, .handle, .sentinel, .sentinel] true :=
  Program.laidByTextLater_by_one 88 8 65 (by kernel_rfl) (by kernel_rfl) (by kernel_rfl) (by kernel_rfl) (by kernel_rfl) (by kernel_rfl) (fun _ _ => by kernel_rfl)
theorem noOwnUnsafe : Tryz.pinned.checked.prog.headLifts.contains "ownunsafe" = false := by kernel_rfl
theorem tie : Tryz.prog.laidByTextLater [("math/bits.deBruijn32tab", Rows.laid_math_bits_deBruijn32tab), ("math/bits.deBruijn64tab", Rows.laid_math_bits_deBruijn64tab), ("internal/strconv.uint64pow10", Rows.laid_internal_strconv_uint64pow10), ("errors.ErrUnsupported", Rows.laid_errors_ErrUnsupported), ("errors.errorType", Rows.laid_errors_errorType), ("strconv.ErrRange", Rows.laid_strconv_ErrRange), ("strconv.ErrSyntax", Rows.laid_strconv_ErrSyntax)] [.data, .data, .data, .sentinel, .handle, .sentinel, .sentinel] true :=
  Program.laidByTextLater.sub seatTie1 ["math/bits.deBruijn32tab", "math/bits.deBruijn64tab", "internal/strconv.uint64pow10", "errors.ErrUnsupported", "errors.errorType", "strconv.ErrRange", "strconv.ErrSyntax"] (by kernel_rfl) (by kernel_rfl)
theorem journalGrows_row_tie : Rows.journalGrowsRow.laidByTextAt .later Tryz.pinned [.data, .data, .data, .sentinel, .handle, .sentinel, .sentinel] true :=
  OpenClaim.laidByTextAt_later rfl rfl tie noOwnUnsafe
theorem journalRefuses_row_tie : Rows.journalRefusesRow.laidByTextAt .later Tryz.pinned [.data, .data, .data, .sentinel, .handle, .sentinel, .sentinel] true :=
  OpenClaim.laidByTextAt_later rfl rfl tie noOwnUnsafe
theorem journalOwn_row_tie : Rows.journalOwnRow.laidByTextAt .later Tryz.pinned [.data, .data, .data, .sentinel, .handle, .sentinel, .sentinel] true :=
  OpenClaim.laidByTextAt_later rfl rfl tie noOwnUnsafe
theorem journalApart_row_tie : Rows.journalApartRow.laidByTextAt .later Tryz.pinned [.data, .data, .data, .sentinel, .handle, .sentinel, .sentinel] true :=
  OpenClaim.laidByTextAt_later rfl rfl tie noOwnUnsafe
theorem journalKeeps_row_tie : Rows.journalKeepsRow.laidByTextAt .later Tryz.pinned [.data, .data, .data, .sentinel, .handle, .sentinel, .sentinel] true :=
  OpenClaim.laidByTextAt_later rfl rfl tie noOwnUnsafe
theorem keepRefuses_row_tie : Rows.keepRefusesRow.laidByTextAt .later Tryz.pinned [.data, .data, .data, .sentinel, .handle, .sentinel, .sentinel] true :=
  OpenClaim.laidByTextAt_later rfl rfl tie noOwnUnsafe
theorem vaultTells_row_tie : Rows.vaultTellsRow.laidByTextAt .later Tryz.pinned [.data, .data, .data, .sentinel, .handle, .sentinel, .sentinel] true :=
  OpenClaim.laidByTextAt_later rfl rfl tie noOwnUnsafe
theorem vaultHolds_row_tie : Rows.vaultHoldsRow.laidByTextAt .later Tryz.pinned [.data, .data, .data, .sentinel, .handle, .sentinel, .sentinel] true :=
  OpenClaim.laidByTextAt_later rfl rfl tie noOwnUnsafe
theorem vaultRefuses_row_tie : Rows.vaultRefusesRow.laidByTextAt .later Tryz.pinned [.data, .data, .data, .sentinel, .handle, .sentinel, .sentinel] true :=
  OpenClaim.laidByTextAt_later rfl rfl tie noOwnUnsafe
theorem journalGrowsUpto_row_tie : Rows.journalGrowsUptoRow.laidByTextAt .later Tryz.pinned [.data, .data, .data, .sentinel, .handle, .sentinel, .sentinel] true :=
  OpenClaim.laidByTextAt_later rfl rfl tie noOwnUnsafe
theorem journalRefusesUpto_row_tie : Rows.journalRefusesUptoRow.laidByTextAt .later Tryz.pinned [.data, .data, .data, .sentinel, .handle, .sentinel, .sentinel] true :=
  OpenClaim.laidByTextAt_later rfl rfl tie noOwnUnsafe
theorem journalOwnUpto_row_tie : Rows.journalOwnUptoRow.laidByTextAt .later Tryz.pinned [.data, .data, .data, .sentinel, .handle, .sentinel, .sentinel] true :=
  OpenClaim.laidByTextAt_later rfl rfl tie noOwnUnsafe
theorem journalApartUpto_row_tie : Rows.journalApartUptoRow.laidByTextAt .later Tryz.pinned [.data, .data, .data, .sentinel, .handle, .sentinel, .sentinel] true :=
  OpenClaim.laidByTextAt_later rfl rfl tie noOwnUnsafe
theorem journalKeepsUpto_row_tie : Rows.journalKeepsUptoRow.laidByTextAt .later Tryz.pinned [.data, .data, .data, .sentinel, .handle, .sentinel, .sentinel] true :=
  OpenClaim.laidByTextAt_later rfl rfl tie noOwnUnsafe
theorem keepRefusesUpto_row_tie : Rows.keepRefusesUptoRow.laidByTextAt .later Tryz.pinned [.data, .data, .data, .sentinel, .handle, .sentinel, .sentinel] true :=
  OpenClaim.laidByTextAt_later rfl rfl tie noOwnUnsafe
theorem vaultTellsUpto_row_tie : Rows.vaultTellsUptoRow.laidByTextAt .later Tryz.pinned [.data, .data, .data, .sentinel, .handle, .sentinel, .sentinel] true :=
  OpenClaim.laidByTextAt_later rfl rfl tie noOwnUnsafe
theorem vaultHoldsUpto_row_tie : Rows.vaultHoldsUptoRow.laidByTextAt .later Tryz.pinned [.data, .data, .data, .sentinel, .handle, .sentinel, .sentinel] true :=
  OpenClaim.laidByTextAt_later rfl rfl tie noOwnUnsafe
theorem vaultRefusesUpto_row_tie : Rows.vaultRefusesUptoRow.laidByTextAt .later Tryz.pinned [.data, .data, .data, .sentinel, .handle, .sentinel, .sentinel] true :=
  OpenClaim.laidByTextAt_later rfl rfl tie noOwnUnsafe
end Go.Proofs.YtdnibpclkhenmaaGreatDoor
