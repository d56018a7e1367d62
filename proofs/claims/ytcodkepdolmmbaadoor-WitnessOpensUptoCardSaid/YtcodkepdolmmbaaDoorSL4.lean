import Derived.Test.YtcodkepdolmmbaaDoorSL3
import Derived.Deep.DeepHandedRow
import Derived.Deep.DeepWitnessRowRef
import Derived.Lib.LaidIn
import Derived.Lib.LaidPrint
import Derived.Lib.LaidSlice
import Derived.ProofKit
namespace Go.Proofs.YtcodkepdolmmbaaDoor
open Go.ChangeShapes Go.WideShapes Go.ChangeAt Go.RowKit Go.Lib Go.BX
noncomputable def laidWorld (os : Os) : World :=
 let N := (World.settled Tryd.prog os).heap.size
 let T := Lib.goPrintTabs
 let w0 := World.holding Tryd.prog os ⟨#[.cells (intCellsOf .u16 T.p16) 131, .cells (intCellsOf .u16 T.n16) 131, .cells (intCellsOf .u32 T.p32) 103, .cells (intCellsOf .u16 T.n32) 131, .cells (intCellsOf .u16 Go.Pinned.isGraphicZ) 131], #[], []⟩
 let put (h : Array Obj) (g : Nat) (cs : Array Value) : Array Obj := h.modify g fun
  | .cells _ t frozen => .cells cs t frozen
  | o => o
 let h0 := put w0.heap 0 #[.int .u64 1, .int .u64 10, .int .u64 100, .int .u64 1000, .int .u64 10000, .int .u64 100000, .int .u64 1000000, .int .u64 10000000, .int .u64 100000000, .int .u64 1000000000, .int .u64 10000000000, .int .u64 100000000000, .int .u64 1000000000000, .int .u64 10000000000000, .int .u64 100000000000000, .int .u64 1000000000000000, .int .u64 10000000000000000, .int .u64 100000000000000000, .int .u64 1000000000000000000, .int .u64 10000000000000000000]
 let h1 := put h0 1 #[.int .u8 0, .int .u8 1, .int .u8 28, .int .u8 2, .int .u8 29, .int .u8 14, .int .u8 24, .int .u8 3, .int .u8 30, .int .u8 22, .int .u8 20, .int .u8 15, .int .u8 25, .int .u8 17, .int .u8 4, .int .u8 8, .int .u8 31, .int .u8 27, .int .u8 13, .int .u8 23, .int .u8 21, .int .u8 19, .int .u8 16, .int .u8 7, .int .u8 26, .int .u8 12, .int .u8 18, .int .u8 6, .int .u8 11, .int .u8 5, .int .u8 10, .int .u8 9]
 let h2 := put h1 2 #[.int .u8 0, .int .u8 1, .int .u8 56, .int .u8 2, .int .u8 57, .int .u8 49, .int .u8 28, .int .u8 3, .int .u8 61, .int .u8 58, .int .u8 42, .int .u8 50, .int .u8 38, .int .u8 29, .int .u8 17, .int .u8 4, .int .u8 62, .int .u8 47, .int .u8 59, .int .u8 36, .int .u8 45, .int .u8 43, .int .u8 51, .int .u8 22, .int .u8 53, .int .u8 39, .int .u8 33, .int .u8 30, .int .u8 24, .int .u8 18, .int .u8 12, .int .u8 5, .int .u8 63, .int .u8 55, .int .u8 48, .int .u8 27, .int .u8 60, .int .u8 41, .int .u8 37, .int .u8 16, .int .u8 46, .int .u8 35, .int .u8 44, .int .u8 21, .int .u8 52, .int .u8 32, .int .u8 23, .int .u8 11, .int .u8 54, .int .u8 26, .int .u8 40, .int .u8 15, .int .u8 34, .int .u8 20, .int .u8 31, .int .u8 10, .int .u8 25, .int .u8 14, .int .u8 19, .int .u8 9, .int .u8 13, .int .u8 8, .int .u8 7, .int .u8 6]
 let h3 := put h2 3 (Lib.firstTab.map fun z => Value.int .u8 z).toArray
 let h4 := put h3 4 #[.int .u8 128, .int .u8 191, .int .u8 160, .int .u8 191, .int .u8 128, .int .u8 159, .int .u8 144, .int .u8 191, .int .u8 128, .int .u8 143, .int .u8 0, .int .u8 0, .int .u8 0, .int .u8 0, .int .u8 0, .int .u8 0, .int .u8 0, .int .u8 0, .int .u8 0, .int .u8 0, .int .u8 0, .int .u8 0, .int .u8 0, .int .u8 0, .int .u8 0, .int .u8 0, .int .u8 0, .int .u8 0, .int .u8 0, .int .u8 0, .int .u8 0, .int .u8 0]
 let h5 := put h4 5 #[.slice (some ⟨N, 0, none⟩) T.p16.length T.p16.length]
 let h6 := put h5 6 #[.slice (some ⟨N + 1, 0, none⟩) T.n16.length T.n16.length]
 let h7 := put h6 7 #[.slice (some ⟨N + 2, 0, none⟩) T.p32.length T.p32.length]
 let h8 := put h7 8 #[.slice (some ⟨N + 3, 0, none⟩) T.n32.length T.n32.length]
 let h9 := put h8 9 #[.slice (some ⟨N + 4, 0, none⟩) Go.Pinned.isGraphicZ.length Go.Pinned.isGraphicZ.length]
 { w0 with heap := h9 }
noncomputable abbrev N0 : Nat := (World.settled Tryd.prog default).heap.size
noncomputable abbrev laidMem (os : Os) (args : Array Value) := ((laidWorld os).forCall (fun _ _ => 0) ⟨#[], args, []⟩).memory
theorem piece0 (os : Os) (args : Array Value) : LaidIn Tryd.prog (laidMem os args) [("math/bits.deBruijn32tab", Rows.laid_math_bits_deBruijn32tab), ("math/bits.deBruijn64tab", Rows.laid_math_bits_deBruijn64tab), ("internal/strconv.uint64pow10", Rows.laid_internal_strconv_uint64pow10), ("unicode/utf8.acceptRanges", Rows.laid_unicode_utf8_acceptRanges)] [1, 2, 0, 4] :=
 LaidIn.of_run [1, 2, 0, 4] 8 (by kernel_rfl) (by kernel_rfl) (by kernel_rfl) (by kernel_rfl)
theorem piece1 (os : Os) (args : Array Value) : LaidIn Tryd.prog (laidMem os args) [("unicode/utf8.first", Lib.firstData)] [3] :=
 LaidIn.of_run [3] 8 (by kernel_rfl) (by kernel_rfl) (by kernel_rfl) (by kernel_rfl)
set_option maxRecDepth 1000000 in
theorem pieceS0 (os : Os) (args : Array Value) : LaidIn Tryd.prog (laidMem os args) [("strconv.isGraphic", Lib.sliceData .u16 Go.Pinned.isGraphicZ)] [9, (N0 + 4)] :=
 laidIn_slice (t := 132) (e := 131) (te := 131) Go.Pinned.isGraphicZ (N0 + 4) (by kernel_rfl) (by kernel_rfl) (by kernel_rfl) (by kernel_rfl) (by kernel_rfl) (by kernel_rfl) (by kernel_rfl) (by kernel_rfl) (of_decide_eq_true (by kernel_rfl)) (of_decide_eq_true (by kernel_rfl))
set_option maxRecDepth 1000000 in
theorem pieceS1 (os : Os) (args : Array Value) : LaidIn Tryd.prog (laidMem os args) [("strconv.isNotPrint16", Lib.sliceData .u16 Lib.goPrintTabs.n16)] [6, (N0 + 1)] :=
 laidIn_slice (t := 132) (e := 131) (te := 131) Lib.goPrintTabs.n16 (N0 + 1) (by kernel_rfl) (by kernel_rfl) (by kernel_rfl) (by kernel_rfl) (by kernel_rfl) (by kernel_rfl) (by kernel_rfl) (by kernel_rfl) (of_decide_eq_true (by kernel_rfl)) (of_decide_eq_true (by kernel_rfl))
set_option maxRecDepth 1000000 in
theorem pieceS2 (os : Os) (args : Array Value) : LaidIn Tryd.prog (laidMem os args) [("strconv.isNotPrint32", Lib.sliceData .u16 Lib.goPrintTabs.n32)] [8, (N0 + 3)] :=
 laidIn_slice (t := 132) (e := 131) (te := 131) Lib.goPrintTabs.n32 (N0 + 3) (by kernel_rfl) (by kernel_rfl) (by kernel_rfl) (by kernel_rfl) (by kernel_rfl) (by kernel_rfl) (by kernel_rfl) (by kernel_rfl) (of_decide_eq_true (by kernel_rfl)) (of_decide_eq_true (by kernel_rfl))
set_option maxRecDepth 1000000 in
theorem pieceS3 (os : Os) (args : Array Value) : LaidIn Tryd.prog (laidMem os args) [("strconv.isPrint16", Lib.sliceData .u16 Lib.goPrintTabs.p16)] [5, N0] :=
 laidIn_slice (t := 132) (e := 131) (te := 131) Lib.goPrintTabs.p16 N0 (by kernel_rfl) (by kernel_rfl) (by kernel_rfl) (by kernel_rfl) (by kernel_rfl) (by kernel_rfl) (by kernel_rfl) (by kernel_rfl) (of_decide_eq_true (by kernel_rfl)) (of_decide_eq_true (by kernel_rfl))
set_option maxRecDepth 1000000 in
theorem pieceS4 (os : Os) (args : Array Value) : LaidIn Tryd.prog (laidMem os args) [("strconv.isPrint32", Lib.sliceData .u32 Lib.goPrintTabs.p32)] [7, (N0 + 2)] :=
 laidIn_slice (t := 134) (e := 103) (te := 103) Lib.goPrintTabs.p32 (N0 + 2) (by kernel_rfl) (by kernel_rfl) (by kernel_rfl) (by kernel_rfl) (by kernel_rfl) (by kernel_rfl) (by kernel_rfl) (by kernel_rfl) (of_decide_eq_true (by kernel_rfl)) (of_decide_eq_true (by kernel_rfl))
theorem laid_eq : Rows.witnessFewerUptoRow.laid = ((((([("math/bits.deBruijn32tab", Rows.laid_math_bits_deBruijn32tab), ("math/bits.deBruijn64tab", Rows.laid_math_bits_deBruijn64tab), ("internal/strconv.uint64pow10", Rows.laid_internal_strconv_uint64pow10), ("unicode/utf8.acceptRanges", Rows.laid_unicode_utf8_acceptRanges)] ++ [("strconv.isGraphic", Lib.sliceData .u16 Go.Pinned.isGraphicZ)]) ++ [("strconv.isNotPrint16", Lib.sliceData .u16 Lib.goPrintTabs.n16)]) ++ [("strconv.isNotPrint32", Lib.sliceData .u16 Lib.goPrintTabs.n32)]) ++ [("strconv.isPrint16", Lib.sliceData .u16 Lib.goPrintTabs.p16)]) ++ [("strconv.isPrint32", Lib.sliceData .u32 Lib.goPrintTabs.p32)]) ++ [("unicode/utf8.first", Lib.firstData)] := by kernel_rfl
theorem laid_met0 (os : Os) (args : Array Value) : laidMet Tryd.prog Rows.witnessFewerUptoRow.laid (laidMem os args) := by
 rw [laid_eq]
 exact (((((((piece0 os args).append (pieceS0 os args) (by kernel_rfl)).append (pieceS1 os args) (by kernel_rfl)).append (pieceS2 os args) (by kernel_rfl)).append (pieceS3 os args) (by kernel_rfl)).append (pieceS4 os args) (by kernel_rfl)).append (piece1 os args) (by kernel_rfl)).met
theorem cell_same {w w' : World} {b o : Nat} {v : Value} (hs : ∀ q, q < w.heap.size → w'.heap[q]? = w.heap[q]?) (h : w.cell? ⟨b, o, none⟩ = some v) : w'.cell? ⟨b, o, none⟩ = some v := by
 have hb : b < w.heap.size := by
  rcases Nat.lt_or_ge b w.heap.size with h' | h'
  · exact h'
  · simp [World.cell?, Array.getElem?_eq_none h'] at h
 simp only [World.cell?, hs b hb] at h ⊢
 exact h
theorem tabSlice_same {g : Nat} {k : IntKind} {t : List Nat} {w w' : World} (hs : ∀ q, q < w.heap.size → w'.heap[q]? = w.heap[q]?) (h : Lib.TabSlice g k t w) : Lib.TabSlice g k t w' := by
 obtain ⟨R, o, c, h1, h2⟩ := h
 exact ⟨R, o, c, cell_same hs h1, fun j hj => cell_same hs (h2 j hj)⟩
theorem tabsQ_same {w w' : World} (hs : ∀ q, q < w.heap.size → w'.heap[q]? = w.heap[q]?) (h : tabsQ w) : tabsQ w' :=
 ⟨⟨tabSlice_same hs h.1.1, tabSlice_same hs h.1.2.1, tabSlice_same hs h.1.2.2.1, tabSlice_same hs h.1.2.2.2.1, h.1.2.2.2.2⟩, fun c hc => cell_same hs (h.2.1 c hc), fun i hi => ⟨cell_same hs (h.2.2 i hi).1, cell_same hs (h.2.2 i hi).2⟩⟩
theorem tabsQ_laid {W : World} (hL : laidMet Tryd.prog Rows.witnessFewerUptoRow.laid W) : (Fz tabsQ).p (fun b => b < W.heap.size) W := by
 rw [laid_eq] at hL
 have hU : Lib.Utf8Tabs 3 4 W :=
  utf8Tabs_of_reads (ρ := Tryd.lays177_ren) { Tryd.lays177 with } ⟨by kernel_rfl, by kernel_rfl, by kernel_rfl, by kernel_rfl, by kernel_rfl, by kernel_rfl, by kernel_rfl⟩ (Lib.laidMet.reads hL (by simp)) (Lib.laidMet.reads hL (d := Rows.laid_unicode_utf8_acceptRanges) (by simp))
 have hT : Lib.PrintTabsAt 5 6 7 8 Lib.goPrintTabs W :=
  printTabs_of_reads (ρ := Tryd.lays177_ren) { Tryd.lays177 with } ⟨by kernel_rfl, by kernel_rfl, by kernel_rfl, by kernel_rfl, by kernel_rfl, by kernel_rfl, by kernel_rfl, by kernel_rfl, by kernel_rfl, by kernel_rfl⟩
   (Lib.laidMet.reads hL (by simp)) (Lib.laidMet.reads hL (by simp)) (Lib.laidMet.reads hL (by simp)) (Lib.laidMet.reads hL (by simp))
 exact ⟨fun b => b < W.heap.size, ⟨hT, hU⟩, fun b hb => ⟨hb, hb⟩, fun w' hs => tabsQ_same hs ⟨hT, hU⟩⟩
end Go.Proofs.YtcodkepdolmmbaaDoor
