import Derived.Test.YtcafjhnjhhicdaaGreatDoorSK0
import Derived.Test.YtcafjhnjhhicdaaGreatDoorSBxA
import Derived.Test.YtcafjhnjhhicdaaGreatDoorRows
import Derived.Lib.LaidIn
import Derived.Lib.LaidU8
import Derived.LaidHandle
import Derived.LaidLaws
import Derived.ChangeArms
import Derived.Shelf.Vars
import Derived.Deep.DeepHandedRow
import Derived.Deep.DeepWitnessRowRef
namespace Go.Proofs.YtcafjhnjhhicdaaGreatDoor
open Go.ChangeShapes Go.WideShapes Go.RowKit Go.Lib Go.BX
noncomputable def laidWorld(os:Os):World:=
 let N:=(World.settled Tryz.prog os).heap.size
 let w0:=World.holding Tryz.prog os ⟨#[.cells #[.string ⟨#[118,97,108,117,101,32,111,117,116,32,111,102,32,114,97,110,103,101]⟩] 360,.cells #[.string ⟨#[105,110,118,97,108,105,100,32,115,121,110,116,97,120]⟩] 360],#[],[]⟩
 let put(h:Array Obj)(g:Nat)(cs:Array Value):Array Obj:=h.modify g fun
  |.cells _ t frozen=>.cells cs t frozen
  |o=>o
 let h1:=put w0.heap 0 #[.iface 126 (.agg #[.pointer (some ⟨9,49,none⟩)])]
 let h2:=put h1 6 #[.iface 358 (.pointer (some ⟨N,0,none⟩))]
 let h3:=put h2 5 #[.iface 358 (.pointer (some ⟨N+1,0,none⟩))]
 let h4:=put h3 2 #[.int .u64 1,.int .u64 10,.int .u64 100,.int .u64 1000,.int .u64 10000,.int .u64 100000,.int .u64 1000000,.int .u64 10000000,.int .u64 100000000,.int .u64 1000000000,.int .u64 10000000000,.int .u64 100000000000,.int .u64 1000000000000,.int .u64 10000000000000,.int .u64 100000000000000,.int .u64 1000000000000000,.int .u64 10000000000000000,.int .u64 100000000000000000,.int .u64 1000000000000000000,.int .u64 10000000000000000000]
 let h5:=put h4 7 #[.int .u8 0,.int .u8 1,.int .u8 28,.int .u8 2,.int .u8 29,.int .u8 14,.int .u8 24,.int .u8 3,.int .u8 30,.int .u8 22,.int .u8 20,.int .u8 15,.int .u8 25,.int .u8 17,.int .u8 4,.int .u8 8,.int .u8 31,.int .u8 27,.int .u8 13,.int .u8 23,.int .u8 21,.int .u8 19,.int .u8 16,.int .u8 7,.int .u8 26,.int .u8 12,.int .u8 18,.int .u8 6,.int .u8 11,.int .u8 5,.int .u8 10,.int .u8 9]
 let h6:=put h5 8 #[.int .u8 0,.int .u8 1,.int .u8 56,.int .u8 2,.int .u8 57,.int .u8 49,.int .u8 28,.int .u8 3,.int .u8 61,.int .u8 58,.int .u8 42,.int .u8 50,.int .u8 38,.int .u8 29,.int .u8 17,.int .u8 4,.int .u8 62,.int .u8 47,.int .u8 59,.int .u8 36,.int .u8 45,.int .u8 43,.int .u8 51,.int .u8 22,.int .u8 53,.int .u8 39,.int .u8 33,.int .u8 30,.int .u8 24,.int .u8 18,.int .u8 12,.int .u8 5,.int .u8 63,.int .u8 55,.int .u8 48,.int .u8 27,.int .u8 60,.int .u8 41,.int .u8 37,.int .u8 16,.int .u8 46,.int .u8 35,.int .u8 44,.int .u8 21,.int .u8 52,.int .u8 32,.int .u8 23,.int .u8 11,.int .u8 54,.int .u8 26,.int .u8 40,.int .u8 15,.int .u8 34,.int .u8 20,.int .u8 31,.int .u8 10,.int .u8 25,.int .u8 14,.int .u8 19,.int .u8 9,.int .u8 13,.int .u8 8,.int .u8 7,.int .u8 6]
 let h7:=put h6 4 #[.int .u8 128,.int .u8 191,.int .u8 160,.int .u8 191,.int .u8 128,.int .u8 159,.int .u8 144,.int .u8 191,.int .u8 128,.int .u8 143,.int .u8 0,.int .u8 0,.int .u8 0,.int .u8 0,.int .u8 0,.int .u8 0,.int .u8 0,.int .u8 0,.int .u8 0,.int .u8 0,.int .u8 0,.int .u8 0,.int .u8 0,.int .u8 0,.int .u8 0,.int .u8 0,.int .u8 0,.int .u8 0,.int .u8 0,.int .u8 0,.int .u8 0,.int .u8 0]
 let h8:=put h7 3 (Lib.firstTab.map fun z=>Value.int .u8 z).toArray
 {w0 with heap:=h8}
noncomputable abbrev N0:Nat:=(World.settled Tryz.prog default).heap.size
noncomputable abbrev laidMem(os:Os)(args:Array Value):=((laidWorld os).forCall (fun _ _=>0) ⟨#[],args,[]⟩).memory
set_option maxRecDepth 1000000 in
theorem laid_in (os : Os) (args : Array Value) : LaidIn Tryz.prog (laidMem os args) [("math/bits.deBruijn32tab", Rows.laid_math_bits_deBruijn32tab), ("math/bits.deBruijn64tab", Rows.laid_math_bits_deBruijn64tab), ("internal/strconv.uint64pow10", Rows.laid_internal_strconv_uint64pow10), ("unicode/utf8.acceptRanges", Rows.laid_unicode_utf8_acceptRanges), ("strconv.ErrRange", Rows.laid_strconv_ErrRange), ("strconv.ErrSyntax", Rows.laid_strconv_ErrSyntax), ("unicode/utf8.first", Rows.laid_unicode_utf8_first)] [7, 8, 2, 4, 6, N0, 5, N0 + 1, 3] :=
 LaidIn.of_run [7,8,2,4,6,N0,5,N0+1,3] 8 (by kernel_rfl) (by kernel_rfl) (by kernel_rfl) (by kernel_rfl)
theorem laid_filt : (Rows.consoleNobodyRow.laid.filter fun x => x.2.handleName?.isNone) = [("math/bits.deBruijn32tab", Rows.laid_math_bits_deBruijn32tab), ("math/bits.deBruijn64tab", Rows.laid_math_bits_deBruijn64tab), ("internal/strconv.uint64pow10", Rows.laid_internal_strconv_uint64pow10), ("unicode/utf8.acceptRanges", Rows.laid_unicode_utf8_acceptRanges), ("strconv.ErrRange", Rows.laid_strconv_ErrRange), ("strconv.ErrSyntax", Rows.laid_strconv_ErrSyntax), ("unicode/utf8.first", Rows.laid_unicode_utf8_first)] := by kernel_rfl
theorem laid_met0(os:Os)(args:Array Value):laidMetH Tryz.prog Rows.consoleNobodyRow.laid (laidMem os args):=
 laidMetH_of_parts (by rw[laid_filt];exact(laid_in os args).met) (by kernel_rfl)
theorem lEt : Tryz.prog.globalNamed "errors.errorType" = some 0 := by kernel_rfl
theorem lRt : (Tryz.prog.cutTypes.find? (·.1 == "internal/reflectlite.rtype")).map (·.2) = some 126 := by kernel_rfl
theorem lSize:Tryz.prog.types.size=404:=by kernel_rfl
theorem lRow:((List.range 404).filter fun t=>Tryz.prog.rowNamed t [101,114,114,111,114])=[49]:=by kernel_rfl
theorem lHand:typeHandle Tryz.prog 49=.pointer (some ⟨9,49,none⟩):=by kernel_rfl
theorem handle_of {W : World} {x : String × DataW Unit} (hx : x = ("errors.errorType", Rows.laid_errors_errorType)) (h : handlesMet Tryz.prog [x] W) : W.cell? ⟨0, 0, none⟩ = some (.iface 126 (.agg #[.pointer (some ⟨9, 49, none⟩)])) := by
 subst hx
 obtain⟨name,u,ty,e1,e2,e3,e4,e5⟩:=h _ (List.mem_singleton.2 rfl)
 have en:name=[101,114,114,111,114]:=(Option.some.inj e1).symm
 subst en
 obtain rfl:=Option.some.inj (lRt.symm.trans e2)
 have hm:ty∈(List.range 404).filter fun t=>Tryz.prog.rowNamed t [101,114,114,111,114]:=List.mem_filter.2 ⟨List.mem_range.2 (by rw[←lSize];exact e3),e4⟩
 rw[lRow]at hm
 obtain rfl:=List.mem_singleton.1 hm
 rw[lHand]at e5
 simpa using World.var?_cell lEt e5 0
theorem lEq : (Tryz.prog.globalNamed "internal/strconv.uint64pow10") = some 2 := by kernel_rfl
theorem max_of{W:World}(h:W.ShapedOpen Tryz.prog):∃m:Int,W.cell? ⟨1,0,none⟩=some (.int .i64 m):=
 Go.Proofs.cell_of_shapedOpen_int (zero:=#[.int .i64 0]) (t:=3) h (of_decide_eq_true (by kernel_rfl)) (by kernel_rfl) rfl (by kernel_rfl) (by kernel_rfl) Tryz.underlying3
set_option maxRecDepth 100000 in
theorem cQ_of {W : World} (h : laidMet Tryz.prog [("math/bits.deBruijn32tab", Rows.laid_math_bits_deBruijn32tab), ("math/bits.deBruijn64tab", Rows.laid_math_bits_deBruijn64tab), ("internal/strconv.uint64pow10", Rows.laid_internal_strconv_uint64pow10), ("unicode/utf8.acceptRanges", Rows.laid_unicode_utf8_acceptRanges), ("strconv.ErrRange", Rows.laid_strconv_ErrRange), ("strconv.ErrSyntax", Rows.laid_strconv_ErrSyntax), ("unicode/utf8.first", Rows.laid_unicode_utf8_first)] W) (hh : W.cell? ⟨0, 0, none⟩ = some (.iface 126 (.agg #[.pointer (some ⟨9, 49, none⟩)]))) (hsh : W.ShapedOpen Tryz.prog) : cQ W := by
 refine⟨hh,max_of hsh,?_⟩
 obtain ⟨gc, tc, cc, fc, pc, hgc, htc, hvc, hdc⟩ := Lib.laidMet.reads h (n := "internal/strconv.uint64pow10") (d := Rows.laid_internal_strconv_uint64pow10) (by simp)
 obtain rfl:=Option.some.inj (lEq.symm.trans hgc)
 unfold Lib.TabIs
 rw[hvc]
 have htc':tc=261:=(Option.some.inj ((show(Tryz.prog.globals[2]?).map (·.type)=some 261 by kernel_rfl).symm.trans htc)).symm
 subst htc'
 have hcs:=Lib.cells_of_tab (k:=.u64) (zs:=Lib.pow10Tab) Tryz.underlying261 Tryz.underlying32 (by kernel_rfl) (by kernel_rfl) hdc
 rw[←hcs]
theorem cQ_same{w w':World}(hs:∀q,q<w.heap.size→w'.heap[q]?=w.heap[q]?)(h:cQ w):cQ w':=by
 have cs:∀{b o:Nat}{v:Value},w.cell? ⟨b,o,none⟩=some v→w'.cell? ⟨b,o,none⟩=some v:=fun{b o v}h=>by
  have hb:b<w.heap.size:=by
   rcases Nat.lt_or_ge b w.heap.size with h'|h'
   ·exact h'
   ·simp[World.cell?,Array.getElem?_eq_none h']at h
  simp only[World.cell?,hs b hb]at h⊢
  exact h
 refine⟨cs h.1,h.2.1.imp fun e he=>cs he,?_⟩
 have h3:=h.2.2
 have hlt:2<w.heap.size:=by
  have:=Lib.TabIs.cell h3 lEq 0 (by decide)
  rcases Nat.lt_or_ge 2 w.heap.size with h'|h'
  ·exact h'
  ·simp[World.cell?,Array.getElem?_eq_none h']at this
 unfold Lib.TabIs World.var? at h3⊢
 simp only[lEq,Option.bind_some]at h3⊢
 rw[hs _ hlt]
 exact h3
theorem cQ_laid{W:World}(hL:laidMetH Tryz.prog Rows.consoleNobodyRow.laid W)(hsh:W.ShapedOpen Tryz.prog):(Fz cQ).p (fun b=>b<W.heap.size) W:=by
 have h' : laidMet Tryz.prog [("math/bits.deBruijn32tab", Rows.laid_math_bits_deBruijn32tab), ("math/bits.deBruijn64tab", Rows.laid_math_bits_deBruijn64tab), ("internal/strconv.uint64pow10", Rows.laid_internal_strconv_uint64pow10), ("unicode/utf8.acceptRanges", Rows.laid_unicode_utf8_acceptRanges), ("strconv.ErrRange", Rows.laid_strconv_ErrRange), ("strconv.ErrSyntax", Rows.laid_strconv_ErrSyntax), ("unicode/utf8.first", Rows.laid_unicode_utf8_first)] W ∧ handlesMet Tryz.prog [("errors.errorType", Rows.laid_errors_errorType)] W := hL
 have hq:=cQ_of h'.1 (handle_of rfl h'.2) hsh
 exact⟨fun b=>b<W.heap.size,hq,fun b hb=>⟨hb,hb⟩,fun w' hs=>cQ_same hs hq⟩
end Go.Proofs.YtcafjhnjhhicdaaGreatDoor
