import Derived.Test.YtdnibpclkhenmaaGreatDoorSJA
import Derived.Test.YtdnibpclkhenmaaGreatDoorSBxB
import Derived.Test.YtdnibpclkhenmaaGreatDoorRows
import Derived.Lib.LaidIn
import Derived.Lib.LaidU8
import Derived.LaidHandle
import Derived.LaidLaws
import Derived.ChangeArms
import Derived.Deep.DeepHandedRow
import Derived.Deep.DeepWitnessRowRef
namespace Go.Proofs.YtdnibpclkhenmaaGreatDoor
open Go.ChangeShapes Go.WideShapes Go.RowKit Go.Lib Go.BX
noncomputable def laidWorld(os:Os):World:=
 let N:=(World.settled Tryz.prog os).heap.size
 let w0:=World.holding Tryz.prog os ⟨#[.cells #[.string ⟨#[117,110,115,117,112,112,111,114,116,101,100,32,111,112,101,114,97,116,105,111,110]⟩] 439,.cells #[.string ⟨#[118,97,108,117,101,32,111,117,116,32,111,102,32,114,97,110,103,101]⟩] 439,.cells #[.string ⟨#[105,110,118,97,108,105,100,32,115,121,110,116,97,120]⟩] 439],#[],[]⟩
 let put(h:Array Obj)(g:Nat)(cs:Array Value):Array Obj:=h.modify g fun
  |.cells _ t frozen=>.cells cs t frozen
  |o=>o
 let h0:=put w0.heap 0 #[.iface 437 (.pointer (some ⟨N,0,none⟩))]
 let h1:=put h0 1 #[.iface 283 (.agg #[.pointer (some ⟨7,127,none⟩)])]
 let h2:=put h1 3 #[.iface 437 (.pointer (some ⟨N+1,0,none⟩))]
 let h3:=put h2 2 #[.iface 437 (.pointer (some ⟨N+2,0,none⟩))]
 let h4:=put h3 4 #[.int .u64 1,.int .u64 10,.int .u64 100,.int .u64 1000,.int .u64 10000,.int .u64 100000,.int .u64 1000000,.int .u64 10000000,.int .u64 100000000,.int .u64 1000000000,.int .u64 10000000000,.int .u64 100000000000,.int .u64 1000000000000,.int .u64 10000000000000,.int .u64 100000000000000,.int .u64 1000000000000000,.int .u64 10000000000000000,.int .u64 100000000000000000,.int .u64 1000000000000000000,.int .u64 10000000000000000000]
 let h5:=put h4 5 #[.int .u8 0,.int .u8 1,.int .u8 28,.int .u8 2,.int .u8 29,.int .u8 14,.int .u8 24,.int .u8 3,.int .u8 30,.int .u8 22,.int .u8 20,.int .u8 15,.int .u8 25,.int .u8 17,.int .u8 4,.int .u8 8,.int .u8 31,.int .u8 27,.int .u8 13,.int .u8 23,.int .u8 21,.int .u8 19,.int .u8 16,.int .u8 7,.int .u8 26,.int .u8 12,.int .u8 18,.int .u8 6,.int .u8 11,.int .u8 5,.int .u8 10,.int .u8 9]
 let h6:=put h5 6 #[.int .u8 0,.int .u8 1,.int .u8 56,.int .u8 2,.int .u8 57,.int .u8 49,.int .u8 28,.int .u8 3,.int .u8 61,.int .u8 58,.int .u8 42,.int .u8 50,.int .u8 38,.int .u8 29,.int .u8 17,.int .u8 4,.int .u8 62,.int .u8 47,.int .u8 59,.int .u8 36,.int .u8 45,.int .u8 43,.int .u8 51,.int .u8 22,.int .u8 53,.int .u8 39,.int .u8 33,.int .u8 30,.int .u8 24,.int .u8 18,.int .u8 12,.int .u8 5,.int .u8 63,.int .u8 55,.int .u8 48,.int .u8 27,.int .u8 60,.int .u8 41,.int .u8 37,.int .u8 16,.int .u8 46,.int .u8 35,.int .u8 44,.int .u8 21,.int .u8 52,.int .u8 32,.int .u8 23,.int .u8 11,.int .u8 54,.int .u8 26,.int .u8 40,.int .u8 15,.int .u8 34,.int .u8 20,.int .u8 31,.int .u8 10,.int .u8 25,.int .u8 14,.int .u8 19,.int .u8 9,.int .u8 13,.int .u8 8,.int .u8 7,.int .u8 6]
 {w0 with heap:=h6}
noncomputable abbrev N0:Nat:=(World.settled Tryz.prog default).heap.size
noncomputable abbrev laidMem(os:Os)(args:Array Value):=((laidWorld os).forCall (fun _ _=>0) ⟨#[],args,[]⟩).memory
theorem laid_in (os : Os) (args : Array Value) : LaidIn Tryz.prog (laidMem os args) [("math/bits.deBruijn32tab", Rows.laid_math_bits_deBruijn32tab), ("math/bits.deBruijn64tab", Rows.laid_math_bits_deBruijn64tab), ("internal/strconv.uint64pow10", Rows.laid_internal_strconv_uint64pow10), ("errors.ErrUnsupported", Rows.laid_errors_ErrUnsupported), ("strconv.ErrRange", Rows.laid_strconv_ErrRange), ("strconv.ErrSyntax", Rows.laid_strconv_ErrSyntax)] [5, 6, 4, 0, N0, 3, N0 + 1, 2, N0 + 2] :=
 LaidIn.of_run [5,6,4,0,N0,3,N0+1,2,N0+2] 8 (by kernel_rfl) (by kernel_rfl) (by kernel_rfl) (by kernel_rfl)
theorem laid_filt : (Rows.journalRefusesRow.laid.filter fun x => x.2.handleName?.isNone) = [("math/bits.deBruijn32tab", Rows.laid_math_bits_deBruijn32tab), ("math/bits.deBruijn64tab", Rows.laid_math_bits_deBruijn64tab), ("internal/strconv.uint64pow10", Rows.laid_internal_strconv_uint64pow10), ("errors.ErrUnsupported", Rows.laid_errors_ErrUnsupported), ("strconv.ErrRange", Rows.laid_strconv_ErrRange), ("strconv.ErrSyntax", Rows.laid_strconv_ErrSyntax)] := by kernel_rfl
theorem laid_met0(os:Os)(args:Array Value):laidMetH Tryz.prog Rows.journalRefusesRow.laid (laidMem os args):=
 laidMetH_of_parts (by rw[laid_filt];exact(laid_in os args).met) (by kernel_rfl)
theorem lEt : Tryz.prog.globalNamed "errors.errorType" = some 1 := by kernel_rfl
theorem lRt : (Tryz.prog.cutTypes.find? (·.1 == "internal/reflectlite.rtype")).map (·.2) = some 283 := by kernel_rfl
theorem lSize:Tryz.prog.types.size=484:=by kernel_rfl
theorem lRow:((List.range 484).filter fun t=>Tryz.prog.rowNamed t [101,114,114,111,114])=[127]:=by kernel_rfl
theorem lHand:typeHandle Tryz.prog 127=.pointer (some ⟨7,127,none⟩):=by kernel_rfl
theorem handle_of {W : World} {x : String × DataW Unit} (hx : x = ("errors.errorType", Rows.laid_errors_errorType)) (h : handlesMet Tryz.prog [x] W) : W.cell? ⟨1, 0, none⟩ = some (.iface 283 (.agg #[.pointer (some ⟨7, 127, none⟩)])) := by
 subst hx
 obtain⟨name,u,ty,e1,e2,e3,e4,e5⟩:=h _ (List.mem_singleton.2 rfl)
 have en:name=[101,114,114,111,114]:=(Option.some.inj e1).symm
 subst en
 obtain rfl:=Option.some.inj (lRt.symm.trans e2)
 have hm:ty∈(List.range 484).filter fun t=>Tryz.prog.rowNamed t [101,114,114,111,114]:=List.mem_filter.2 ⟨List.mem_range.2 (by rw[←lSize];exact e3),e4⟩
 rw[lRow]at hm
 obtain rfl:=List.mem_singleton.1 hm
 rw[lHand]at e5
 simpa using World.var?_cell lEt e5 0
theorem lU : Tryz.prog.globalNamed "errors.ErrUnsupported" = some 0 := by kernel_rfl
theorem lUt:(Tryz.prog.globals[0]?).map (·.type)=some 127:=by kernel_rfl
theorem lStar : "*" ++ "errors.errorString" = "*errors.errorString" := by decide
theorem lRowS (u : TypeId) (h : Tryz.prog.typeName? 3 u = some "*errors.errorString") : u = 437 :=
 typeName_ptr_named (nm := "errors.errorString") (by rw [lStar]; kernel_rfl) (by kernel_rfl) (by decide) u (by rw [lStar]; exact h)
theorem lC1:Tryz.prog.cellsOf 439=1:=by kernel_rfl
theorem lC2:Tryz.prog.cellsOf 9=1:=by kernel_rfl
theorem lEq : (Tryz.prog.globalNamed "internal/strconv.uint64pow10") = some 4 := by kernel_rfl
set_option maxRecDepth 100000 in
theorem jQ_of {W : World} (h : laidMet Tryz.prog [("math/bits.deBruijn32tab", Rows.laid_math_bits_deBruijn32tab), ("math/bits.deBruijn64tab", Rows.laid_math_bits_deBruijn64tab), ("internal/strconv.uint64pow10", Rows.laid_internal_strconv_uint64pow10), ("errors.ErrUnsupported", Rows.laid_errors_ErrUnsupported), ("strconv.ErrRange", Rows.laid_strconv_ErrRange), ("strconv.ErrSyntax", Rows.laid_strconv_ErrSyntax)] W) (hh : W.cell? ⟨1, 0, none⟩ = some (.iface 283 (.agg #[.pointer (some ⟨7, 127, none⟩)]))) : jQ W := by
 obtain⟨ps,⟨ga,ta,ca,fa,pa,qa,-,-,-,-,⟨gb,tb,cb,fb,pb,qb,-,-,-,-,⟨gc,tc,cc,fc,pc,qc,hgc,htc,hvc,hdc,⟨g0,t0,c0,f0,p0,q0,hg0,ht0,hv0,hd0,hr,e0⟩,ec⟩,eb⟩,ea⟩,hnd,hrows⟩:=h
 obtain rfl:=Option.some.inj (lU.symm.trans hg0)
 obtain rfl:=Option.some.inj (lUt.symm.trans ht0)
 obtain⟨l0⟩:=c0
 subst ea;subst eb;subst ec;subst e0
 have ok0:∀u v,l0=[.iface u v]→Value.okWide Tryz.prog W .any 0 u v:=fun u v e=>by
  subst e
  exact(hrows 0 0 (List.mem_append_right _ (List.mem_append_right _ (List.mem_append_right _ (List.mem_append_left _ (List.mem_append_left _ (List.mem_singleton.2 rfl))))))).2 u v (by simpa using World.var?_cell hg0 hv0 0)
 obtain⟨a0,s0,rfl,hc0,hs0,hz0,rfl⟩:=errorString_of_trod Tryz.underlying127 lRowS Tryz.underlying437 Tryz.underlying439 rfl rfl Tryz.underlying9 lC1 lC2 hd0 ok0
 refine⟨hh,⟨a0,by simpa using World.var?_cell hg0 hv0 0⟩,?_⟩
 obtain rfl:=Option.some.inj (lEq.symm.trans hgc)
 unfold Lib.TabIs
 rw[hvc]
 have htc':tc=419:=(Option.some.inj ((show(Tryz.prog.globals[4]?).map (·.type)=some _ by kernel_rfl).symm.trans htc)).symm
 subst htc'
 have hcs:=Lib.cells_of_tab (k:=.u64) (zs:=Lib.pow10Tab) Tryz.underlying419 Tryz.underlying58 (by kernel_rfl) (by kernel_rfl) hdc
 rw[←hcs]
theorem jQ_same{w w':World}(hs:∀q,q<w.heap.size→w'.heap[q]?=w.heap[q]?)(h:jQ w):jQ w':=by
 have cs:∀{b o:Nat}{v:Value},w.cell? ⟨b,o,none⟩=some v→w'.cell? ⟨b,o,none⟩=some v:=fun{b o v}h=>by
  have hb:b<w.heap.size:=by
   rcases Nat.lt_or_ge b w.heap.size with h'|h'
   ·exact h'
   ·simp[World.cell?,Array.getElem?_eq_none h']at h
  simp only[World.cell?,hs b hb]at h⊢
  exact h
 refine⟨cs h.1,h.2.1.imp fun e he=>cs he,?_⟩
 have h3:=h.2.2
 have hlt:4<w.heap.size:=by
  have:=Lib.TabIs.cell h3 lEq 0 (by decide)
  rcases Nat.lt_or_ge 4 w.heap.size with h'|h'
  ·exact h'
  ·simp[World.cell?,Array.getElem?_eq_none h']at this
 unfold Lib.TabIs World.var? at h3⊢
 simp only[lEq,Option.bind_some]at h3⊢
 rw[hs _ hlt]
 exact h3
theorem jQ_laid{W:World}(hL:laidMetH Tryz.prog Rows.journalRefusesRow.laid W):(Fz jQ).p (fun b=>b<W.heap.size) W:=by
 have h' : laidMet Tryz.prog [("math/bits.deBruijn32tab", Rows.laid_math_bits_deBruijn32tab), ("math/bits.deBruijn64tab", Rows.laid_math_bits_deBruijn64tab), ("internal/strconv.uint64pow10", Rows.laid_internal_strconv_uint64pow10), ("errors.ErrUnsupported", Rows.laid_errors_ErrUnsupported), ("strconv.ErrRange", Rows.laid_strconv_ErrRange), ("strconv.ErrSyntax", Rows.laid_strconv_ErrSyntax)] W ∧ handlesMet Tryz.prog [("errors.errorType", Rows.laid_errors_errorType)] W := hL
 have hq:=jQ_of h'.1 (handle_of rfl h'.2)
 exact⟨fun b=>b<W.heap.size,hq,fun b hb=>⟨hb,hb⟩,fun w' hs=>jQ_same hs hq⟩
end Go.Proofs.YtdnibpclkhenmaaGreatDoor
