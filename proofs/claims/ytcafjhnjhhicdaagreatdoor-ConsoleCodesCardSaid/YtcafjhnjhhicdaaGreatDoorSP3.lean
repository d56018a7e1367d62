import Derived.Test.YtcafjhnjhhicdaaGreatDoorSM4
import Derived.Test.YtcafjhnjhhicdaaGreatDoorSBxB
import Derived.Test.YtcafjhnjhhicdaaGreatDoorSBxA
import Derived.Shelf.SlSortCmp.WholeK
import Derived.Shelf.SlGeneric
namespace Go.Proofs.YtcafjhnjhhicdaaGreatDoor
open Go.BX
open Go.Shelf
structure Pc where
 index:Int
 data:List (BitVec 8)
def pcS:Shape Pc:=(Shape.pair (Shape.int .i64) SB).map fun x=>(x.index,x.data)
theorem pc_open{S:Nat→Prop}{w:World}{cs:List Value}{x:Pc}(h:pcS.rep S w cs x):∃a1:Option Addr,∃k1:Nat,cs=[.I x.index,.slice a1 x.data.length k1]∧((-9223372036854775808)≤x.index∧x.index≤9223372036854775807)∧SB.rep S w [.slice a1 x.data.length k1] x.data:=by
 obtain⟨c0,d0,rfl,h0,h⟩:=h
 have h1:=h
 obtain⟨e0,b0⟩:=h0
 obtain⟨a1,k1,e1⟩:=Shape.slice_form' h1
 exact⟨a1,k1,(by simp[e0,e1]),b0,(e1▸h1)⟩
theorem pc_mk{S:Nat→Prop}{w:World}{y0:Int}{l0:List Value}(h0:(Shape.int .i64).rep S w l0 y0){y1:List (BitVec 8)}{l1:List Value}(h1:SB.rep S w l1 y1):pcS.rep S w (l0++(l1)) ⟨y0,y1⟩:=⟨_,_,rfl,h0,h1⟩
theorem isnan_same{S:Nat→Prop}{w:World}(x:Int):
 Calls Tryz.prog 188 #[.I x] w (Ret fun v w'=>Ext w w'∧w'=w∧v=.bool false):=by
 refine qS (fn:=Tryz.f188) (n:=6) (σ:=[(0,.I x)]) Tryz.func188 ?_
 have H:=Hp.startF (w:=w) (S:=S) (G:=[]) .nil
 refine qR 4 [.c [2]] [(2,.bool (x !=x))] ?_
 refine qT (.bool (x !=x)) Tryz.func188 ?_
 refine⟨_,rfl,H.done,rfl,?_⟩
 congr 1
 simp
def cmpI(x y:Int):Int:=if x<y then-1 else if y<x then 1 else 0
theorem compare_same{S:Nat→Prop}{w:World}(x y:Int):
 Calls Tryz.prog 137 #[.I x,.I y] w (Ret fun v w'=>Ext w w'∧w'=w∧v=.I (cmpI x y)):=by
 refine qS (fn:=Tryz.f137) (n:=20) (σ:=[(0,.I x),(1,.I y)]) Tryz.func137 ?_
 have H:=Hp.startF (w:=w) (S:=S) (G:=[]) .nil
 refine qR 3 [.c [1,0],.c [2]] [(0,.I x),(1,.I y)] ?_
 refine qG (sq 0 3) ?_
 refine qP 1 (sq 1 3) [(0,.I x),(1,.I y),(7,.I x)] ?_
 refine qK .seq (some 8) (sq 2 3) 188 #[.I x] (isnan_same (S:=fun _=>True) x) ?_
 rintro _ _-⟨rfl,rfl⟩
 refine qF 1 [(0,.I x),(1,.I y),(5,.bool false)] ?_
 refine qR 1 [.c [2,0],.c [3]] [(0,.I x),(1,.I y),(5,.bool false)] ?_
 refine qG (sq 0 3) ?_
 refine qP 1 (sq 1 3) [(0,.I x),(1,.I y),(5,.bool false),(9,.I y)] ?_
 refine qK .seq (some 10) (sq 2 3) 188 #[.I y] (isnan_same (S:=fun _=>True) y) ?_
 rintro _ _-⟨rfl,rfl⟩
 refine qF 1 [(0,.I x),(1,.I y),(5,.bool false),(6,.bool false)] ?_
 refine qR 13 [.c [5,0,1],.c [6]] [(0,.I x),(1,.I y),(16,.bool (decide ((x:Int)<y)))] ?_
 refine qD ((x:Int)<y) (fun h3=>?_) (fun h3=>?_)
 ·
  refine qR 2 [.c [5,0,1,0,1],.c [6]] [(4,.I (-1))] ?_
  refine qT (.I (-1)) Tryz.func137 ?_
  refine⟨_,rfl,H.done,rfl,?_⟩
  congr 1
  unfold cmpI
  first|rw[if_pos (by omega)]|rw[if_neg (by omega),if_pos (by omega)]|rw[if_neg (by omega),if_neg (by omega)]
 ·
  refine qR 4 [.c [6,0,1],.c [7]] [(19,.bool (decide ((x:Int)>y)))] ?_
  refine qD ((x:Int)>y) (fun h4=>?_) (fun h4=>?_)
  ·
   refine qR 2 [.c [6,0,1,0,1],.c [7]] [(4,.I 1)] ?_
   refine qT (.I 1) Tryz.func137 ?_
   refine⟨_,rfl,H.done,rfl,?_⟩
   congr 1
   unfold cmpI
   first|rw[if_pos (by omega)]|rw[if_neg (by omega),if_pos (by omega)]|rw[if_neg (by omega),if_neg (by omega)]
  ·
   refine qR 3 [.c [8]] [(4,.I 0)] ?_
   refine qT (.I 0) Tryz.func137 ?_
   refine⟨_,rfl,H.done,rfl,?_⟩
   congr 1
   unfold cmpI
   first|rw[if_pos (by omega)]|rw[if_neg (by omega),if_pos (by omega)]|rw[if_neg (by omega),if_neg (by omega)]
theorem cmp_same{S:Nat→Prop}{w:World}(x y:Int)(v1 v2:Value):
 Calls Tryz.prog 170 #[.agg #[.I x,v1],.agg #[.I y,v2]] w (Ret fun v w'=>v=.I (cmpI x y)∧Gr w w'):=by
 have hG:=Gr.refl w
 refine qS (fn:=Tryz.f170) (n:=10) (σ:=[(0,.agg #[.I x,v1]),(1,.agg #[.I y,v2])]) Tryz.func170 ?_
 have H:=Hp.startF (w:=w) (S:=S) (G:=[]) .nil
 refine qR 1 [.c [0],.c [1]] [(0,.agg #[.I x,v1]),(1,.agg #[.I y,v2])] ?_
 refine qG (sq 0 3) ?_
 refine RW.newG (κ:=.seq) (d:=some 2) (r:=(sq 1 3)) (o:=.cells #[.I x,v1] 82 (0,0)) (v:=fun b=>.P b 0) (fun b=>by as_aux_lemma=>kernel_rfl) (nofun) H ?_
 intro b1 w2 hqw2 H;have hG:=hG.new hqw2
 refine RW.newG (κ:=.seq) (d:=some 3) (r:=(sq 2 3)) (o:=.cells #[.I y,v2] 82 (0,0)) (v:=fun b=>.P b 0) (fun b=>by as_aux_lemma=>kernel_rfl) (nofun) H ?_
 intro b3 w4 hqw4 H;have hG:=hG.new hqw4
 refine qF 1 [(2,.P b1 0),(3,.P b3 0)] ?_
 refine qR 1 [.c [1,0],.c [2]] [(2,.P b1 0),(3,.P b3 0)] ?_
 refine qG (sq 0 6) ?_
 refine qP 1 (sq 1 6) [(3,.P b3 0),(5,.P b1 0)] ?_
 refine qL .seq 6 (sq 2 6) 3 b1 0 0 (.I x) (H.cells 1 rfl) ?_
 refine qP 1 (sq 3 6) [(6,.I x),(7,.P b3 0)] ?_
 refine qL .seq 8 (sq 4 6) 3 b3 0 0 (.I y) (H.cells 0 rfl) ?_
 refine qK .seq (some 9) (sq 5 6) 137 #[.I x,.I y] (compare_same (S:=fun _=>True) x y) ?_
 rintro _ _-⟨rfl,rfl⟩
 refine qF 1 [(4,.I (cmpI x y))] ?_
 refine qT (.I (cmpI x y)) Tryz.func170 ?_
 exact⟨_,rfl,rfl,hG⟩
def Tryz.sortPc_ren:Go.Shelf.Ren:=⟨fun|6=>169|14=>220|15=>181|20=>249|21=>250|22=>251|23=>252|24=>253|25=>254|26=>255|27=>256|28=>225|29=>177|46=>275|47=>276|48=>277|49=>278|50=>279|57=>286|n=>n,fun|0=>0|3=>3|4=>4|5=>5|9=>9|22=>80|24=>82|25=>253|39=>29|45=>337|46=>338|50=>164|53=>107|55=>32|66=>361|70=>365|76=>371|77=>254|n=>n,fun|n=>n⟩
theorem Tryz.sortPc:Go.Proofs.SlLaysF0.n6 Tryz.prog Tryz.sortPc_ren:={
 mixed:=by kernel_rfl
 f6:=⟨Tryz.f169.name,by decide,Tryz.func169.trans (congrArg some (by kernel_rfl))⟩
 f14:=⟨Tryz.f220.name,by decide,Tryz.func220.trans (congrArg some (by kernel_rfl))⟩
 f15:=Tryz.func181.trans (congrArg some (by kernel_rfl))
 f20:=⟨Tryz.f249.name,by decide,Tryz.func249.trans (congrArg some (by kernel_rfl))⟩
 f21:=⟨Tryz.f250.name,by decide,Tryz.func250.trans (congrArg some (by kernel_rfl))⟩
 f22:=⟨Tryz.f251.name,by decide,Tryz.func251.trans (congrArg some (by kernel_rfl))⟩
 f23:=⟨Tryz.f252.name,by decide,Tryz.func252.trans (congrArg some (by kernel_rfl))⟩
 f24:=⟨Tryz.f253.name,by decide,Tryz.func253.trans (congrArg some (by kernel_rfl))⟩
 f25:=⟨Tryz.f254.name,by decide,Tryz.func254.trans (congrArg some (by kernel_rfl))⟩
 f26:=⟨Tryz.f255.name,by decide,Tryz.func255.trans (congrArg some (by kernel_rfl))⟩
 f27:=⟨Tryz.f256.name,by decide,Tryz.func256.trans (congrArg some (by kernel_rfl))⟩
 f28:=Tryz.func225.trans (congrArg some (by kernel_rfl))
 f29:=Tryz.func177.trans (congrArg some (by kernel_rfl))
 f46:=⟨Tryz.f275.name,by decide,Tryz.func275.trans (congrArg some (by kernel_rfl))⟩
 f47:=Tryz.func276.trans (congrArg some (by kernel_rfl))
 f48:=Tryz.func277.trans (congrArg some (by kernel_rfl))
 f49:=⟨Tryz.f278.name,by decide,Tryz.func278.trans (congrArg some (by kernel_rfl))⟩
 f50:=⟨Tryz.f279.name,by decide,Tryz.func279.trans (congrArg some (by kernel_rfl))⟩
 f57:=⟨Tryz.f286.name,by decide,Tryz.func286.trans (congrArg some (by kernel_rfl))⟩
 t0:=Tryz.underlying0
 a0:=Tryz.isAgg0
 z0:=Tryz.sizeOf0
 v0:=Tryz.zeroValue0
 t3:=Tryz.underlying3
 a3:=Tryz.isAgg3
 z3:=Tryz.sizeOf3
 v3:=Tryz.zeroValue3
 t4:=Tryz.underlying4
 a4:=Tryz.isAgg4
 z4:=Tryz.sizeOf4
 v4:=Tryz.zeroValue4
 t5:=Tryz.underlying5
 a5:=Tryz.isAgg5
 z5:=Tryz.sizeOf5
 v5:=Tryz.zeroValue5
 t9:=Tryz.underlying9
 a9:=Tryz.isAgg9
 z9:=Tryz.sizeOf9
 v9:=Tryz.zeroValue9
 t22:=Tryz.underlying80
 a22:=Tryz.isAgg80
 z22:=Tryz.sizeOf80
 v22:=Tryz.zeroValue80
 t25:=Tryz.underlying253
 a25:=Tryz.isAgg253
 z25:=Tryz.sizeOf253
 v25:=Tryz.zeroValue253
 t39:=Tryz.underlying29
 a39:=Tryz.isAgg29
 z39:=Tryz.sizeOf29
 v39:=Tryz.zeroValue29
 t45:=Tryz.underlying337
 a45:=Tryz.isAgg337
 z45:=Tryz.sizeOf337
 v45:=Tryz.zeroValue337
 t46:=Tryz.underlying338
 a46:=Tryz.isAgg338
 z46:=Tryz.sizeOf338
 v46:=Tryz.zeroValue338
 t50:=Tryz.underlying164
 a50:=Tryz.isAgg164
 z50:=Tryz.sizeOf164
 v50:=Tryz.zeroValue164
 t53:=Tryz.underlying107
 a53:=Tryz.isAgg107
 z53:=Tryz.sizeOf107
 v53:=Tryz.zeroValue107
 t55:=Tryz.underlying32
 a55:=Tryz.isAgg32
 z55:=Tryz.sizeOf32
 v55:=Tryz.zeroValue32
 t66:=Tryz.underlying361
 a66:=Tryz.isAgg361
 z66:=Tryz.sizeOf361
 v66:=Tryz.zeroValue361
 t70:=Tryz.underlying365
 a70:=Tryz.isAgg365
 z70:=Tryz.sizeOf365
 v70:=Tryz.zeroValue365
 t76:=Tryz.underlying371
 a76:=Tryz.isAgg371
 z76:=Tryz.sizeOf371
 v76:=Tryz.zeroValue371
 t77:=Tryz.underlying254
 a77:=Tryz.isAgg254
 z77:=Tryz.sizeOf254
 v77:=Tryz.zeroValue254}
abbrev OneV:Type:={v:Value//v.oneCell'=true}
instance:Inhabited (Pc×OneV):=⟨⟨⟨0,[]⟩,⟨.bool false,rfl⟩⟩⟩
def encP(x:Pc×OneV):List Value:=[.I x.1.index,x.2.1]
def cmpP(x y:Pc×OneV):Int:=cmpI x.1.index y.1.index
def pvS:Shape (Pc×OneV)where
 size:=2
 rep S w cs x:=cs=encP x∧pcS.rep S w cs x.1
 pos:=by decide
 len h:=by rw[h.1];rfl
 ones h:=pcS.ones h.2
 step h hs:=⟨h.1,pcS.step h.2 hs⟩
theorem pv_of(S:Nat→Prop)(w:World)(cs:List Value)(x:Pc)(h:pcS.rep S w cs x):∃y:Pc×OneV,y.1=x∧pvS.rep S w cs y:=by
 have h0:=h
 obtain⟨a,k,e,_,_⟩:=pc_open h
 exact⟨(x,⟨.slice a x.data.length k,rfl⟩),rfl,by rw[e];rfl,h0⟩
theorem pv_enc(S:Nat→Prop)(w:World)(x:Pc×OneV)(cs:List Value)(h:pvS.rep S w cs x):cs=encP x:=h.1
theorem pv_pc(S:Nat→Prop)(w:World)(cs:List Value)(y:Pc×OneV)(h:pvS.rep S w cs y):pcS.rep S w cs y.1:=h.2
theorem ltOf_cmpP(x y:Pc×OneV):Go.Proofs.ltOf cmpP x y=decide (x.1.index<y.1.index):=by
 unfold Go.Proofs.ltOf cmpP cmpI
 congr 1
 rw[eq_iff_iff]
 by_cases h1:x.1.index<y.1.index
 ·simp[h1]
 · by_cases h2 :y.1.index<x.1.index
   ·simp[h1,h2]
   ·simp[h1,h2]
theorem cmpP_swo:Go.Sort.SWO (Go.Proofs.ltOf cmpP)where
 irrefl x:=by rw[ltOf_cmpP];exact decide_eq_false (by omega)
 trans x y z h1 h2:=by rw[ltOf_cmpP]at*;have h1:=of_decide_eq_true h1;have h2:=of_decide_eq_true h2;exact decide_eq_true (by omega)
 ntrans x y z h1 h2:=by rw[ltOf_cmpP]at*;have h1:=of_decide_eq_false h1;have h2:=of_decide_eq_false h2;exact decide_eq_false (by omega)
theorem cmpP_lays(blk off size:Nat)(w:World):Go.Proofs.CmpLays Tryz.prog 170 #[] encP 2 cmpP blk off size w:=
 fun m os dk _ x y=>(cmp_same (S:=fun _=>True) x.1.index y.1.index x.2.1 y.2.1).mono fun e w' h=>by
  obtain⟨v,he,hv,q,os',hw⟩:=h
  exact⟨he.trans (by rw[hv];rfl),q,os',hw⟩
theorem sort_pv{S:Nat→Prop}{w:World}{O:List Nat}{b cap:Nat}{xs:List (Pc×OneV)}(H0:Hp w S O [] [⟨pvS,82,.slice (some ⟨b,0,none⟩) xs.length cap,xs⟩] [] w)(hp:0<xs.length)(hsz:xs.length<4611686018427387904):
 Calls Tryz.prog 169 #[.slice (some ⟨b,0,none⟩) xs.length cap,.func (.func 170) #[] #[]] w (Ret fun v w'=>v=.tuple #[]∧∃ys:List (Pc×OneV),ys.Perm xs∧ys.Pairwise (fun x y=>x.1.index≤y.1.index)∧Hp w S O [] [⟨pvS,82,.slice (some ⟨b,0,none⟩) xs.length cap,ys⟩] [] w'):=by
 obtain⟨hH,hb⟩:=H0.holdsK (enc:=encP) (k:=2) rfl (by decide) pv_enc hp
 have eg:∀args w,(callFunc 170 args).run Tryz.prog w=.ok (.enter 170 args) w:=Go.Proofs.enters_of Tryz.func170 (by kernel_rfl) rfl
 have h:=Go.Proofs.AnyQ.slices_SortFunc Tryz.sortPc 2 (fun w=>Tryz.isAgg82 w) (fun w=>Tryz.sizeOf82 w) encP (fun _=>rfl) (fun x v hv=>by simp[encP]at hv;rcases hv with rfl|rfl;rfl;exact x.2.2) cmpP cmpP_swo 170 #[] b 0 cap xs.toArray w eg (cmpP_lays b 0 _ w) hH hb (by simpa using hsz)
 change Calls Tryz.prog 169 _ _ _ at h
 simp only[List.size_toArray]at h
 refine h.mono fun e w' hh=>?_
 obtain⟨he,d',n,os,hperm,hsort,rfl⟩:=hh
 have hd:d'.toList.Perm xs:=by
  have h3:=hperm.2.2
  have h1:d'.size=xs.length:=by simpa using hperm.1
  rw[show d'.extract 0 xs.length=d' by rw[←h1];simp,show xs.toArray.extract 0 xs.length=xs.toArray by simp]at h3
  simpa using h3
 refine⟨_,he,rfl,d'.toList,hd,?_,H0.sortedK (enc:=encP) (k:=2) rfl (by decide) pv_enc (fun _=>rfl) hp hd⟩
 rw[List.pairwise_iff_getElem]
 intro i j hi hj hij
 have h1:d'.size=xs.length:=by simpa using hperm.1
 simp only[Array.length_toList]at hi hj
 have:=hsort i j (Nat.zero_le _) hij (by omega)
 rw[ltOf_cmpP,getElem!_pos d' j hj,getElem!_pos d' i hi]at this
 have:=of_decide_eq_false this
 simp only[Array.getElem_toList]
 omega
theorem sort_pc{S:Nat→Prop}{w:World}{O:List Nat}{b cap:Nat}{xs:List Pc}(H0:Hp w S O [] [⟨pcS,82,.slice (some ⟨b,0,none⟩) xs.length cap,xs⟩] [] w)(hp:0<xs.length)(hsz:xs.length<4611686018427387904):
 Calls Tryz.prog 169 #[.slice (some ⟨b,0,none⟩) xs.length cap,.func (.func 170) #[] #[]] w (Ret fun v w'=>v=.tuple #[]∧∃ys:List Pc,ys.Perm xs∧ys.Pairwise (fun x y=>x.index≤y.index)∧Hp w S O [] [⟨pcS,82,.slice (some ⟨b,0,none⟩) xs.length cap,ys⟩] [] w'):=by
 obtain⟨zs,hz,H1⟩:=H0.liftW (sh':=pvS) (fun y:Pc×OneV=>y.1) rfl pv_of
 have hl:zs.length=xs.length:=by rw[←hz,List.length_map]
 rw[←hl]at H1⊢
 refine(sort_pv H1 (by omega) (by omega)).mono fun e w' h=>?_
 obtain⟨v,he,hv,ys,h1,h2,h3⟩:=h
 refine⟨v,he,hv,ys.map (·.1),?_,?_,h3.mapW (fun y:Pc × OneV => y.1) rfl pv_pc⟩
 · rw[← hz]
   exact h1.map _
 · rw[List.pairwise_map]
   exact h2
theorem grow_spec{S:Nat→Prop}{w:World}{n:Nat}(hn:n≤1099511627776):
 Calls Tryz.prog 114 #[.slice none 0 0,.I n] w (Ret fun v w'=>Ext w w'∧Hp w S [] [] [⟨Sb,5,v,[]⟩] [] w'):=by
 refine qS (fn:=Tryz.f114) (n:=27) (σ:=[(0,.slice none 0 0),(1,.I n)]) Tryz.func114 ?_
 have H:=Hp.startF (w:=w) (S:=S) (G:=[]) .nil
 refine qR 5 [.c [1,0,1],.c [2]] [(0,.slice none 0 0),(1,.I n),(6,.bool (decide (((n:Int):Int)<0)))] ?_
 refine qD (((n:Int):Int)<0) (fun h1=>?_) (fun h1=>?_)
 ·
  omega
 ·
  refine qR 3 [.c [2,0,0],.c [2,0,1],.c [3]] [(0,.slice none 0 0),(1,.I n)] ?_
  refine qG (sq 0 8) ?_
  refine qP 6 (sq 6 8) [(0,.slice none 0 0),(1,.I n),(8,.I n),(13,.I 0)] ?_
  refine RW.pv (κ:=.seq) (d:=some 14) (r:=(sq 7 8)) (v':=.I n) (v:=.I (IntKind.i64.wrap ((n:Int)-0))) (by as_aux_lemma=>kernel_rfl) ((wr_i64 (by omega)).trans (by rw[Int.sub_zero])) ?_
  refine qF 1 [(0,.slice none 0 0),(1,.I n)] ?_
  refine qR 2 [.c [2,0,2],.c [3]] [(0,.slice none 0 0),(1,.I n),(16,.bool (decide (((n:Int):Int)>0)))] ?_
  refine qD (((n:Int):Int)>0) (fun h2=>?_) (fun h2=>?_)
  ·
   refine qG (sq 0 10) ?_
   refine qP 3 (sq 3 10) [(0,.slice none 0 0),(1,.I n),(17,.slice none 0 0),(19,.I 0)] ?_
   refine RW.readS (κ:=.seq) (d:=some 20) (r:=(sq 4 10)) (s:=semV (Instr.sliceAt 28 (.slice none 0 0) none (some (.I 0)) none)) (v:=.slice none 0 0) (by as_aux_lemma=>kernel_rfl) (fun w' _=>semV_run (sliceAt_run0 (e:=5) (m:=1) (by as_aux_lemma=>kernel_rfl) (hi:=0) (.mk (by omega)) (by omega))) ?_
   refine qP 1 (sq 5 10) [(0,.slice none 0 0),(20,.slice none 0 0),(21,.I n)] ?_
   refine RW.appendZN (d:=some 22) (r:=(sq 6 10)) (T:=28) (TI:=3) (ty:=28) (e:=5) (m:=1) (by_:=1) (ik:=.i64) (j:=n) (t:=(n:Int)) (by as_aux_lemma=>kernel_rfl) (by omega) (by as_aux_lemma=>kernel_rfl) (by as_aux_lemma=>kernel_rfl) H (by decide) (by omega) (by omega) (by omega) ?_
   intro b3 cc4 c5 w6 H hcs hcc1 hcc2
   have H:Hp w S [] [(b3,.cells c5 5 (0,0))] [] [] _:=H
   refine qP 2 (sq 8 10) [(0,.slice none 0 0),(22,.slice (some ⟨b3,0,none⟩) n cc4),(24,.I 0)] ?_
   refine RW.sliceR (κ:=.seq) (d:=some 25) (r:=(sq 9 10)) (T:=28) (e:=5) (m:=1) (b:=b3) (o:=0) (len:=n) (cap:=cc4) (lv:=none) (hv:=(some (.I 0))) (by as_aux_lemma=>kernel_rfl) (by as_aux_lemma=>kernel_rfl) 0 0 .nil (.mk (by omega)) (by omega) (by omega) ?_
   intro o7 ho8
   obtain rfl:o7=0:=by have:=ho8 (by omega);omega
   refine qF 1 [(0,.slice (some ⟨b3,0,none⟩) 0 cc4)] ?_
   refine qR 2 [.c [4]] [(4,.slice (some ⟨b3,0,none⟩) 0 cc4)] ?_
   refine qT (.slice (some ⟨b3,0,none⟩) 0 cc4) Tryz.func114 ?_
   have H:=H.toOwn (sh:=Sb) (xs:=[]) (cap:=cc4) (by rw[hcs];rfl) (Nat.zero_le _) (by unfold maxLen;omega) (by simp) EsP.nil
   have H:=H.drop (M':=[]) (W':=[_]) (List.nil_sublist _) (List.Sublist.refl _)
   exact⟨_,rfl,H.done,H.pick [] rfl⟩
  ·
   refine qR 3 [.c [4]] [(4,.slice none 0 0)] ?_
   refine qT (.slice none 0 0) Tryz.func114 ?_
   exact⟨_,rfl,H.done,(H.pick [] rfl).ownNil Sb 5⟩
def catTo(m:List (List (BitVec 8)))(i:Nat):List (BitVec 8):=(m.take i).flatten
theorem catTo_succ{m:List (List (BitVec 8))}{i:Nat}(h:i<m.length):catTo m i++m[i]=catTo m (i+1):=by
 unfold catTo
 rw[List.take_succ_eq_append_getElem h,List.flatten_append]
 simp only[List.flatten_cons,List.flatten_nil,List.append_nil]
theorem catTo_len{m:List (List (BitVec 8))}{l i:Nat}(h:∀x∈m,x.length=l)(hi:i≤m.length):(catTo m i).length=i*l:=by
 induction i with
 |zero=>simp[catTo]
 |succ i ih=>
  rw[←catTo_succ (by omega),List.length_append,ih (by omega),h _ (List.getElem_mem _),Nat.succ_mul]
theorem catTo_all(m:List (List (BitVec 8))):catTo m m.length=m.flatten:=by
 unfold catTo
 rw[List.take_length]
theorem concat_spec{S:Nat→Prop}{w:World}{m:List (List (BitVec 8))}{a:Option Addr}{k:Nat}(h:(Shape.slice SB).rep S w [.slice a m.length k] m)(hr:m.length≤255){l:Nat}(hl:∀x∈m,x.length=l)(hl2:l≤65536):
 Calls Tryz.prog 76 #[.slice a m.length k] w (Ret fun v w'=>Ext w w'∧Hp w S [] [] [⟨Sb,5,v,m.flatten⟩] [] w'):=by
 have hml:=Shape.slice_len h
 have hmm:m.length*l≤255*65536:=Nat.mul_le_mul hr hl2
 refine qS (fn:=Tryz.f76) (n:=36) (σ:=[(0,.slice a m.length k)]) Tryz.func76 ?_
 have H:=Hp.startF (w:=w) (S:=S) (G:=[Rp (Shape.slice SB) [.slice a m.length k] m]) (.rp h .nil)
 refine qR 8 [.c [2,0,1,0],.b 0,.c [3]] [(0,.slice a m.length k),(3,.I 0),(9,.slice a m.length k),(10,.I ((m.length:Nat):Int)),(11,.I 0)] ?_
 refine WK.loop (α:=Nat) (b:=cd Tryz.prog 76 [2,0,1,0,0]) (by as_aux_lemma=>kernel_rfl) (fun i=>[(0,.slice a m.length k),(3,.I ((i*l:Nat):Int)),(9,.slice a m.length k),(10,.I ((m.length:Nat):Int)),(11,.I i)]) (fun i w'=>Hp w S [] [] [] [Rp (Shape.slice SB) [.slice a m.length k] m] w'∧i≤m.length) (fun i=>m.length-i) 0 ⟨H,Nat.zero_le _⟩ (by simp) ?_
 rintro i w2⟨H,hinv0⟩hback1
 refine qR 3 [.c [2,0,1,0,0,1,0],.c [2,0,1,0,0,2],.l [2,0,1,0,0],.b 0,.c [3]] [(0,.slice a m.length k),(3,.I ((i*l:Nat):Int)),(9,.slice a m.length k),(10,.I ((m.length:Nat):Int)),(11,.I i),(12,.bool (decide (((i:Int):Int)<((m.length:Nat):Int))))] ?_
 refine qD (((i:Int):Int)<((m.length:Nat):Int)) (fun h3=>?_) (fun h3=>?_)
 ·
  have hil:=hl (m[i]) (List.getElem_mem (by omega))
  have hib:i*l≤255*65536:=Nat.mul_le_mul (by omega) hl2
  have his:(i+1)*l=i*l+l:=Nat.succ_mul i l
  refine qR 4 [.c [2,0,1,0,0,2,0,0,0],.c [2,0,1,0,0,2,0,0,1],.b 1,.c [2,0,1,0,0,3],.l [2,0,1,0,0],.b 0,.c [3]] [(0,.slice a m.length k),(3,.I ((i*l:Nat):Int)),(9,.slice a m.length k),(10,.I ((m.length:Nat):Int)),(11,.I i)] ?_
  refine qG (sq 0 3) ?_
  have hx4:i<m.length:=by omega
  refine qX .seq 13 (sq 1 3) 74 28 (i:Int) SB (m[i]) H 0 rfl i (by omega) (List.getElem?_eq_getElem hx4) ?_
  intro b5 o6 es7 hr8 H
  obtain⟨a9,k10,rfl⟩:=Shape.slice_form' hr8
  have H:=H.add (F:=Rp SB [.slice a9 (m[i]).length k10] (m[i])) hr8
  refine qL .seq 14 (sq 2 3) 28 b5 o6 0 (.slice a9 (m[i]).length k10) (H.fc 1 rfl) ?_
  refine qF 1 [(0,.slice a m.length k),(3,.I ((i*l:Nat):Int)),(5,.slice a9 (m[i]).length k10),(9,.slice a m.length k),(10,.I ((m.length:Nat):Int)),(11,.I i)] ?_
  refine qR 1 [.c [2,0,1,0,0,2,0,0,1,0],.c [2,0,1,0,0,2,0,0,2],.b 1,.c [2,0,1,0,0,3],.l [2,0,1,0,0],.b 0,.c [3]] [(0,.slice a m.length k),(3,.I ((i*l:Nat):Int)),(5,.slice a9 (m[i]).length k10),(9,.slice a m.length k),(10,.I ((m.length:Nat):Int)),(11,.I i)] ?_
  refine qG (sq 0 5) ?_
  refine qP 3 (sq 3 5) [(0,.slice a m.length k),(3,.I ((i*l:Nat):Int)),(9,.slice a m.length k),(10,.I ((m.length:Nat):Int)),(11,.I i),(15,.I ((i*l:Nat):Int)),(17,.I (((m[i]).length:Nat):Int))] ?_
  refine qI .seq 18 (sq 4 5) (((i*l:Nat):Int)+(((m[i]).length:Nat):Int)) ?_
  refine qF 1 [(0,.slice a m.length k),(3,.I (((i*l:Nat):Int)+(((m[i]).length:Nat):Int))),(9,.slice a m.length k),(10,.I ((m.length:Nat):Int)),(11,.I i)] ?_
  refine qR 2 [.c [2,0,1,0,0,2,0,0,3],.b 1,.c [2,0,1,0,0,3],.l [2,0,1,0,0],.b 0,.c [3]] [(0,.slice a m.length k),(3,.I (((i*l:Nat):Int)+(((m[i]).length:Nat):Int))),(9,.slice a m.length k),(10,.I ((m.length:Nat):Int)),(11,.I i),(20,.bool (decide ((((i*l:Nat):Int)+(((m[i]).length:Nat):Int):Int)<0)))] ?_
  refine qD ((((i*l:Nat):Int)+(((m[i]).length:Nat):Int):Int)<0) (fun h11=>?_) (fun h11=>?_)
  ·
   omega
  ·
   refine qR 2 [.c [2,0,1,0,0,3],.l [2,0,1,0,0],.b 0,.c [3]] [(0,.slice a m.length k),(3,.I (((i*l:Nat):Int)+(((m[i]).length:Nat):Int))),(9,.slice a m.length k),(10,.I ((m.length:Nat):Int)),(11,.I i)] ?_
   refine qG (sq 0 2) ?_
   refine qI .seq 22 (sq 1 2) ((i:Int)+1) ?_
   refine qF 1 [(0,.slice a m.length k),(3,.I (((i*l:Nat):Int)+(((m[i]).length:Nat):Int))),(9,.slice a m.length k),(10,.I ((m.length:Nat):Int)),(11,.I ((i:Int)+1))] ?_
   have H:=H.pick [2] rfl
   exact WK.back (hback1 (i+1) _ ⟨H,by omega⟩ (by first|omega|(simp only[];omega))) (by rw[his,hil];simp)
 ·
  have hib:i*l≤255*65536:=Nat.mul_le_mul (by omega) hl2
  refine qR 2 [.c [3,0],.c [4]] [(0,.slice a m.length k),(3,.I ((i*l:Nat):Int))] ?_
  refine qG (sq 0 3) ?_
  refine qP 1 (sq 1 3) [(0,.slice a m.length k),(23,.I ((i*l:Nat):Int))] ?_
  refine qK .seq (some 24) (sq 2 3) 114 #[.slice none 0 0,.I ((i*l:Nat):Int)] (grow_spec (S:=Av S w [] (idsOf [] [])) (n:=i*l) (by omega)) ?_
  rintro v13 w12-H'
  have H:=H.back (M1:=[]) (W1:=[]) H'
  obtain⟨a14,c15,rfl,hc16,hm17⟩:=H.ownForm 0 rfl
  have H:Hp w S [] [] [⟨Sb,5,.slice a14 (([]:List (BitVec 8)).length) c15,([]:List (BitVec 8))⟩] [Rp (Shape.slice SB) [.slice a m.length k] m] _:=H
  refine qF 1 [(0,.slice a m.length k),(6,.slice a14 (([]:List (BitVec 8)).length) c15)] ?_
  refine qR 4 [.c [4,0,1,0],.b 2,.c [5]] [(6,.slice a14 (([]:List (BitVec 8)).length) c15),(25,.slice a m.length k),(26,.I ((m.length:Nat):Int)),(27,.I 0)] ?_
  have H:=H.drop (M':=[]) (W':=[⟨Sb,5,.slice a14 (catTo m 0).length c15,catTo m 0⟩]) (by repeat(first|exact List.Sublist.refl _|exact List.nil_sublist _|apply List.Sublist.cons_cons|apply List.Sublist.cons)) (by repeat(first|exact List.Sublist.refl _|exact List.nil_sublist _|apply List.Sublist.cons_cons|apply List.Sublist.cons))
  refine WK.loop (α:=Nat×Option Addr×Nat) (b:=cd Tryz.prog 76 [4,0,1,0,0]) (by as_aux_lemma=>kernel_rfl) (fun st_=>match st_ with|(j,ao,co)=>[(6,.slice ao (catTo m j).length co),(25,.slice a m.length k),(26,.I ((m.length:Nat):Int)),(27,.I j)]) (fun st_ w'=>match st_ with|(j,ao,co)=>Hp w S [] [] [⟨Sb,5,.slice ao (catTo m j).length co,catTo m j⟩] [Rp (Shape.slice SB) [.slice a m.length k] m] w'∧j≤m.length) (fun st_=>match st_ with|(j,ao,co)=>m.length-j) (0,a14,c15) ⟨H,Nat.zero_le _⟩ (rfl) ?_
  rintro⟨j,ao,co⟩w19⟨H,hinv1⟩hback18
  refine qR 3 [.c [4,0,1,0,0,1,0],.c [4,0,1,0,0,2],.l [4,0,1,0,0],.b 2,.c [5]] [(6,.slice ao (catTo m j).length co),(25,.slice a m.length k),(26,.I ((m.length:Nat):Int)),(27,.I j),(28,.bool (decide (((j:Int):Int)<((m.length:Nat):Int))))] ?_
  refine qD (((j:Int):Int)<((m.length:Nat):Int)) (fun h20=>?_) (fun h20=>?_)
  ·
   have hil:=hl (m[j]) (List.getElem_mem (by omega))
   have hcl:=catTo_len (m:=m) hl (show j≤m.length by omega)
   have hjb:j*l≤255*65536:=Nat.mul_le_mul (by omega) hl2
   refine qR 4 [.c [4,0,1,0,0,2,0,0,0],.c [4,0,1,0,0,2,0,0,1],.b 3,.c [4,0,1,0,0,3],.l [4,0,1,0,0],.b 2,.c [5]] [(6,.slice ao (catTo m j).length co),(25,.slice a m.length k),(26,.I ((m.length:Nat):Int)),(27,.I j)] ?_
   refine qG (sq 0 3) ?_
   have hx21:j<m.length:=by omega
   refine qX .seq 29 (sq 1 3) 74 28 (j:Int) SB (m[j]) H 0 rfl j (by omega) (List.getElem?_eq_getElem hx21) ?_
   intro b22 o23 es24 hr25 H
   obtain⟨a26,k27,rfl⟩:=Shape.slice_form' hr25
   have H:=H.add (F:=Rp SB [.slice a26 (m[j]).length k27] (m[j])) hr25
   refine qL .seq 30 (sq 2 3) 28 b22 o23 0 (.slice a26 (m[j]).length k27) (H.fc 1 rfl) ?_
   refine qF 1 [(6,.slice ao (catTo m j).length co),(8,.slice a26 (m[j]).length k27),(25,.slice a m.length k),(26,.I ((m.length:Nat):Int)),(27,.I j)] ?_
   refine qG (sq 0 4) ?_
   refine qP 2 (sq 2 4) [(6,.slice ao (catTo m j).length co),(25,.slice a m.length k),(26,.I ((m.length:Nat):Int)),(27,.I j),(31,.slice ao (catTo m j).length co),(32,.slice a26 (m[j]).length k27)] ?_
   refine RW.appendW (d:=some 33) (r:=(sq 3 4)) (T:=28) (ty:=28) (e:=5) (m:=1) (by_:=1) (v:=.slice ao (catTo m j).length co) (a2:=a26) (l2:=(m[j]).length) (c2:=k27) (zs:=catTo m (j+1)) (by as_aux_lemma=>kernel_rfl) (by as_aux_lemma=>kernel_rfl) rfl H 0 rfl 0 rfl (catTo_succ (by omega)) (by rw[←catTo_succ (by omega),List.length_append];omega) ?_
   intro a28 c29 w31 H hc30
   have H:Hp w S [] [] [⟨Sb,5,.slice a28 ((catTo m (j+1)).length) c29,catTo m (j+1)⟩] [Rp SB [.slice a26 (m[j]).length k27] (m[j]),Fc b22 o23 [.slice a26 (m[j]).length k27],Rp (Shape.slice SB) [.slice a m.length k] m] _:=H
   refine qF 1 [(6,.slice a28 ((catTo m (j+1)).length) c29),(25,.slice a m.length k),(26,.I ((m.length:Nat):Int)),(27,.I j)] ?_
   refine qR 1 [.c [4,0,1,0,0,3],.l [4,0,1,0,0],.b 2,.c [5]] [(6,.slice a28 ((catTo m (j+1)).length) c29),(25,.slice a m.length k),(26,.I ((m.length:Nat):Int)),(27,.I j)] ?_
   refine qG (sq 0 2) ?_
   refine qI .seq 34 (sq 1 2) ((j:Int)+1) ?_
   refine qF 1 [(6,.slice a28 ((catTo m (j+1)).length) c29),(25,.slice a m.length k),(26,.I ((m.length:Nat):Int)),(27,.I ((j:Int)+1))] ?_
   have H:=H.pick [2] rfl
   exact WK.back (hback18 (j+1,a28,c29) _ ⟨H,by omega⟩ (by first|omega|(simp only[];omega))) (by as_aux_lemma=>kernel_rfl)
  ·
   refine qR 3 [.c [6]] [(2,.slice ao (catTo m j).length co)] ?_
   refine qT (.slice ao (catTo m j).length co) Tryz.func76 ?_
   have hje:j=m.length:=by omega
   rw[hje,catTo_all]at H
   have H:=H.drop (M':=[]) (W':=[_]) (List.nil_sublist _) (List.cons_sublist_cons.2 (List.nil_sublist _))
   exact⟨_,rfl,H.done,by rw[hje,catTo_all];exact H.pick [] rfl⟩
end Go.Proofs.YtcafjhnjhhicdaaGreatDoor
