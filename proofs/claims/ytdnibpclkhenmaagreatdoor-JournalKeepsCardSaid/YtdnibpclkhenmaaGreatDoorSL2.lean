import Derived.Shelf.LaysM
import Derived.Shelf.SlGeneric
import Derived.Shelf.Small.Wraps
import Derived.Shelf.Strconv.Atoi
import Derived.Shelf.Strconv.Itoa3
import Derived.Shelf.SlIter.Nil
import Derived.Shelf.SortM.Plain
import Derived.Shelf.SortM.SortNone
import Derived.Ground.NamesProg
import Derived.Ground.GgzProg
import Derived.Ground.SlgmProg
import Derived.Shelf.SlIter.Collect
import Derived.Shelf.SlIter.Sorted
import Derived.Lib.SmallJoins
import Derived.Test.YtdnibpclkhenmaaGreatDoorSL1
import Derived.Test.YtdnibpclkhenmaaGreatDoorSP0
import Derived.Test.YtdnibpclkhenmaaGreatDoorSJA
namespace Go.Proofs.YtdnibpclkhenmaaGreatDoor
open Go.BX
open Go.RowKit Go.Shelf Go.Maps Go.Sort
theorem ext_grow(w:World)(k:Nat)(os:Array Obj):Ext w (grow (w.drewN k) os):=
 ⟨rfl,rfl,rfl,by show w.heap.size≤(w.heap++os).size;rw[Array.size_append];omega,fun i hi=>by show(w.heap++os)[i]?=_;rw[Array.getElem?_append_left hi]⟩
theorem dig_len{n:Nat}(h:n≤1000000):(Lib.decDigits n).length≤7:= by
 rw[Lib.decDigits_length]
 rcases Nat.lt_or_ge 7 (Lib.nDigits n)with h1 | h1
 · have h7:=Lib.nDigits_pos n
   have h8:10^(Lib.nDigits n-1)≤n:= by
    rcases Nat.eq_zero_or_pos n with rfl | hn
    · exfalso
      have:Lib.nDigits 0=1:=by rw[Lib.nDigits];rfl
      omega
    ·exact dig_pow n hn
   have h9:10^7≤10^(Lib.nDigits n-1):=Nat.pow_le_pow_right (by decide) (by omega)
   have h10:(10:Nat)^7=10000000:=by decide
   omega
 ·exact h1
theorem itoa_c{w:World}{n:Nat}(h:n≤1000000)(hq:jQ w):Calls Tryz.prog 117 #[.I n] w (Ret fun v w'=>Ext w w'∧v=.string (digB n)):=
 (Any.strconv_Itoa Tryz.laysM171 (n:Int) (by omega) (by omega) w hq.2.2).mono fun e w' hh=>by
  obtain⟨rfl,k,os,rfl⟩:=hh
  refine⟨_,rfl,ext_grow w k os,?_⟩
  unfold Lib.itoa digB
  rw[if_neg (by omega),Int.toNat_natCast]
theorem atoi_c{w:World}{n:Nat}(h:n≤1000000):Calls Tryz.prog 158 #[.string (digB n)] w (Ret fun v w'=>Ext w w'∧v=.tuple #[.I n,.nilIface]):=
 (Any.strconv_Atoi Tryz.lays172 (digB n) (n:Int) (Nat.le_trans (dig_len h) (by decide)) (atoi_dec n) w).mono fun e w' hh=>by
  obtain⟨rfl,t,rfl⟩:=hh
  exact⟨_,rfl,Go.Joins.below_bytesWorld _ w _ _ (Nat.le_refl _),rfl⟩
theorem pre_list(nm kd:ByteArray):(nm++dotB++kd).data.toList=nm.data.toList++46::kd.data.toList:=by
 unfold dotB
 simp
theorem cut_c{x nm kd:ByteArray}(hx:FForm x)(hp:PlainB nm)(hk:kd=kS∨kd=kC){w:World}:Calls Tryz.prog 157 #[.string x,.string (nm++dotB++kd)] w (Ret fun v w'=>Ext w w'∧
 ((∃n,1≤n∧n≤1000000∧x=fN nm kd n∧v=.tuple #[.string (digB n),.bool true])∨((∀n,x≠fN nm kd n)∧∃s,v=.tuple #[.string s,.bool false]))):=
 (Any.strings_CutPrefix Tryz.lays103 x (nm++dotB++kd) w).mono fun e w' hh=>by
  obtain⟨rfl,rfl⟩:=hh
  refine⟨_,rfl,Ext.refl _,?_⟩
  cases hpx:Lib.hasPrefix x.data.toList (nm++dotB++kd).data.toList with
  |false=>
   refine .inr ⟨fun n e=>?_,_,rfl⟩
   have:Lib.hasPrefix x.data.toList (nm++dotB++kd).data.toList=true:=by
    unfold Lib.hasPrefix
    rw[List.isPrefixOf_iff_prefix,e,pre_list,fN_list]
    exact⟨Lib.decDigits n,by rw[List.append_assoc];rfl⟩
   rw[hpx]at this
   cases this
  |true=>
   have h1:=hpx
   unfold Lib.hasPrefix at h1
   rw[List.isPrefixOf_iff_prefix,pre_list]at h1
   obtain⟨r,hr⟩:=h1
   rw[List.append_assoc,List.cons_append]at hr
   have hkl:∃c,kd.data.toList=[c]∧c≠116:=by
    rcases hk with rfl|rfl
    ·exact⟨115,rfl,by decide⟩
    ·exact⟨99,rfl,by decide⟩
   obtain⟨c,hc,hc2⟩:=hkl
   cases hx with
   |@file nm' kd' n' h1 h2 h3 h4=>
    rw[fN_list]at hr
    obtain⟨e1,e2⟩:=split_dot (plain_dot hp) (plain_dot h1) hr
    have e1':=bytes_ext e1
    subst e1'
    have hkl':∃c',kd'.data.toList=[c']:=by rcases h2 with rfl|rfl<;>exact⟨_,rfl⟩
    obtain⟨c',hc'⟩:=hkl'
    rw[hc,hc']at e2
    injection e2 with e3 e4
    have ek:kd=kd':=bytes_ext (by rw[hc,hc',e3])
    subst ek
    refine .inl ⟨n',h3,h4,rfl,?_⟩
    unfold Lib.trimPrefix
    rw[hpx,if_pos rfl,fN_list,pre_list]
    have:(nm.data.toList++46::(kd.data.toList++Lib.decDigits n')).drop (nm.data.toList++46::kd.data.toList).length=Lib.decDigits n':=by
     rw[show nm.data.toList++46::(kd.data.toList++Lib.decDigits n')=(nm.data.toList++46::kd.data.toList)++Lib.decDigits n' by simp,List.drop_left]
    rw[this]
    rfl
   |@temp nm' h1=>
    rw[tN_list]at hr
    obtain⟨e1,e2⟩:=split_dot (y:=[116]) (plain_dot hp) (plain_dot h1) hr
    rw[hc]at e2
    injection e2 with e3 e4
    exact absurd e3 hc2
def rdT{H:Type}:Value→Option (DataW H×List MemPlace):=fun _=>some (.lit (.bool true),[])
theorem entS_key{x:ByteArray×Option Nat×Nat}(h:x.1.size≤maxLen):Go.WideElems.rd (H:=Unit) Tryz.prog 9 rdT (ent Value.string ptrV x)=some (.string x.1.data.toList,.lit (.bool true)):=by
 refine Go.WideElems.rd_mk (R:=rdT) (yv:=(.lit (.bool true),[])) ?_ rfl
 simp[keyOf,Tryz.underlying9,mapKey,ent,h]
theorem names_own{tb c:Nat}{L:NameL}{w:World}(hT:MOk L c)(hk:∀x∈L,x.1.size≤maxLen)(hl:L.length≤1048576)(hb:w.heap[tb]?=some (mapO Value.string ptrV L c)):
 ∃D:DataW Unit,w.ownsMap Tryz.prog 9 rdT tb L.length D∧Maps.size D=L.length∧(strKeys D).Perm (L.map fun e=>e.1.data.toList):=by
 refine⟨_,⟨_,c,hb,⟨?_,⟨?_,?_,?_⟩,?_⟩,by simp,rfl⟩,?_, ?_⟩
 · simp only[List.size_toArray, List.length_map]
   exact Nat.le_trans hl (by decide)
 · intro x hx
   simp only[List.mem_map]at hx
   obtain⟨y, hy, rfl⟩:= hx
   exact hT.old y hy
 · simp only[List.map_map]
   exact hT.borns
 · simp only[List.map_map]
   have e : ((fun x :MapEntry=>x.key)∘ent Value.string ptrV)=Value.string∘fun x:ByteArray×Option Nat×Nat=>x.1:=rfl
   rw[e,←List.map_map]
   exact hT.keys.map Value.string fun a b h=>fun q=>h (by injection q)
 · intro x hx
   simp only[List.mem_map]at hx
   obtain⟨y, hy, rfl⟩:= hx
   exact⟨_, entS_key (hk y hy)⟩
 · simp[Maps.size, length_sorted]
 · simp only[strKeys]
   refine((Go.WideShapes.sorted_perm _).map _).trans (List.Perm.of_eq ?_)
   rw[List.map_map, List.map_map]
   refine List.map_congr_left fun x hx =>?_
   have e := Go.WideElems.rg_of (entS_key (hk x hx))
   simp only[Function.comp_apply, e]
   rfl
theorem sortsW(m:Nat):AnyZ.SortsIn Tryz.prog Tryz.sorted155_ren Fence.wide m:=
 ⟨fun blk off cap ss W hH hblk hsz=>callsIn_wide.2 (AnyM.slices_Sort_string Tryz.sort196 blk off cap ss W hH hblk hsz),
  fun p cap W=>callsIn_wide.2 (AnyM.slices_Sort_string_none Tryz.sort196 p cap W)⟩
theorem keys_c(tb:Nat)(w:World):Calls Tryz.prog 156 #[.map (some tb)] w (Ret fun v w'=>v=.func (.func 197) #[] #[.pointer (some ⟨w.heap.size,0,none⟩)]∧w'=w.alloc (.cells #[.map (some tb)] 36)):=by
 have cK:CallsIn Fence.wide 5 Tryz.prog 156 #[.map (some tb)] w fun e w'=>e=.returned (.func (.func 197) #[] #[.pointer (some ⟨w.heap.size,0,none⟩)])∧w'=w.alloc (.cells #[.map (some tb)] 36):=AnyZ.keys_in Tryz.keys156 Fence.wide 5 trivial rfl (some tb) w
 refine((callsIn_wide (n:=5)).1 cK).mono fun e w' hh=>?_
 obtain⟨rfl,rfl⟩:=hh
 exact⟨_,rfl,rfl,rfl⟩
theorem keys_h{w0 w:World}{S:Nat→Prop}{O:List Nat}{M:Heap}{W:List OwnS}{G:List Fact}(tb:Nat)(H:Hp w0 S O M W G w):Calls Tryz.prog 156 #[.map (some tb)] w (Ret fun v w'=>∃b,v=.func (.func 197) #[] #[.P b 0]∧Hp w0 S O ((b,.cells #[.map (some tb)] 36 (0,0))::M) W G w'):=
 (keys_c tb w).mono fun e w' hh=>by
  obtain⟨v,he,hv,rfl⟩:=hh
  exact⟨v,he,_,hv,H.alloc (.cells #[.map (some tb)] 36 (0,0))⟩
theorem sorted_c{w0 w:World}{S:Nat→Prop}{O:List Nat}{b tb c:Nat}{M:Heap}{W:List OwnS}{G:List Fact}{L:NameL}(H:Hp w0 S O ((b,.cells #[.map (some tb)] 36 (0,0))::(tb,mapO Value.string ptrV L c)::M) W G w)(hT:MOk L c)(hk:∀x∈L,x.1.size≤maxLen)(hl:L.length≤1048576){St:Nat→Prop}:
 Calls Tryz.prog 155 #[.func (.func 197) #[] #[.P b 0]] w (Ret fun v w'=>Ext w w'∧∃(a:Option Addr)(cp:Nat)(ns:List ByteArray),ns.Perm (L.map (·.1))∧v=.slice a ns.length cp∧Hp w St [] [] [⟨Shape.str,9,.slice a ns.length cp,ns⟩] [] w'):=by
 have hb1:=(H.own _ (List.mem_cons_self ..)).1
 have hb2:=(H.own _ (List.mem_cons_of_mem _ (List.mem_cons_self ..))).1
 obtain⟨D0,hown,hsize,hperm⟩:=names_own hT hk hl hb2
 have hmax:Maps.size D0≤maxLen:=by rw[hsize];exact Nat.le_trans hl (by decide)
 have hbytes:Maps.size D0*16≤140737488355328:=by rw[hsize];omega
 have hseq:SeqGives Fence.wide 2 Tryz.prog 197 #[.P b 0] encStr (fun ss=>ss.Perm (strKeys D0)) (Maps.size D0) w:=
  AnyZ.keys_gives (ρ:=Tryz.keys156_ren) {Tryz.keys156 with} Fence.wide _ trivial rfl (by omega) b tb L.length D0 _ (lt_of_block hb1) (cell_of_one hb1) hown
 have cS:=AnyZ.sorted_in Tryz.sorted155 Fence.wide 5 trivial trivial trivial trivial rfl (by omega) (sortsW _) (enters_of Tryz.func196 (by kernel_rfl) rfl) 197 #[.P b 0] trivial (enters_of Tryz.func197 (by kernel_rfl) rfl) _ _ hmax hbytes _ hseq
 change CallsIn _ _ Tryz.prog 155 _ _ _ at cS
 refine((callsIn_wide (n:=5)).1 cS).mono ?_
 rintro e w'⟨v,ss,rfl,hS,hrow,hnil,hB⟩
 have hsr:∀(m:List (List UInt8)),(m.map fun l=>(⟨l.toArray⟩:ByteArray)).map Value.string=m.map encStr:=fun m=>by
  rw[List.map_map];rfl
 obtain⟨ns,hns⟩:∃ns:List ByteArray,ns=(ss.mergeSort fun x y=>decide (x≤y)).map fun l=>(⟨l.toArray⟩:ByteArray):=⟨_,rfl⟩
 have hnl:ns.length=ss.length:=by rw[hns,List.length_map,List.length_mergeSort]
 have hpm:ns.Perm (L.map (·.1)):=by
  have h1:(ss.mergeSort fun x y=>decide (x≤y)).Perm (L.map fun e=>e.1.data.toList):=(List.mergeSort_perm _ _).trans (hS.trans hperm)
  have h2:=h1.map fun l=>(⟨l.toArray⟩:ByteArray)
  rw[←hns,List.map_map]at h2
  exact h2
 have hsz:∀x∈ns,x.size≤maxLen:=fun x hx=>by
  obtain⟨e,he,rfl⟩:=List.mem_map.1 (hpm.mem_iff.1 hx)
  exact hk e he
 rw[←hsr,←hns,←hnl]at hrow
 have hE:Ext w w':=hB
 have key:∃(a:Option Addr)(cp:Nat),v=.slice a ns.length cp∧(ns.length=0∧a=none∧cp=0∨∃g cur,a=some ⟨g,0,none⟩∧w.heap.size≤g∧w'.heap[g]?=some (.cells cur 9 (0,0))∧ns.length≤cp∧cp≤maxLen∧cur.size=cp*1∧cur.toList.take (ns.length*1)=ns.map Value.string):=by
  rcases hrow.2 with⟨rfl,h3⟩|⟨g,cap,cur,rfl,h3,h4,h5,h6,h7,h8⟩
  ·exact⟨none,0,by rw[h3],.inl ⟨h3,rfl,rfl⟩⟩
  ·exact⟨_,_,rfl,.inr ⟨g,cur,rfl,h3,h4,h5,h6,h7,h8⟩⟩
 obtain⟨a,cp,rfl,hk2⟩:=key
 have hH:Hp w St [] [] [⟨Shape.str,9,.slice a ns.length cp,ns⟩] [] w':=by
  refine⟨⟨hB.os,hB.tape,hB.output, hB.size, fun k hk _ => hB.block k hk⟩, nofun, fun o ho =>?_, ?_, nofun⟩
  · obtain rfl := List.mem_singleton.1 ho
    refine⟨⟨ns.map Value.string, ?_, ?_, fun i x hi =>?_⟩, fun q hq =>?_⟩
    · refine⟨by show(ns.map Value.string).length = ns.length * 1; rw[List.length_map]; simp, ?_⟩
      rcases hk2 with⟨h1, rfl, rfl⟩|⟨g, cur, rfl, h3, h4, h5, h6, h7, h8⟩
      · exact .inl ⟨by rw[h1], h1⟩
      · exact .inr ⟨g, cp, cur, rfl, Nat.zero_le _, h4, h5, h6, h7, h8⟩
    · intro v hv
      obtain⟨x, -, rfl⟩:= List.mem_map.1 hv
      rfl
    · have hlt := (List.getElem?_eq_some_iff.1 hi).1
      have hxe := (List.getElem?_eq_some_iff.1 hi).2
      show Shape.str.rep _ _ (((ns.map Value.string).drop (i * 1)).take 1) x
      rw[Nat.mul_one, List.drop_eq_getElem_cons (by rw[List.length_map]; exact hlt)]
      simp only[List.take_succ_cons, List.take_zero, List.getElem_map, hxe]
      exact⟨rfl, hsz x (List.mem_of_getElem? hi)⟩
    · rcases hk2 with⟨h1, rfl, rfl⟩|⟨g, cur, rfl, h3, h4, h5, h6, h7, h8⟩
      · simp[OwnS.blk]at hq
      · simp[OwnS.blk]at hq
        subst hq
        exact .inl h3
  · rcases hk2 with⟨h1, rfl, rfl⟩|⟨g, cur, rfl, h3, h4, h5, h6, h7, h8⟩<;> simp[idsOf, OwnS.blk]
 exact⟨_, rfl, hE, a, cp, ns, hpm, rfl, hH⟩
end Go.Proofs.YtdnibpclkhenmaaGreatDoor
