import Derived.Test.YtdnibpclkhenmaaGreatDoorSBxA
import Derived.Test.YtdnibpclkhenmaaGreatDoorRows
import Derived.Test.YtdnibpclkhenmaaGreatDoorSBxB
namespace Go.Proofs.YtdnibpclkhenmaaGreatDoor
open Go.BX
theorem Tryz_mixed:Tryz.prog.follows .mixedOrders=true:=by kernel_rfl
abbrev Sec:=Nat→BitVec 8
structure FileD where
 p:Nat
 s:Nat
 n:Nat
 safe:List (Int×Sec×Nat)
 sc:Nat
 now:List (Int×Sec×Nat)
 nc:Nat
 size:Int
structure StepD where
 kind:Int
 file:Option Nat
 frm:ByteArray
 to:ByteArray
 at_:Int
 data:Sec
abbrev NameL:=List (ByteArray×Option Nat×Nat)
def bcell(x:BitVec 8):Value:=.int .u8 ((x.toNat:Nat):Int)
def secL(x:Sec):List (BitVec 8):=(List.range 64).map x
def secC(x:Sec):List Value:=(List.range 64).map fun i=>bcell (x i)
def secVal(x:Sec):Value:=.agg (secC x).toArray
def ptrV(o:Option Nat):Value:=.pointer (o.map fun b=>⟨b,0,none⟩)
def zeroSec:Sec:=fun _=>0#8
def secOf(l:List (BitVec 8)):Sec:=fun i=>l.getD i 0#8
theorem secL_len(x:Sec):(secL x).length=64:=by simp[secL]
theorem secC_len(x:Sec):(secC x).length=64:=by simp[secC]
def fileH(f:FileD):Heap:=[(f.p,.cells #[.map (some f.s),.map (some f.n),.I f.size] 147 (0,0)),(f.s,mapO (Value.int .i64) secVal f.safe f.sc),(f.n,mapO (Value.int .i64) secVal f.now f.nc)]
def filesH(fs:List FileD):Heap:=fs.flatMap fileH
theorem filesH_pick:∀{fs:List FileD}{i:Nat}{f:FileD},fs[i]?=some f→(filesH fs).Perm (fileH f++filesH (fs.eraseIdx i))
 |[],_,_,h=>by simp at h
 |g::fs,0,f,h=>by
  simp only[List.getElem?_cons_zero,Option.some.injEq]at h
  subst h
  exact List.Perm.refl _
 |g::fs,i+1,f,h=>by
  simp only[List.getElem?_cons_succ]at h
  show(fileH g++filesH fs).Perm (fileH f++(fileH g++filesH (fs.eraseIdx i)))
  refine((filesH_pick h).append_left _).trans ?_
  rw[←List.append_assoc,←List.append_assoc]
  exact List.perm_append_comm.append_right _
theorem filesH_put{fs:List FileD}{i:Nat}(g:FileD)(h:i<fs.length):(filesH (fs.set i g)).Perm (fileH g++filesH (fs.eraseIdx i)):=by
 have:=filesH_pick (fs:=fs.set i g) (f:=g) (by rw[List.getElem?_set_self h])
 rwa[List.eraseIdx_set_eq]at this
def updF(fs:List FileD)(p:Nat)(g:FileD→FileD):List FileD:=fs.map fun f=>if f.p=p then g f else f
def psOf(fs:List FileD):List Nat:=fs.map (·.p)
theorem updF_set{fs:List FileD}{p i:Nat}{f:FileD}{g:FileD→FileD}(hn:(psOf fs).Nodup)(h:fs[i]?=some f)(hp:f.p=p):updF fs p g=fs.set i (g f):=by
 apply List.ext_getElem?
 intro j
 unfold updF
 rw[List.getElem?_map,List.getElem?_set]
 have hi:=(List.getElem?_eq_some_iff.1 h).1
 by_cases hj : i = j
 · subst hj
   rw[if_pos rfl, if_pos hi, h]
   simp[hp]
 · rw[if_neg hj]
   cases hk :fs[j]? with
   |none=>rfl
   |some q=>
    have hne:q.p≠p:=by
     intro e
     have hj':=(List.getElem?_eq_some_iff.1 hk).1
     have a:(psOf fs)[i]'(by simpa[psOf]using hi)=p:=by simp[psOf,(List.getElem?_eq_some_iff.1 h).2,hp]
     have b:(psOf fs)[j]'(by simpa[psOf]using hj')=p:=by simp[psOf,(List.getElem?_eq_some_iff.1 hk).2,e]
     exact hj (nodup_inj hn (by simpa[psOf]using hi) (by simpa[psOf]using hj') (a.trans b.symm))
    simp[hne]
theorem updF_ps(fs:List FileD)(p:Nat)(g:FileD→FileD)(hg:∀f,(g f).p=f.p):psOf (updF fs p g)=psOf fs:=by
 unfold psOf updF
 rw[List.map_map]
 apply List.map_congr_left
 intro f _
 simp only[Function.comp_apply]
 split
 ·exact hg f
 ·rfl
theorem ps_at{fs:List FileD}{p:Nat}(h:p∈psOf fs):∃(i:Nat)(f:FileD),fs[i]?=some f∧f.p=p:=by
 obtain⟨f,hf,rfl⟩:=List.mem_map.1 h
 obtain⟨i,hi,e⟩:=List.mem_iff_getElem.1 hf
 exact⟨i,f,List.getElem?_eq_some_iff.2 ⟨hi,e⟩,rfl⟩
theorem filesH_ids(fs:List FileD):(filesH fs).map (·.1)=fs.flatMap fun f:FileD=>[f.p,f.s,f.n]:=by
 unfold filesH
 rw[List.map_flatMap]
 rfl
theorem ps_sub:∀(fs:List FileD),(psOf fs).Sublist ((filesH fs).map (·.1))
 |[]=>.slnil
 |f::fs=>by
  rw[filesH_ids]
  show(f.p::psOf fs).Sublist (f.p::f.s::f.n::fs.flatMap fun f:FileD=>[f.p,f.s,f.n])
  have:=ps_sub fs
  rw[filesH_ids]at this
  exact((this.cons _).cons _).cons_cons _
theorem ps_nodup{w0 w:World}{S:Nat→Prop}{O:List Nat}{M M2:Heap}{W:List OwnS}{G:List Fact}{fs:List FileD}(H:Hp w0 S O (M++filesH fs++M2) W G w):(psOf fs).Nodup:=by
 have h:=H.nodup
 unfold idsOf at h
 rw[List.map_append,List.map_append]at h
 exact((List.nodup_append.1 (List.nodup_append.1 (List.nodup_append.1 h).1).1).2.1).sublist (ps_sub fs)
def mapN(L:NameL×Nat)(s:StepD):NameL×Nat:=
 if s.kind=0 then(mset s.to s.file L.2 L.1,mclk s.to L.2 L.1)
 else if s.kind=1 then(mdel s.frm (mset s.to ((mfind s.frm L.1).getD none) L.2 L.1),mclk s.to L.2 L.1)
 else if s.kind=2 then(mdel s.frm L.1,L.2)
 else L
def putS(at_:Int)(x:Sec)(f:FileD):FileD:={f with safe:=mset at_ x f.sc f.safe,sc:=mclk at_ f.sc f.safe}
def putB(at_:Int)(x:Sec)(f:FileD):FileD:={f with now:=mset at_ x f.nc f.now,nc:=mclk at_ f.nc f.now,size:=if at_+1>f.size then at_+1 else f.size}
structure DiskD where
 sb:Nat
 nb:Nat
 safe:NameL
 sc:Nat
 now:NameL
 nc:Nat
 files:List FileD
 steps:List StepD
 armed:Bool
 left:Int
 dead:Bool
def stepC(x:StepD):List Value:=.I x.kind::ptrV x.file::.string x.frm::.string x.to::.I x.at_::secC x.data
def StepIn(x:StepD):Prop:=(0≤x.kind∧x.kind≤3)∧(0≤x.at_∧x.at_<65536)∧x.frm.size≤maxLen∧x.to.size≤maxLen
theorem secC_ones(x:Sec):∀v∈secC x,v.oneCell'=true:=by
 intro v hv
 obtain⟨i,_,rfl⟩:=List.mem_map.1 hv
 rfl
def stepS:Shape StepD where
 size:=69
 rep _ _ cs x:=cs=stepC x∧StepIn x
 pos:=by decide
 len h:=by rw[h.1];simp[stepC,secC_len]
 ones h v hv:=by
  rw[h.1]at hv
  unfold stepC at hv
  simp only[List.mem_cons]at hv
  rcases hv with rfl|rfl|rfl|rfl|rfl|hv
  ·rfl
  ·rfl
  ·rfl
  ·rfl
  ·rfl
  ·exact secC_ones _ v hv
 step h _:=h
def nmI(s:ByteArray):Int:=if(!(s.toList==(⟨#[]⟩:ByteArray).toList))=true∧s.size≤64 then 1 else 0
theorem named_spec{S:Nat→Prop}{w:World}(s:ByteArray)(hs:s.size≤maxLen):
 Calls Tryz.prog 167 #[.string s] w (Ret fun v w'=>Ext w w'∧v=.bool (decide (nmI s=1))):=by
 unfold maxLen at hs
 refine uS1 Tryz.func167 ?_
 have H:=Hp.startF (w:=w) (S:=S) (G:=[]) .nil
 refine uR 3 [.c [1,0],.c [2]] ?_
 refine qG (sq 0 8) ?_
 refine uP 3 ?_
 refine uT 5 (!(s.toList==(⟨#[]⟩:ByteArray).toList)) (fun a=>?_) (fun a=>?_)
 ·
  replace a:(s.toList==(⟨#[]⟩:ByteArray).toList)=false:=by revert a;cases(s.toList==(⟨#[]⟩:ByteArray).toList)<;>simp
  replace a:=ne_of_beq_false a
  refine uF 5 ?_
  refine qT (.bool (decide ((((s.size:Nat):Int):Int)≤64))) Tryz.func167 ?_
  refine⟨_,rfl,H.done,?_⟩
  congr 1
  unfold nmI
  by_cases h9:s.size≤64<;>simp_all<;>omega
 ·
  replace a:(s.toList==(⟨#[]⟩:ByteArray).toList)=true:=by revert a;cases(s.toList==(⟨#[]⟩:ByteArray).toList)<;>simp
  replace a:=eq_of_beq a
  refine uF 5 ?_
  refine qT (.bool false) Tryz.func167 ?_
  refine⟨_,rfl,H.done,?_⟩
  congr 1
  unfold nmI
  rw[if_neg (by simp_all)]
  rfl
def stE(made dead:Bool):Int:=if made=false then 1 else if dead=true then 70 else 0
theorem state_spec{S:Nat→Prop}{w:World}{db sn sk:Nat}{sv nv:Option Nat}{sa:Option Addr}{made armed dead:Bool}{left:Int}(hF:(Fc db 0 [.bool made,.map sv,.map nv,.slice sa sn sk,.bool armed,.I left,.bool dead]).p S w):
 Calls Tryz.prog 104 #[.P db 0] w (Ret fun v w'=>Ext w w'∧v=.I (stE made dead)):=by
 refine uS1 Tryz.func104 ?_
 have H:=Hp.startF (w:=w) (S:=S) (G:=[Fc db 0 [.bool made,.map sv,.map nv,.slice sa sn sk,.bool armed,.I left,.bool dead]]) (.cons hF .nil)
 refine uR 5 [.c [1,0,0,0],.c [1,0,0,1],.b 0,.c [2]] ?_
 refine qG (sq 0 10) ?_
 refine uP 6 ?_
 refine uV 4 0 (H.fc 0 rfl) ?_
 refine uF 3 ?_
 refine qC (!made) (fun a=>?_) (fun a=>?_)
 ·
  replace a:(made)=false:=by revert a;cases(made)<;>simp
  refine uR 2 [.c [1,0,0,1,0,1],.b 0,.c [2]] ?_
  refine qT (.I 1) Tryz.func104 ?_
  refine⟨_,rfl,H.done,?_⟩
  simp_all[stE]
 ·
  replace a:(made)=true:=by revert a;cases(made)<;>simp
  refine uR 1 [.c [1,0,0,1,1,0],.c [1,0,0,1,1,1],.b 0,.c [2]] ?_
  refine qG (sq 0 5) ?_
  refine uP 3 ?_
  refine uV 4 6 (H.fc 0 rfl) ?_
  refine uF 1 ?_
  refine qC dead (fun d=>?_) (fun d=>?_)
  ·
   refine uR 2 [.c [1,0,0,1,1,1,0,1],.b 0,.c [2]] ?_
   refine qT (.I 70) Tryz.func104 ?_
   refine⟨_,rfl,H.done,?_⟩
   simp_all[stE]
  ·
   refine uR 4 [.c [3]] ?_
   refine qT (.I 0) Tryz.func104 ?_
   refine⟨_,rfl,H.done,?_⟩
   simp_all[stE]
def lf(armed:Bool)(left:Int):Int:=if armed=true then left-1 else left
theorem spent_off{S:Nat→Prop}{w:World}{O:List Nat}{db sn sk:Nat}{sv nv:Option Nat}{sa:Option Addr}{left:Int}  (H0:Hp w S O [(db,.cells #[.bool true,.map sv,.map nv,.slice sa sn sk,.bool false,.I left,.bool false] 39 (0,0))] [] [] w):
 Calls Tryz.prog 119 #[.P db 0] w (Ret fun v w'=>v=.bool false∧Hp w S O [(db,.cells #[.bool true,.map sv,.map nv,.slice sa sn sk,.bool false,.I left,.bool false] 39 (0,0))] [] [] w'):=by
 refine uS1 Tryz.func119 ?_
 have H:=H0
 refine uR 4 [.c [1,0,0],.c [1,0,1],.c [2]] ?_
 refine qG (sq 0 5) ?_
 refine uP 3 ?_
 refine uV 4 4 (H.cells 0 rfl) ?_
 refine uF 1 ?_
 refine uR 3 [.c [1,0,1,0,1],.c [2]] ?_
 refine qT (.bool false) Tryz.func119 ?_
 exact⟨_,rfl,rfl,H.pick [] rfl⟩
theorem spent_on{S:Nat→Prop}{w:World}{O:List Nat}{db sn sk:Nat}{sv nv:Option Nat}{sa:Option Addr}{left:Int}(hr:-9223372036854775808<left∧left≤9223372036854775807)(H0:Hp w S O [(db,.cells #[.bool true,.map sv,.map nv,.slice sa sn sk,.bool true,.I left,.bool false] 39 (0,0))] [] [] w):
 Calls Tryz.prog 119 #[.P db 0] w (Ret fun v w'=>v=.bool (decide (left-1<0))∧Hp w S O [(db,.cells #[.bool true,.map sv,.map nv,.slice sa sn sk,.bool true,.I (left-1),.bool (decide (left-1<0))] 39 (0,0))] [] [] w'):=by
 refine uS1 Tryz.func119 ?_
 have H:=H0
 refine uR 4 [.c [1,0,0],.c [1,0,1],.c [2]] ?_
 refine qG (sq 0 5) ?_
 refine uP 3 ?_
 refine uV 4 4 (H.cells 0 rfl) ?_
 refine uF 1 ?_
 refine uR 3 [.c [2,0],.c [3]] ?_
 refine qG (sq 0 8) ?_
 refine uP 3 ?_
 refine uV 3 5 (H.cells 0 rfl) ?_
 refine uI (left-1) ?_
 refine uP 2 ?_
 refine uW 3 5 #[.bool true,.map sv,.map nv,.slice sa sn sk,.bool true,.I (left-1),.bool false] H 0 rfl ?_
 intro _ H
 refine uF 0 ?_
 refine uR 1 [.c [3,0],.c [4]] ?_
 refine qG (sq 0 9) ?_
 refine uP 4 ?_
 refine uV 3 5 (H.cells 0 rfl) ?_
 refine uP 3 ?_
 refine uW 4 6 #[.bool true,.map sv,.map nv,.slice sa sn sk,.bool true,.I (left-1),.bool (decide ((left-1:Int)<0))] H 0 rfl ?_
 intro _ H
 refine qF 0 [(0,.P db 0)] ?_
 refine uR 1 [.c [4,0],.c [5]] ?_
 refine qG (sq 0 5) ?_
 refine uP 3 ?_
 refine uV 4 6 (H.cells 0 rfl) ?_
 refine uF 1 ?_
 refine qT (.bool (decide ((left-1:Int)<0))) Tryz.func119 ?_
 exact⟨_,rfl,rfl,H.pick [] rfl⟩
theorem spent_go{S:Nat→Prop}{w:World}{O:List Nat}{db sn sk:Nat}{sv nv:Option Nat}{sa:Option Addr}{left:Int}  {armed:Bool}(hr:armed=true→1≤left∧left≤9223372036854775807)(H0:Hp w S O [(db,.cells #[.bool true,.map sv,.map nv,.slice sa sn sk,.bool armed,.I left,.bool false] 39 (0,0))] [] [] w):Calls Tryz.prog 119 #[.P db 0] w (Ret fun v w'=>v=.bool false∧Hp w S O [(db,.cells #[.bool true,.map sv,.map nv,.slice sa sn sk,.bool armed,.I (lf armed left),.bool false] 39 (0,0))] [] [] w'):=by
 cases armed
 ·exact spent_off H0
 · have h := hr rfl
   have a := spent_on (left:=left) ⟨by omega,h.2⟩ H0
   rw[show decide (left-1<0)=false from decide_eq_false (by omega)]at a
   exact a
theorem spent_stop{S:Nat→Prop}{w:World}{O:List Nat}{db sn sk:Nat}{sv nv:Option Nat}{sa:Option Addr}{left:Int}  (hr:left<1∧-9223372036854775808<left)(H0:Hp w S O [(db,.cells #[.bool true,.map sv,.map nv,.slice sa sn sk,.bool true,.I left,.bool false] 39 (0,0))] [] [] w):Calls Tryz.prog 119 #[.P db 0] w (Ret fun v w'=>v=.bool true∧Hp w S O [(db,.cells #[.bool true,.map sv,.map nv,.slice sa sn sk,.bool true,.I (left-1),.bool true] 39 (0,0))] [] [] w'):=by
 have a:=spent_on (left:=left) ⟨hr.2,by omega⟩ H0
 rw[show decide (left-1<0)=true from decide_eq_true (by omega)]at a
 exact a
theorem name_spec{S:Nat→Prop}{w:World}{O:List Nat}{mb c:Nat}{L:NameL}(x:StepD)(H0:Hp w S O [(mb,mapO Value.string ptrV L c)] [] [] w):
 Calls Tryz.prog 64 #[.agg (stepC x).toArray,.map (some mb)] w (Ret fun v w'=>v=.tuple #[]∧Hp w S O [(mb,mapO Value.string ptrV ((mapN (L,c) x).1) ((mapN (L,c) x).2))] [] [] w'):=by
 refine uS1 Tryz.func64 ?_
 have H:=H0
 refine uR 1 [.c [0],.c [1]] ?_
 refine qG (sq 0 1) ?_
 refine uC ((stepC x).toArray) 143 H ?_
 intro a _ H
 refine uF 0 ?_
 refine uR 1 [.c [1,0],.c [2]] ?_
 refine qG (sq 0 2) ?_
 refine uP 1 ?_
 refine uV 138 0 (H.cells 0 rfl) ?_
 refine uF 0 ?_
 refine uR 3 [.c [2,0,1],.b 0] ?_
 refine qE x.kind 0 (fun e=>?_) (fun e=>?_)
 ·
  refine qG (sq 0 6) ?_
  refine uP 2 ?_
  refine uV 9 3 (H.cells 0 rfl) ?_
  refine uP 1 ?_
  refine uV 139 1 (H.cells 0 rfl) ?_
  refine RW.mapSet (d:=none) (r:=(sq 6 6)) (T:=36) (mk:=Value.string) (vk:=ptrV) (Kt:=9) (E:=139) (M':=[(a,.cells (stepC x).toArray 143 (0,0)),(mb,mapO Value.string ptrV (mset x.to x.file c L) (mclk x.to c L))]) x.to x.file (by as_aux_lemma=>kernel_rfl) H 1 rfl (KeyOk.str (by as_aux_lemma=>kernel_rfl)) (by as_aux_lemma=>kernel_rfl) rfl ?_
  intro _ _ H
  refine uF 0 ?_
  refine uR 1 [] ?_
  refine WK.fin (v:=.tuple #[]) Tryz.func64 (by as_aux_lemma=>kernel_rfl) ?_
  have H:=H.frontM 1 rfl
  have H:=H.drop (M':=[(mb,mapO Value.string ptrV (mset x.to x.file c L) (mclk x.to c L))]) (W':=[]) (by repeat(first|exact List.Sublist.refl _|exact List.nil_sublist _|apply List.Sublist.cons_cons|apply List.Sublist.cons)) (List.Sublist.refl _)
  have hm:mapN (L,c) x=(mset x.to x.file c L,mclk x.to c L):=by
   unfold mapN
   simp_all
  rw[hm]
  exact⟨_,rfl,rfl,H.pick [] rfl⟩
 ·
  refine qR 2 [.c [2,0,1,1,1],.b 0] [(1,.map (some mb)),(2,.P a 0),(5,.I x.kind),(13,.bool (x.kind==1))] ?_
  refine qE x.kind 1 (fun f=>?_) (fun f=>?_)
  ·
   refine uR 1 [.c [2,0,1,1,1,0,0],.c [2,0,1,1,1,0,1],.b 0] ?_
   refine qG (sq 0 8) ?_
   refine uP 2 ?_
   refine uV 9 3 (H.cells 0 rfl) ?_
   refine uP 2 ?_
   refine uV 9 2 (H.cells 0 rfl) ?_
   refine RW.mapGet (κ:=.seq) (d:=some 21) (r:=(sq 7 8)) (T:=36) (mk:=Value.string) (vk:=ptrV) (Kt:=9) (E:=139) (z:=none) x.frm false (by as_aux_lemma=>kernel_rfl) H 1 rfl (KeyOk.str (by as_aux_lemma=>kernel_rfl)) (by as_aux_lemma=>kernel_rfl) (fun w_=>zeroE_run (by as_aux_lemma=>kernel_rfl) w_) ?_
   refine RW.mapSet (d:=none) (r:=(sq 8 8)) (T:=36) (mk:=Value.string) (vk:=ptrV) (Kt:=9) (E:=139) (M':=[(a,.cells (stepC x).toArray 143 (0,0)),(mb,mapO Value.string ptrV (mset x.to ((mfind x.frm L).getD none) c L) (mclk x.to c L))]) x.to ((mfind x.frm L).getD none) (by as_aux_lemma=>kernel_rfl) H 1 rfl (KeyOk.str (by as_aux_lemma=>kernel_rfl)) (by as_aux_lemma=>kernel_rfl) rfl ?_
   intro _ _ H
   refine uF 0 ?_
   refine qG (sq 0 4) ?_
   refine uP 2 ?_
   refine uV 9 2 (H.cells 0 rfl) ?_
   refine RW.mapDel (d:=none) (r:=(sq 4 4)) (T:=36) (ts:=#[36,9]) (t:=0) (mk:=Value.string) (vk:=ptrV) (Kt:=9) (E:=139) (M':=[(a,.cells (stepC x).toArray 143 (0,0)),(mb,mapO Value.string ptrV (mdel x.frm (mset x.to ((mfind x.frm L).getD none) c L)) (mclk x.to c L))]) x.frm (by as_aux_lemma=>kernel_rfl) H 1 rfl (KeyOk.str (by as_aux_lemma=>kernel_rfl)) (by as_aux_lemma=>kernel_rfl) (by as_aux_lemma=>kernel_rfl) rfl ?_
   intro _ _ H
   refine uF 0 ?_
   refine uR 1 [] ?_
   refine WK.fin (v:=.tuple #[]) Tryz.func64 (by as_aux_lemma=>kernel_rfl) ?_
   have H:=H.frontM 1 rfl
   have H:=H.drop (M':=[(mb,mapO Value.string ptrV (mdel x.frm (mset x.to ((mfind x.frm L).getD none) c L)) (mclk x.to c L))]) (W':=[]) (by repeat(first|exact List.Sublist.refl _|exact List.nil_sublist _|apply List.Sublist.cons_cons|apply List.Sublist.cons)) (List.Sublist.refl _)
   have hm:mapN (L,c) x=(mdel x.frm (mset x.to ((mfind x.frm L).getD none) c L),mclk x.to c L):=by
    unfold mapN
    simp_all
   rw[hm]
   exact⟨_,rfl,rfl,H.pick [] rfl⟩
  ·
   refine uR 2 [.c [2,0,1,1,1,1,1],.b 0] ?_
   refine qE x.kind 2 (fun g=>?_) (fun g=>?_)
   ·
    refine qG (sq 0 4) ?_
    refine uP 2 ?_
    refine uV 9 2 (H.cells 0 rfl) ?_
    refine RW.mapDel (d:=none) (r:=(sq 4 4)) (T:=36) (ts:=#[36,9]) (t:=0) (mk:=Value.string) (vk:=ptrV) (Kt:=9) (E:=139) (M':=[(a,.cells (stepC x).toArray 143 (0,0)),(mb,mapO Value.string ptrV (mdel x.frm L) c)]) x.frm (by as_aux_lemma=>kernel_rfl) H 1 rfl (KeyOk.str (by as_aux_lemma=>kernel_rfl)) (by as_aux_lemma=>kernel_rfl) (by as_aux_lemma=>kernel_rfl) rfl ?_
    intro _ _ H
    refine uF 0 ?_
    refine qR 1 [] [] ?_
    refine WK.fin (v:=.tuple #[]) Tryz.func64 (by as_aux_lemma=>kernel_rfl) ?_
    have H:=H.frontM 1 rfl
    have H:=H.drop (M':=[(mb,mapO Value.string ptrV (mdel x.frm L) c)]) (W':=[]) (by repeat(first|exact List.Sublist.refl _|exact List.nil_sublist _|apply List.Sublist.cons_cons|apply List.Sublist.cons)) (List.Sublist.refl _)
    have hm:mapN (L,c) x=(mdel x.frm L,c):=by
     unfold mapN
     simp_all
    rw[hm]
    exact⟨_,rfl,rfl,H.pick [] rfl⟩
   ·
    refine uR 2 [] ?_
    refine WK.fin (v:=.tuple #[]) Tryz.func64 (by as_aux_lemma=>kernel_rfl) ?_
    have H:=H.frontM 1 rfl
    have H:=H.drop (M':=[(mb,mapO Value.string ptrV L c)]) (W':=[]) (by repeat(first|exact List.Sublist.refl _|exact List.nil_sublist _|apply List.Sublist.cons_cons|apply List.Sublist.cons)) (List.Sublist.refl _)
    have hm:mapN (L,c) x=(L,c):=by
     unfold mapN
     simp_all
    rw[hm]
    exact⟨_,rfl,rfl,H.pick [] rfl⟩
end Go.Proofs.YtdnibpclkhenmaaGreatDoor
