import Derived.Test.YtdnibpclkhenmaaGreatDoorSJ1
import Derived.Lib.ItoaNum
import Derived.Lib.Atoi
import Derived.Lib.Strings
import Derived.Test.YtdnibpclkhenmaaGreatDoorSH1
import Derived.Test.YtdnibpclkhenmaaGreatDoorSG7
namespace Go.Proofs.YtdnibpclkhenmaaGreatDoor
open Go.BX
theorem digitVal_dig{d:Nat}(h:d<10):Lib.digitVal (UInt8.ofNat (48+d))=some d:=by
 unfold Lib.digitVal
 rw[UInt8.toNat_ofNat']
 have:(48+d)%2^8=48+d:=by omega
 rw[this,if_pos (by omega)]
 congr 1;omega
theorem decFrom_app:∀(l m:List UInt8)(acc:Nat),Lib.decFrom acc (l++m)=(Lib.decFrom acc l).bind fun a=>Lib.decFrom a m
 |[],m,acc=>rfl
 |b::l,m,acc=>by
  rw[List.cons_append,Lib.decFrom,Lib.decFrom]
  cases Lib.digitVal b with
  |none=>rfl
  |some d=>exact decFrom_app l m _
theorem decFrom_dec:∀n:Nat,Lib.decFrom 0 (Lib.decDigits n)=some n:=by
 intro n
 induction n using Nat.strongRecOn with
 |_ n ih=>
  rw[Lib.decDigits]
  split
  · rename_i h
    rw[Lib.decFrom, digitVal_dig h]
    simp[Lib.decFrom]
  · rename_i h
    rw[decFrom_app,ih (n/10) (by omega),Option.bind_some,Lib.decFrom,digitVal_dig (by omega)]
    simp only[Lib.decFrom,Option.some.injEq];omega
theorem dec_head:∀n:Nat,∃d r,d<10∧Lib.decDigits n=UInt8.ofNat (48+d)::r:=by
 intro n
 induction n using Nat.strongRecOn with
 |_ n ih =>
  rw[Lib.decDigits]
  split
  · rename_i h
    exact⟨n,[],h,rfl⟩
  · rename_i h
    obtain⟨d, r, a,b⟩:=ih (n/10) (by omega)
    exact⟨d,r++[UInt8.ofNat (48+n%10)],a,by rw[b];rfl⟩
theorem atoi_dec(n:Nat):Lib.atoi (Lib.decDigits n)=some (n:Int):=by
 obtain⟨d,r,_,c⟩:=dec_head n
 have a:=decFrom_dec n
 have e:(UInt8.ofNat (48+d)).toNat=48+d:=by rw[UInt8.toNat_ofNat'];omega
 have f:(UInt8.ofNat (48+d)==45)=false:=by
  rw[beq_eq_false_iff_ne]
  intro q
  have:=congrArg UInt8.toNat q
  rw[e]at this
  have b:(45:UInt8).toNat=45:=rfl
  omega
 have g:(UInt8.ofNat (48+d)==43)=false:=by
  rw[beq_eq_false_iff_ne]
  intro q
  have:=congrArg UInt8.toNat q
  rw[e]at this
  have b:(43:UInt8).toNat=43:=rfl
  omega
 rw[c]at a⊢
 simp only[Lib.atoi,f,g,Bool.false_eq_true,if_false]
 unfold Lib.decNat
 rw[List.isEmpty_cons]
 simp only[Bool.false_eq_true,if_false,a,Option.map_some]
def dotB:ByteArray:=⟨#[46]⟩
def kS:ByteArray:=⟨#[115]⟩
def kC:ByteArray:=⟨#[99]⟩
def digB(n:Nat):ByteArray:=⟨(Lib.decDigits n).toArray⟩
def fN(nm kd:ByteArray)(n:Nat):ByteArray:=nm++dotB++kd++digB n
def tN(nm:ByteArray):ByteArray:=nm++(⟨#[46,116]⟩:ByteArray)
abbrev sN(nm:ByteArray)(n:Nat):ByteArray:=fN nm kS n
abbrev cN(nm:ByteArray)(n:Nat):ByteArray:=fN nm kC n
def PlainB(nm:ByteArray):Prop:=nm.size≤16∧∀b∈nm.data.toList,97≤b.toNat∧b.toNat≤122
theorem fN_list(nm kd:ByteArray)(n:Nat):(fN nm kd n).data.toList=nm.data.toList++46::(kd.data.toList++Lib.decDigits n):=by
 unfold fN dotB digB
 simp
theorem tN_list(nm:ByteArray):(tN nm).data.toList=nm.data.toList++[46,116]:=by
 unfold tN
 simp
theorem bytes_ext{a b:ByteArray}(h:a.data.toList=b.data.toList):a=b:=by
 cases a;cases b
 congr 1
 exact Array.toList_inj.1 h
theorem split_dot:∀{a b:List UInt8}{x y:List UInt8},(∀c∈a,c≠46)→(∀c∈b,c≠46)→a++46::x=b++46::y→a=b∧x=y
 |[],[],x,y,_,_,h=>⟨rfl,by simpa using h⟩
 |[],c::b,x,y,_,hb,h=>by
  rw[List.nil_append,List.cons_append]at h
  injection h with h1 h2
  exact absurd h1.symm (hb c (List.mem_cons_self ..))
 |c::a,[],x,y,ha,_,h=>by
  rw[List.nil_append,List.cons_append]at h
  injection h with h1 h2
  exact absurd h1 (ha c (List.mem_cons_self ..))
 |c::a,d::b,x,y,ha,hb,h=>by
  rw[List.cons_append,List.cons_append]at h
  injection h with h1 h2
  obtain⟨h3,h4⟩:=split_dot (fun q hq=>ha q (List.mem_cons_of_mem _ hq)) (fun q hq=>hb q (List.mem_cons_of_mem _ hq)) h2
  exact⟨by rw[h1,h3],h4⟩
theorem plain_dot{nm:ByteArray}(h:PlainB nm):∀c∈nm.data.toList,c≠46:=fun c hc q=>by
 have:=(h.2 c hc).1
 rw[q]at this
 revert this;decide
theorem dec_inj{a b:Nat}(h:Lib.decDigits a=Lib.decDigits b):a=b:=by
 have c:=decFrom_dec a
 rw[h,decFrom_dec b]at c
 injection c with c
 exact c.symm
theorem fN_inj{nm nm':ByteArray}(h1:PlainB nm)(h2:PlainB nm'){kd kd':ByteArray}(k1:kd=kS∨kd=kC)(k2:kd'=kS∨kd'=kC){n n':Nat}(h:fN nm kd n=fN nm' kd' n'):nm=nm'∧kd=kd'∧n=n':=by
 have e:=congrArg (fun q=>q.data.toList) h
 simp only[fN_list]at e
 obtain⟨b,a⟩:=split_dot (plain_dot h1) (plain_dot h2) e
 refine⟨bytes_ext b,?_⟩
 rcases k1 with rfl|rfl<;>rcases k2 with rfl|rfl
 ·injection a with _ a;exact⟨rfl,dec_inj a⟩
 ·injection a with a;exact absurd a (by decide)
 ·injection a with a;exact absurd a (by decide)
 ·injection a with _ a;exact⟨rfl,dec_inj a⟩
theorem fN_ne_t{nm nm':ByteArray}(h1:PlainB nm)(h2:PlainB nm'){kd:ByteArray}(k1:kd=kS∨kd=kC){n:Nat}:fN nm kd n≠tN nm':=fun h=>by
 have e:=congrArg (fun q=>q.data.toList) h
 simp only[fN_list,tN_list]at e
 obtain⟨-,e2⟩:=split_dot (plain_dot h1) (plain_dot h2) e
 rcases k1 with rfl|rfl
 ·injection e2 with e2;exact absurd e2 (by decide)
 ·injection e2 with e2;exact absurd e2 (by decide)
theorem tN_inj{nm nm':ByteArray}(h1:PlainB nm)(h2:PlainB nm')(h:tN nm=tN nm'):nm=nm':=by
 have e:=congrArg (fun q=>q.data.toList) h
 simp only[tN_list]at e
 exact bytes_ext (split_dot (plain_dot h1) (plain_dot h2) e).1
inductive FForm:ByteArray→Prop
 |file{nm kd:ByteArray}{n:Nat}:PlainB nm→kd=kS∨kd=kC→1≤n→n≤1000000→FForm (fN nm kd n)
 |temp{nm:ByteArray}:PlainB nm→FForm (tN nm)
theorem FForm.pos{nm kd:ByteArray}{n:Nat}(hp:PlainB nm)(hk:kd=kS∨kd=kC)(h:FForm (fN nm kd n)):1≤n∧n≤1000000:=by
 generalize he:fN nm kd n=x at h
 cases h with
 |file h1 h2 h3 h4=>
  have:=(fN_inj hp h1 hk h2 he).2.2
  subst this
  exact⟨h3,h4⟩
 |temp h1=>exact absurd he (fN_ne_t hp h1 hk)
end Go.Proofs.YtdnibpclkhenmaaGreatDoor

namespace Go.Proofs.YtdnibpclkhenmaaGreatDoor
open Go.BX
def gX(X:SecM)(i:Nat):Sec:=(mfind (i:Int) X).getD zeroSec
theorem gX_set(X:SecM)(a:Int)(s:Sec)(c i:Nat):gX (mset a s c X) i=if a=(i:Int)then s else gX X i:=by
 unfold gX
 rw[mfind_set]
 split<;>rfl
abbrev SP:=Nat→Sec→Prop
def XA(A:SP)(X:SecM):Prop:=∀i:Nat,A i (gX X i)
def SA(A:SP)(a:Int)(s:Sec):Prop:=∃i:Nat,a=(i:Int)∧A i s
def FixA(X:SecM):SP:=fun i s=>s=gX X i
def BtwA(σ0 σ:Bs):SP:=fun i s=>∃c,s=secB c∧chunkF σ0 i<+:c∧c<+:chunkF σ i
theorem XA.put{A:SP}{X:SecM}(h:XA A X){a:Int}{s:Sec}(hs:SA A a s)(c:Nat):XA A (mset a s c X):=fun i=>by
 rw[gX_set]
 split
 · rename_i hi
   obtain⟨j, h1,h2⟩:=hs
   have:j=i:=by omega
   exact this▸h2
 ·exact h i
theorem XA.mono{A A':SP}(hA:∀i s,A i s→A' i s){X:SecM}(h:XA A X):XA A' X:=fun i=>hA _ _ (h i)
theorem XA.eqv{A:SP}{X Y:SecM}(h:XA A X)(e:∀i:Int,mfind i Y=mfind i X):XA A Y:=fun i=>by
 have:=h i
 unfold gX at this⊢
 rwa[e]
theorem SA.mono{A A':SP}(hA:∀i s,A i s→A' i s){a:Int}{s:Sec}(h:SA A a s):SA A' a s:=by
 obtain⟨i,b,c⟩:=h
 exact⟨i,b,hA _ _ c⟩
theorem XA.fold{A:SP}:∀(l:List StepD)(X:SecM×Nat),(∀x∈l,SA A x.at_ x.data)→XA A X.1→XA A (l.foldl putX X).1
 |[],_,_,h=>h
 |x::l,X,hx,h=>XA.fold l (putX X x) (fun y hy=>hx y (List.mem_cons_of_mem _ hy)) (h.put (hx x (List.mem_cons_self ..)) _)
structure FilA(D:DiskD)(p:Nat)(A:SP):Prop where
 safe:∃f∈D.files,f.p=p∧XA A f.safe
 wr:∀x∈D.steps,x.kind=3→x.file=some p→SA A x.at_ x.data
def NowA(D:DiskD)(p:Nat)(A:SP):Prop:=∃f∈D.files,f.p=p∧XA A f.now
theorem FilA.mono{A A':SP}(hA:∀i s,A i s→A' i s){D:DiskD}{p:Nat}(h:FilA D p A):FilA D p A':=by
 obtain⟨⟨f,a,b,c⟩,d⟩:=h
 exact⟨⟨f,a,b,c.mono hA⟩,fun x hx hk hf=>(d x hx hk hf).mono hA⟩
theorem NowA.mono{A A':SP}(hA:∀i s,A i s→A' i s){D:DiskD}{p:Nat}(h:NowA D p A):NowA D p A':=by
 obtain⟨f,a,b,c⟩:=h
 exact⟨f,a,b,c.mono hA⟩
theorem FilA.mem{D:DiskD}{p:Nat}{A:SP}(h:FilA D p A):p∈psOf D.files:=by
 obtain⟨⟨f,a,b,-⟩,-⟩:=h
 exact List.mem_map.2 ⟨f,a,b⟩
theorem NowA.mem{D:DiskD}{p:Nat}{A:SP}(h:NowA D p A):p∈psOf D.files:=by
 obtain⟨f,a,b,-⟩:=h
 exact List.mem_map.2 ⟨f,a,b⟩
theorem updF_mem{fs:List FileD}{p:Nat}{g:FileD→FileD}{f:FileD}(h:f∈fs):(if f.p=p then g f else f)∈updF fs p g:=List.mem_map.2 ⟨f,h,rfl⟩
theorem FilA.wr_{D:DiskD}{p q:Nat}{A:SP}(h:FilA D q A){a:Int}{s:Sec}(hs:q=p→SA A a s):FilA (wrOld D p a s) q A:=by
 obtain⟨⟨f,b,c,d⟩,e⟩:=h
 refine⟨⟨_,updF_mem (p:=p) (g:=putB a s) b,?_,?_⟩,fun x hx hk hf=>?_⟩
 ·split<;>exact c
 ·split<;>exact d
 · rcases List.mem_append.1 hx with hx | hx
   · exact e x hx hk hf
   · rw[List.mem_singleton.1 hx]at hf ⊢
     injection hf with hf
     exact hs hf.symm
theorem NowA.wr_ne{D:DiskD}{p q:Nat}{A:SP}(h:NowA D q A)(hq:q≠p){a:Int}{s:Sec}:NowA (wrOld D p a s) q A:=by
 obtain⟨f,b,c,d⟩:=h
 refine⟨_,updF_mem (p:=p) (g:=putB a s) b,?_,?_⟩
 ·split<;>exact c
 ·rw[if_neg (by omega)];exact d
theorem NowA.wr_own{D:DiskD}{p:Nat}{A A':SP}(h:NowA D p A){a:Nat}{s:Sec}(hs:A' a s)(hA:∀i s,i≠a→A i s→A' i s):NowA (wrOld D p (a:Int) s) p A':=by
 obtain⟨f,c,b,d⟩:=h
 refine⟨_,updF_mem (p:=p) (g:=putB a s) c,?_,?_⟩
 ·split <;> exact b
 · rw[if_pos b]
   intro i
   show A' i (gX (mset (a : Int) s f.nc f.now) i)
   rw[gX_set]
   split
   · rename_i e
     have :a=i:= by omega
     exact this ▸ hs
   · rename_i e
     exact hA i _ (by omega) (d i)
theorem FilA.new{D:DiskD}{p s n q:Nat}{A:SP}{name:ByteArray}(h:FilA D q A)(hq:q≠p){a:Int}{x:Sec}:FilA (wrNew D p s n name a x) q A:=by
 obtain⟨⟨f,b,c,d⟩,e⟩:=h
 refine⟨⟨f,List.mem_cons_of_mem _ b,c,d⟩,fun y hy hk hf=>?_⟩
 rcases List.mem_append.1 hy with hy| hy
 · rcases List.mem_append.1 hy with hy |hy
   ·exact e y hy hk hf
   ·rw[List.mem_singleton.1 hy]at hk;exact absurd (show(0:Int) = 3 from hk) (by decide)
 · rw[List.mem_singleton.1 hy]at hf
   injection hf with hf
   exact absurd hf.symm hq
theorem NowA.new{D:DiskD}{p s n q:Nat}{A:SP}{name:ByteArray}(h:NowA D q A){a:Int}{x:Sec}:NowA (wrNew D p s n name a x) q A:=by
 obtain⟨f,b,c,d⟩:=h
 exact⟨f,List.mem_cons_of_mem _ b,c,d⟩
theorem FilA.fresh{D:DiskD}{p s n:Nat}{A:SP}{name:ByteArray}(h:DOk D)(hp:p∉psOf D.files){a:Int}{x:Sec}(h0:XA A [])(hs:SA A a x):FilA (wrNew D p s n name a x) p A:=by
 refine⟨⟨_,List.mem_cons_self ..,rfl,h0⟩,fun y hy hk hf=>?_⟩
 rcases List.mem_append.1 hy with hy | hy
 · rcases List.mem_append.1 hy with hy | hy
   · obtain⟨q,b,c⟩:=h.cr.wr y hy hk
     rw[hf]at b
     injection b with b
     exact absurd (b▸c) hp
   ·rw[List.mem_singleton.1 hy]at hk;exact absurd (show(0:Int)=3 from hk) (by decide)
 ·rw[List.mem_singleton.1 hy];exact hs
theorem NowA.fresh{D:DiskD}{p s n a:Nat}{A:SP}{name:ByteArray}{x:Sec}(hs:A a x)(hz:∀i,i≠a→A i zeroSec):NowA (wrNew D p s n name (a:Int) x) p A:=by
 refine⟨_,List.mem_cons_self ..,rfl,fun i=>?_⟩
 show A i (gX (mset (a: Int) x 0 []) i)
 rw[gX_set]
 split
 · rename_i e
   have:a=i:=by omega
   exact this▸hs
 ·exact hz i (by omega)
theorem FilA.add{D:DiskD}{q:Nat}{A:SP}(h:FilA D q A){x:StepD}(hx:x.kind≠3):FilA (tick (addS D x)) q A:=by
 refine⟨h.safe,fun y hy hk hf=>?_⟩
 rcases List.mem_append.1 hy with hy|hy
 ·exact h.wr y hy hk hf
 ·rw[List.mem_singleton.1 hy]at hk;exact absurd hk hx
theorem XA.sync{A:SP}{p:Nat}{l:List StepD}{X:SecM×Nat}(h:XA A X.1)(hw:∀x∈l,x.kind=3→x.file=some p→SA A x.at_ x.data):XA A (syncX p X l).1:=by
 refine XA.fold _ _ (fun x hx=>?_) h
 obtain⟨a,b⟩:=List.mem_filter.1 hx
 obtain⟨c,d⟩:=of_decide_eq_true b
 exact hw x a c d
theorem FilA.sync{D:DiskD}{q:Nat}{A:SP}(h:FilA D q A)(p:Nat):FilA (syncD D p) q A:=by
 obtain⟨⟨f,d,a,b⟩,c⟩:=h
 refine⟨⟨_,updF_mem (p:=p) (g:=syncF p D.steps) d,?_,?_⟩,fun x hx hk hf=>c x (leftS_kind hx).1 hk hf⟩
 ·split<;>exact a
 · split
   · rename_i hp
     exact XA.sync b fun x hx hk hf =>c x hx hk (by rw[hf,←a,hp])
   ·exact b
theorem NowA.sync{D:DiskD}{q:Nat}{A:SP}(h:NowA D q A)(p:Nat):NowA (syncD D p) q A:=by
 obtain⟨f,a,b,c⟩:=h
 refine⟨_,updF_mem (p:=p) (g:=syncF p D.steps) a,?_,?_⟩
 ·split<;>exact b
 ·split<;>exact c
theorem FilA.synced{D:DiskD}{p:Nat}{A:SP}(hns:∀f∈D.files,f.p=p→∀i,mfind i f.now=mfind i (syncX p (f.safe,f.sc) D.steps).1)(h:NowA D p A):FilA (syncD D p) p A:=by
 obtain⟨f,b,a,c⟩:=h
 refine⟨⟨_,updF_mem (p:=p) (g:=syncF p D.steps) b,?_,?_⟩,fun x hx hk hf=>?_⟩
 ·split <;> exact a
 · rw[if_pos a]
   exact c.eqv fun i => (hns f b a i).symm
 · unfold leftS at hx
   exact absurd hf (of_decide_eq_true (List.mem_filter.1 hx).2).2
theorem FilA.now{D:DiskD}{p:Nat}{A:SP}(hns:∀f∈D.files,f.p=p→∀i,mfind i f.now=mfind i (syncX p (f.safe,f.sc) D.steps).1)(h:FilA D p A):NowA D p A:=by
 obtain⟨⟨f,a,b,c⟩,d⟩:=h
 exact⟨f,a,b,(XA.sync (p:=p) (X:=(f.safe,f.sc)) c d).eqv (hns f a b)⟩
theorem crAt_A1{A:SP}{q:Nat}{first:Int}{keep:List (BitVec 8)}:∀(l:List StepD)(C:CrS),(∀x∈l,x.kind=3→x.file=some q→SA A x.at_ x.data)→(∃f∈C.fs,f.p=q∧XA A f.safe)→∃f∈(l.foldl (crStep first keep) C).fs,f.p=q∧XA A f.safe
 |[],_,_,h=>h
 |x::l,C,hw, h => by
  refine crAt_A1 l _ (fun y hy => hw y (List.mem_cons_of_mem _ hy)) ?_
  unfold crStep
  split
  · rename_i hk
    show ∃f∈(if bitOf keep C.j=true then updO C.fs x.file (putS x.at_ x.data)else C.fs),f.p=q∧XA A f.safe
    split
    ·cases hx:x.file with
      |none=>exact h
      |some p=>
       obtain⟨f,k1,k2,k3⟩:=h
       refine⟨_,updF_mem (p:=p) (g:= putS x.at_ x.data) k1, ?_, ?_⟩
       · split <;> exact k2
       · split
         · rename_i hp
           exact k3.put (hw x (List.mem_cons_self ..) hk (by rw[hx, ← hp, k2])) _
         · exact k3
    · exact h
  · exact h
theorem FilA.crash{D:DiskD}{q:Nat}{A:SP}(h:FilA D q A)(xs:List (BitVec 8))(ns:Nat→Nat)(nb:Nat):FilA (crashD D xs ns nb) q A:=by
 obtain⟨f,a,b,c⟩:=crAt_A1 (first:=firstOf xs (nmC D.steps)) (keep:=xs.drop 1) D.steps ⟨(D.safe,D.sc),0,0,D.files⟩ h.wr h.safe
 refine⟨⟨(if some f.p∈((crC D xs).A.1).map (·.2.1)then visit (ns f.p) f else f),List.mem_map.2 ⟨f,a,rfl⟩,?_,?_⟩,fun x hx=>(by cases hx)⟩
 ·split<;>exact b
 ·split<;>exact c
theorem readG_zero{g:Nat→Sec}:∀{n i:Nat},g i=zeroSec→readG g n i=[]
 |0,_,_=>rfl
 |n+1,i,h=>by
  rw[←secB_zero]at h
  rw[readG_secB (by decide) h];rfl
theorem readG_more{g:Nat→Sec}{m:Nat}:∀{n i:Nat},(∀j,i+n≤j→g j=zeroSec)→readG g (n+m) i=readG g n i
 |0,i,h=>by rw[readG_zero (h i (Nat.le_refl _))];rfl
 |n+1,i,h=>by
  rw[show n+1+m=(n+m)+1 by omega,readG,readG,readG_more fun j hj=>h j (by omega)]
theorem readG_same{g:Nat→Sec}{n m:Nat}(hn:∀j,n≤j→g j=zeroSec)(hm:∀j,m≤j→g j=zeroSec):readG g n 0=readG g m 0:=by
 rw[←readG_more (m:=m) (n:=n) (i:=0) (by simpa using hn),Nat.add_comm,readG_more (n:=m) (by simpa using hm)]
def SegA(A:SP)(lo hi:List Bs):Prop:=∀(g:Nat→Sec)(n:Nat),(∀i,A i (g i))→(∀j,n≤j→g j=zeroSec)→lo<+:allW (readG g n 0)∧allW (readG g n 0)<+:hi
def BaseA(A:SP)(B:Bs):Prop:=∀(g:Nat→Sec)(n:Nat),(∀i,A i (g i))→(∀j,n≤j→g j=zeroSec)→(nextF (readG g n 0)).getD []=B
theorem btw_read{σ0 σ:Bs}{g:Nat→Sec}{n:Nat}(hg:∀i,BtwA σ0 σ i (g i))(hz:∀j,n≤j→g j=zeroSec):σ0<+:readG g n 0∧readG g n 0<+:σ:=by
 have:=read_btw hg n 0 fun j hj=>by rw[secB_zero];exact hz j (by omega)
 simpa using this
theorem segA_btw{r0 r:List Bs}(hr:∀b∈r,b.length≤4194304)(h0:r0<+:r):SegA (BtwA (framesF r0) (framesF r)) r0 r:=fun g n hg hz=>by
 obtain⟨h1,h2⟩:=btw_read hg hz
 obtain⟨m,k1,k2,k3⟩:=all_take hr (readG g n 0).length
 rw[←List.prefix_iff_eq_take.1 h2]at k2
 have e0:r.take r0.length=r0:=(List.prefix_iff_eq_take.1 h0).symm
 have k4:=k3 r0.length h0.length_le (by rw[e0];exact h1.length_le)
 rw[k2]
 refine⟨?_,List.take_prefix _ _⟩
 rw[←e0]
 exact List.take_prefix_take_left k4
theorem baseA_btw{b:Bs}(hb:b.length≤4194304):BaseA (BtwA (frameF b) (frameF b)) b:=fun g n hg hz=>by
 obtain⟨h1,h2⟩:=btw_read hg hz
 rw[h2.eq_of_length (Nat.le_antisymm h2.length_le h1.length_le)]
 have:=next_frame hb []
 rw[List.append_nil]at this
 rw[this];rfl
theorem segA_fix{X:SecM}{n:Nat}(hz:∀j,n≤j→gX X j=zeroSec):SegA (FixA X) (allW (readG (gX X) n 0)) (allW (readG (gX X) n 0)):=fun g m hg hm=>by
 obtain rfl:g=gX X:=funext hg
 rw[readG_same hm hz]
 exact⟨List.prefix_refl _,List.prefix_refl _⟩
theorem btw_mono{σ0 σ τ0 τ:Bs}(h0:τ0<+:σ0)(h1:σ<+:τ):∀i s,BtwA σ0 σ i s→BtwA τ0 τ i s:=by
 have hm:∀{σ σ':Bs},σ<+:σ'→∀i,chunkF σ i<+:chunkF σ' i:=fun{σ σ'}h i=>by
  obtain⟨r,rfl⟩:=h
  unfold chunkF
  rw[List.drop_append,List.take_append]
  exact List.prefix_append _ _
 rintro i s⟨c,a,b,d⟩
 exact⟨c,a,(hm h0 i).trans b,d.trans (hm h1 i)⟩
theorem btw_nil(σ:Bs):XA (BtwA [] σ) []:=fun i=>⟨[],by show zeroSec=_;rw[secB_zero],by rw[chunk_nil];exact List.prefix_refl _,List.nil_prefix⟩
theorem frames_prefix{r r':List Bs}(h:r<+:r'):framesF r<+:framesF r':=by
 obtain⟨q,rfl⟩:=h
 rw[framesF_app]
 exact List.prefix_append _ _
def PartA(σ τ:Bs)(k:Nat):SP:=fun i s=>s=secB (if i<k then chunkF τ i else chunkF σ i)
theorem part_start{σ τ:Bs}(h:σ<+:τ):∀i s,BtwA σ σ i s→PartA σ τ (σ.length/63) i s:=by
 rintro i s⟨c,rfl,b,a⟩
 have e:c=chunkF σ i:=a.eq_of_length (Nat.le_antisymm a.length_le b.length_le)
 subst e
 unfold PartA
 split
 · rename_i hi
   obtain⟨r, rfl⟩:=h
   congr 1
   unfold chunkF
   rw[List.drop_append_of_le_length (by omega),List.take_append_of_le_length (by rw[List.length_drop];omega)]
 ·rfl
theorem part_end{σ τ:Bs}{k:Nat}(h:σ<+:τ)(hk:τ.length≤63*k):∀i s,PartA σ τ k i s→BtwA τ τ i s:=by
 intro i s hs
 unfold PartA at hs
 refine⟨chunkF τ i,?_,List.prefix_refl _,List.prefix_refl _⟩
 rw[hs]
 split
 · rfl
 · rename_i hi
   congr 1
   unfold chunkF
   rw[List.drop_eq_nil_of_le (by have:=h.length_le;omega),List.drop_eq_nil_of_le (by omega)]
theorem part_step{σ τ:Bs}{k:Nat}:∀i s,i≠k→PartA σ τ k i s→PartA σ τ (k+1) i s:=by
 intro i s hi hs
 unfold PartA at hs⊢
 rw[hs]
 congr 1
 split
 ·rw[if_pos (by omega)]
 ·rw[if_neg (by omega)]
theorem part_new{σ τ:Bs}{k:Nat}:PartA σ τ (k+1) k (secB (chunkF τ k)):=by
 unfold PartA
 rw[if_pos (Nat.lt_succ_self k)]
end Go.Proofs.YtdnibpclkhenmaaGreatDoor

namespace Go.Proofs.YtdnibpclkhenmaaGreatDoor
open Go.BX
def nmL(D:DiskD)(k:Nat):NameL×Nat:=(D.steps.take k).foldl mapN (D.safe,D.sc)
abbrev nmAt(D:DiskD)(k:Nat):NameL:=(nmL D k).1
theorem nmL_ok{D:DiskD}(h:DOk D)(k:Nat):MOk (nmL D k).1 (nmL D k).2:=foldN_ok h.cr.map _
theorem nm_now{D:DiskD}(h:DOk D)(x:ByteArray):mfind x D.now=mfind x (nmAt D D.steps.length):=by
 rw[h.same]
 unfold nmAt nmL
 rw[List.take_length]
theorem nmL_addS_le{D:DiskD}{x:StepD}{k:Nat}(hk:k≤D.steps.length):nmL (addS D x) k=nmL D k:=by
 unfold nmL
 show((D.steps++[x]).take k).foldl mapN (D.safe,D.sc)=_
 rw[List.take_append_of_le_length hk]
theorem nmL_addS{D:DiskD}{x:StepD}{k:Nat}(hk:D.steps.length<k):nmL (addS D x) k=mapN (nmL D D.steps.length) x:=by
 unfold nmL
 show((D.steps++[x]).take k).foldl mapN (D.safe,D.sc)=_
 rw[List.take_of_length_le (by rw[List.length_append];simp;omega),List.foldl_append,List.take_length];rfl
theorem nmAt_add(D:DiskD)(x:StepD)(k:Nat):(∃j,nmAt (addS D x) k=nmAt D j)∨nmAt (addS D x) k=(mapN (nmL D D.steps.length) x).1:=by
 rcases Nat.lt_or_ge D.steps.length k with h|h
 ·exact .inr (congrArg Prod.fst (nmL_addS h))
 ·exact .inl ⟨k,congrArg Prod.fst (nmL_addS_le h)⟩
theorem nmAt_old(D:DiskD)(p:Nat)(a:Int)(s:Sec)(k:Nat):∃j,nmAt (wrOld D p a s) k=nmAt D j:=by
 rcases nmAt_add (setF D (updF D.files p (putB a s))) (wrS p a s) k with⟨j,h⟩|h
 ·exact⟨j,h⟩
 ·exact⟨D.steps.length,h⟩
theorem nmAt_new(D:DiskD)(p s n:Nat)(name:ByteArray)(a:Int)(x:Sec)(k:Nat):(∃j,nmAt (wrNew D p s n name a x) k=nmAt D j)∨nmAt (wrNew D p s n name a x) k=(mapN (nmL D D.steps.length) ⟨0,some p,noS,name,0,zeroSec⟩).1:=by
 rcases nmAt_add (addS (setF D (putB a x ⟨p,s,n,[],0,[],0,0⟩::D.files)) ⟨0,some p,noS, name, 0, zeroSec⟩) (wrS p a x) k with⟨j, h⟩| h
 · rcases nmAt_add (setF D (putB a x ⟨p,s,n,[],0,[],0,0⟩::D.files)) ⟨0,some p,noS,name,0,zeroSec⟩ j with⟨i, b⟩| b
   · exact .inl ⟨i, h.trans b⟩
   · exact .inr (h.trans b)
 · refine .inr (h.trans ?_)
   have e :nmL (addS (setF D (putB a x ⟨p,s,n,[],0,[],0,0⟩::D.files)) ⟨0,some p,noS,name,0,zeroSec⟩) (addS (setF D (putB a x ⟨p,s,n,[],0,[],0,0⟩::D.files)) ⟨0,some p,noS,name,0,zeroSec⟩).steps.length=mapN (nmL D D.steps.length) ⟨0,some p,noS,name,0,zeroSec⟩:=nmL_addS (by
    show D.steps.length<(D.steps++[_]).length
    simp)
   rw[e];rfl
theorem nmAt_sync{D:DiskD}(p k:Nat):nmAt (syncD D p) k=nmAt D D.steps.length:=by
 unfold nmAt nmL
 show(((leftS p D.steps).take k).foldl mapN ((D.steps.foldl mapN (D.safe,D.sc)).1,(D.steps.foldl mapN (D.safe,D.sc)).2)).1=_
 rw[fold_skip fun y hy=>(leftS_kind (List.mem_of_mem_take hy)).2,List.take_length]
theorem nmAt_crash{D:DiskD}(xs:List (BitVec 8))(ns:Nat→Nat)(nb:Nat):∃m,∀k,nmAt (crashD D xs ns nb) k=nmAt D m:=by
 obtain⟨m,hm,-⟩:=crAt_A (firstOf xs (nmC D.steps)) (xs.drop 1) (D.safe,D.sc) D.files D.steps
 refine⟨m,fun k=>?_⟩
 unfold nmAt nmL
 show(([]:List StepD).take k|>.foldl mapN ((crC D xs).A.1,(crC D xs).A.2)).1=_
 rw[List.take_nil]
 exact congrArg Prod.fst hm
theorem find_made{L:NameL×Nat}{p:Nat}{name y:ByteArray}:mfind y (mapN L ⟨0,some p,noS,name,0,zeroSec⟩).1=if name=y then some (some p)else mfind y L.1:=mfind_set _ _ _ _ _
theorem find_rm{L:NameL×Nat}(h:MOk L.1 L.2){name y:ByteArray}:mfind y (mapN L (rmS name)).1=if name=y then none else mfind y L.1:=mfind_del _ _ h.keys
theorem find_rn{L:NameL×Nat}(h:MOk L.1 L.2){name to y:ByteArray}{o:Option Nat}(hf:mfind name L.1=some o):mfind y (mapN L (rnS name to)).1=if name=y then none else if to=y then some o else mfind y L.1:=by
 show mfind y (mdel name (mset to ((mfind name L.1).getD none) L.2 L.1))=_
 rw[mfind_del _ _ (h.set _ _).keys,mfind_set,hf];rfl
structure DI(D:DiskD):Prop where
 ok:DOk D
 form:∀k x o,mfind x (nmAt D k)=some o→FForm x
 inj:∀k x y p,mfind x (nmAt D k)=some (some p)→mfind y (nmAt D k)=some (some p)→x=y
 ns:∀f∈D.files,(∃k x,mfind x (nmAt D k)=some (some f.p))→∀i,mfind i f.now=mfind i (syncX f.p (f.safe,f.sc) D.steps).1
 sz:∀f∈D.files,(∃k x,mfind x (nmAt D k)=some (some f.p))→∀e∈f.now,e.1+1≤f.size
theorem dig_pow:∀(n:Nat),1≤n→10^(Lib.nDigits n-1)≤n:=by
 intro n
 induction n using Nat.strongRecOn with
 |_ n ih=>
  intro h
  have e:Lib.nDigits n=(Lib.decDigits n).length:= (Lib.decDigits_length n).symm
  rw[e, Lib.decDigits]
  split
  · simpa using h
  · rename_i hn
    have a:=ih (n/10) (by omega) (by omega)
    rw[←Lib.decDigits_length]at a
    have b:1≤(Lib.decDigits (n/10)).length:=by rw[Lib.decDigits_length];exact Lib.nDigits_pos _
    rw[List.length_append,List.length_singleton,Nat.add_sub_cancel]
    obtain⟨m,hm⟩:∃m,(Lib.decDigits (n/10)).length=m+1:=⟨_,(Nat.succ_pred_eq_of_pos b).symm⟩
    rw[hm]at a⊢
    rw[Nat.add_sub_cancel]at a
    rw[Nat.pow_succ]
    omega
theorem FForm.size{x:ByteArray}(h:FForm x):x.size≤64∧nmI x=1:=by
 have hl:∀x:ByteArray,x.size=x.data.toList.length:=fun _=>rfl
 have key:x.size≤64∧x.data.toList≠[]:=by
  cases h with
  |@file nm kd n h1 h2 h3 h4=>
   rw[hl,fN_list]
   have a:=h1.1
   rw[hl]at a
   have b:(Lib.decDigits n).length≤7:=by
    rw[Lib.decDigits_length]
    rcases Nat.lt_or_ge 7 (Lib.nDigits n)with h| h
    · have c := Lib.nDigits_pos n
      have : 10 ^(Lib.nDigits n-1)≤n:=dig_pow n (by omega)
      have d:10^7≤10^(Lib.nDigits n-1):=Nat.pow_le_pow_right (by decide) (by omega)
      have e:(10:Nat)^7=10000000:=by decide
      omega
    ·exact h
   refine⟨?_,by simp⟩
   simp only[List.length_append,List.length_cons]
   have:kd.data.toList.length=1:=by rcases h2 with rfl|rfl<;>rfl
   omega
  |@temp nm h1=>
   rw[hl,tN_list]
   have a:=h1.1
   rw[hl]at a
   refine⟨?_,by simp⟩
   simp only[List.length_append,List.length_cons,List.length_nil];omega
 refine⟨key.1,?_⟩
 unfold nmI
 rw[if_pos]
 refine⟨?_,key.1⟩
 rw[Bool.not_eq_true',beq_eq_false_iff_ne]
 intro q
 apply key.2
 rw[Go.ByteArray.toList_eq,Go.ByteArray.toList_eq]at q
 exact q
theorem DI.named{D:DiskD}(h:DI D){k:Nat}{x:ByteArray}{o:Option Nat}(hx:mfind x (nmAt D k)=some o):∃p,o=some p∧p∈psOf D.files:=by
 obtain⟨e,he,-,rfl⟩:=mfind_mem hx
 exact h.ok.cr.good k e he
theorem DI.tk{D:DiskD}(h:DI D):DI (tick D):=⟨h.ok.tick',h.form,h.inj,h.ns,h.sz⟩
theorem DI.stop{D:DiskD}(h:DI D):DI (stopD D):=⟨h.ok.stopD',h.form,h.inj,h.ns,h.sz⟩
theorem syncX_app_no{q:Nat}{X:SecM×Nat}{l:List StepD}{x:StepD}(h:¬(x.kind=3∧x.file=some q)):syncX q X (l++[x])=syncX q X l:=by
 unfold syncX
 rw[List.filter_append,show List.filter (isOf q) [x]=[]by rw[List.filter_cons_of_neg (by unfold isOf;simpa using h)];rfl,List.append_nil]
theorem syncX_app_yes{q:Nat}{X:SecM×Nat}{l:List StepD}{x:StepD}(h:x.kind=3∧x.file=some q):syncX q X (l++[x])=putX (syncX q X l) x:=by
 unfold syncX
 rw[List.filter_append,show List.filter (isOf q) [x]=[x]by rw[List.filter_cons_of_pos (by unfold isOf;simpa using h)];rfl,List.foldl_append];rfl
theorem syncX_none{q:Nat}{X:SecM×Nat}{l:List StepD}(h:∀x∈l,x.kind=3→x.file≠some q):syncX q X l=X:=by
 unfold syncX
 rw[List.filter_eq_nil_iff.2 fun x hx hh=>by
  have:=of_decide_eq_true hh
  exact h x hx this.1 this.2]
 rfl
theorem putB_sz{a:Int}{s:Sec}{f:FileD}(h:∀e∈f.now,e.1+1≤f.size):∀e∈(putB a s f).now,e.1+1≤(putB a s f).size:=fun e he=>by
 have hs:f.size≤(putB a s f).size∧a+1≤(putB a s f).size:=by
  show f.size≤(if a+1>f.size then a+1 else f.size)∧a+1≤if a+1>f.size then a+1 else f.size
  split<;>omega
 rcases mset_at (X:=f.now) he with b|⟨e',he',b⟩
 ·omega
 ·have:=h e' he';omega
theorem DI.old{D:DiskD}{p:Nat}{a:Int}{s:Sec}(h:DI D)(hok:DOk (wrOld D p a s)):DI (wrOld D p a s)where
 ok:=hok
 form:=fun k x o hx=>by obtain⟨j,e⟩:=nmAt_old D p a s k;rw[e]at hx;exact h.form j x o hx
 inj:=fun k x y q hx hy=>by obtain⟨j,e⟩:=nmAt_old D p a s k;rw[e]at hx hy;exact h.inj j x y q hx hy
 ns:=fun f hf hn i=>by
  obtain⟨f',hf',rfl⟩:=List.mem_map.1 (show f∈D.files.map fun f=>if f.p=p then putB a s f else f from hf)
  have hn':∃k x,mfind x (nmAt D k)=some (some f'.p):=by
   obtain⟨k,x,hx⟩:=hn
   obtain⟨j,e⟩:=nmAt_old D p a s k
   rw[e]at hx
   refine⟨j,x,?_⟩
   rw[hx];split<;>rfl
  have b := h.ns f' hf' hn'
  by_cases hp : f'.p = p
  · rw[if_pos hp]
    show mfind i (mset a s f'.nc f'.now)=mfind i (syncX f'.p (f'.safe,f'.sc) (D.steps++[wrS p a s])).1
    rw[syncX_app_yes ⟨rfl,by rw[hp];rfl⟩,mfind_set]
    show _ = mfind i (mset a s _ _)
    rw[mfind_set, b]
  · rw[if_neg hp]
    show mfind i f'.now = mfind i (syncX f'.p (f'.safe, f'.sc) (D.steps ++[wrS p a s])).1
    rw[syncX_app_no (fun q=>hp (by have:=q.2;injection this with this;exact this.symm))]
    exact b i
 sz:=fun f hf hn=>by
  obtain⟨f',hf',rfl⟩:=List.mem_map.1 (show f∈D.files.map fun f=>if f.p=p then putB a s f else f from hf)
  have hn':∃k x,mfind x (nmAt D k)=some (some f'.p):=by
   obtain⟨k,x,hx⟩:=hn
   obtain⟨j,e⟩:=nmAt_old D p a s k
   rw[e]at hx
   refine⟨j,x,?_⟩
   rw[hx];split<;>rfl
  split
  ·exact putB_sz (h.sz f' hf' hn')
  ·exact h.sz f' hf' hn'
theorem DI.new{D:DiskD}(h:DI D){p s n:Nat}{name:ByteArray}{a:Int}{x:Sec}(hok:DOk (wrNew D p s n name a x))(hn:FForm name)(hp:p∉psOf D.files):DI (wrNew D p s n name a x):=by
 have hold:∀{k y q},mfind y (nmAt D k)=some (some q)→q≠p:=fun{k y q}hy e=>by
  obtain⟨q',b,d⟩:=h.named hy
  cases b
  exact hp (e▸d)
 have hfp:∀f∈D.files,f.p≠p:=fun f hf e=>hp (e▸List.mem_map.2 ⟨f,hf,rfl⟩)
 have hnm:∀{k y q},q≠p→mfind y (nmAt (wrNew D p s n name a x) k)=some (some q)→∃j,mfind y (nmAt D j)=some (some q) := fun{k y q}hq hy => by
  rcases nmAt_new D p s n name a x k with⟨j, e⟩| e
  · exact⟨j, e ▸ hy⟩
  · rw[e, find_made]at hy
    split at hy
    · injection hy with hy; injection hy with hy; exact absurd hy.symm hq
    · exact⟨_, hy⟩
 refine⟨hok, fun k y o hy =>?_, fun k y z q hy hz =>?_, fun f hf hnf i =>?_, fun f hf hnf =>?_⟩
 · rcases nmAt_new D p s n name a x k with⟨j, e⟩| e
   · exact h.form j y o (e ▸ hy)
   · rw[e, find_made]at hy
     split at hy
     · rename_i b; exact b ▸ hn
     · exact h.form _ y o hy
 · rcases nmAt_new D p s n name a x k with⟨j, e⟩| e
   · exact h.inj j y z q (e ▸ hy) (e ▸ hz)
   · rw[e, find_made]at hy hz
     split at hy
     · rename_i b
       injection hy with hy; injection hy with hy
       split at hz
       · rename_i d; exact b.symm.trans d
       · exact absurd hy.symm (hold hz)
     · split at hz
       · injection hz with hz; injection hz with hz
         exact absurd hz.symm (hold hy)
       · exact h.inj _ y z q hy hz
 · rcases List.mem_cons.1 hf with rfl | hf
   · show mfind i (mset a x 0 []) = mfind i (syncX p ([], 0) (D.steps++[_]++[wrS p a x])).1
     rw[syncX_app_yes ⟨rfl,rfl⟩,syncX_app_no (fun q=>absurd (show(0:Int)=3 from q.1) (by decide)),syncX_none (fun y hy hk e => by
      obtain⟨q, c, g⟩:= h.ok.cr.wr y hy hk
      rw[e]at c
      injection c with c
      exact hp (c ▸ g))]
     rfl
   · have hne := hfp f hf
     obtain⟨k, y, hy⟩:=hnf
     obtain⟨j,hj⟩:=hnm hne hy
     rw[h.ns f hf ⟨j,y,hj⟩ i]
     show _=mfind i (syncX f.p (f.safe,f.sc) (D.steps++[_]++[wrS p a x])).1
     rw[syncX_app_no (fun q=> hne (by have := q.2; injection this with this; exact this.symm)), syncX_app_no (fun q => absurd (show(0 : Int) = 3 from q.1) (by decide))]
 · rcases List.mem_cons.1 hf with rfl | hf
   · exact putB_sz fun e he => (by cases he)
   · obtain⟨k, y, hy⟩:= hnf
     obtain⟨j, hj⟩:= hnm (hfp f hf) hy
     exact h.sz f hf ⟨j, y, hj⟩
theorem leftS_other{p q:Nat}(h:q≠p){X:SecM×Nat}{l:List StepD}:syncX q X (leftS p l)=syncX q X l:=by
 unfold syncX leftS
 rw[List.filter_filter]
 congr 1
 apply List.filter_congr
 intro x hx
 unfold isOf
 by_cases hk:x.kind=3∧x.file=some q
 ·unfold notOf;simp[hk,h]
 ·simp[hk]
theorem leftS_same{p:Nat}{X:SecM×Nat}{l:List StepD}:syncX p X (leftS p l)=X:=syncX_none fun x hx hk=>by
 unfold leftS at hx
 exact(of_decide_eq_true (List.mem_filter.1 hx).2).2
theorem DI.sync{D:DiskD}(h:DI D)(p:Nat):DI (syncD D p):=by
 have hnm:∀{q},(∃k x,mfind x (nmAt (syncD D p) k)=some (some q))→∃k x,mfind x (nmAt D k)=some (some q):=fun{q}⟨k,x,hx⟩=>⟨_,x,by rw[←nmAt_sync p k];exact hx⟩
 refine⟨h.ok.syncD' p,fun k x o hx=>h.form _ x o (by rw[←nmAt_sync p k];exact hx),fun k x y q hx hy=>h.inj _ x y q (by rw[←nmAt_sync p k];exact hx) (by rw[←nmAt_sync p k];exact hy),fun f hf hn i=>?_, fun f hf hn =>?_⟩
 · obtain⟨f', hf', rfl⟩:=List.mem_map.1 (show f∈D.files.map fun f=>if f.p= p then syncF p D.steps f else f from hf)
   by_cases hp : f'.p = p
   · rw[if_pos hp]at hn⊢
     have a:=h.ns f' hf' (hnm hn) i
     show mfind i f'.now=mfind i (syncX f'.p (syncX p (f'.safe,f'.sc) D.steps) (leftS p D.steps)).1
     rw[hp, leftS_same, ← hp]
     exact a
   · rw[if_neg hp]at hn ⊢
     show mfind i f'.now = mfind i (syncX f'.p (f'.safe, f'.sc) (leftS p D.steps)).1
     rw[leftS_other hp]
     exact h.ns f' hf' (hnm hn) i
 · obtain⟨f', hf', rfl⟩:= List.mem_map.1 (show f∈D.files.map fun f=>if f.p=p then syncF p D.steps f else f from hf)
   split at hn<;>rename_i hp
   ·rw[if_pos hp];exact h.sz f' hf' (hnm hn)
   ·rw[if_neg hp];exact h.sz f' hf' (hnm hn)
theorem DI.addN{D:DiskD}(h:DI D){x:StepD}(hk:x.kind≠3)(hok:DOk (tick (addS D x)))(hform:∀y o,mfind y (mapN (nmL D D.steps.length) x).1=some o→FForm y)
 (hinj:∀y z q,mfind y (mapN (nmL D D.steps.length) x).1=some (some q)→mfind z (mapN (nmL D D.steps.length) x).1=some (some q)→y=z)
 (hnm:∀y q,mfind y (mapN (nmL D D.steps.length) x).1=some (some q)→∃z,mfind z (nmAt D D.steps.length)=some (some q)):DI (tick (addS D x)):=by
 have hN:∀{q},(∃k y,mfind y (nmAt (tick (addS D x)) k)=some (some q))→∃k y,mfind y (nmAt D k)=some (some q):=fun{q}⟨k,y,hy⟩=>by
  rcases nmAt_add D x k with⟨j,e⟩|e
  ·exact⟨j,y,e▸hy⟩
  · obtain⟨z, hz⟩:= hnm y q (e ▸ hy)
    exact⟨_, z, hz⟩
 refine⟨hok,fun k y o hy=>?_,fun k y z q hy hz=>?_,fun f hf hn i=>?_,fun f hf hn=> h.sz f hf (hN hn)⟩
 · rcases nmAt_add D x k with⟨j, e⟩| e
   · exact h.form j y o (e ▸ hy)
   · exact hform y o (e ▸ hy)
 · rcases nmAt_add D x k with⟨j, e⟩| e
   · exact h.inj j y z q (e ▸hy) (e▸hz)
   ·exact hinj y z q (e▸hy) (e▸hz)
 · rw[h.ns f hf (hN hn) i]
   show _ = mfind i (syncX f.p (f.safe, f.sc) (D.steps ++ [x])).1
   rw[syncX_app_no (fun q => hk q.1)]
theorem DI.mok{D:DiskD}(h:DI D)(k:Nat):MOk (nmL D k).1 (nmL D k).2:=nmL_ok h.ok k
theorem DI.rm{D:DiskD}(h:DI D){name:ByteArray}(hs:name.size≤maxLen):DI (tick (addS D (rmS name))):=by
 have key:∀{y o},mfind y (mapN (nmL D D.steps.length) (rmS name)).1=some o→mfind y (nmAt D D.steps.length)=some o:=fun{y o}hy=>by
  rw[find_rm (h.mok _)]at hy
  split at hy
  ·cases hy
  ·exact hy
 exact h.addN (by show(2:Int)≠3;decide) (h.ok.rm hs) (fun y o hy=>h.form _ y o (key hy)) (fun y z q hy hz=>h.inj _ y z q (key hy) (key hz)) (fun y q hy=>⟨y,key hy⟩)
theorem DI.rn{D:DiskD}(h:DI D){name to:ByteArray}(hs:name.size≤maxLen)(ht:to.size≤maxLen)(hto:FForm to){p:Nat}(hf:mfind name (nmAt D D.steps.length)=some (some p)):DI (tick (addS D (rnS name to))):=by
 have c:mfind name D.now≠none:=by rw[nm_now h.ok,hf];nofun
 have key:∀{y o},mfind y (mapN (nmL D D.steps.length) (rnS name to)).1=some o→(to=y∧o=some p)∨(name≠y∧mfind y (nmAt D D.steps.length)=some o):= fun{y o}hy => by
  rw[find_rn (h.mok _) hf]at hy
  split at hy
  · cases hy
  · split at hy
    · rename_i e;injection hy with hy;exact .inl ⟨e,hy.symm⟩
    ·rename_i e _;exact .inr ⟨e,hy⟩
 refine h.addN (by show(1:Int)≠3;decide) (h.ok.rn hs ht c) (fun y o hy=>?_) (fun y z q hy hz=>?_) (fun y q hy =>?_)
 · rcases key hy with⟨rfl, -⟩|⟨-, hy⟩
   · exact hto
   · exact h.form _ y o hy
 · rcases key hy with⟨e1, a⟩|⟨e1, hy⟩<;> rcases key hz with⟨b, d⟩|⟨b, hz⟩
   · exact e1.symm.trans b
   · cases a; exact absurd (h.inj _ _ _ _ hf hz) b
   · cases d; exact absurd (h.inj _ _ _ _ hf hy) e1
   · exact h.inj _ y z q hy hz
 · rcases key hy with⟨-,a⟩|⟨-,hy⟩
   ·cases a;exact⟨name,hf⟩
   ·exact⟨y,hy⟩
theorem DI.crash{D:DiskD}(h:DI D)(xs:List (BitVec 8))(ns:Nat→Nat)(nb:Nat):DI (crashD D xs ns nb):=by
 obtain⟨m,hm⟩:=nmAt_crash (D:=D) xs ns nb
 have hA:nmAt (crashD D xs ns nb) 0=(crC D xs).A.1:=rfl
 have hv:∀f∈(crashD D xs ns nb).files,(∃k x,mfind x (nmAt (crashD D xs ns nb) k)=some (some f.p))→∃f' n,f=visit n f':=fun f hf⟨k,x,hx⟩=>by
  obtain⟨f',hf',rfl⟩:=List.mem_map.1 (show f∈(crC D xs).fs.map _ from hf)
  rw[hm k,←hm 0,hA]at hx
  have hp:(if some f'.p∈((crC D xs).A.1).map (·.2.1)then visit (ns f'.p) f' else f').p=f'.p:=by split<;>rfl
  rw[hp]at hx
  obtain⟨e,he,-,a⟩:=mfind_mem hx
  rw[if_pos (List.mem_map.2 ⟨e,he,a⟩)]
  exact⟨_,_,rfl⟩
 refine⟨h.ok.crashD' xs ns nb,fun k x o hx=>h.form m x o (by rw[←hm k];exact hx),fun k x y q hx hy=>h.inj m x y q (by rw[←hm k];exact hx) (by rw[←hm k]; exact hy), fun f hf hn i =>?_, fun f hf hn e he =>?_⟩
 · obtain⟨f', n, rfl⟩:= hv f hf hn
   rfl
 · obtain⟨f', n, rfl⟩:= hv f hf hn
   exact(sizeX_spec f'.safe).2.1 e he
theorem DI.fileAt{D:DiskD}(h:DI D){k p:Nat}{x:ByteArray}(hx:mfind x (nmAt D k)=some (some p)):∃f∈D.files,f.p=p:=by
 obtain⟨q,e,hq⟩:=h.named hx
 cases e
 obtain⟨i,f,hi,hp⟩:=ps_at hq
 exact⟨f,List.mem_of_getElem? hi,hp⟩
theorem DI.nsAt{D:DiskD}(h:DI D){k p:Nat}{x:ByteArray}(hx:mfind x (nmAt D k)=some (some p)):∀f∈D.files,f.p=p→∀i,mfind i f.now=mfind i (syncX p (f.safe,f.sc) D.steps).1:=fun f hf hp i=>hp▸h.ns f hf ⟨k,x,hp▸hx⟩ i
theorem DI.zero{D:DiskD}(h:DI D){k:Nat}{x:ByteArray}{f:FileD}(hf:f∈D.files)(hx:mfind x (nmAt D k)=some (some f.p)):∀j,f.size.toNat≤j→gX f.now j=zeroSec:=fun j hj=>by
 unfold gX
 cases hm:mfind (j:Int) f.now with
 |none=>rfl
 |some s=>
  obtain⟨e,he,e1,-⟩:=mfind_mem hm
  have:=h.sz f hf ⟨k,x,hx⟩ e he
  omega
theorem DI.one{D:DiskD}(h:DI D){f g:FileD}(hf:f∈D.files)(hg:g∈D.files)(e:f.p=g.p):f=g:=h.ok.one hf hg e
end Go.Proofs.YtdnibpclkhenmaaGreatDoor

namespace Go.Proofs.YtdnibpclkhenmaaGreatDoor
open Go.BX
structure Sg where
 n:Nat
 p:Nat
 lo:List Bs
 hi:List Bs
structure VV where
 last:Nat
 pc:Nat
 B:Bs
 segs:List Sg
def VV.lo(V:VV):List Bs:=V.segs.flatMap (·.lo)
def VV.hi(V:VV):List Bs:=V.segs.flatMap (·.hi)
def VV.addO(V:VV)(o:Option Sg):VV:={V with segs:=V.segs++o.toList}
def loO:Option Sg→List Bs
 |none=>[]
 |some c=>c.lo
def hiO:Option Sg→List Bs
 |none=>[]
 |some c=>c.hi
theorem VV.addO_lo(V:VV)(o:Option Sg):(V.addO o).lo=V.lo++loO o:=by
 cases o<;>simp[VV.lo,VV.addO,loO]
theorem VV.addO_hi(V:VV)(o:Option Sg):(V.addO o).hi=V.hi++hiO o:=by
 cases o<;>simp[VV.hi,VV.addO,hiO]
theorem VV.addO_none(V:VV):V.addO none=V:=by
 cases V;simp[VV.addO]
structure NV(nm:ByteArray)(N:NameL)(V:VV):Prop where
 c1:∀n,mfind (cN nm n) N≠none→n≤V.last
 c2:V.last≠0→mfind (cN nm V.last) N=some (some V.pc)
 s1:∀n,V.last<n→mfind (sN nm n) N≠none→∃s∈V.segs,s.n=n
 s2:∀s∈V.segs,mfind (sN nm s.n) N=some (some s.p)
structure WfV(V:VV):Prop where
 gt:∀s∈V.segs,V.last<s.n
 asc:V.segs.Pairwise (fun s t=>s.n<t.n)
 ex:∀s∈V.segs.dropLast,s.lo=s.hi
 b0:V.last=0→V.B=[]
structure FV(F:Nat→SP→Prop)(V:VV):Prop where
 segs:∀s∈V.segs,∃A,F s.p A∧SegA A s.lo s.hi
 base:V.last≠0→∃A,F V.pc A∧BaseA A V.B
theorem FV.step{F F':Nat→SP→Prop}{V:VV}(h:FV F V)(hF:∀s∈V.segs,∀A,F s.p A→F' s.p A)(hB:V.last≠0→∀A,F V.pc A→F' V.pc A):FV F' V:=
 ⟨fun s hs=>by obtain⟨A,h1,h2⟩:=h.segs s hs;exact⟨A,hF s hs A h1,h2⟩,fun h0=>by obtain⟨A,h1,h2⟩:=h.base h0;exact⟨A,hB h0 A h1,h2⟩⟩
def Neu(nm:ByteArray)(last:Nat)(x:ByteArray):Prop:=(∀n,x=cN nm n→n<last)∧∀n,x=sN nm n→n≤last
theorem NV.cong{nm:ByteArray}{N N':NameL}{V:VV}(hw:WfV V)(h:NV nm N V)(hp:PlainB nm)(he:∀x,¬Neu nm V.last x→mfind x N'=mfind x N):NV nm N' V:=by
 have nc:∀n,V.last≤n→¬Neu nm V.last (cN nm n):=fun n hn q=>by have:=q.1 n rfl;omega
 have nS:∀n,V.last<n→¬Neu nm V.last (sN nm n):=fun n hn q=>by have:=q.2 n rfl;omega
 refine⟨fun n hn=>?_,fun b=>?_,fun n hn hx=>?_,fun s hs=>?_⟩
 · rcases Nat.lt_or_ge V.last n with a | a
   · rw[he _ (nc n (Nat.le_of_lt a))]at hn
     exact h.c1 n hn
   · exact a
 · rw[he _ (nc _ (Nat.le_refl _))]; exact h.c2 b
 · rw[he _ (nS n hn)]at hx
   exact h.s1 n hn hx
 · rw[he _ (nS _ (hw.gt s hs))]; exact h.s2 s hs
def JS(D:DiskD)(nm:ByteArray)(G:Nat)(P:Bs→List Bs→List Bs→Prop):Prop:=∀k,∃V,NV nm (nmAt D k) V∧WfV V∧FV (FilA D) V∧(V.last≤G∧∀s∈V.segs,s.n≤G)∧P V.B V.lo V.hi
theorem JS.mono{D:DiskD}{nm:ByteArray}{G G':Nat}{P P':Bs→List Bs→List Bs→Prop}(h:JS D nm G P)(hG:G≤G')(hP:∀B lo hi,P B lo hi→P' B lo hi):JS D nm G' P':=fun k=>by
 obtain⟨V,h1,h2,h3,⟨h4,h5⟩,h6⟩:=h k
 exact⟨V,h1,h2,h3,⟨Nat.le_trans h4 hG,fun s hs=>Nat.le_trans (h5 s hs) hG⟩,hP _ _ _ h6⟩
theorem JS.step{D D':DiskD}{nm:ByteArray}{G:Nat}{P:Bs→List Bs→List Bs→Prop}(h:JS D nm G P)(hn:∀k',∃k,∀V,WfV V→NV nm (nmAt D k) V→NV nm (nmAt D' k') V)(hf:∀q A,FilA D q A→FilA D' q A):JS D' nm G P:=fun k'=>by
 obtain⟨k,hk⟩:=hn k'
 obtain⟨V,h1,h2,h3,h4,h6⟩:=h k
 exact⟨V,hk V h2 h1,h2,h3.step (fun s _ A=>hf s.p A) (fun _ A=>hf V.pc A),h4,h6⟩
theorem FilA.stop{D:DiskD}{q:Nat}{A:SP}(h:FilA D q A):FilA (stopD D) q A:=⟨h.safe,h.wr⟩
theorem JS.stop{D:DiskD}{nm:ByteArray}{G:Nat}{P:Bs→List Bs→List Bs→Prop}(h:JS D nm G P):JS (stopD D) nm G P:=h.step (fun k=>⟨k,fun _ _ h=>h⟩) fun _ _ h=>h.stop
theorem JS.sync{D:DiskD}{nm:ByteArray}{G:Nat}{P:Bs→List Bs→List Bs→Prop}(h:JS D nm G P)(p:Nat):JS (syncD D p) nm G P:=h.step (fun k=>⟨D.steps.length,fun _ _ h=>by rw[nmAt_sync];exact h⟩) fun _ _ h=>h.sync p
theorem JS.crash{D:DiskD}{nm:ByteArray}{G:Nat}{P:Bs→List Bs→List Bs→Prop}(h:JS D nm G P)(xs:List (BitVec 8))(ns:Nat→Nat)(nb:Nat):JS (crashD D xs ns nb) nm G P:=by
 obtain⟨m,hm⟩:=nmAt_crash (D:=D) xs ns nb
 exact h.step (fun k=>⟨m,fun _ _ h=>by rw[hm];exact h⟩) fun _ _ h=>h.crash xs ns nb
structure LV(D:DiskD)(nm:ByteArray)(V:VV)(cur:Option Sg)(g:Nat):Prop where
 names:∀k,NV nm (nmAt D k) V∨NV nm (nmAt D k) (V.addO cur)
 nowN:NV nm (nmAt D D.steps.length) (V.addO cur)
 wf:WfV V
 ex:∀s∈V.segs,s.lo=s.hi
 fv:FV (FilA D) V
 top:V.last≤g∧∀s∈V.segs,s.n≤g
 cur:∀c,cur=some c→(c.n=g∧V.last<g∧∀s∈V.segs,s.n<g)∧FilA D c.p (BtwA (framesF c.lo) (framesF c.hi))∧c.lo<+:c.hi∧(∀b∈c.hi,b.length≤4194304)∧(c.lo≠[]→∀k,NV nm (nmAt D k) (V.addO cur))
theorem LV.lohi{D:DiskD}{nm:ByteArray}{V:VV}{cur:Option Sg}{g:Nat}(h:LV D nm V cur g):V.lo=V.hi:=by
 unfold VV.lo VV.hi
 have:∀l:List Sg,(∀s∈l,s.lo=s.hi)→l.flatMap (·.lo)=l.flatMap (·.hi):=fun l=>by
  induction l with
  |nil=>intro _;rfl
  |cons s l ih=>intro hl;rw[List.flatMap_cons,List.flatMap_cons,hl s (List.mem_cons_self ..),ih fun t ht=>hl t (List.mem_cons_of_mem _ ht)]
 exact this _ h.ex
theorem LV.wfO{D:DiskD}{nm:ByteArray}{V:VV}{cur:Option Sg}{g:Nat}(h:LV D nm V cur g):WfV (V.addO cur):=by
 cases hc:cur with
 |none=>rw[VV.addO_none];exact h.wf
 |some c=>
  obtain⟨⟨a,_,b⟩,-⟩:=h.cur c hc
  refine⟨fun s hs=>?_,?_,fun s hs =>?_, h.wf.b0⟩
  · rcases List.mem_append.1 hs with hs | hs
    · exact h.wf.gt s hs
    · have:=List.mem_singleton.1 hs
      subst this
      show V.last<s.n
      omega
  · show(V.segs ++ [c]).Pairwise _
    refine List.pairwise_append.2 ⟨h.wf.asc,List.pairwise_singleton _ _,fun s hs t ht=>?_⟩
    rw[List.mem_singleton.1 ht,a]
    exact b s hs
  · have : (V.addO (some c)).segs.dropLast=V.segs:=List.dropLast_concat
    rw[this]at hs
    exact h.ex s hs
theorem LV.js{D:DiskD}{nm:ByteArray}{V:VV}{cur:Option Sg}{g:Nat}(h:LV D nm V cur g):JS D nm g fun B lo hi=>B=V.B∧V.hi++loO cur<+:lo∧hi<+:V.hi++hiO cur:=fun k=>by
 have hadd:NV nm (nmAt D k) (V.addO cur)→∃W,NV nm (nmAt D k) W∧WfV W∧FV (FilA D) W∧(W.last≤g∧∀s∈W.segs,s.n≤g)∧W.B=V.B∧V.hi++loO cur<+:W.lo∧W.hi<+:V.hi++hiO cur:=fun hN=>by
  refine⟨V.addO cur,hN,h.wfO,⟨fun s hs=>?_,h.fv.base⟩,⟨h.top.1,fun s hs=>?_⟩,rfl,by rw[VV.addO_lo,h.lohi];exact List.prefix_refl _,by rw[VV.addO_hi];exact List.prefix_refl _⟩
  · rcases List.mem_append.1 hs with hs | hs
    · exact h.fv.segs s hs
    · obtain⟨-, h1, h2, h3, -⟩:= h.cur s (by simpa using hs)
      exact⟨_, h1, segA_btw h3 h2⟩
  · rcases List.mem_append.1 hs with hs | hs
    · exact h.top.2 s hs
    · obtain⟨⟨h1, -⟩, -⟩:= h.cur s (by simpa using hs)
      omega
 rcases h.names k with hN | hN
 · by_cases hl : loO cur = []
   ·refine⟨V,hN,h.wf,h.fv,h.top,rfl,by rw[hl,List.append_nil,h.lohi];exact List.prefix_refl _,List.prefix_append _ _⟩
   ·cases hc:cur with
     |none=>rw[hc]at hl;exact absurd rfl hl
     |some c=>
      obtain⟨-,-,-,-,h4⟩:=h.cur c hc
      rw[hc]at hl
      have:=hadd (h4 hl k)
      rw[hc]at this
      exact this
 ·exact hadd hN
theorem LV.step{D D':DiskD}{nm:ByteArray}{V:VV}{cur:Option Sg}{g:Nat}(h:LV D nm V cur g)(hp:PlainB nm)(hn:∀k',∃k,∀x,¬Neu nm V.last x→mfind x (nmAt D' k')=mfind x (nmAt D k))
 (hl:∀x,¬Neu nm V.last x→mfind x (nmAt D' D'.steps.length)=mfind x (nmAt D D.steps.length))
 (hf:∀q A x,¬Neu nm V.last x→mfind x (nmAt D D.steps.length)=some (some q)→FilA D q A→FilA D' q A):LV D' nm V cur g:=by
 have hseg:∀s∈(V.addO cur).segs,∀A,FilA D s.p A→FilA D' s.p A:=fun s hs A=>hf _ A (sN nm s.n) (fun q=>by have:=q.2 _ rfl;have:=h.wfO.gt s hs;change V.last<s.n at this;omega) (h.nowN.s2 s hs)
 refine⟨fun k'=>?_,h.nowN.cong h.wfO hp hl,h.wf,h.ex,h.fv.step (fun s hs=>hseg s (List.mem_append_left _ hs)) (fun b A=>hf _ A (cN nm V.last) (fun q=>by have:=q.1 _ rfl;omega) (h.nowN.c2 b)),h.top,fun c hc =>?_⟩
 · obtain⟨k, hk⟩:= hn k'
   rcases h.names k with a | a
   · exact .inl (a.cong h.wf hp hk)
   · exact .inr (a.cong h.wfO hp hk)
 · obtain⟨a, d, e, f, i⟩:= h.cur c hc
   refine⟨a,hseg c (by rw[hc];simp[VV.addO]) _ d,e,f,fun b k'=>?_⟩
   obtain⟨k,hk⟩:=hn k'
   exact(i b k).cong h.wfO hp hk
theorem LV.tk{D:DiskD}{nm:ByteArray}{V:VV}{cur:Option Sg}{g:Nat}(h:LV D nm V cur g):LV (tick D) nm V cur g:=⟨h.names,h.nowN,h.wf,h.ex,h.fv.step (fun _ _ _ h=>⟨h.safe,h.wr⟩) (fun _ _ h=>⟨h.safe,h.wr⟩),h.top,fun c hc=>by
 obtain⟨h1,h2,h3⟩:=h.cur c hc
 exact⟨h1,⟨h2.safe,h2.wr⟩,h3⟩⟩
theorem LV.sync{D:DiskD}{nm:ByteArray}{V:VV}{cur:Option Sg}{g:Nat}(h:LV D nm V cur g)(hp:PlainB nm)(p:Nat):LV (syncD D p) nm V cur g:=
 h.step hp (fun k=>⟨_,fun x _=>by rw[nmAt_sync]⟩) (fun x _=>by rw[nmAt_sync]) fun q A x _ _ h=>h.sync p
theorem LV.rm{D:DiskD}(hd:DI D){nm:ByteArray}{V:VV}{cur:Option Sg}{g:Nat}(h:LV D nm V cur g)(hp:PlainB nm){name:ByteArray}(hN:Neu nm V.last name):LV (tick (addS D (rmS name))) nm V cur g:=by
 have e:∀x,¬Neu nm V.last x→mfind x (mapN (nmL D D.steps.length) (rmS name)).1=mfind x (nmAt D D.steps.length):=fun x hx=>by
  rw[find_rm (hd.mok _),if_neg (fun q:name=x=>hx (q▸hN))]
 refine h.step hp (fun k=>?_) (fun x hx=>?_) fun q A x _ _ h=>h.add (by show(2:Int)≠3;decide)
 · rcases nmAt_add D (rmS name) k with⟨j, q⟩| q
   · exact⟨j, fun x _=>by rw[show nmAt (tick (addS D (rmS name))) k=nmAt (addS D (rmS name)) k from rfl,q]⟩
   ·exact⟨_,fun x hx=>by rw[show nmAt (tick (addS D (rmS name))) k= nmAt (addS D (rmS name)) k from rfl, q]; exact e x hx⟩
 · rw[← e x hx]
   show mfind x (nmL (addS D (rmS name)) (D.steps++[rmS name]).length).1=_
   rw[nmL_addS (by rw[List.length_append];simp)]
theorem LV.rn{D:DiskD}(hd:DI D){nm:ByteArray}{V:VV}{cur:Option Sg}{g:Nat}(h:LV D nm V cur g)(hp:PlainB nm){name to:ByteArray}(hN:Neu nm V.last name)(hT:Neu nm V.last to){o:Option Nat}(hf:mfind name (nmAt D D.steps.length)=some o):LV (tick (addS D (rnS name to))) nm V cur g:=by
 have e:∀x,¬Neu nm V.last x→mfind x (mapN (nmL D D.steps.length) (rnS name to)).1=mfind x (nmAt D D.steps.length):=fun x hx=>by
  rw[find_rn (hd.mok _) hf,if_neg (fun q:name=x=>hx (q▸hN)),if_neg (fun q:to=x=>hx (q▸hT))]
 refine h.step hp (fun k=>?_) (fun x hx=>?_) fun q A x _ _ h=>h.add (by show(1:Int)≠3;decide)
 · rcases nmAt_add D (rnS name to) k with⟨j, q⟩| q
   · exact⟨j, fun x _ =>by rw[show nmAt (tick (addS D (rnS name to))) k=nmAt (addS D (rnS name to)) k from rfl,q]⟩
   ·exact⟨_,fun x hx=>by rw[show nmAt (tick (addS D (rnS name to))) k=nmAt (addS D (rnS name to)) k from rfl,q];exact e x hx⟩
 · rw[← e x hx]
   show mfind x (nmL (addS D (rnS name to)) (D.steps ++ [rnS name to]).length).1 = _
   rw[nmL_addS (by rw[List.length_append]; simp)]
theorem nmAt_old_len(D:DiskD)(p:Nat)(a:Int)(s:Sec):nmAt (wrOld D p a s) (wrOld D p a s).steps.length=nmAt D D.steps.length:=by
 show(nmL (addS (setF D (updF D.files p (putB a s))) (wrS p a s)) (D.steps++[wrS p a s]).length).1=_
 rw[nmL_addS (by rw[List.length_append];simp[setF])]
 rfl
theorem nmAt_new_len(D:DiskD)(p s n:Nat)(name:ByteArray)(a:Int)(x:Sec):nmAt (wrNew D p s n name a x) (wrNew D p s n name a x).steps.length=(mapN (nmL D D.steps.length) ⟨0,some p,noS,name,0,zeroSec⟩).1:=by
 show(nmL (addS (addS (setF D _) ⟨0,some p,noS,name,0,zeroSec⟩) (wrS p a x)) (D.steps++[_]++[wrS p a x]).length).1=_
 rw[nmL_addS (by simp[addS,setF])]
 show(nmL (addS (setF D _) ⟨0,some p,noS,name,0,zeroSec⟩) (D.steps++[_]).length).1=_
 rw[nmL_addS (by rw[List.length_append];simp[setF])]
 rfl
theorem LV.wr{D:DiskD}(hd:DI D){nm:ByteArray}{V:VV}{cur:Option Sg}{g:Nat}(h:LV D nm V cur g)(hp:PlainB nm){name:ByteArray}(hN:Neu nm V.last name){p:Nat}(hx:mfind name (nmAt D D.steps.length)=some (some p)){a:Int}{s:Sec}:LV (wrOld D p a s) nm V cur g:=
 h.step hp (fun k=>by obtain⟨j,e⟩:=nmAt_old D p a s k;exact⟨j,fun x _=>by rw[e]⟩) (fun x _=>by rw[nmAt_old_len]) fun q A x hn hq hF=>hF.wr_ fun e=>by
  subst e
  exact absurd (hd.inj _ _ _ _ hx hq▸hN) hn
theorem LV.new{D:DiskD}(hd:DI D){nm:ByteArray}{V:VV}{cur:Option Sg}{g:Nat}(h:LV D nm V cur g)(hp:PlainB nm){name:ByteArray}(hN:Neu nm V.last name){p s n:Nat}(hps:p∉psOf D.files){a:Int}{x:Sec}:LV (wrNew D p s n name a x) nm V cur g:=by
 have e:∀y,¬Neu nm V.last y→mfind y (mapN (nmL D D.steps.length) ⟨0,some p,noS,name,0,zeroSec⟩).1=mfind y (nmAt D D.steps.length):=fun y hy=>by
  rw[find_made,if_neg (fun q:name=y=>hy (q▸hN))]
 refine h.step hp (fun k=>?_) (fun y hy=>by rw[nmAt_new_len];exact e y hy) fun q A y _ hq hF=>hF.new (p:=p) fun e=>hps (e▸hF.mem)
 rcases nmAt_new D p s n name a x k with⟨j,q⟩|q
 ·exact⟨j,fun y _=>by rw[q]⟩
 ·exact⟨_,fun y hy=>by rw[q];exact e y hy⟩
theorem LV.more{D:DiskD}{nm:ByteArray}{V:VV}{c:Sg}{g:Nat}(h:LV D nm V (some c) g){hi':List Bs}(hh:c.hi<+:hi')(hb:∀b∈hi',b.length≤4194304):LV D nm V (some ⟨c.n,c.p,c.lo,hi'⟩) g:=by
 have hN:∀{N},NV nm N (V.addO (some c))→NV nm N (V.addO (some ⟨c.n,c.p,c.lo,hi'⟩)):=fun{N}a=>by
  refine⟨a.c1,a.c2, fun n hn hx =>?_, fun s hs =>?_⟩
  · obtain⟨s,hs,e⟩:=a.s1 n hn hx
    rcases List.mem_append.1 hs with hs|hs
    ·exact⟨s, List.mem_append_left _ hs, e⟩
    · have : s = c := by simpa using hs
      subst this
      exact⟨_, List.mem_append_right _ (List.mem_singleton_self _), e⟩
  · rcases List.mem_append.1 hs with hs | hs
    · exact a.s2 s (List.mem_append_left _ hs)
    · rw[List.mem_singleton.1 hs]
      exact a.s2 c (List.mem_append_right _ (List.mem_singleton_self _))
 obtain⟨a, d, f,_,i⟩:=h.cur c rfl
 refine⟨fun k=>(h.names k).imp id hN,hN h.nowN,h.wf,h.ex,h.fv,h.top,fun c' hc'=>?_⟩
 injection hc' with hc'
 subst hc'
 exact⟨a,d.mono (btw_mono (List.prefix_refl _) (frames_prefix hh)),f.trans hh,hb,fun j k=>hN (i j k)⟩
theorem LV.wrC{D:DiskD}(hd:DI D){nm:ByteArray}{V:VV}{c:Sg}{g:Nat}(h:LV D nm V (some c) g)(hp:PlainB nm){a:Int}{s:Sec}(hs:SA (BtwA (framesF c.lo) (framesF c.hi)) a s):LV (wrOld D c.p a s) nm V (some c) g:=by
 obtain⟨⟨i,l,f⟩,m,o,q,r⟩:=h.cur c rfl
 have hc:mfind (sN nm c.n) (nmAt D D.steps.length)=some (some c.p):=h.nowN.s2 c (List.mem_append_right _ (List.mem_singleton_self _))
 have hsN:∀{a b},sN nm a=sN nm b→a=b:=fun e=>(fN_inj hp hp (.inl rfl) (.inl rfl) e).2.2
 have hN:∀{k V'},WfV V'→NV nm (nmAt D k) V'→∀k',nmAt (wrOld D c.p a s) k'=nmAt D k→NV nm (nmAt (wrOld D c.p a s) k') V':=fun _ h k' e=>e▸h
 refine⟨fun k=>?_,by rw[nmAt_old_len];exact h.nowN,h.wf,h.ex,h.fv.step (fun t ht A hF=>hF.wr_ fun e=>?_) (fun d A hF=>hF.wr_ fun e =>?_), h.top, fun c' hc' =>?_⟩
 · obtain⟨j, e⟩:= nmAt_old D c.p a s k
   rw[e]; exact h.names j
 · have := hd.inj _ _ _ _ (e ▸ h.nowN.s2 t (List.mem_append_left _ ht)) hc
   have := hsN this
   have := f t ht
   omega
 · have := hd.inj _ _ _ _ (e ▸ h.nowN.c2 d) hc
   have := (fN_inj hp hp (.inr rfl) (.inl rfl) this).2.1
   exact absurd this (by decide)
 · injection hc' with hc'
   subst hc'
   exact⟨⟨i, l, f⟩, m.wr_ fun _ => hs, o,q,fun d k=>by obtain⟨j,e⟩:=nmAt_old D c.p a s k;rw[e];exact r d j⟩
theorem LV.begin{D:DiskD}(hd:DI D){nm:ByteArray}{V:VV}{g:Nat}(h:LV D nm V none g)(hp:PlainB nm){p s n:Nat}{r:Bs}(hr:r.length≤4194304)(hps:p∉psOf D.files):
 LV (wrNew D p s n (sN nm (g+1)) 0 (secB (chunkF (framesF [r]) 0))) nm V (some ⟨g+1,p,[],[r]⟩) (g+1):=by
 have hsN:∀{a b},sN nm a=sN nm b→a=b:=fun e=>(fN_inj hp hp (.inl rfl) (.inl rfl) e).2.2
 have hcs:∀{a b},sN nm a≠cN nm b:=fun e=>absurd (fN_inj hp hp (.inl rfl) (.inr rfl) e).2.1 (by decide)
 have d:NV nm (nmAt D D.steps.length) V:=by have:=h.nowN;rwa[VV.addO_none]at this
 have hnew:NV nm (mapN (nmL D D.steps.length) ⟨0,some p,noS,sN nm (g+1),0,zeroSec⟩).1 (V.addO (some ⟨g+1,p,[],[r]⟩)):=by
  refine⟨fun m hm=>?_,fun hm=>?_, fun m hm hx =>?_, fun t ht =>?_⟩
  · rw[find_made, if_neg hcs]at hm
    exact d.c1 m hm
  · rw[find_made, if_neg hcs]; exact d.c2 hm
  · rw[find_made]at hx
    split at hx
    · rename_i e
      exact⟨_, List.mem_append_right _ (List.mem_singleton_self _), hsN e⟩
    · obtain⟨t, ht, e⟩:= d.s1 m hm hx
      exact⟨t, List.mem_append_left _ ht, e⟩
  · rw[find_made]
    rcases List.mem_append.1 ht with ht | ht
    · rw[if_neg (fun e => by have:=hsN e;have:=h.top.2 t ht;omega)]
      exact d.s2 t ht
    ·rw[List.mem_singleton.1 ht,if_pos rfl]
 have hfr:∀q A,FilA D q A→FilA (wrNew D p s n (sN nm (g+1)) 0 (secB (chunkF (framesF [r]) 0))) q A:=fun q A hF=>hF.new (p:=p) fun e=>hps (e▸hF.mem)
 refine⟨fun k=>?_,by rw[nmAt_new_len];exact hnew,h.wf,h.ex,h.fv.step (fun _ _=>hfr _) (fun _=>hfr _),⟨by have:=h.top.1; omega, fun t ht => by have := h.top.2 t ht; omega⟩, fun c hc =>?_⟩
 · rcases nmAt_new D p s n (sN nm (g + 1)) 0 (secB (chunkF (framesF [r]) 0)) k with⟨j, e⟩| e
   · rw[e]
     rcases h.names j with f | f
     · exact .inl f
     · rw[VV.addO_none]at f; exact .inl f
   · rw[e]; exact .inr hnew
 · injection hc with hc
   subst hc
   refine⟨⟨rfl, by have :=h.top.1;omega,fun t ht=>by have:=h.top.2 t ht;omega⟩,FilA.fresh hd.ok hps (btw_nil _) ⟨0,rfl,_,rfl,by show chunkF [] 0<+:_;rw[chunk_nil];exact List.nil_prefix,List.prefix_refl _⟩,List.nil_prefix,fun b hb=>by rw[List.mem_singleton.1 hb];exact hr,fun d=>absurd rfl d⟩
theorem LV.syncC{D:DiskD}(hd:DI D){nm:ByteArray}{V:VV}{c:Sg}{g:Nat}(h:LV D nm V (some c) g)(hp:PlainB nm)(hn:NowA D c.p (BtwA (framesF c.hi) (framesF c.hi))):LV (syncD D c.p) nm V (some ⟨c.n,c.p,c.hi,c.hi⟩) g:=by
 obtain⟨b,_,_,d,_⟩:=h.cur c rfl
 have hc:mfind (sN nm c.n) (nmAt D D.steps.length)=some (some c.p):=h.nowN.s2 c (List.mem_append_right _ (List.mem_singleton_self _))
 have hN:NV nm (nmAt D D.steps.length) (V.addO (some ⟨c.n,c.p,c.hi,c.hi⟩)):=by
  have a:=h.nowN
  refine⟨a.c1,a.c2,fun n hn hx =>?_, fun s hs =>?_⟩
  · obtain⟨s, hs,e⟩:=a.s1 n hn hx
    rcases List.mem_append.1 hs with hs|hs
    ·exact⟨s,List.mem_append_left _ hs, e⟩
    · have : s = c := by simpa using hs
      subst this
      exact⟨_, List.mem_append_right _ (List.mem_singleton_self _), e⟩
  · rcases List.mem_append.1 hs with hs | hs
    · exact a.s2 s (List.mem_append_left _ hs)
    · rw[List.mem_singleton.1 hs]
      exact hc
 refine⟨fun k =>.inr (by rw[nmAt_sync]; exact hN), by rw[nmAt_sync];exact hN,h.wf,h.ex,h.fv.step (fun _ _ _ h=>h.sync _) (fun _ _ h=>h.sync _),h.top,fun c' hc'=>?_⟩
 injection hc' with hc'
 subst hc'
 exact⟨b,FilA.synced (hd.nsAt hc) hn,List.prefix_refl _,d,fun _ k=>by rw[nmAt_sync];exact hN⟩
theorem LV.turn{D:DiskD}(hd:DI D){nm:ByteArray}{V:VV}{cur:Option Sg}{g:Nat}(h:LV D nm V cur g)(hp:PlainB nm){pt:Nat}{b:Bs}(hb:b.length≤4194304)(ht:mfind (tN nm) (nmAt D D.steps.length)=some (some pt))(hf:FilA D pt (BtwA (frameF b) (frameF b))):
 JS (tick (addS D (rnS (tN nm) (cN nm (g+1))))) nm (g+1) (fun B lo hi=>(B=V.B∧V.hi++loO cur<+:lo∧hi<+:V.hi++hiO cur)∨(B=b∧hi=[]))∧
 LV (syncD (tick (addS D (rnS (tN nm) (cN nm (g+1))))) pt) nm ⟨g+1,pt,b,[]⟩ none (g+1)∧mfind (cN nm (g+1)) (nmAt (tick (addS D (rnS (tN nm) (cN nm (g+1))))) (tick (addS D (rnS (tN nm) (cN nm (g+1))))).steps.length)=some (some pt):=by
 have hcN:∀{a b},cN nm a=cN nm b→a=b:=fun e=>(fN_inj hp hp (.inr rfl) (.inr rfl) e).2.2
 have hcs:∀{a b},cN nm a≠sN nm b:=fun e=>absurd (fN_inj hp hp (.inr rfl) (.inl rfl) e).2.1 (by decide)
 have htc:∀{kd n},(kd=kS∨kd=kC)→tN nm≠fN nm kd n:=fun k e=> fN_ne_t hp hp k e.symm
 have hnew : NV nm (mapN (nmL D D.steps.length) (rnS (tN nm) (cN nm (g + 1)))).1 ⟨g + 1, pt, b, []⟩:= by
  refine⟨fun m hm =>?_, fun _ =>?_, fun m hm hx =>?_, fun t ht => (by cases ht)⟩
  · rw[find_rn (hd.mok _) ht, if_neg (htc (.inr rfl))]at hm
    split at hm
    · rename_i e; exact Nat.le_of_eq (hcN e).symm
    · have d := h.nowN.c1 m hm
      have r := h.top.1
      change m ≤ V.last at d
      show m ≤ g + 1
      omega
  · rw[find_rn (hd.mok _) ht, if_neg (htc (.inr rfl)), if_pos rfl]
  · rw[find_rn (hd.mok _) ht, if_neg (htc (.inl rfl)), if_neg hcs]at hx
    change g + 1 < m at hm
    obtain⟨t, ht, e⟩:= h.nowN.s1 m (by show V.last < m; have := h.top.1; omega) hx
    rcases List.mem_append.1 ht with ht | ht
    · have := h.top.2 t ht; omega
    · obtain⟨⟨_, -⟩,-⟩:=h.cur t (by simpa using ht)
      omega
 have hlen:nmAt (tick (addS D (rnS (tN nm) (cN nm (g+1))))) (tick (addS D (rnS (tN nm) (cN nm (g+1))))).steps.length=(mapN (nmL D D.steps.length) (rnS (tN nm) (cN nm (g+1)))).1:=by
  show(nmL (addS D (rnS (tN nm) (cN nm (g+1)))) (D.steps++[_]).length).1=_
  rw[nmL_addS (by rw[List.length_append];simp)]
 have hF:∀q A,FilA D q A→FilA (tick (addS D (rnS (tN nm) (cN nm (g+1))))) q A:=fun q A h=>h.add (by show(1:Int)≠3;decide)
 have hwf:WfV ⟨g+ 1, pt, b, []⟩:=⟨fun s hs => (by cases hs), List.Pairwise.nil, fun s hs => (by cases hs), fun e => absurd e (Nat.succ_ne_zero g)⟩
 refine⟨fun k =>?_, ?_, by rw[hlen]; exact hnew.c2 (Nat.succ_ne_zero g)⟩
 · rcases nmAt_add D (rnS (tN nm) (cN nm (g + 1))) k with⟨j, e⟩| e
   · obtain⟨W, f, i, l, ⟨_, o⟩, p⟩:= h.js j
     exact⟨W, by rw[show nmAt (tick (addS D (rnS (tN nm) (cN nm (g + 1))))) k = nmAt (addS D (rnS (tN nm) (cN nm (g + 1)))) k from rfl, e]; exact f, i, l.step (fun _ _=>hF _) (fun _=>hF _),⟨by omega,fun s hs=>by have:=o s hs;omega⟩,.inl p⟩
   ·exact⟨_,by rw[show nmAt (tick (addS D (rnS (tN nm) (cN nm (g+1))))) k=nmAt (addS D (rnS (tN nm) (cN nm (g+1)))) k from rfl,e];exact hnew,hwf,⟨fun s hs=>(by cases hs),fun _=>⟨_,hF _ _ hf,baseA_btw hb⟩⟩,⟨Nat.le_refl _,fun s hs=>(by cases hs)⟩,.inr ⟨rfl,rfl⟩⟩
 ·refine⟨fun k=>.inl (by rw[nmAt_sync,hlen];exact hnew),by rw[VV.addO_none,nmAt_sync,hlen];exact hnew,hwf,fun s hs=>(by cases hs),⟨fun s hs=>(by cases hs),fun _=>⟨_,(hF _ _ hf).sync _,baseA_btw hb⟩⟩,⟨Nat.le_refl _,fun s hs=>(by cases hs)⟩,fun c hc=>(by cases hc)⟩
end Go.Proofs.YtdnibpclkhenmaaGreatDoor

namespace Go.Proofs.YtdnibpclkhenmaaGreatDoor
open Go.BX
def OfJ(nm x:ByteArray):Prop:=(∃n,x=cN nm n)∨(∃n,x=sN nm n)∨x=tN nm
theorem ofJ_of{nm x:ByteArray}(hp:PlainB nm){nm2:ByteArray}(hp2:PlainB nm2)(h:OfJ nm x)(h2:OfJ nm2 x):nm=nm2:=by
 rcases h with⟨n,rfl⟩|⟨n,rfl⟩|rfl<;>rcases h2 with⟨m,e⟩|⟨m,e⟩|e
 ·exact(fN_inj hp hp2 (.inr rfl) (.inr rfl) e).1
 ·exact(fN_inj hp hp2 (.inr rfl) (.inl rfl) e).1
 ·exact absurd e (fN_ne_t hp hp2 (.inr rfl))
 ·exact(fN_inj hp hp2 (.inl rfl) (.inr rfl) e).1
 ·exact(fN_inj hp hp2 (.inl rfl) (.inl rfl) e).1
 ·exact absurd e (fN_ne_t hp hp2 (.inl rfl))
 ·exact absurd e.symm (fN_ne_t hp2 hp (.inr rfl))
 ·exact absurd e.symm (fN_ne_t hp2 hp (.inl rfl))
 ·exact tN_inj hp hp2 e
theorem ofJ_neu{nm x:ByteArray}(hp:PlainB nm){nm2:ByteArray}(hp2:PlainB nm2)(hne:nm2≠nm)(h:OfJ nm x)(l:Nat):Neu nm2 l x:=
 ⟨fun n e=>absurd (ofJ_of hp2 hp (.inl ⟨n,e⟩) h) hne,fun n e=>absurd (ofJ_of hp2 hp (.inr (.inl ⟨n,e⟩)) h) hne⟩
def OwnN(D:DiskD)(nm:ByteArray)(V:VV)(cur:Option Sg):Prop:=∀x,OfJ nm x→mfind x (nmAt D D.steps.length)≠none→x=cN nm V.last∨x=sN nm V.last∨∃s∈(V.addO cur).segs,x=sN nm s.n
def NowC(D:DiskD)(cur:Option Sg):Prop:=∀c,cur=some c→NowA D c.p (BtwA (framesF c.hi) (framesF c.hi))
structure LJ(D:DiskD)(nm:ByteArray)(V:VV)(cur:Option Sg)(g:Nat):Prop where
 lv:LV D nm V cur g
 own:OwnN D nm V cur
 now:NowC D cur
def AllOf(D:DiskD)(nms:List ByteArray):Prop:=∀k x,mfind x (nmAt D k)≠none→∃nm∈nms,OfJ nm x
structure RS(D:DiskD)(nm:ByteArray)(V:VV):Prop where
 names:∀k,NV nm (nmAt D k) V
 wf:WfV V
 fv:FV (FilA D) V
theorem RS.step{D D':DiskD}{nm:ByteArray}{V:VV}(h:RS D nm V)(hp:PlainB nm)(hn:∀k',∃k,∀x,¬Neu nm V.last x→mfind x (nmAt D' k')=mfind x (nmAt D k))
 (hf:∀q A x,¬Neu nm V.last x→mfind x (nmAt D D.steps.length)=some (some q)→FilA D q A→FilA D' q A):RS D' nm V:=
 ⟨fun k'=>by obtain⟨k,hk⟩:=hn k';exact(h.names k).cong h.wf hp hk,h.wf,
  h.fv.step (fun s hs A=>hf _ A (sN nm s.n) (fun q=>by have:=q.2 _ rfl;have:=h.wf.gt s hs;omega) ((h.names _).s2 s hs)) (fun h0 A=>hf _ A (cN nm V.last) (fun q=>by have:=q.1 _ rfl;omega) ((h.names _).c2 h0))⟩
structure Stp(nm:ByteArray)(D D':DiskD):Prop where
 oth:∀nm2,PlainB nm2→nm2≠nm→∀V c g,LJ D nm2 V c g→LJ D' nm2 V c g
 all:∀nms,nm∈nms→AllOf D nms→AllOf D' nms
 rs:∀nm2,PlainB nm2→nm2≠nm→∀V,RS D nm2 V→RS D' nm2 V
 arm:D'.armed=D.armed
theorem Stp.refl(nm:ByteArray)(D:DiskD):Stp nm D D:=⟨fun _ _ _ _ _ _ h=>h,fun _ _ h=>h,fun _ _ _ _ h=>h,rfl⟩
theorem Stp.trans{nm:ByteArray}{D1 D2 D3:DiskD}(h:Stp nm D1 D2)(k:Stp nm D2 D3):Stp nm D1 D3:=
 ⟨fun nm2 hp hne V c g hl=>k.oth nm2 hp hne V c g (h.oth nm2 hp hne V c g hl),fun nms hm ha=>k.all nms hm (h.all nms hm ha),fun nm2 hp hne V hl=>k.rs nm2 hp hne V (h.rs nm2 hp hne V hl),k.arm.trans h.arm⟩
theorem OwnN.step{D D':DiskD}{nm:ByteArray}{V:VV}{cur:Option Sg}(h:OwnN D nm V cur)(he:∀x,OfJ nm x→mfind x (nmAt D' D'.steps.length)=mfind x (nmAt D D.steps.length)):OwnN D' nm V cur:=fun x hx hn=>h x hx (by rwa[←he x hx])
theorem len_rm(D:DiskD)(s:StepD):nmAt (tick (addS D s)) (tick (addS D s)).steps.length=(mapN (nmL D D.steps.length) s).1:=by
 show(nmL (addS D s) (D.steps++[s]).length).1=_
 rw[nmL_addS (by rw[List.length_append];simp)]
theorem len_sync(D:DiskD)(p:Nat):nmAt (syncD D p) (syncD D p).steps.length=nmAt D D.steps.length:=nmAt_sync p _
theorem ne_ofJ{nm nm2 x y:ByteArray}(hp:PlainB nm)(hp2:PlainB nm2)(hne:nm2≠nm)(h:OfJ nm x)(h2:OfJ nm2 y):x≠y:=fun e=>hne (ofJ_of hp2 hp h2 (e▸h))
theorem NowA.tk{D:DiskD}{p:Nat}{A:SP}(h:NowA D p A)(s:StepD):NowA (tick (addS D s)) p A:=h
theorem Stp.stop(nm:ByteArray)(D:DiskD):Stp nm D (stopD D):=⟨fun _ _ _ V c g h=>⟨⟨h.lv.names,h.lv.nowN,h.lv.wf,h.lv.ex,h.lv.fv.step (fun _ _ _ h=>h.stop) (fun _ _ h=>h.stop),h.lv.top,fun c hc=>by
 obtain⟨h1,h2,h3⟩:=h.lv.cur c hc
 exact⟨h1,h2.stop,h3⟩⟩,h.own,h.now⟩,fun _ _ h=>h,fun _ _ _ V h=>⟨h.names,h.wf,h.fv.step (fun _ _ _ h=>h.stop) (fun _ _ h=>h.stop)⟩,rfl⟩
theorem Stp.wr{D:DiskD}(hd:DI D){nm x:ByteArray}(hp:PlainB nm)(hx:OfJ nm x){p:Nat}(hf:mfind x (nmAt D D.steps.length)=some (some p))(a:Int)(s:Sec):Stp nm D (wrOld D p a s):=by
 refine⟨fun d b hne V c g h=>⟨h.lv.wr hd b (ofJ_neu hp b hne hx _) hf,h.own.step fun y hy=>by rw[nmAt_old_len],fun c' hc'=>(h.now c' hc').wr_ne fun e=>?_⟩,fun nms hm h k y hy=>?_,fun d b hne V h=>h.step b (fun k=>by obtain⟨j,e⟩:=nmAt_old D p a s k;exact⟨j,fun x _=>by rw[e]⟩) fun q A y hn hq hF=>hF.wr_ fun e=>?_,rfl⟩
 · obtain⟨⟨_, -⟩, -⟩:= h.lv.cur c' hc'
   have f:=h.lv.nowN.s2 c' (by rw[hc'];simp[VV.addO])
   exact ne_ofJ hp b hne hx (.inr (.inl ⟨_,rfl⟩)) (hd.inj _ _ _ _ hf (e ▸ f))
 · obtain⟨j, e⟩:= nmAt_old D p a s k
   exact h j y (by rwa[← e])
 · subst e
   exact absurd (hd.inj _ _ _ _ hf hq ▸ ofJ_neu hp b hne hx _) hn
theorem Stp.new{D:DiskD}(hd:DI D){nm x:ByteArray}(hp:PlainB nm)(hx:OfJ nm x){p s n:Nat}(hps:p∉psOf D.files)(a:Int)(z:Sec):Stp nm D (wrNew D p s n x a z):=by
 refine⟨fun d b hne V c g h=>⟨h.lv.new hd b (ofJ_neu hp b hne hx _) hps,h.own.step fun y hy=>by rw[nmAt_new_len,find_made,if_neg (ne_ofJ hp b hne hx hy)],fun c' hc'=>(h.now c' hc').new⟩,fun nms hm h k y hy=>?_,fun d b hne V h=>h.step b (fun k=>?_) fun q A y _ hq hF=>hF.new (p:=p) fun e=>hps (e▸hF.mem),rfl⟩
 rcases nmAt_new D p s n x a z k with⟨j,e⟩|e
 ·exact h j y (by rwa[← e])
 · rw[e, find_made]at hy
   split at hy
   · rename_i e1; exact⟨nm,hm,e1▸hx⟩
   ·exact h _ y hy
 · rcases nmAt_new D p s n x a z k with⟨j, q⟩| q
   · exact⟨j, fun y _=>by rw[q]⟩
   ·exact⟨_,fun y hy=>by rw[q,find_made,if_neg (fun q:x=y=>hy (q▸ofJ_neu hp b hne hx _))]⟩
theorem Stp.sync{D:DiskD}(nm:ByteArray)(p:Nat):Stp nm D (syncD D p):=
 ⟨fun nm2 hp2 hne V c g h=>⟨h.lv.sync hp2 p,h.own.step fun y hy=>by rw[len_sync],fun c' hc'=>(h.now c' hc').sync p⟩,fun nms hm h k y hy=>h _ y (by rwa[nmAt_sync]at hy),fun nm2 hp2 hne V h=>h.step hp2 (fun k=>⟨_,fun x _=>by rw[nmAt_sync]⟩) fun q A x _ _ h=>h.sync p,rfl⟩
theorem Stp.rm{D:DiskD}(hd:DI D){nm x:ByteArray}(hp:PlainB nm)(hx:OfJ nm x):Stp nm D (tick (addS D (rmS x))):=by
 refine⟨fun b a hne V c g h=>⟨h.lv.rm hd a (ofJ_neu hp a hne hx _),h.own.step fun y hy=>by rw[len_rm,find_rm (hd.mok _),if_neg (ne_ofJ hp a hne hx hy)],fun c' hc'=>(h.now c' hc').tk _⟩,fun nms hm h k y hy=>?_,fun b a hne V h=>h.step a (fun k=>?_) fun q A x _ _ h=>h.add (by show(2:Int)≠ 3; decide), rfl⟩
 · rcases nmAt_add D (rmS x) k with⟨j, e⟩|e
   ·exact h j y (by rwa[show nmAt (tick (addS D (rmS x))) k=nmAt (addS D (rmS x)) k from rfl, e]at hy)
   · rw[show nmAt (tick (addS D (rmS x))) k = nmAt (addS D (rmS x)) k from rfl, e, find_rm (hd.mok _)]at hy
     split at hy
     · exact absurd rfl hy
     · exact h _ y hy
 · rcases nmAt_add D (rmS x) k with⟨j, q⟩|q
   ·exact⟨j,fun y _=>by rw[show nmAt (tick (addS D (rmS x))) k=nmAt (addS D (rmS x)) k from rfl,q]⟩
   ·exact⟨_,fun y hy=>by rw[show nmAt (tick (addS D (rmS x))) k=nmAt (addS D (rmS x)) k from rfl,q,find_rm (hd.mok _),if_neg (fun q:x=y=>hy (q▸ofJ_neu hp a hne hx _))]⟩
theorem Stp.rn{D:DiskD}(hd:DI D){nm x y:ByteArray}(hp:PlainB nm)(hx:OfJ nm x)(hy:OfJ nm y){o:Option Nat}(hf:mfind x (nmAt D D.steps.length)=some o):Stp nm D (tick (addS D (rnS x y))):=by
 refine⟨fun b a hne V c g h=>⟨h.lv.rn hd a (ofJ_neu hp a hne hx _) (ofJ_neu hp a hne hy _) hf,h.own.step fun z hz=>by rw[len_rm,find_rn (hd.mok _) hf,if_neg (ne_ofJ hp a hne hx hz),if_neg (ne_ofJ hp a hne hy hz)],fun c' hc'=>(h.now c' hc').tk _⟩,fun nms hm h k z hz=>?_,fun b a hne V h=>h.step a (fun k=>?_) fun q A x _ _ h=>h.add (by show(1:Int)≠3; decide), rfl⟩
 · rcases nmAt_add D (rnS x y) k with⟨j, e⟩| e
   · exact h j z (by rwa[show nmAt (tick (addS D (rnS x y))) k = nmAt (addS D (rnS x y)) k from rfl, e]at hz)
   · rw[show nmAt (tick (addS D (rnS x y))) k = nmAt (addS D (rnS x y)) k from rfl, e, find_rn (hd.mok _) hf]at hz
     split at hz
     · exact absurd rfl hz
     · split at hz
       · rename_i e1; exact⟨nm, hm, e1 ▸ hy⟩
       · exact h _ z hz
 · rcases nmAt_add D (rnS x y) k with⟨j, q⟩| q
   ·exact⟨j,fun z _=>by rw[show nmAt (tick (addS D (rnS x y))) k=nmAt (addS D (rnS x y)) k from rfl,q]⟩
   ·exact⟨_,fun z hz=>by rw[show nmAt (tick (addS D (rnS x y))) k=nmAt (addS D (rnS x y)) k from rfl,q,find_rn (hd.mok _) hf,if_neg (fun q:x=z=>hz (q▸ofJ_neu hp a hne hx _)),if_neg (fun q:y=z=>hz (q▸ofJ_neu hp a hne hy _))]⟩
structure Al(D:DiskD)(n:Nat):Prop where
 dead:D.dead=false
 arm:D.armed=true→0≤D.left∧D.left≤9223372036854775807
 st:D.steps.length+n≤1000000000
theorem Al.mono{D:DiskD}{n m:Nat}(h:Al D n)(hm:m≤n):Al D m:=⟨h.dead,h.arm,by have:=h.st;omega⟩
theorem Al.hl{D:DiskD}{n:Nat}(h:Al D n):D.armed=true→-9223372036854775808<D.left∧D.left≤9223372036854775807:=fun ha=>by
 have:=h.arm ha
 omega
theorem Al.hst{D:DiskD}{n:Nat}(h:Al D n):D.steps.length≤1000000000:=by have:=h.st;omega
theorem Al.go{D D':DiskD}{n m:Nat}(h:Al D n)(hs:¬Stops D)(h1:D'.dead=D.dead)(h2:D'.armed=D.armed)(h3:D'.left=lf D.armed D.left)(h4:D'.steps.length+m≤D.steps.length+n):Al D' m:=by
 refine⟨h1.trans h.dead,fun ha=>?_,by have:=h.st;omega⟩
 rw[h2]at ha
 have a:=h.arm ha
 have b:¬D.left<1:=fun hl=>hs ⟨ha,hl⟩
 rw[h3]
 unfold lf
 rw[ha]
 simp only[if_true]
 omega
theorem sec_back(s:Sec)(h:∀i,64≤i→s i=0#8):secOf (secL s)=s:=by
 funext i
 unfold secOf secL
 rw[List.getD_eq_getElem?_getD]
 rcases Nat.lt_or_ge i 64 with hi|hi
 · rw[List.getElem?_eq_getElem (by simpa using hi)]
   simp
 · rw[List.getElem?_eq_none (by simpa using hi)]
   exact(h i hi).symm
theorem secB_back{c:Bs}(h:c.length≤63):secOf (secL (secB c))=secB c:=sec_back _ fun i hi=>by
 unfold secB
 rw[List.getD_eq_getElem?_getD,List.getElem?_eq_none (by rw[List.length_cons];omega)];rfl
theorem wr_out{D D':DiskD}(hd:DI D){n:Nat}(ha:Al D (n+2)){x:ByteArray}(hx:FForm x){i:Nat}(hi:i<65536)(hroom:mfind x (nmAt D D.steps.length)=none→D.now.length<256){c:Bs}(hc:c.length≤63){e:Int}(h:WriteR D x (i:Int) (secL (secB c)) e D'):
 (e=70∧D'=stopD D∧D.armed=true)∨(e=0∧Al D' n∧DI D'∧((∃p,mfind x (nmAt D D.steps.length)=some (some p)∧D'=wrOld D p (i:Int) (secB c))∨(mfind x (nmAt D D.steps.length)=none∧∃p s m,p∉psOf D.files∧D'=wrNew D p s m x (i:Int) (secB c)))):=by
 have hok:=h.ok hd.ok (by have:=hx.size.1;unfold maxLen;omega)
 have hw:wArg D x (i:Int) (secL (secB c))=0:=by
  unfold wArg
  rw[if_neg (by have:=hx.size.2;have:=secL_len (secB c);omega),if_neg]
  rintro⟨a,b⟩
  rw[nm_now hd.ok]at a
  have:=hroom a
  omega
 rcases h with⟨a,b,-⟩|⟨a,-,d,b⟩|⟨a,-,hs,p,hp,rfl⟩|⟨a,-,hs,hp,p,s,m,hps,rfl⟩
 ·exact absurd (a.trans hw) b
 · exact .inl ⟨a, b, d.1⟩
 · rw[secB_back hc]at hok ⊢
   refine .inr ⟨a, ha.go hs rfl rfl rfl ?_, hd.old hok, .inl ⟨p, by rw[← nm_now hd.ok]; exact hp, rfl⟩⟩
   show(D.steps ++ [_]).length + n ≤ _
   rw[List.length_append, List.length_singleton]; omega
 · rw[secB_back hc]at hok ⊢
   refine .inr ⟨a,ha.go hs rfl rfl rfl ?_,hd.new hok hx hps,.inr ⟨by rw[←nm_now hd.ok];exact hp,p,s,m,hps,rfl⟩⟩
   show(D.steps++[_]++[_]).length+n≤_
   rw[List.length_append,List.length_append,List.length_singleton,List.length_singleton];omega
theorem sync_out{D D':DiskD}(hd:DI D){n:Nat}(ha:Al D n){x:ByteArray}{p:Nat}(hx:mfind x (nmAt D D.steps.length)=some (some p)){e:Int}(h:SyncR D x e D'):(e=70∧D'=stopD D∧D.armed=true)∨(e=0∧Al D' n∧DI D'∧D'=syncD D p):=by
 rw[←nm_now hd.ok]at hx
 rcases h with⟨-,a,-⟩|⟨b,-,c,a⟩|⟨b,hs,q,hq,rfl⟩
 ·rw[hx]at a;cases a
 ·exact .inl ⟨b,a,c.1⟩
 · rw[hx]at hq
   injection hq with hq; injection hq with hq
   subst hq
   refine .inr ⟨b, ha.go hs rfl rfl rfl ?_, hd.sync p, rfl⟩
   show(leftS p D.steps).length+n≤_
   have:(leftS p D.steps).length≤D.steps.length:=List.length_filter_le _ _
   omega
theorem rm_out{D D':DiskD}(hd:DI D){n:Nat}(ha:Al D (n+1)){x:ByteArray}(hs:x.size≤maxLen)(hx:mfind x (nmAt D D.steps.length)≠none){e:Int}(h:RemoveR D x e D'):(e=70∧D'=stopD D∧D.armed=true)∨(e=0∧Al D' n∧DI D'∧D'=tick (addS D (rmS x))):=by
 rw[←nm_now hd.ok]at hx
 rcases h with⟨-,a,-⟩|⟨b,-,c,a⟩|⟨b,hst,-,rfl⟩
 ·exact absurd a hx
 · exact .inl ⟨b, a, c.1⟩
 · refine .inr ⟨b, ha.go hst rfl rfl rfl ?_,hd.rm hs,rfl⟩
   show(D.steps++[_]).length+n≤_
   rw[List.length_append,List.length_singleton];omega
theorem rn_out{D D':DiskD}(hd:DI D){n:Nat}(ha:Al D (n+1)){x y:ByteArray}(hfx:FForm x)(hfy:FForm y)(hne:x≠y){p:Nat}(hx:mfind x (nmAt D D.steps.length)=some (some p)){e:Int}(h:RenameR D x y e D'):(e=70∧D'=stopD D∧D.armed=true)∨(e=0∧Al D' n∧DI D'∧D'=tick (addS D (rnS x y))):=by
 have c:=hx
 rw[←nm_now hd.ok]at hx
 rcases h with⟨-,a,-⟩|⟨-,-,a,-⟩|⟨b,-,-,d,a⟩|⟨b,-,-,hst,⟨a,-⟩|⟨-,rfl⟩⟩
 ·rw[hx]at a;cases a
 ·exact absurd hfy.size.2 a
 ·exact .inl ⟨b,a,d.1⟩
 · exact absurd (toList_inj a) hne
 · have f := hfx.size.1
   have h64' := hfy.size.1
   refine .inr ⟨b,ha.go hst rfl rfl rfl ?_,hd.rn (by unfold maxLen;omega) (by unfold maxLen;omega) hfy c,rfl⟩
   show(D.steps++[_]).length+n≤_
   rw[List.length_append,List.length_singleton];omega
theorem nodup_len{α:Type}[DecidableEq α]:∀{l m:List α},l.Nodup→(∀x∈l,x∈m)→l.length≤m.length
 |[],_,_,_=>Nat.zero_le _
 |x::l,m,hn,hs=>by
  obtain⟨h1,h2⟩:=List.nodup_cons.1 hn
  have hx:=hs x (List.mem_cons_self ..)
  have h3:=nodup_len (l:=l) (m:=m.erase x) h2 fun y hy=>(List.mem_erase_of_ne (fun e:y=x=>h1 (e▸hy))).2 (hs y (List.mem_cons_of_mem _ hy))
  rw[List.length_erase_of_mem hx]at h3
  have:=List.length_pos_of_mem hx
  rw[List.length_cons];omega
theorem names_len{D:DiskD}(hd:DI D){l:List ByteArray}(h:∀x,mfind x (nmAt D D.steps.length)≠none→x∈l):D.now.length≤l.length:=by
 have a:=nodup_len (l:=D.now.map (·.1)) (m:=l) hd.ok.mnow.keys fun x hx=>h x (by
  rw[←nm_now hd.ok]
  exact fun q=>mfind_none.1 q hx)
 rwa[List.length_map]at a
def NmC(D:DiskD)(k j:Nat):Prop:=∃l:List ByteArray,l.length≤j∧∀x,mfind x (nmAt D k)≠none→x∈l
def Cap(D:DiskD)(m:Nat):Prop:=∀k,NmC D k m
theorem NmC.mono{D:DiskD}{k i j:Nat}(h:NmC D k i)(hij:i≤j):NmC D k j:=by obtain⟨l,h1,h2⟩:=h;exact⟨l,Nat.le_trans h1 hij,h2⟩
theorem Cap.mono{D:DiskD}{i j:Nat}(h:Cap D i)(hij:i≤j):Cap D j:=fun k=>(h k).mono hij
theorem NmC.now{D:DiskD}(hd:DI D){j:Nat}(h:NmC D D.steps.length j):D.now.length≤j:=by
 obtain⟨l,a,b⟩:=h
 exact Nat.le_trans (names_len hd b) a
theorem NmC.of{D D':DiskD}{k k' j:Nat}(h:NmC D k j)(he:nmAt D' k'=nmAt D k):NmC D' k' j:=by
 obtain⟨l,a,b⟩:=h
 exact⟨l,a,fun x hx=>b x (by rwa[←he])⟩
def Cp(c:Nat)(D D':DiskD):Prop:=∀j,NmC D D.steps.length j→NmC D' D'.steps.length (j+c)∧∀m,j+c≤m→Cap D m→Cap D' m
theorem Cp.refl(D:DiskD)(c:Nat):Cp c D D:=fun _ h=>⟨h.mono (Nat.le_add_right _ _),fun _ _ h=>h⟩
theorem Cp.trans{a b:Nat}{D1 D2 D3:DiskD}(h:Cp a D1 D2)(k:Cp b D2 D3):Cp (a+b) D1 D3:=fun j hj=>by
 obtain⟨h1,h2⟩:=h j hj
 obtain⟨k1,k2⟩:=k _ h1
 exact⟨by rwa[←Nat.add_assoc],fun m hm hc=>k2 m (by omega) (h2 m (by omega) hc)⟩
theorem Cp.then{a:Nat}{D1 D2 D3:DiskD}(h:Cp a D1 D2)(k:Cp 0 D2 D3):Cp a D1 D3:=h.trans k
theorem Cp.stop(D:DiskD):Cp 0 D (stopD D):=fun _ h=>⟨h,fun _ _ h=>h⟩
theorem Cp.wr(D:DiskD)(p:Nat)(a:Int)(s:Sec):Cp 0 D (wrOld D p a s):=fun _ h=>⟨h.of (nmAt_old_len D p a s),fun m _ hc k=>by obtain⟨j,e⟩:=nmAt_old D p a s k;exact(hc j).of e⟩
theorem Cp.sync(D:DiskD)(p:Nat):Cp 0 D (syncD D p):=fun _ h=>⟨h.of (len_sync D p),fun m _ hc k=>(hc _).of (nmAt_sync p k)⟩
theorem Cp.new(D:DiskD)(p s n:Nat)(x:ByteArray)(a:Int)(z:Sec):Cp 1 D (wrNew D p s n x a z):=fun j h=>by
 obtain⟨l,h1,h2⟩:=h
 have hm:∀{k},nmAt (wrNew D p s n x a z) k=(mapN (nmL D D.steps.length) ⟨0,some p,noS,x,0,zeroSec⟩).1→NmC (wrNew D p s n x a z) k (j+1):=fun{k}e=>by
  refine⟨x::l,by rw[List.length_cons];omega,fun y hy=>?_⟩
  rw[e,find_made]at hy
  split at hy
  ·rename_i e1;rw[e1];exact List.mem_cons_self ..
  ·exact List.mem_cons_of_mem _ (h2 y hy)
 refine⟨hm (nmAt_new_len ..),fun m hj hc k=>?_⟩
 rcases nmAt_new D p s n x a z k with⟨i,e⟩|e
 ·exact(hc i).of e
 ·exact(hm e).mono hj
theorem Cp.add{D:DiskD}{s:StepD}(hj:∀j,NmC D D.steps.length j→∃l:List ByteArray,l.length≤j∧∀x,mfind x (mapN (nmL D D.steps.length) s).1≠none→x∈l):Cp 0 D (tick (addS D s)):=fun j h=>by
 obtain⟨l,h1,h2⟩:=hj j h
 have hm:∀{k},nmAt (tick (addS D s)) k=(mapN (nmL D D.steps.length) s).1→NmC (tick (addS D s)) k j:=fun{k}e=>⟨l,h1,fun x hx=>h2 x (by rwa[←e])⟩
 refine⟨hm (len_rm D s),fun m hj hc k=>?_⟩
 rcases nmAt_add D s k with⟨i,e⟩|e
 ·exact(hc i).of e
 ·exact(hm e).mono hj
theorem Cp.rm{D:DiskD}(hd:DI D)(x:ByteArray):Cp 0 D (tick (addS D (rmS x))):=Cp.add fun j h=>by
 obtain⟨l,h1,h2⟩:=h
 refine⟨l,h1,fun y hy=>?_⟩
 rw[find_rm (hd.mok _)]at hy
 split at hy
 ·exact absurd rfl hy
 ·exact h2 y hy
theorem swap_len{α:Type}[DecidableEq α]{l:List α}{x y:α}(hx:x∈l):∃l':List α,l'.length≤l.length∧y∈l'∧∀z∈l,z≠x→z∈l':=by
 refine⟨y::l.erase x,?_,List.mem_cons_self ..,fun z hz hne=>List.mem_cons_of_mem _ ((List.mem_erase_of_ne hne).2 hz)⟩
 rw[List.length_cons,List.length_erase_of_mem hx]
 have:=List.length_pos_of_mem hx
 omega
theorem Cp.rn{D:DiskD}(hd:DI D){x y:ByteArray}{o:Option Nat}(hf:mfind x (nmAt D D.steps.length)=some o):Cp 0 D (tick (addS D (rnS x y))):=Cp.add fun j h=>by
 obtain⟨l,h1,h2⟩:=h
 have hx:=h2 x (by rw[hf];nofun)
 obtain⟨l',k1,k2,k3⟩:=swap_len (y:=y) hx
 refine⟨l',Nat.le_trans k1 h1,fun z hz=>?_⟩
 rw[find_rn (hd.mok _) hf]at hz
 split at hz
 · exact absurd rfl hz
 · rename_i h3
   split at hz
   · rename_i e;rw[←e];exact k2
   ·exact k3 z (h2 z hz) fun e=>h3 e.symm
theorem Cap.crash{D:DiskD}{m:Nat}(h:Cap D m)(xs:List (BitVec 8))(ns:Nat→Nat)(nb:Nat):Cap (crashD D xs ns nb) m:=fun k=>by
 obtain⟨i,e⟩:=nmAt_crash (D:=D) xs ns nb
 exact(h i).of (e k)
theorem AllOf.crash{D:DiskD}{nms:List ByteArray}(h:AllOf D nms)(xs:List (BitVec 8))(ns:Nat→Nat)(nb:Nat):AllOf (crashD D xs ns nb) nms:=fun k x hx=>by
 obtain⟨i,e⟩:=nmAt_crash (D:=D) xs ns nb
 exact h i x (by rwa[←e k])
end Go.Proofs.YtdnibpclkhenmaaGreatDoor

namespace Go.Proofs.YtdnibpclkhenmaaGreatDoor
open Go.BX
structure Rdy(D:DiskD):Prop where
 di:DI D
 dead:D.dead=false
 st:D.steps.length≤1000000000
 hl:D.armed=true→-9223372036854775808<D.left∧D.left≤9223372036854775807
theorem Al.rdy{D:DiskD}{n:Nat}(h:Al D n)(hd:DI D):Rdy D:=⟨hd,h.dead,h.hst,h.hl⟩
structure WrP(x:ByteArray)(τ:Bs)(Pd:Nat→DiskD→Prop)(Qd:DiskD→Prop):Prop where
 go:∀i D,Pd i D→Rdy D
 step:∀i D e D',Pd i D→63*i<τ.length→WriteR D x (i:Int) (secL (secB (chunkF τ i))) e D'→(e=0∧Pd (i+1) D')∨(e=70∧Qd D')
structure Dd(D0 D:DiskD)(nm:ByteArray)(G:Nat)(P:Bs→List Bs→List Bs→Prop):Prop where
 di:DI D
 dead:D.dead=true
 st:D.steps.length≤1000000000
 js:JS D nm G P
 stp:Stp nm D0 D
 cp:Cp 1 D0 D
 arm:D0.armed=true
theorem Dd.mono{D0 D:DiskD}{nm:ByteArray}{G G':Nat}{P P':Bs→List Bs→List Bs→Prop}(h:Dd D0 D nm G P)(hG:G≤G')(hP:∀B lo hi,P B lo hi→P' B lo hi):Dd D0 D nm G' P':=⟨h.di,h.dead,h.st,h.js.mono hG hP,h.stp,h.cp,h.arm⟩
theorem Dd.of{D0 D:DiskD}{nm:ByteArray}{G n:Nat}{P:Bs→List Bs→List Bs→Prop}(hd:DI D)(ha:Al D n)(hj:JS D nm G P)(hs:Stp nm D0 D)(hc:Cp 1 D0 D)(har:D.armed=true):Dd D0 (stopD D) nm G P:=⟨hd.stop,rfl,ha.hst,hj.stop,hs.trans (Stp.stop nm D),hc.then (Cp.stop D),hs.arm▸har⟩
def dry(D:DiskD):DiskD:={D with steps:=[]}
def Dry(D D':DiskD):Prop:=∀nm G P,JS (dry D) nm G P→JS (dry D') nm G P
theorem Dry.refl(D:DiskD):Dry D D:=fun _ _ _ h=>h
theorem Dry.trans{A B C:DiskD}(h:Dry A B)(k:Dry B C):Dry A C:=fun nm G P hj=>k nm G P (h nm G P hj)
theorem nmAt_dry(D:DiskD)(k:Nat):nmAt (dry D) k=D.safe:=by
 unfold nmAt nmL dry
 rw[List.take_nil];rfl
theorem Dry.of{D D':DiskD}(hs:D'.safe=D.safe)(hf:∀q A,(∃f∈D.files,f.p=q∧XA A f.safe)→∃f∈D'.files,f.p=q∧XA A f.safe):Dry D D':=fun nm G P hj=>
 hj.step (fun k=>⟨0,fun V _ h=>by rw[nmAt_dry]at h⊢;rwa[hs]⟩) fun q A h=>⟨hf q A h.safe,fun x hx=>(by cases hx)⟩
theorem Dry.wr(D:DiskD)(p:Nat)(a:Int)(s:Sec):Dry D (wrOld D p a s):=Dry.of rfl fun q A⟨f,k1,k2,k3⟩=>⟨_,updF_mem (p:=p) (g:=putB a s) k1,by split<;>exact k2,by split<;>exact k3⟩
theorem Dry.new(D:DiskD)(p s n:Nat)(x:ByteArray)(a:Int)(z:Sec):Dry D (wrNew D p s n x a z):=Dry.of rfl fun q A⟨f,k1,k2,k3⟩=>⟨f,List.mem_cons_of_mem _ k1,k2,k3⟩
def gO(g:Nat):Option Sg→Nat
 |none=>g+1
 |some _=>g
theorem fform_s{nm:ByteArray}(hp:PlainB nm){n:Nat}(h1:1≤n)(h2:n≤1000000):FForm (sN nm n):=.file hp (.inl rfl) h1 h2
theorem fform_c{nm:ByteArray}(hp:PlainB nm){n:Nat}(h1:1≤n)(h2:n≤1000000):FForm (cN nm n):=.file hp (.inr rfl) h1 h2
structure ApS(D0:DiskD)(nm:ByteArray)(V:VV)(cur:Option Sg)(g:Nat)(r:Bs)(n i:Nat)(D:DiskD):Prop where
 di:DI D
 al:Al D (n+200000-2*i)
 stp:Stp nm D0 D
 dry:Dry D0 D
 cp:Cp 1 D0 D
 way:(i=0∧cur=none∧D=D0)∨∃c,c.hi=hiO cur++[r]∧c.lo=loO cur∧LV D nm V (some c) (gO g cur)∧OwnN D nm V (some c)∧NowA D c.p (PartA (framesF (hiO cur)) (framesF (hiO cur++[r])) i)
theorem LV.segN{D:DiskD}{nm:ByteArray}{V:VV}{c:Sg}{g:Nat}(h:LV D nm V (some c) g):mfind (sN nm g) (nmAt D D.steps.length)=some (some c.p)∧c.n=g∧1≤g:=by
 obtain⟨⟨a,_,-⟩,-⟩:=h.cur c rfl
 have:=h.nowN.s2 c (List.mem_append_right _ (List.mem_singleton_self _))
 rw[a]at this
 exact⟨this,a,by omega⟩
theorem OwnN.same{D D':DiskD}{nm:ByteArray}{V:VV}{cur cur':Option Sg}(h:OwnN D nm V cur)(he:nmAt D' D'.steps.length=nmAt D D.steps.length)(hc:∀s∈(V.addO cur).segs,∃t∈(V.addO cur').segs,t.n=s.n):OwnN D' nm V cur':=fun x hx hn=>by
 rcases h x hx (by rwa[←he])with h1|h1|⟨s,hs,rfl⟩
 ·exact .inl h1
 ·exact .inr (.inl h1)
 · obtain⟨t, ht, e⟩:=hc s hs
   exact .inr (.inr ⟨t,ht,by rw[e]⟩)
theorem ApS.start{D:DiskD}(hd:DI D){nm:ByteArray}{V:VV}{cur:Option Sg}{g n:Nat}{r:Bs}(ha:Al D (n+200000))(h:LJ D nm V cur g)(hr:r.length≤4194304):ApS D nm V cur g r n ((framesF (hiO cur)).length/63) D:=by
 refine⟨hd,ha.mono (by omega),Stp.refl _ _,Dry.refl _,Cp.refl _ _,?_⟩
 cases cur with
 |none=>exact .inl ⟨rfl,rfl,rfl⟩
 |some c=>
  obtain⟨-,-,-,a,-⟩:=h.lv.cur c rfl
  refine .inr ⟨⟨c.n,c.p,c.lo,c.hi++[r]⟩,rfl,rfl,h.lv.more (List.prefix_append _ _) (fun b hb =>?_), h.own.same rfl (fun s hs =>?_), (h.now c rfl).mono (part_start (frames_prefix (List.prefix_append _ _)))⟩
  · rcases List.mem_append.1 hb with hb|hb
    ·exact a b hb
    ·rw[List.mem_singleton.1 hb];exact hr
  · rcases List.mem_append.1 hs with hs | hs
    · exact⟨s, List.mem_append_left _ hs, rfl⟩
    · have : s =c:=by simpa using hs
      subst this
      exact⟨_,List.mem_append_right _ (List.mem_singleton_self _),rfl⟩
theorem apP{D0:DiskD}{nm:ByteArray}(hp:PlainB nm){V:VV}{cur:Option Sg}{g n:Nat}{r:Bs}(h0:LJ D0 nm V cur g)(hg:g<1000000)(hr:r.length≤4194304)(hlen:(framesF (hiO cur++[r])).length≤4000000)(hroom:D0.now.length<256):
 WrP (sN nm (gO g cur)) (framesF (hiO cur++[r])) (ApS D0 nm V cur g r n) (fun D=>Dd D0 D nm (gO g cur) fun B lo hi=>B=V.B∧V.hi++loO cur<+:lo∧hi<+:V.hi++(hiO cur++[r])):=by
 refine⟨fun i D h=>h.al.rdy h.di,fun i D e D' h hi hw=>?_⟩
 have d:i<65536:=by omega
 have hgO:1≤gO g cur∧gO g cur≤1000000:=by
  cases cur with
  |none=>exact⟨Nat.succ_pos _,hg⟩
  |some c=>exact⟨h0.lv.segN.2.2,Nat.le_of_lt hg⟩
 have hF:=fform_s hp hgO.1 hgO.2
 have hOf:OfJ nm (sN nm (gO g cur)):=.inr (.inl ⟨_,rfl⟩)
 have ha:Al D ((n+200000-2*(i+1))+2):=h.al.mono (by omega)
 have hsN:∀{a b},sN nm a=sN nm b→a=b:=fun e=>(fN_inj hp hp (.inl rfl) (.inl rfl) e).2.2
 rcases h.way with⟨rfl,rfl,rfl⟩|⟨c,f,l,hL,hO,hN⟩
 · have hroom' : mfind (sN nm (gO g none)) (nmAt D D.steps.length) = none → D.now.length < 256 := fun _ => hroom
   have habs : mfind (sN nm (g + 1)) (nmAt D D.steps.length) = none:=by
    cases hm:mfind (sN nm (g+1)) (nmAt D D.steps.length)with
    |none=>rfl
    |some o=>
     obtain⟨s,hs,e⟩:=h0.lv.nowN.s1 (g+1) (by show V.last<g+1;have:=h0.lv.top.1;omega) (by rw[hm];nofun)
     rw[VV.addO_none]at hs
     have:=h0.lv.top.2 s hs
     omega
   rcases wr_out h.di ha hF d hroom' (chunk_le _ _) hw with⟨rfl,rfl,har⟩|⟨rfl,ha',hd',⟨p,hq,-⟩|⟨-,p,s,m, hps, rfl⟩⟩
   · exact .inr ⟨rfl, Dd.of h.di h.al (h0.lv.js.mono (Nat.le_succ g) fun B lo hi hh =>⟨hh.1, hh.2.1, hh.2.2.trans (List.prefix_append_right_inj _ |>.2 (List.prefix_append _ _))⟩) h.stp h.cp har⟩
   · rw[show sN nm (gO g none) = sN nm (g + 1)from rfl, habs]at hq; cases hq
   · refine .inl ⟨rfl, hd', ha', (h.stp.trans (Stp.new h.di hp hOf hps _ _)), h.dry.trans (Dry.new _ _ _ _ _ _ _), Cp.new _ _ _ _ _ _ _, .inr ⟨⟨g + 1, p, [], [r]⟩, rfl, rfl, h0.lv.begin h.di hp hr hps, fun x hx hn =>?_, ?_⟩⟩
     · rw[nmAt_new_len, find_made]at hn
       split at hn
       · rename_i e
         exact .inr (.inr ⟨_, List.mem_append_right _ (List.mem_singleton_self _), e.symm⟩)
       · rcases h0.own x hx hn with k | k |⟨t, ht, e⟩
         · exact .inl k
         · exact .inr (.inl k)
         · rw[VV.addO_none]at ht
           exact .inr (.inr ⟨t, List.mem_append_left _ ht, e⟩)
     · refine NowA.fresh part_new fun j hj =>?_
       unfold PartA
       rw[if_neg (by omega)]
       show zeroSec = secB (chunkF [] j)
       rw[chunk_nil, secB_zero]
 · have hseg:=hL.segN
   rcases wr_out h.di ha hF d (fun hn=>by rw[hseg.1]at hn;cases hn) (chunk_le _ _) hw with⟨rfl,rfl,har⟩|⟨rfl,ha',hd',⟨p,hq,rfl⟩|⟨hq,-⟩⟩
   ·exact .inr ⟨rfl,Dd.of h.di h.al (hL.js.mono (Nat.le_refl _) fun B lo hi hh=>⟨hh.1,by rw[←l];exact hh.2.1, by rw[← f]; exact hh.2.2⟩) h.stp h.cp har⟩
   · rw[hseg.1]at hq
     injection hq with hq; injection hq with hq
     subst hq
     refine .inl ⟨rfl, hd', ha', h.stp.trans (Stp.wr h.di hp hOf hseg.1 _ _), h.dry.trans (Dry.wr _ _ _ _), h.cp.then (Cp.wr _ _ _ _), .inr ⟨c, f, l, hL.wrC h.di hp ⟨i, rfl, ?_⟩, hO.same (nmAt_old_len ..) (fun s hs =>⟨s,hs,rfl⟩),hN.wr_own part_new part_step⟩⟩
     obtain⟨-,-,u,-⟩:=hL.cur c rfl
     have:=frames_prefix u
     rw[f]at this⊢
     refine⟨_,rfl,?_,List.prefix_refl _⟩
     obtain⟨q,hq⟩:=this
     rw[←hq]
     unfold chunkF
     rw[List.drop_append,List.take_append]
     exact List.prefix_append _ _
   ·rw[hseg.1]at hq;cases hq
theorem ApS.done{D0 D:DiskD}{nm:ByteArray}{V:VV}{cur:Option Sg}{g n i:Nat}{r:Bs}(h:ApS D0 nm V cur g r n i D)(hi:(framesF (hiO cur++[r])).length≤63*i)(hne:0<(framesF (hiO cur++[r])).length):∃c,c.hi=hiO cur++[r]∧c.lo=loO cur∧LJ D nm V (some c) (gO g cur):=by
 rcases h.way with⟨rfl,-⟩|⟨c,a,b,hL,hO, hN⟩
 · omega
 · refine⟨c, a,b,hL,hO,fun c' hc'=>?_⟩
   injection hc' with hc'
   subst hc'
   have:=hN.mono (part_end (frames_prefix (List.prefix_append _ _)) hi)
   rwa[←a]at this
theorem syncJ{D D':DiskD}(hd:DI D){nm:ByteArray}(hp:PlainB nm){V:VV}{c:Sg}{g n:Nat}(ha:Al D n)(h:LJ D nm V (some c) g){e:Int}(hs:SyncR D (sN nm g) e D'):
 (e=70∧Dd D D' nm g fun B lo hi=>B=V.B∧V.hi++c.lo<+:lo∧hi<+:V.hi++c.hi)∨(e=0∧DI D'∧Al D' n∧Stp nm D D'∧Cp 1 D D'∧LJ D' nm V (some ⟨c.n,c.p,c.hi,c.hi⟩) g):=by
 have hseg:=h.lv.segN
 rcases sync_out hd ha hseg.1 hs with⟨rfl,rfl,har⟩|⟨rfl, ha', hd', rfl⟩
 · exact .inl ⟨rfl, Dd.of hd ha h.lv.js (Stp.refl _ _) (Cp.refl _ _) har⟩
 · refine .inr ⟨rfl,hd',ha',Stp.sync nm _,(Cp.refl _ 1).then (Cp.sync _ _),h.lv.syncC hd hp (h.now c rfl),h.own.same (len_sync ..) (fun s hs =>?_), fun c' hc' =>?_⟩
   · rcases List.mem_append.1 hs with hs | hs
     · exact⟨s, List.mem_append_left _ hs, rfl⟩
     · have : s = c := by simpa using hs
       subst this
       exact⟨_, List.mem_append_right _ (List.mem_singleton_self _), rfl⟩
   · injection hc' with hc'
     subst hc'
     exact(h.now c rfl).sync _
def Junk(nm:ByteArray)(l:Nat)(x:ByteArray):Prop:=(∃n,x=cN nm n∧n<l)∨(∃n,x=sN nm n∧n<l)∨x=tN nm
theorem Junk.of{nm:ByteArray}{l:Nat}{x:ByteArray}(h:Junk nm l x):OfJ nm x:=by
 rcases h with⟨n,h,-⟩|⟨n,h,-⟩|h
 ·exact .inl ⟨n,h⟩
 ·exact .inr (.inl ⟨n,h⟩)
 ·exact .inr (.inr h)
theorem Junk.neu{nm:ByteArray}(hp:PlainB nm){l:Nat}{x:ByteArray}(h:Junk nm l x):Neu nm l x:=by
 rcases h with⟨n,rfl,hn⟩|⟨n,rfl,hn⟩|rfl
 ·exact⟨fun m e=>by have:=(fN_inj hp hp (.inr rfl) (.inr rfl) e).2.2;omega,fun m e=>absurd (fN_inj hp hp (.inr rfl) (.inl rfl) e).2.1 (by decide)⟩
 ·exact⟨fun m e=>absurd (fN_inj hp hp (.inl rfl) (.inr rfl) e).2.1 (by decide),fun m e=>by have:=(fN_inj hp hp (.inl rfl) (.inl rfl) e).2.2;omega⟩
 ·exact⟨fun m e=>absurd e.symm (fN_ne_t hp hp (.inr rfl)),fun m e=>absurd e.symm (fN_ne_t hp hp (.inl rfl))⟩
structure DrS(D0:DiskD)(nm:ByteArray)(V:VV)(g n:Nat)(rest:List ByteArray)(D:DiskD):Prop where
 di:DI D
 al:Al D (n+rest.length)
 lv:LV D nm V none g
 stp:Stp nm D0 D
 cp:Cp 1 D0 D
 nd:rest.Nodup
 mem:∀x∈rest,mfind x (nmAt D D.steps.length)≠none
 junk:∀x,Junk nm V.last x→mfind x (nmAt D D.steps.length)≠none→x∈rest
theorem DrS.skip{D0 D:DiskD}{nm:ByteArray}{V:VV}{g n:Nat}{x:ByteArray}{rest:List ByteArray}(h:DrS D0 nm V g n (x::rest) D)(hx:¬Junk nm V.last x):DrS D0 nm V g n rest D:=
 ⟨h.di,h.al.mono (by rw[List.length_cons];omega),h.lv,h.stp,h.cp,(List.nodup_cons.1 h.nd).2,fun y hy=>h.mem y (List.mem_cons_of_mem _ hy),fun y hy hn=>by
  rcases List.mem_cons.1 (h.junk y hy hn)with rfl|h1
  ·exact absurd hy hx
  ·exact h1⟩
theorem DrS.rm{D0 D D':DiskD}{nm:ByteArray}(hp:PlainB nm){V:VV}{g n:Nat}{x:ByteArray}{rest:List ByteArray}(h:DrS D0 nm V g n (x::rest) D)(hx:Junk nm V.last x){e:Int}(hr:RemoveR D x e D'):
 (e=70∧Dd D0 D' nm g fun B lo hi=>B=V.B∧V.hi<+:lo∧hi<+:V.hi)∨(e=0∧DrS D0 nm V g n rest D'):=by
 have hm:=h.mem x (List.mem_cons_self ..)
 have hsz:x.size≤maxLen:=by
  obtain⟨o,ho⟩:=Option.ne_none_iff_exists'.1 hm
  have:=(h.di.form _ _ _ ho).size.1
  unfold maxLen;omega
 obtain⟨a,b⟩:=List.nodup_cons.1 h.nd
 rcases rm_out h.di (n:=n+rest.length) (h.al.mono (by rw[List.length_cons];omega)) hsz hm hr with⟨rfl,rfl,har⟩|⟨rfl,ha', hd', rfl⟩
 · refine .inl ⟨rfl, Dd.of h.di h.al (h.lv.js.mono (Nat.le_refl _) fun B lo hi hh =>⟨hh.1, ?_, ?_⟩) h.stp h.cp har⟩
   · have := hh.2.1; simpa[loO]using this
   · have := hh.2.2; simpa[hiO]using this
 · have hf:∀y,mfind y (nmAt (tick (addS D (rmS x))) (tick (addS D (rmS x))).steps.length)=if x=y then none else mfind y (nmAt D D.steps.length):=fun y=>by rw[len_rm,find_rm (h.di.mok _)]
   refine .inr ⟨rfl,hd',ha',h.lv.rm h.di hp (hx.neu hp), h.stp.trans (Stp.rm h.di hp hx.of), h.cp.then (Cp.rm h.di _), b, fun y hy =>?_, fun y hy hn =>?_⟩
   · rw[hf,if_neg (fun e:x=y=>a (e▸ hy))]
     exact h.mem y (List.mem_cons_of_mem _ hy)
   · rw[hf]at hn
     split at hn
     · exact absurd rfl hn
     · rename_i hne
       rcases List.mem_cons.1 (h.junk y hy hn)with e | c
       · exact absurd e.symm hne
       · exact c
theorem DrS.done{D0 D:DiskD}{nm:ByteArray}(hp:PlainB nm){V:VV}{g n:Nat}(h:DrS D0 nm V g n [] D):LJ D nm V none g:=by
 refine⟨h.lv,fun x hx hn=>?_,fun c hc=>(by cases hc)⟩
 have hj:¬Junk nm V.last x:=fun q=>by cases h.junk x q hn
 have a:NV nm (nmAt D D.steps.length) V:=by have:=h.lv.nowN; rwa[VV.addO_none]at this
 rw[VV.addO_none]
 rcases hx with⟨n, rfl⟩|⟨n, rfl⟩| rfl
 · have f:=a.c1 n hn
   have d:¬n<V.last:=fun q=>hj (.inl ⟨n,rfl,q⟩)
   exact .inl (by rw[show n= V.last by omega])
 · have d : ¬ n<V.last:=fun q=>hj (.inr (.inl ⟨n,rfl,q⟩))
   rcases Nat.lt_or_ge V.last n with b|b
   · obtain⟨s, hs, e⟩:= a.s1 n b hn
     exact .inr (.inr ⟨s, hs,by rw[e]⟩)
   ·exact .inr (.inl (by rw[show n=V.last by omega]))
 ·exact absurd (.inr (.inr rfl)) hj
theorem DrS.start{D0 D:DiskD}(hd:DI D){nm:ByteArray}{V:VV}{g n:Nat}(ha:Al D (n+D.now.length))(h:LV D nm V none g)(hs:Stp nm D0 D)(hc:Cp 1 D0 D){ns:List ByteArray}(hns:ns.Perm (D.now.map (·.1))):DrS D0 nm V g n ns D:=by
 have hl:ns.length=D.now.length:=by rw[hns.length_eq,List.length_map]
 have hmem:∀x,x∈ns↔mfind x (nmAt D D.steps.length)≠none:=fun x=>by
  rw[←nm_now hd.ok,hns.mem_iff]
  exact⟨fun hx q=>mfind_none.1 q hx,fun q=>Classical.byContradiction fun hx=>q (mfind_none.2 hx)⟩
 exact⟨hd,by rw[hl];exact ha,h,hs,hc,hns.nodup_iff.2 hd.ok.mnow.keys,fun x hx=>(hmem x).1 hx,fun x _ hn=>(hmem x).2 hn⟩
structure TpS(D0:DiskD)(nm:ByteArray)(V:VV)(cur:Option Sg)(g:Nat)(b:Bs)(n i:Nat)(D:DiskD):Prop where
 di:DI D
 al:Al D (n+200000-2*i)
 stp:Stp nm D0 D
 cp:Cp 1 D0 D
 lv:LV D nm V cur g
 way:(i=0∧D=D0)∨∃p,mfind (tN nm) (nmAt D D.steps.length)=some (some p)∧NowA D p (PartA [] (frameF b) i)
theorem tN_neu{nm:ByteArray}(hp:PlainB nm)(l:Nat):Neu nm l (tN nm):=⟨fun m e=>absurd e.symm (fN_ne_t hp hp (.inr rfl)),fun m e=>absurd e.symm (fN_ne_t hp hp (.inl rfl))⟩
theorem LJ.noT{D:DiskD}{nm:ByteArray}(hp:PlainB nm){V:VV}{cur:Option Sg}{g:Nat}(h:LJ D nm V cur g):mfind (tN nm) (nmAt D D.steps.length)=none:=Classical.byContradiction fun hn=>by
 rcases h.own (tN nm) (.inr (.inr rfl)) hn with e|e|⟨s,-,e⟩
 ·exact fN_ne_t hp hp (.inr rfl) e.symm
 ·exact fN_ne_t hp hp (.inl rfl) e.symm
 ·exact fN_ne_t hp hp (.inl rfl) e.symm
abbrev PJ(V:VV)(cur:Option Sg):Bs→List Bs→List Bs→Prop:=fun B lo hi=>B=V.B∧V.hi++loO cur<+:lo∧hi<+:V.hi++hiO cur
theorem tpP{D0:DiskD}{nm:ByteArray}(hp:PlainB nm){V:VV}{cur:Option Sg}{g n:Nat}{b:Bs}(h0:LJ D0 nm V cur g)(hb:b.length≤3000000)(hroom:D0.now.length<256):
 WrP (tN nm) (frameF b) (TpS D0 nm V cur g b n) (fun D=>Dd D0 D nm g (PJ V cur)):=by
 refine⟨fun i D h=>h.al.rdy h.di,fun i D e D' h hi hw=>?_⟩
 have a:i<65536:=by rw[frame_len]at hi;omega
 have hF:FForm (tN nm):=.temp hp
 have hOf:OfJ nm (tN nm):=.inr (.inr rfl)
 have ha:Al D ((n+200000-2*(i+1))+2):=h.al.mono (by omega)
 rcases h.way with⟨rfl,rfl⟩|⟨p,hT, hN⟩
 · rcases wr_out h.di ha hF a (fun _ => hroom) (chunk_le _ _) hw with⟨rfl, rfl, har⟩|⟨rfl, ha',hd',⟨p,hq,-⟩|⟨-,p,s,m,hps, rfl⟩⟩
   · exact .inr ⟨rfl, Dd.of h.di h.al h.lv.js h.stp h.cp har⟩
   · rw[h0.noT hp]at hq; cases hq
   · refine .inl ⟨rfl, hd', ha',h.stp.trans (Stp.new h.di hp hOf hps _ _),Cp.new _ _ _ _ _ _ _,h.lv.new h.di hp (tN_neu hp _) hps,.inr ⟨p,by rw[nmAt_new_len,find_made,if_pos rfl],NowA.fresh part_new fun j hj =>?_⟩⟩
     unfold PartA
     rw[if_neg (by omega)]
     show zeroSec = secB (chunkF [] j)
     rw[chunk_nil, secB_zero]
 · rcases wr_out h.di ha hF a (fun hn => by rw[hT]at hn;cases hn) (chunk_le _ _) hw with⟨rfl,rfl,har⟩|⟨rfl,ha',hd',⟨q,hq,rfl⟩|⟨hq, -⟩⟩
   · exact .inr ⟨rfl, Dd.of h.di h.al h.lv.js h.stp h.cp har⟩
   · rw[hT]at hq
     injection hq with hq; injection hq with hq
     subst hq
     exact .inl ⟨rfl, hd', ha', h.stp.trans (Stp.wr h.di hp hOf hT _ _),h.cp.then (Cp.wr _ _ _ _),h.lv.wr h.di hp (tN_neu hp _) hT,.inr ⟨p,by rw[nmAt_old_len];exact hT,hN.wr_own part_new part_step⟩⟩
   ·rw[hT]at hq;cases hq
theorem TpS.start{D:DiskD}(hd:DI D){nm:ByteArray}{V:VV}{cur:Option Sg}{g n:Nat}{b:Bs}(ha:Al D (n+200000))(h:LJ D nm V cur g):TpS D nm V cur g b n 0 D:=⟨hd,ha,Stp.refl _ _,Cp.refl _ _,h.lv,.inl ⟨rfl,rfl⟩⟩
structure TpD(D0:DiskD)(nm:ByteArray)(V:VV)(cur:Option Sg)(g:Nat)(b:Bs)(n:Nat)(A:DiskD→Nat→Prop)(D:DiskD):Prop where
 di:DI D
 al:Al D n
 stp:Stp nm D0 D
 cp:Cp 1 D0 D
 lv:LV D nm V cur g
 way:∃p,mfind (tN nm) (nmAt D D.steps.length)=some (some p)∧A D p
theorem TpS.done{D0 D:DiskD}{nm:ByteArray}{V:VV}{cur:Option Sg}{g n i:Nat}{b:Bs}(h:TpS D0 nm V cur g b n i D)(hi:(frameF b).length≤63*i)(hb:b.length≤3000000)(hi6:i≤65536):TpD D0 nm V cur g b n (fun D p=>NowA D p (BtwA (frameF b) (frameF b))) D:=by
 rcases h.way with⟨rfl,-⟩|⟨p,hT,hN⟩
 ·rw[frame_len]at hi;omega
 ·exact⟨h.di,h.al.mono (by omega),h.stp,h.cp,h.lv,p,hT,hN.mono (part_end List.nil_prefix hi)⟩
theorem TpD.sync{D0 D D':DiskD}{nm:ByteArray}(hp:PlainB nm){V:VV}{cur:Option Sg}{g n:Nat}{b:Bs}(h:TpD D0 nm V cur g b n (fun D p=>NowA D p (BtwA (frameF b) (frameF b))) D){e:Int}(hs:SyncR D (tN nm) e D'):
 (e=70∧Dd D0 D' nm g (PJ V cur))∨(e=0∧TpD D0 nm V cur g b n (fun D p=>FilA D p (BtwA (frameF b) (frameF b))) D'):=by
 obtain⟨p,hT,hN⟩:=h.way
 rcases sync_out h.di h.al hT hs with⟨rfl,rfl,har⟩|⟨rfl,ha',hd',rfl⟩
 ·exact .inl ⟨rfl,Dd.of h.di h.al h.lv.js h.stp h.cp har⟩
 ·exact .inr ⟨rfl,hd',ha',h.stp.trans (Stp.sync nm p),h.cp.then (Cp.sync _ _),h.lv.sync hp p,p,by rw[len_sync];exact hT,FilA.synced (h.di.nsAt hT) hN⟩
structure CkS(D0:DiskD)(nm:ByteArray)(V:VV)(cur:Option Sg)(g:Nat)(b:Bs)(n:Nat)(D:DiskD):Prop where
 di:DI D
 al:Al D n
 stp:Stp nm D0 D
 cp:Cp 1 D0 D
 js:JS D nm (g+1) fun B lo hi=>PJ V cur B lo hi∨(B=b∧hi=[])
 way:∃p,mfind (cN nm (g+1)) (nmAt D D.steps.length)=some (some p)∧LV (syncD D p) nm ⟨g+1,p,b,[]⟩ none (g+1)
theorem TpD.rn{D0 D D':DiskD}{nm:ByteArray}(hp:PlainB nm){V:VV}{cur:Option Sg}{g n:Nat}{b:Bs}(hg:g<1000000)(hb:b.length≤3000000)(h:TpD D0 nm V cur g b (n+1) (fun D p=>FilA D p (BtwA (frameF b) (frameF b))) D){e:Int}(hs:RenameR D (tN nm) (cN nm (g+1)) e D'):
 (e=70∧Dd D0 D' nm g (PJ V cur))∨(e=0∧CkS D0 nm V cur g b n D'):=by
 obtain⟨p,hT,hA⟩:=h.way
 rcases rn_out h.di h.al (.temp hp) (fform_c hp (Nat.succ_pos g) hg) (fun e=>fN_ne_t hp hp (.inr rfl) e.symm) hT hs with⟨rfl,rfl,har⟩|⟨rfl,ha',hd',rfl⟩
 ·exact .inl ⟨rfl, Dd.of h.di h.al h.lv.js h.stp h.cp har⟩
 · obtain⟨a, c, d⟩:= h.lv.turn h.di hp (by omega) hT hA
   exact .inr ⟨rfl,hd',ha',h.stp.trans (Stp.rn h.di hp (.inr (.inr rfl)) (.inl ⟨_,rfl⟩) hT),h.cp.then (Cp.rn h.di hT),a,p,d,c⟩
theorem CkS.sync{D0 D D':DiskD}{nm:ByteArray}{V:VV}{cur:Option Sg}{g n:Nat}{b:Bs}(h:CkS D0 nm V cur g b n D){e:Int}(hs:SyncR D (cN nm (g+1)) e D'):
 (e=70∧Dd D0 D' nm (g+1) fun B lo hi=>PJ V cur B lo hi∨(B=b∧hi=[]))∨(e=0∧DI D'∧Al D' n∧Stp nm D0 D'∧Cp 1 D0 D'∧∃p,LV D' nm ⟨g+1,p,b,[]⟩ none (g+1)):=by
 obtain⟨p,hT,hL⟩:=h.way
 rcases sync_out h.di h.al hT hs with⟨rfl,rfl,har⟩|⟨rfl,ha',hd',rfl⟩
 ·exact .inl ⟨rfl,Dd.of h.di h.al h.js h.stp h.cp har⟩
 ·exact .inr ⟨rfl,hd',ha',h.stp.trans (Stp.sync nm p),h.cp.then (Cp.sync _ _),p,hL⟩
end Go.Proofs.YtdnibpclkhenmaaGreatDoor

namespace Go.Proofs.YtdnibpclkhenmaaGreatDoor
open Go.BX
def strm(D:DiskD)(p:Nat):Bs:=match D.files.find? (fun f=>f.p==p)with
 |some f=>readG (gX f.now) f.size.toNat 0
 |none=>[]
theorem strm_of{D:DiskD}(hd:DI D){f:FileD}(hf:f∈D.files):strm D f.p=readG (gX f.now) f.size.toNat 0:=by
 unfold strm
 cases h:D.files.find? (fun g=>g.p==f.p)with
 |none=>
  have:=List.find?_eq_none.1 h f hf
  simp at this
 |some g=>
  have a:=List.find?_some h
  have b:=List.mem_of_find?_eq_some h
  rw[hd.one b hf (by simpa using a)]
theorem strm_sync(D:DiskD)(q p:Nat):strm (syncD D q) p=strm D p:=by
 unfold strm
 show(match(D.files.map fun f=>if f.p=q then syncF q D.steps f else f).find? (fun f=>f.p==p)with|some f=>readG (gX f.now) f.size.toNat 0|none=>[])=_
 rw[List.find?_map]
 have e:((fun f:FileD=>f.p==p)∘fun f=>if f.p=q then syncF q D.steps f else f)=fun f:FileD=>f.p==p:=by
  funext f
  show((if f.p=q then syncF q D.steps f else f).p==p)=_
  split<;>rfl
 rw[e]
 cases D.files.find? (fun f=>f.p==p)with
 |none=>rfl
 |some f=>
  show readG (gX (if f.p=q then syncF q D.steps f else f).now) (if f.p=q then syncF q D.steps f else f).size.toNat 0=_
  split<;>rfl
theorem NowA.read{D:DiskD}(hd:DI D){p k:Nat}{A:SP}(h:NowA D p A){x:ByteArray}(hx:mfind x (nmAt D k)=some (some p)):∃g n,(∀i,A i (g i))∧(∀j,n≤j→g j=zeroSec)∧strm D p=readG g n 0:=by
 obtain⟨f,hf,rfl,hA⟩:=h
 exact⟨_,_,hA,hd.zero hf hx,strm_of hd hf⟩
theorem FilA.fix{D:DiskD}(hd:DI D){p k:Nat}{x:ByteArray}(hx:mfind x (nmAt D k)=some (some p)):∃A,FilA (syncD D p) p A∧SegA A (allW (strm D p)) (allW (strm D p)):=by
 obtain⟨f,hf,rfl⟩:=hd.fileAt hx
 refine⟨FixA f.now,FilA.synced (hd.nsAt hx) ⟨f,hf,rfl,fun i=>rfl⟩,?_⟩
 rw[strm_of hd hf]
 exact segA_fix (hd.zero hf hx)
structure PV(D:DiskD)(nm:ByteArray)(V:VV):Prop where
 nowN:NV nm (nmAt D D.steps.length) V
 wf:WfV V
 segs:∀s∈V.segs,∃A,NowA D s.p A∧SegA A s.lo s.hi
 base:V.last≠0→∃A,FilA D V.pc A∧BaseA A V.B
 emp:V.segs=[]→∀k,NV nm (nmAt D k) V
theorem PV.baseRd{D:DiskD}(hd:DI D){nm:ByteArray}{V:VV}(h:PV D nm V)(h0:V.last≠0):(nextF (strm D V.pc)).getD []=V.B:=by
 obtain⟨A,a,b⟩:=h.base h0
 have hx:=h.nowN.c2 h0
 obtain⟨g,n,c,d,e⟩:=(a.now (hd.nsAt hx)).read hd hx
 rw[e]
 exact b g n c d
theorem PV.segRd{D:DiskD}(hd:DI D){nm:ByteArray}{V:VV}(h:PV D nm V){s:Sg}(hs:s∈V.segs):s.lo<+:allW (strm D s.p)∧allW (strm D s.p)<+:s.hi:=by
 obtain⟨A,a,b⟩:=h.segs s hs
 obtain⟨g,n,c,d,e⟩:=a.read hd (h.nowN.s2 s hs)
 rw[e]
 exact b g n c d
def recsV(D:DiskD)(V:VV):List Bs:=V.segs.flatMap fun s=>allW (strm D s.p)
theorem flat_btw{f:Sg→List Bs}:∀{l:List Sg},(∀s∈l,s.lo<+:f s∧f s<+:s.hi)→(∀s∈l.dropLast,s.lo=s.hi)→l.flatMap (·.lo)<+:l.flatMap f∧l.flatMap f<+:l.flatMap (·.hi)
 |[],_,_=>⟨List.prefix_refl _,List.prefix_refl _⟩
 |[s],h,_=>by
  simpa using h s (List.mem_cons_self ..)
 |s::t::l,h,he=>by
  have e:=he s (by rw[List.dropLast_cons_cons];exact List.mem_cons_self ..)
  obtain⟨h1,h2⟩:=h s (List.mem_cons_self ..)
  have e2:f s=s.hi:=h2.eq_of_length (Nat.le_antisymm h2.length_le (e▸h1.length_le))
  obtain⟨k1,k2⟩:=flat_btw (f:=f) (l:=t::l) (fun u hu=>h u (List.mem_cons_of_mem _ hu)) (fun u hu=>he u (by rw[List.dropLast_cons_cons];exact List.mem_cons_of_mem _ hu))
  refine⟨?_,?_⟩
  ·rw[List.flatMap_cons (x:=s),List.flatMap_cons (x:=s),e,e2];exact(List.prefix_append_right_inj _).2 k1
  ·rw[List.flatMap_cons (x:=s),List.flatMap_cons (x:=s),e2];exact(List.prefix_append_right_inj _).2 k2
theorem PV.recs{D:DiskD}(hd:DI D){nm:ByteArray}{V:VV}(h:PV D nm V):V.lo<+:recsV D V∧recsV D V<+:V.hi:=flat_btw (fun s hs=>h.segRd hd hs) h.wf.ex
def gV(V:VV):Nat:=((V.segs.getLast?).map (·.n)).getD V.last
def fixV(D:DiskD)(V:VV):VV:={V with segs:=V.segs.map fun s=>⟨s.n,s.p,allW (strm D s.p),allW (strm D s.p)⟩}
theorem fixV_hi(D:DiskD)(V:VV):(fixV D V).hi=recsV D V:=by
 unfold fixV VV.hi recsV
 rw[List.flatMap_map]
structure FdS(D0:DiskD)(nm:ByteArray)(V:VV)(G:Nat)(P:Bs→List Bs→List Bs→Prop)(n m:Nat)(D:DiskD):Prop where
 di:DI D
 al:Al D n
 stp:Stp nm D0 D
 cp:Cp 1 D0 D
 pv:PV D nm V
 same:∀p,strm D p=strm D0 p
 fix:∀s∈V.segs.take m,∃A,FilA D s.p A∧SegA A (allW (strm D0 s.p)) (allW (strm D0 s.p))
 nms:0<m→∀k,NV nm (nmAt D k) V
 js:JS D nm G P
 now:nmAt D D.steps.length=nmAt D0 D0.steps.length
 nw:D.now=D0.now
theorem FdS.start{D:DiskD}(hd:DI D){nm:ByteArray}{V:VV}{G n:Nat}{P:Bs→List Bs→List Bs→Prop}(ha:Al D n)(h:PV D nm V)(hj:JS D nm G P):FdS D nm V G P n 0 D:=
 ⟨hd,ha,Stp.refl _ _,Cp.refl _ _,h,fun _=>rfl,fun s hs=>(by cases hs),fun h0=>absurd h0 (Nat.lt_irrefl 0),hj,rfl,rfl⟩
theorem FdS.sync{D0 D D':DiskD}{nm:ByteArray}{V:VV}{G n m:Nat}{P:Bs→List Bs→List Bs→Prop}(h:FdS D0 nm V G P n m D){s:Sg}(hm:V.segs[m]?=some s){e:Int}(hs:SyncR D (sN nm s.n) e D'):
 (e=70∧Dd D0 D' nm G P)∨(e=0∧FdS D0 nm V G P n (m+1) D'):=by
 have hmem:s∈V.segs:=List.mem_of_getElem? hm
 have hx:=h.pv.nowN.s2 s hmem
 rcases sync_out h.di h.al hx hs with⟨rfl,rfl, har⟩|⟨rfl, ha', hd', rfl⟩
 · exact .inl ⟨rfl, Dd.of h.di h.al h.js h.stp h.cp har⟩
 · refine .inr ⟨rfl, hd',ha',h.stp.trans (Stp.sync nm _),h.cp.then (Cp.sync _ _),⟨by rw[len_sync];exact h.pv.nowN,h.pv.wf,fun t ht=>?_,fun c=>?_,fun e=>?_⟩,fun p=>by rw[strm_sync,h.same],fun t ht=>?_,fun _ k=>by rw[nmAt_sync]; exact h.pv.nowN, h.js.sync _, by rw[len_sync, h.now], h.nw⟩
   · obtain⟨A, a, b⟩:= h.pv.segs t ht
     exact⟨A, a.sync _, b⟩
   · obtain⟨A, a, b⟩:= h.pv.base c
     exact⟨A, a.sync _, b⟩
   · rw[e]at hmem; cases hmem
   · rw[List.take_add_one, hm]at ht
     rcases List.mem_append.1 ht with ht | ht
     · obtain⟨A, a, b⟩:= h.fix t ht
       exact⟨A, a.sync _, b⟩
     · have:t=s:=by simpa using ht
       subst this
       have:=FilA.fix h.di hx
       rwa[h.same]at this
theorem FdS.done{D0 D:DiskD}{nm:ByteArray}{V:VV}{G n:Nat}{P:Bs→List Bs→List Bs→Prop}(h:FdS D0 nm V G P n V.segs.length D):LV D nm (fixV D0 V) none (gV V):=by
 have hNV:∀{N},NV nm N V→NV nm N (fixV D0 V):=fun{N}a=>by
  refine⟨a.c1,a.c2,fun k hk hx=>?_, fun s hs =>?_⟩
  · obtain⟨s, hs, e⟩:= a.s1 k hk hx
    exact⟨_, List.mem_map.2 ⟨s, hs, rfl⟩, e⟩
  · obtain⟨t, ht, rfl⟩:= List.mem_map.1 hs
    exact a.s2 t ht
 have hwf : WfV (fixV D0 V) := by
  refine⟨fun s hs =>?_, ?_, fun s hs =>?_, h.pv.wf.b0⟩
  · obtain⟨t, ht, rfl⟩:= List.mem_map.1 hs
    exact h.pv.wf.gt t ht
  · exact List.pairwise_map.2 h.pv.wf.asc
  · obtain⟨t, ht, rfl⟩:= List.mem_map.1 ((List.dropLast_sublist _).subset hs)
    rfl
 refine⟨fun k =>.inl ?_, by rw[VV.addO_none]; exact hNV h.pv.nowN, hwf,fun s hs=>?_,⟨fun s hs=>?_,h.pv.base⟩,?_,fun c hc=>(by cases hc)⟩
 ·cases hl:V.segs with
   | nil => exact hNV (h.pv.emp hl k)
   | cons s l => exact hNV (h.nms (by rw[hl]; exact Nat.succ_pos _) k)
 · obtain⟨t, ht, rfl⟩:= List.mem_map.1 hs
   rfl
 · obtain⟨t, ht, rfl⟩:= List.mem_map.1 hs
   exact h.fix t (by rw[List.take_length]; exact ht)
 · have key : ∀ (l : List Sg)(b :Nat),l.Pairwise (fun s t=>s.n<t.n)→(∀s∈l,b<s.n)→b≤((l.getLast?).map (·.n)).getD b∧∀s∈l,s.n≤((l.getLast?).map (·.n)).getD b:=fun l=>by
    induction l with
    |nil=>exact fun b _ _=>⟨Nat.le_refl _,fun s hs=>(by cases hs)⟩
    |cons s l ih=>
     intro b hp hb
     obtain⟨a,g⟩:=List.pairwise_cons.1 hp
     obtain⟨d,f⟩:=ih s.n g a
     have e:(((s::l).getLast?).map (·.n)).getD b=((l.getLast?).map (·.n)).getD s.n:=by
      cases l with
      |nil=>rfl
      |cons t l=>rw[List.getLast?_cons_cons];cases ht:(t::l).getLast? with
       |none=>rw[List.getLast?_eq_none_iff]at ht;cases ht
       |some u=>rfl
     rw[e]
     have:=hb s (List.mem_cons_self ..)
     refine⟨by omega,fun t ht=>?_⟩
     rcases List.mem_cons.1 ht with rfl|ht
     ·exact d
     ·exact f t ht
   obtain⟨d,f⟩:=key V.segs V.last h.pv.wf.asc h.pv.wf.gt
   refine⟨d,fun s hs=>?_⟩
   obtain⟨t,ht,rfl⟩:=List.mem_map.1 hs
   exact f t ht
theorem JS.pv{D:DiskD}(hd:DI D){nm:ByteArray}{G:Nat}{P:Bs→List Bs→List Bs→Prop}(h:JS D nm G P)(hs:D.steps=[]):∃V,PV D nm V∧(V.last≤G∧∀s∈V.segs,s.n≤G)∧P V.B V.lo V.hi:=by
 obtain⟨V,a,c,b,d,f⟩:=h D.steps.length
 refine⟨V,⟨a,c,fun s hs=>?_,b.base,fun _ k =>?_⟩, d, f⟩
 · obtain⟨A,g,i⟩:=b.segs s hs
   exact⟨A,g.now (hd.nsAt (a.s2 s hs)),i⟩
 · have e : nmAt D k = nmAt D D.steps.length:=by
    unfold nmAt nmL
    rw[hs,List.take_nil,List.take_nil]
   rw[e];exact a
theorem JS.rs{D:DiskD}{nm:ByteArray}{G:Nat}{P:Bs→List Bs→List Bs→Prop}(h:JS D nm G P)(hs:D.steps=[]):∃V,RS D nm V∧(V.last≤G∧∀s∈V.segs,s.n≤G)∧P V.B V.lo V.hi:=by
 obtain⟨V,a,b,c,d,f⟩:=h D.steps.length
 refine⟨V,⟨fun k=>?_,b,c⟩,d,f⟩
 have e:nmAt D k=nmAt D D.steps.length:=by
  unfold nmAt nmL
  rw[hs,List.take_nil,List.take_nil]
 rw[e];exact a
theorem RS.pv{D:DiskD}(hd:DI D){nm:ByteArray}{V:VV}(h:RS D nm V):PV D nm V:=
 ⟨h.names _,h.wf,fun s hs=>by obtain⟨A,k1,k2⟩:=h.fv.segs s hs;exact⟨A,k1.now (hd.nsAt ((h.names D.steps.length).s2 s hs)),k2⟩,h.fv.base,fun _ k=>h.names k⟩
theorem RS.js{D:DiskD}{nm:ByteArray}{V:VV}{G:Nat}(h:RS D nm V)(h1:V.last≤G)(h2:∀s∈V.segs,s.n≤G):JS D nm G fun B lo hi=>B=V.B∧lo=V.lo∧hi=V.hi:=
 fun k=>⟨V,h.names k,h.wf,h.fv,⟨h1,h2⟩,rfl,rfl,rfl⟩
def hiC:Option Sg→Option Sg
 |none=>none
 |some c=>some ⟨c.n,c.p,c.hi,c.hi⟩
theorem LJ.pv{D:DiskD}(hd:DI D){nm:ByteArray}{V:VV}{cur:Option Sg}{g:Nat}(h:LJ D nm V cur g):PV D nm (V.addO (hiC cur)):=by
 cases cur with
 |none=>
  rw[show hiC none=none from rfl,VV.addO_none]
  have b:=h.lv.nowN
  rw[VV.addO_none]at b
  refine⟨b,h.lv.wf,fun s hs=>?_,h.lv.fv.base,fun _ k =>?_⟩
  · obtain⟨A, d, f⟩:= h.lv.fv.segs s hs
    exact⟨A, d.now (hd.nsAt (b.s2 s hs)), f⟩
  · rcases h.lv.names k with a | a
    · exact a
    ·rwa[VV.addO_none]at a
 |some c=>
  obtain⟨_,_,_,i,_⟩:=h.lv.cur c rfl
  have hseg:=h.lv.segN
  have hN:NV nm (nmAt D D.steps.length) (V.addO (hiC (some c))):=by
   have a:=h.lv.nowN
   refine⟨a.c1,a.c2,fun n hn hx=>?_,fun s hs=>?_⟩
   · obtain⟨s, hs, e⟩:= a.s1 n hn hx
     rcases List.mem_append.1 hs with hs | hs
     · exact⟨s, List.mem_append_left _ hs, e⟩
     · have : s = c := by simpa using hs
       subst this
       exact⟨_, List.mem_append_right _ (List.mem_singleton_self _), e⟩
   · rcases List.mem_append.1 hs with hs | hs
     · exact a.s2 s (List.mem_append_left _ hs)
     · have : s =⟨c.n, c.p, c.hi, c.hi⟩:= by simpa[hiC]using hs
       subst this
       exact a.s2 c (List.mem_append_right _ (List.mem_singleton_self _))
  refine⟨hN, ?_, fun s hs =>?_, h.lv.fv.base, fun e =>?_⟩
  · have hw := h.lv.wfO
    refine⟨fun s hs =>?_, ?_, fun s hs =>?_, hw.b0⟩
    · rcases List.mem_append.1 hs with hs | hs
      · exact hw.gt s (List.mem_append_left _ hs)
      · have : s =⟨c.n, c.p, c.hi, c.hi⟩:= by simpa[hiC]using hs
        subst this
        exact hw.gt c (List.mem_append_right _ (List.mem_singleton_self _))
    · have := hw.asc
      change(V.segs ++ [c]).Pairwise _ at this
      show(V.segs ++ [_]).Pairwise _
      obtain⟨j, -, l⟩:= List.pairwise_append.1 this
      refine List.pairwise_append.2 ⟨j, List.pairwise_singleton _ _, fun s hs t ht =>?_⟩
      rw[List.mem_singleton.1 ht]
      exact l s hs c (List.mem_singleton_self _)
    · have e : (V.addO (hiC (some c))).segs.dropLast = V.segs := List.dropLast_concat
      rw[e]at hs
      exact h.lv.ex s hs
  · rcases List.mem_append.1 hs with hs | hs
    · obtain⟨A, d, f⟩:= h.lv.fv.segs s hs
      exact⟨A, d.now (hd.nsAt (hN.s2 s (List.mem_append_left _ hs))), f⟩
    · have : s =⟨c.n, c.p, c.hi, c.hi⟩:= by simpa[hiC]using hs
      subst this
      exact⟨_, h.now c rfl, segA_btw i (List.prefix_refl _)⟩
  · have : (V.addO (hiC (some c))).segs = V.segs ++ [_] := rfl
    rw[this]at e
    simp at e
open Classical in
noncomputable def numB(nm kd x:ByteArray):Nat:=if h:∃n,1≤n∧x=fN nm kd n then Classical.choose h else 0
theorem numB_yes{nm kd:ByteArray}(hp:PlainB nm)(hk:kd=kS∨kd=kC){n:Nat}(h1:1≤n):numB nm kd (fN nm kd n)=n:=by
 have h:∃m,1≤m∧fN nm kd n=fN nm kd m:=⟨n,h1,rfl⟩
 unfold numB
 rw[dif_pos h]
 exact(fN_inj hp hp hk hk (Classical.choose_spec h).2).2.2.symm
theorem numB_no{nm kd x:ByteArray}(h:∀n,1≤n→x≠fN nm kd n):numB nm kd x=0:=by
 unfold numB
 rw[dif_neg]
 rintro⟨n,a,e⟩
 exact h n a e
theorem numB_of{nm kd x:ByteArray}{n:Nat}(h:numB nm kd x=n)(h1:1≤n):x=fN nm kd n:=by
 unfold numB at h
 split at h
 · rename_i hh
   rw[←h]
   exact(Classical.choose_spec hh).2
 ·omega
noncomputable def lastF(nm:ByteArray)(l:List ByteArray):Nat:=l.foldl (fun a x=>max a (numB nm kC x)) 0
theorem lastF_snoc(nm:ByteArray)(l:List ByteArray)(x:ByteArray):lastF nm (l++[x])=max (lastF nm l) (numB nm kC x):=by
 unfold lastF
 rw[List.foldl_append];rfl
theorem lastF_spec(nm:ByteArray)(l:List ByteArray):(∀x∈l,numB nm kC x≤lastF nm l)∧(lastF nm l=0∨∃x∈l,numB nm kC x=lastF nm l):=by
 have key:∀(l:List ByteArray)(a:Nat),a≤l.foldl (fun a x=>max a (numB nm kC x)) a∧(∀x∈l,numB nm kC x≤l.foldl (fun a x=>max a (numB nm kC x)) a)∧(l.foldl (fun a x=>max a (numB nm kC x)) a=a∨∃x∈l,numB nm kC x=l.foldl (fun a x=>max a (numB nm kC x)) a):=fun l=>by
  induction l with
  |nil=>exact fun a=>⟨Nat.le_refl _,fun x hx=>(by cases hx),.inl rfl⟩
  |cons y l ih=>
   intro a
   obtain⟨_,b,c⟩:= ih (max a (numB nm kC y))
   rw[List.foldl_cons]
   refine⟨by omega, fun x hx =>?_, ?_⟩
   · rcases List.mem_cons.1 hx with rfl | hx
     · omega
     · exact b x hx
   · rcases c with h |⟨x, hx, h⟩
     · rw[h]
       rcases Nat.le_total a (numB nm kC y)with q | q
       · exact .inr ⟨y, List.mem_cons_self .., by omega⟩
       · exact .inl (by omega)
     ·exact .inr ⟨x,List.mem_cons_of_mem _ hx,h⟩
 obtain⟨-,d,e⟩:=key l 0
 exact⟨d,e⟩
theorem lastF_eq{D:DiskD}(hd:DI D){nm:ByteArray}(hp:PlainB nm){V:VV}(h:NV nm (nmAt D D.steps.length) V){ns:List ByteArray}(hns:∀x,x∈ns↔mfind x (nmAt D D.steps.length)≠none):lastF nm ns=V.last:=by
 obtain⟨a,b⟩:=lastF_spec nm ns
 apply Nat.le_antisymm
 · rcases b with e |⟨x, hx, e⟩
   · omega
   · rcases Nat.eq_zero_or_pos (lastF nm ns)with q | q
     · omega
     · have c := numB_of e q
       rw[c]at hx
       exact h.c1 _ ((hns _).1 hx)
 · rcases Nat.eq_zero_or_pos V.last with q|q
   ·omega
   · have := a (cN nm V.last) ((hns _).2 (by rw[h.c2 (by omega)]; nofun))
     rwa[numB_yes hp (.inr rfl) q]at this
noncomputable def segF(nm:ByteArray)(b:Nat)(l:List ByteArray):List Nat:=l.filterMap fun x=>if b<numB nm kS x then some (numB nm kS x)else none
theorem segF_snoc(nm:ByteArray)(b:Nat)(l:List ByteArray)(x:ByteArray):segF nm b (l++[x])=segF nm b l++if b<numB nm kS x then[numB nm kS x]else[]:=by
 unfold segF
 rw[List.filterMap_append]
 congr 1
 rw[List.filterMap_cons]
 split<;>rename_i h<;>split at h<;>first|cases h|skip
 ·rename_i h2;rw[if_neg h2];rfl
 ·rename_i h2;rw[if_pos h2];rfl
theorem segF_perm{D:DiskD}(hd:DI D){nm:ByteArray}(hp:PlainB nm){V:VV}(hw:WfV V)(h:NV nm (nmAt D D.steps.length) V){ns:List ByteArray}(hnd:ns.Nodup)(hns:∀x,x∈ns↔mfind x (nmAt D D.steps.length)≠none):(segF nm V.last ns).Perm (V.segs.map (·.n)):=by
 have hm:∀n,n∈segF nm V.last ns↔n∈V.segs.map (·.n):=fun n => by
  unfold segF
  rw[List.mem_filterMap, List.mem_map]
  constructor
  · rintro⟨x, hx, e⟩
    split at e
    · rename_i hl
      injection e with e
      rw[e]at hl
      have g := numB_of e (by omega)
      rw[g]at hx
      obtain⟨s, hs, i⟩:= h.s1 n hl ((hns _).1 hx)
      exact⟨s, hs, i⟩
    · cases e
  · rintro⟨s,hs,rfl⟩
    have c:=hw.gt s hs
    refine⟨sN nm s.n,(hns _).2 (by rw[h.s2 s hs];nofun),?_⟩
    rw[numB_yes hp (.inl rfl) (by omega),if_pos c]
 have d:(segF nm V.last ns).Nodup:=by
  unfold segF
  refine List.Pairwise.filterMap _ (S:=fun a b=>a≠ b) (fun a a' hne b hb b' hb' =>?_) hnd
  rintro rfl
  split at hb
  · rename_i c
    injection hb with hb
    split at hb'
    · rename_i h2
      injection hb' with hb'
      exact hne ((numB_of hb (by omega)).trans (numB_of hb' (by omega)).symm)
    · cases hb'
  · cases hb
 have f:(V.segs.map (·.n)).Nodup:=List.pairwise_map.2 (hw.asc.imp fun h=>Nat.ne_of_lt h)
 exact(List.perm_ext_iff_of_nodup d f).2 hm
def leastF(g:Nat)(l:List Nat):Nat:=l.foldl (fun a n=>if g<n∧(a=0∨n<a)then n else a) 0
theorem leastF_snoc(g:Nat)(l:List Nat)(n:Nat):leastF g (l++[n])=if g<n∧(leastF g l=0∨n<leastF g l)then n else leastF g l:=by
 unfold leastF
 rw[List.foldl_append];rfl
theorem leastF_spec{g m:Nat}:∀{l:List Nat},m∈l→g<m→(∀n∈l,g<n→m≤n)→leastF g l=m:=by
 have key:∀(l:List Nat)(a:Nat),(a=0∨g<a)→(a≠0→m≤a)→g<m→(∀n∈l,g<n→m≤n)→(m∈l∨a=m)→l.foldl (fun a n=>if g<n∧(a=0∨n<a)then n else a) a=m:=fun l=>by
  induction l with
  |nil=>
   intro a _ _ _ _ h
   rcases h with h|h
   ·cases h
   ·exact h
  |cons n l ih =>
   intro a f b hg hl h
   rw[List.foldl_cons]
   have hln := hl n (List.mem_cons_self ..)
   split
   · rename_i hc
     refine ih n (.inr hc.1) (fun _ => hln hc.1) hg (fun k hk => hl k (List.mem_cons_of_mem _ hk)) ?_
     rcases h with h | h
     · rcases List.mem_cons.1 h with e | h
       · exact .inr e.symm
       · exact .inl h
     · right
       have := hln hc.1
       have c := hc.2
       omega
   · rename_i hc
     refine ih a f b hg (fun k hk => hl k (List.mem_cons_of_mem _ hk)) ?_
     rcases h with h | h
     · rcases List.mem_cons.1 h with e | h
       · right
         subst e
         have d:¬(a=0∨m<a):=fun q=>hc ⟨hg,q⟩
         have c:=b (by omega)
         omega
       ·exact .inl h
     ·exact .inr h
 intro l b d c
 exact key l 0 (.inl rfl) (fun h=>absurd rfl h) d c (.inl b)
def gAt(V:VV):Nat→Nat
 |0=>V.last
 |m+1=>((V.segs[m]?).map (·.n)).getD 0
theorem leastF_seg{V:VV}(hw:WfV V){sl:List Nat}(hp:sl.Perm (V.segs.map (·.n))){m:Nat}{s:Sg}(hm:V.segs[m]?=some s):leastF (gAt V m) sl=s.n:=by
 have hmem:s∈V.segs:=List.mem_of_getElem? hm
 have hlt:∀{i j:Nat}{a b:Sg},V.segs[i]?=some a→V.segs[j]?=some b→i<j→a.n<b.n:=fun{i j a b}hi hj hij=>by
  obtain⟨d,rfl⟩:=List.getElem?_eq_some_iff.1 hi
  obtain⟨c,rfl⟩:=List.getElem?_eq_some_iff.1 hj
  exact List.pairwise_iff_getElem.1 hw.asc i j d c hij
 have hg:gAt V m<s.n:=by
  cases m with
  |zero=>exact hw.gt s hmem
  |succ k=>
   obtain⟨d,-⟩:=List.getElem?_eq_some_iff.1 hm
   have c:V.segs[k]?=some V.segs[k]:=List.getElem?_eq_getElem (by omega)
   show((V.segs[k]?).map (·.n)).getD 0<s.n
   rw[c]
   exact hlt c hm (Nat.lt_succ_self k)
 refine leastF_spec (hp.mem_iff.2 (List.mem_map.2 ⟨s,hmem,rfl⟩)) hg fun n hn hgn=>?_
 obtain⟨t,ht,rfl⟩:=List.mem_map.1 (hp.mem_iff.1 hn)
 obtain⟨j, hj⟩:= List.getElem?_of_mem ht
 rcases Nat.lt_trichotomy j m with h | rfl | h
 · exfalso
   cases m with
   | zero=>omega
   |succ k=>
    obtain⟨d,-⟩:=List.getElem?_eq_some_iff.1 hm
    have c:V.segs[k]?=some V.segs[k]:=List.getElem?_eq_getElem (by omega)
    change((V.segs[k]?).map (·.n)).getD 0<t.n at hgn
    rw[c]at hgn
    change V.segs[k].n<t.n at hgn
    rcases Nat.lt_or_ge j k with q|q
    · have := hlt hj c q; omega
    · have : j =k:=by omega
      subst this
      have e:some V.segs[j]=some t:= c.symm.trans hj
      injection e with e
      rw[e]at hgn
      omega
 · have : some s = some t := hm.symm.trans hj
   injection this with this
   rw[this]
   exact Nat.le_refl _
 · exact Nat.le_of_lt (hlt hm hj h)
theorem gAt_end(V:VV):gAt V V.segs.length=gV V:=by
 unfold gV
 rw[List.getLast?_eq_getElem?]
 cases h:V.segs with
 |nil=>show gAt V 0=_;rfl
 |cons s l=>
  show gAt V (l.length+1)=_
  unfold gAt
  rw[h,List.length_cons,Nat.add_sub_cancel]
  rw[List.getElem?_eq_getElem (l:=s::l) (i:=l.length) (by simp)]
  show((s::l)[l.length]?.map (·.n)).getD 0=_
  rw[List.getElem?_eq_getElem (l:=s::l) (i:=l.length) (by simp)]
  rfl
theorem readG_len{g:Nat→Sec}:∀{n i:Nat},(readG g n i).length≤63*n
 |0,_=>Nat.le_refl _
 |n+1,i=> by
  rw[readG]
  split
  · exact Nat.zero_le _
  · rename_i h
    have h1:(bytesS (g i) (cntS (g i))).length≤63:=by
     unfold bytesS
     rw[List.length_take];omega
    split
    ·rw[List.append_nil];omega
    · have := readG_len (g:=g) (n:=n) (i:=i+1)
      rw[List.length_append];omega
theorem DI.fsz{D:DiskD}(h:DI D){f:FileD}(hf:f∈D.files):∃sz:Nat,f.size=(sz:Int)∧sz≤65536∧f.size.toNat=sz:=by
 obtain⟨-,-,-,-,_,_⟩:=h.ok.cr.files f hf
 exact⟨f.size.toNat,by omega,by omega,rfl⟩
theorem PV.rdC{D:DiskD}(hd:DI D){nm:ByteArray}{V:VV}(h:PV D nm V)(h0:V.last≠0):∃(f:FileD)(sz:Nat),f∈D.files∧mfind (cN nm V.last) D.now=some (some f.p)∧f.size=(sz:Int)∧sz≤65536∧(nextF (readG (gX f.now) sz 0)).getD []=V.B∧(readG (gX f.now) sz 0).length≤100000000:=by
 have hx:=h.nowN.c2 h0
 obtain⟨f,hf,e⟩:=hd.fileAt hx
 obtain⟨sz,a,b,c⟩:=hd.fsz hf
 have:=h.baseRd hd h0
 rw[←e,strm_of hd hf,c]at this
 have hl:=readG_len (g:=gX f.now) (n:=sz) (i:=0)
 exact⟨f,sz,hf,by rw[nm_now hd.ok,e];exact hx,a,b,this,by omega⟩
theorem PV.rdS{D:DiskD}(hd:DI D){nm:ByteArray}{V:VV}(h:PV D nm V){s:Sg}(hs:s∈V.segs):∃(f:FileD)(sz:Nat),f∈D.files∧mfind (sN nm s.n) D.now=some (some f.p)∧f.size=(sz:Int)∧sz≤65536∧readG (gX f.now) sz 0=strm D s.p∧(readG (gX f.now) sz 0).length≤100000000:=by
 have hx:=h.nowN.s2 s hs
 obtain⟨f,hf,e⟩:=hd.fileAt hx
 obtain⟨sz,a,b,c⟩:=hd.fsz hf
 have:=strm_of hd hf
 rw[e,c]at this
 have hl:=readG_len (g:=gX f.now) (n:=sz) (i:=0)
 exact⟨f,sz,hf,by rw[nm_now hd.ok,e];exact hx,a,b,this.symm,by omega⟩
theorem PV.bds{D:DiskD}(hd:DI D){nm:ByteArray}(hp:PlainB nm){V:VV}(h:PV D nm V):V.last≤1000000∧∀s∈V.segs,s.n≤1000000:=by
 refine⟨?_,fun s hs =>?_⟩
 · rcases Nat.eq_zero_or_pos V.last with q|q
   ·omega
   ·exact(FForm.pos hp (.inr rfl) (hd.form _ _ _ (h.nowN.c2 (by omega)))).2
 ·exact(FForm.pos hp (.inl rfl) (hd.form _ _ _ (h.nowN.s2 s hs))).2
theorem snoc_take{α:Type}{l:List α}{i:Nat}(h:i<l.length):l.take (i+1)=l.take i++[l[i]]:=by
 rw[List.take_add_one,List.getElem?_eq_getElem h];rfl
theorem recs_snoc{D:DiskD}{V:VV}{m:Nat}{s:Sg}(hm:V.segs[m]?=some s):(V.segs.take (m+1)).flatMap (fun s=>allW (strm D s.p))=(V.segs.take m).flatMap (fun s=>allW (strm D s.p))++allW (strm D s.p):=by
 rw[List.take_add_one,hm,List.flatMap_append]
 simp
theorem mem_names{D:DiskD}(hd:DI D){ns:List ByteArray}(h:ns.Perm (D.now.map (·.1))):∀x,x∈ns↔mfind x (nmAt D D.steps.length)≠none:=fun x=>by
 rw[←nm_now hd.ok,h.mem_iff]
 exact⟨fun hx q=>mfind_none.1 q hx,fun q=>Classical.byContradiction fun hx=>q (mfind_none.2 hx)⟩
theorem names_ff{D:DiskD}(hd:DI D){ns:List ByteArray}(h:ns.Perm (D.now.map (·.1))){i:Nat}(hi:i<ns.length):FForm ns[i]:=by
 obtain⟨o,ho⟩:=Option.ne_none_iff_exists'.1 ((mem_names hd h _).1 (List.getElem_mem hi))
 exact hd.form _ _ _ ho
theorem names_nd{D:DiskD}(hd:DI D){ns:List ByteArray}(h:ns.Perm (D.now.map (·.1))):ns.Nodup:=h.nodup_iff.2 hd.ok.mnow.keys
theorem numB_le{nm kd x:ByteArray}(hp:PlainB nm)(hk:kd=kS∨kd=kC)(hx:FForm x):numB nm kd x≤1000000:=by
 rcases Nat.eq_zero_or_pos (numB nm kd x)with h|h
 · omega
 · have e:=numB_of rfl h
   rw[e]at hx
   exact(FForm.pos hp hk hx).2
theorem segF_len(nm:ByteArray)(b:Nat)(l:List ByteArray):(segF nm b l).length≤l.length:=List.length_filterMap_le _ _
end Go.Proofs.YtdnibpclkhenmaaGreatDoor

namespace Go.Proofs.YtdnibpclkhenmaaGreatDoor
open Go.BX
def segN(nm:ByteArray)(g:Nat):Option Sg→ByteArray
 |none=>⟨#[]⟩
 |some _=>sN nm g
def JL(D:DiskD)(nm:ByteArray)(B:Bs)(R0 R:List Bs)(g:Nat)(seg:ByteArray)(σ:Bs)(sy:Bool)(q:Nat):Prop:=
 ∃V cur,LJ D nm V cur g∧V.B=B∧V.hi++loO cur=R0∧V.hi++hiO cur=R∧seg=segN nm g cur∧σ=framesF (hiO cur)∧(sy=true→loO cur=hiO cur)∧(sy=false→cur≠none)∧V.segs.length≤q
theorem sN_ne(nm:ByteArray)(n:Nat):(sN nm n).toList≠(⟨#[]⟩:ByteArray).toList:=fun e=>by
 have:=congrArg (fun q=>q.data.toList) (toList_inj e)
 simp only[fN_list]at this
 simp at this
theorem JL.app{D':DiskD}{nm:ByteArray}{V:VV}{cur:Option Sg}{g q:Nat}{r:Bs}{c:Sg}(hq:V.segs.length≤q)(h1:c.hi=hiO cur++[r])(h2:c.lo=loO cur)(h:LJ D' nm V (some c) (gO g cur)):
 JL D' nm V.B (V.hi++loO cur) ((V.hi++hiO cur)++[r]) (gO g cur) (sN nm (gO g cur)) (framesF (hiO cur++[r])) false q:=
 ⟨V,some c,h,rfl,by show V.hi++c.lo=_;rw[h2],by show V.hi++c.hi=_;rw[h1,List.append_assoc],rfl,by show _=framesF c.hi;rw[h1],fun e=>(by cases e),nofun,hq⟩
theorem JL.fresh{D':DiskD}{nm:ByteArray}{V:VV}{g:Nat}(h:LJ D' nm V none g):JL D' nm V.B V.hi V.hi g ⟨#[]⟩ [] true V.segs.length:=
 ⟨V,none,h,rfl,List.append_nil _,List.append_nil _,rfl,rfl,fun _=>rfl,fun e=>(by cases e),Nat.le_refl _⟩
theorem JL.js{D:DiskD}{nm:ByteArray}{B:Bs}{R0 R:List Bs}{g:Nat}{seg:ByteArray}{σ:Bs}{sy:Bool}{q:Nat}(h:JL D nm B R0 R g seg σ sy q):JS D nm g fun B' lo hi=>B'=B∧R0<+:lo∧hi<+:R:=by
 obtain⟨V,cur,hL,rfl,rfl,rfl,-⟩:=h
 exact hL.lv.js
theorem gO_le(g:Nat)(o:Option Sg):gO g o≤g+1:=by cases o<;>simp[gO]
section
variable{S:Nat→Prop}{w:World}{O:List Nat}{db:Nat}{D:DiskD}{sa:Option Addr}{sk:Nat}
theorem dDead{b:Bool}(hd:D.dead=b)(H0:Hp w S O (diskM db D sa sk) [diskW D sa sk] [] w):
 Calls Tryz.prog 51 #[.P db 0] w (Ret fun v w'=>v=.bool b∧Hp w S O (diskM db D sa sk) [diskW D sa sk] [] w'):=by
 obtain⟨sb,nb,A,lc,L,c,fs,steps,armed,left,dead⟩:=D
 obtain rfl:dead=b:= hd
 cases dead
 · refine(dead_false (S := fun _=>True) (H0.viewM 0 rfl (by simp))).mono fun e w' hh=>?_
   obtain⟨v,he,hE,hv⟩:=hh
   exact⟨v,he, hv, H0.ext hE⟩
 · refine(dead_true (S:=fun _=>True) (H0.viewM 0 rfl (by simp))).mono fun e w' hh=>?_
   obtain⟨v,he,hE,hv⟩:=hh
   exact⟨v,he,hv,H0.ext hE⟩
end
theorem JS.dryd{D:DiskD}{nm:ByteArray}{G:Nat}{P:Bs→List Bs→List Bs→Prop}(h:JS D nm G P):JS (dry D) nm G P:=h.step (fun k=>⟨0,fun V _ h=>by rw[nmAt_dry];exact h⟩) fun q A h=>⟨h.safe,fun x hx=>(by cases hx)⟩
theorem crC_nil(D:DiskD):(crC D []).A=(D.safe,D.sc)∧(crC D []).fs=D.files:=by
 have key:∀(l:List StepD)(C:CrS),(l.foldl (crStep 0 []) C).A=C.A∧(l.foldl (crStep 0 []) C).fs=C.fs:=by
  intro l
  induction l with
  |nil=>exact fun C=>⟨rfl,rfl⟩
  |cons x l ih=>
   intro C
   obtain⟨a,b⟩:=ih (crStep 0 [] C x)
   rw[List.foldl_cons,a,b]
   by_cases h3:x.kind=3
   ·rw[crStep_no h3 (by unfold bitOf;simp)];exact⟨rfl,rfl⟩
   ·rw[crStep_pass h3 (by omega)];exact⟨rfl,rfl⟩
 exact key D.steps ⟨(D.safe,D.sc),0,0,D.files⟩
theorem JS.dryc{D:DiskD}{nm:ByteArray}{G:Nat}{P:Bs→List Bs→List Bs→Prop}(h:JS (dry D) nm G P)(ns:Nat→Nat)(nb:Nat):JS (crashD D [] ns nb) nm G P:=by
 obtain⟨a,b⟩:=crC_nil D
 refine h.step (fun k=>⟨0,fun V _ h =>?_⟩) fun q A h =>?_
 · rw[nmAt_dry]at h
   unfold nmAt nmL
   show NV nm (([]:List StepD).take k|>.foldl mapN ((crC D []).A.1,(crC D []).A.2)).1 V
   rw[List.take_nil, List.foldl_nil, a]
   exact h
 · obtain⟨f, c,d,e⟩:=h.safe
   refine⟨⟨(if some f.p∈((crC D []).A.1).map (·.2.1)then visit (ns f.p) f else f),List.mem_map.2 ⟨f,by rw[b];exact c,rfl⟩,?_,?_⟩,fun x hx=>(by cases hx)⟩
   ·split<;>exact d
   ·split<;>exact e
theorem NmC.ofNow{D:DiskD}(hd:DI D):NmC D D.steps.length D.now.length:=⟨D.now.map (·.1),by rw[List.length_map];exact Nat.le_refl _,fun x hx=>Classical.byContradiction fun hn=>by
 rw[←nm_now hd.ok]at hx
 exact hx (mfind_none.2 hn)⟩
theorem Cp.now{D D':DiskD}{c:Nat}(h:Cp c D D')(hd:DI D)(hd':DI D'):D'.now.length≤D.now.length+c:=(h _ (NmC.ofNow hd)).1.now hd'
section
variable{S:Nat→Prop}{w:World}{O:List Nat}{db:Nat}{D:DiskD}{sa:Option Addr}{sk:Nat}
theorem dSizeNo{name:ByteArray}(hok:DOk D)(hd:D.dead=false)(hn:mfind name D.now=none)(H0:Hp w S O (diskM db D sa sk) [diskW D sa sk] [] w):
 Calls Tryz.prog 49 #[.P db 0,.string name] w (Ret fun v w'=>v=.tuple #[.I 0,.I 71]∧Hp w S O (diskM db D sa sk) [diskW D sa sk] [] w'):=
 (dSize hok hd H0).mono fun e w' hh=>by
  obtain⟨v,he,⟨hv,-⟩|⟨g,hg,hgn,-⟩,H'⟩:=hh
  ·exact⟨v,he,hv,H'⟩
  ·rw[hn]at hgn;cases hgn
end
theorem DI.noEmpty{D:DiskD}(hd:DI D):mfind (⟨#[]⟩:ByteArray) D.now=none:=by
 rw[nm_now hd.ok]
 cases h:mfind (⟨#[]⟩:ByteArray) (nmAt D D.steps.length)with
 |none=>rfl
 |some o=>exact absurd (hd.form _ _ _ h).size.2 (by unfold nmI;rw[if_neg (by simp)];decide)
def PlainN(x:ByteArray):Prop:=PlainB x∧x.size≠0
theorem bytes_at{x:ByteArray}{j:Nat}(h:j<(bytesOf x).length)(h':j<x.data.toList.length):((bytesOf x)[j]).toNat=(x.data.toList[j]).toNat:=by
 have e:(bytesOf x)[j]=BitVec.ofNat 8 (x.data.toList[j]).toNat:=List.getElem_map _
 have a:=(x.data.toList[j]).toNat_lt
 rw[e,BitVec.toNat_ofNat,Nat.mod_eq_of_lt a]
theorem bytes_lt{x:ByteArray}{j:Nat}:j<(bytesOf x).length↔j<x.data.toList.length:=by unfold bytesOf;rw[List.length_map]
theorem plain_of{x:ByteArray}(h1:x.size≤16)(h2:∀j(h:j<(bytesOf x).length),97≤((bytesOf x)[j]).toNat∧((bytesOf x)[j]).toNat≤122):PlainB x:=by
 refine⟨h1,fun b hb=>?_⟩
 obtain⟨j,hj,rfl⟩:=List.mem_iff_getElem.1 hb
 have:=h2 j (bytes_lt.2 hj)
 rwa[bytes_at _ hj]at this
theorem plain_at{x:ByteArray}(h:PlainB x){j:Nat}(hj:j<(bytesOf x).length):97≤((bytesOf x)[j]).toNat∧((bytesOf x)[j]).toNat≤122:=by
 rw[bytes_at hj (bytes_lt.1 hj)]
 exact h.2 _ (List.getElem_mem _)
theorem ba_empty{x:ByteArray}(h:x.size=0):x=⟨#[]⟩:=by
 obtain⟨d⟩:=x
 rw[show d=#[]from Array.eq_empty_of_size_eq_zero h]
theorem plain_bad{x:ByteArray}{i:Nat}(hi:i<(bytesOf x).length)(h:¬(97≤((bytesOf x)[i]).toNat∧((bytesOf x)[i]).toNat≤122)):false=true↔PlainN x:=⟨nofun,fun hP=>absurd (plain_at hP.1 hi) h⟩
theorem plain_fin{x:ByteArray}(h:x.toList≠(⟨#[]⟩:ByteArray).toList)(hall:∀j(h:j<(bytesOf x).length),97≤((bytesOf x)[j]).toNat∧((bytesOf x)[j]).toNat≤122):decide ((((x.size:Nat):Int):Int)≤16)=true↔PlainN x:=
 ⟨fun h1=>⟨plain_of (by have:=of_decide_eq_true h1;omega) hall,fun h0=>h (by rw[ba_empty h0])⟩,fun hP=>decide_eq_true (by have:=hP.1.1;omega)⟩
theorem plain_emp{x:ByteArray}(h:x.toList=(⟨#[]⟩:ByteArray).toList):false=true↔PlainN x:=⟨nofun,fun hP=>absurd (show x.size=0 by rw[toList_inj h];rfl) hP.2⟩
end Go.Proofs.YtdnibpclkhenmaaGreatDoor

namespace Go.Proofs.YtdnibpclkhenmaaGreatDoor
open Go.BX
theorem Cap.step{D D':DiskD}{c m:Nat}(h:Cap D m)(hc:Cp c D D'):Cap D' (m+c):=(hc m (h _)).2 (m+c) (Nat.le_refl _) (h.mono (Nat.le_add_right _ _))
structure JW(D:DiskD)(nm:ByteArray)(B:Bs)(R0 R:List Bs)(g:Nat)(seg:ByteArray)(σ:Bs)(sy:Bool)(n m t q c:Nat):Prop where
 pl:PlainB nm
 di:DI D
 al:Al D n
 jl:JL D nm B R0 R g seg σ sy q
 cap:Cap D c
 gm:g≤m
 sl:σ.length≤t
 rl:R.length≤m
 rb:∀r∈R,r.length≤4194304
 bl:B.length≤4194304
section
variable{D D':DiskD}{nm seg seg':ByteArray}{B:Bs}{R0 R:List Bs}{g g':Nat}{σ:Bs}{sy:Bool}{n n' m t q c c':Nat}
theorem JW.now(h:JW D nm B R0 R g seg σ sy n m t q c)   :D.now.length≤c:=NmC.now h.di (h.cap _)
theorem JL.mono{q':Nat}(h:JL D nm B R0 R g seg σ sy q)(hq:q≤q'):JL D nm B R0 R g seg σ sy q':=by
 obtain⟨V,cur,a,b,c,d,e,f,i,j,k⟩:=h
 exact⟨V,cur,a,b,c,d,e,f,i,j,Nat.le_trans k hq⟩
theorem JW.mono(h:JW D nm B R0 R g seg σ sy n m t q c){n' m' t' q' c':Nat}(hn:n'≤n)(hm:m≤m')(ht:t≤t')(hq:q≤q')(hc:c≤c'):JW D nm B R0 R g seg σ sy n' m' t' q' c':=
 ⟨h.pl,h.di,h.al.mono hn,h.jl.mono hq,h.cap.mono hc,Nat.le_trans h.gm hm,Nat.le_trans h.sl ht,Nat.le_trans h.rl hm,h.rb,h.bl⟩
theorem JW.app(h:JW D nm B R0 R g seg σ sy n m t q c){r:Bs}(hr:r.length≤4194304)(hJ:JL D' nm B R0 (R++[r]) g' seg' (σ++frameF r) false q)(hg:g'≤g+1)(hd:DI D')(ha:Al D' n')(hc:Cap D' c'):JW D' nm B R0 (R++[r]) g' seg' (σ++frameF r) false n' (m+1) (t+r.length+12) q c':=by
 refine⟨h.pl,hd,ha,hJ,hc,by have:=h.gm;omega,?_,?_,fun x hx =>?_, h.bl⟩
 · have := h.sl
   rw[List.length_append, frame_len]; omega
 · have := h.rl
   rw[List.length_append, List.length_singleton]; omega
 · rcases List.mem_append.1 hx with hx|hx
   ·exact h.rb x hx
   ·rw[List.mem_singleton.1 hx];exact hr
theorem JW.syn(h:JW D nm B R0 R g seg σ sy n m t q c)(hJ:JL D' nm B R R g seg σ true q)(hd:DI D')(ha:Al D' n')(hc:Cap D' c'):JW D' nm B R R g seg σ true n' (m+1) t q c':=
 ⟨h.pl,hd,ha,hJ,hc,Nat.le_succ_of_le h.gm,h.sl,Nat.le_succ_of_le h.rl,h.rb,h.bl⟩
theorem JW.chk(h:JW D nm B R0 R g seg σ sy n m t q c){b:Bs}(hb:b.length≤3000000)(hJ:JL D' nm b [] [] (g+1) ⟨#[]⟩ [] true 0)(hd:DI D')(ha:Al D' n')(hc:Cap D' c'):JW D' nm b [] [] (g+1) ⟨#[]⟩ [] true n' (m+1) 0 0 c':=
 ⟨h.pl,hd,ha,hJ,hc,Nat.succ_le_succ h.gm,Nat.le_refl _,Nat.zero_le _,nofun,by omega⟩
end
def OpQ(D:DiskD)(nm:ByteArray)(m q:Nat)(P:Bs→List Bs→List Bs→Prop)(Q:Bs→List Bs→Prop):Prop:=∃V,PV D nm V∧gV V≤m∧JS D nm m P∧Q V.B (recsV D V)∧V.segs.length≤q
theorem gV_le{V:VV}{m:Nat}(h1:V.last≤m)(h2:∀s∈V.segs,s.n≤m):gV V≤m:=by
 unfold gV
 cases h:V.segs.getLast? with
 |none=>exact h1
 |some s=>exact h2 s (List.mem_of_getLast? h)
theorem JS.op{D:DiskD}(hd:DI D){nm:ByteArray}{m:Nat}{P:Bs→List Bs→List Bs→Prop}(h:JS D nm m P)(hs:D.steps=[]):∃q,OpQ D nm m q P fun B R=>∃lo hi,P B lo hi∧lo<+:R∧R<+:hi:=by
 obtain⟨V,a,⟨b,c⟩,d⟩:=h.pv hd hs
 obtain⟨e,f⟩:=a.recs hd
 exact⟨V.segs.length,V,a,gV_le b c,h,⟨V.lo,V.hi,d,e,f⟩,Nat.le_refl _⟩
theorem pre_eq{α:Type}{a b:List α}(h1:a<+:b)(h2:b<+:a):a=b:=h1.eq_of_length (Nat.le_antisymm h1.length_le h2.length_le)
theorem JW.op{D:DiskD}{nm seg:ByteArray}{B:Bs}{R0 R:List Bs}{g:Nat}{σ:Bs}{sy:Bool}{n m t q c:Nat}(h:JW D nm B R0 R g seg σ sy n m t q c):OpQ D nm m (q+1) (fun B' lo hi=>B'=B∧R0<+:lo∧hi<+:R) fun B' R'=>B'=B∧R'=R:=by
 have hj:=h.jl.js
 obtain⟨V,cur,hL,hB,_,hR,-,-,-,-,hVq⟩:=h.jl
 have hpv:=hL.pv h.di
 obtain⟨a,b⟩:=hpv.recs h.di
 have d:(V.addO (hiC cur)).hi=R:=by
  rw[VV.addO_hi,←hR]
  cases cur<;>rfl
 have e:(V.addO (hiC cur)).lo=R:=by
  rw[VV.addO_lo,hL.lv.lohi,←hR]
  cases cur<;>rfl
 rw[e]at a
 rw[d]at b
 refine⟨V.addO (hiC cur),hpv,gV_le (Nat.le_trans hL.lv.top.1 h.gm) fun s hs=>?_,hj.mono h.gm fun _ _ _ h=>h,⟨hB,(pre_eq a b).symm⟩, ?_⟩
 rotate_left
 · show(V.segs ++ (hiC cur).toList).length ≤ q +1
   rw[List.length_append]
   cases cur<;>simp[hiC]<;>omega
 rcases List.mem_append.1 hs with hs|hs
 ·exact Nat.le_trans (hL.lv.top.2 s hs) h.gm
 ·cases cur with
   |none=>simp[hiC]at hs
   |some c=>
    have:s=⟨c.n,c.p,c.hi,c.hi⟩:=by simpa[hiC]using hs
    subst this
    show c.n≤m
    rw[hL.lv.segN.2.1];exact h.gm
structure DW(D:DiskD)(nm:ByteArray)(m c:Nat)(P:Bs→List Bs→List Bs→Prop):Prop where
 di:DI D
 dead:D.dead=true
 st:D.steps.length≤1000000000
 js:JS D nm m P
 cap:Cap D c
theorem Dd.dw{D0 D:DiskD}{nm:ByteArray}{G m c:Nat}{P P':Bs→List Bs→List Bs→Prop}(h:Dd D0 D nm G P)(hG:G≤m+1)(hc:Cap D0 c)(hP:∀B lo hi,P B lo hi→P' B lo hi):DW D nm (m+1) (c+1) P':=
 ⟨h.di,h.dead,h.st,h.js.mono hG hP,hc.step h.cp⟩
structure CW(D:DiskD)(nm:ByteArray)(m c:Nat)(P:Bs→List Bs→List Bs→Prop):Prop where
 di:DI D
 dead:D.dead=false
 arm:D.armed=false
 st:D.steps=[]
 js:JS D nm m P
 cap:Cap D c
theorem CW.al{D:DiskD}{nm:ByteArray}{m c:Nat}{P:Bs→List Bs→List Bs→Prop}(h:CW D nm m c P):Al D 1000000000:=⟨h.dead,fun q=>(by rw[h.arm]at q;cases q),by rw[h.st];exact Nat.le_refl _⟩
theorem CW.of{D:DiskD}{nm:ByteArray}{m c:Nat}{P:Bs→List Bs→List Bs→Prop}(hd:DI D)(hj:JS D nm m P)(hc:Cap D c)(xs:List (BitVec 8))(ns:Nat→Nat)(nb:Nat):CW (crashD D xs ns nb) nm m c P:=
 ⟨hd.crash xs ns nb,rfl,rfl,rfl,hj.crash xs ns nb,hc.crash xs ns nb⟩
theorem CW.op{D:DiskD}{nm:ByteArray}{m c:Nat}{P:Bs→List Bs→List Bs→Prop}(h:CW D nm m c P):∃q,OpQ D nm m q P fun B R=>∃lo hi,P B lo hi∧lo<+:R∧R<+:hi:=h.js.op h.di h.st
theorem nmAt_newD(x y k:Nat):nmAt (newD x y) k=[]:=by
 unfold nmAt nmL
 show(([]:List StepD).take k|>.foldl mapN (([]:NameL),0)).1=[]
 rw[List.take_nil];rfl
theorem newD_DI(x y:Nat):DI (newD x y):=
 ⟨newD_ok x y,fun k z o h=>(by rw[nmAt_newD]at h;cases h),fun k z z' p h=>(by rw[nmAt_newD]at h;cases h),fun f hf=>(by cases hf),fun f hf=>(by cases hf)⟩
theorem newD_CW(x y:Nat)(nm:ByteArray):CW (newD x y) nm 0 0 fun B lo hi=>B=[]∧lo=[]∧hi=[]:=by
 refine⟨newD_DI x y,rfl,rfl,rfl,fun k=>⟨⟨0,0,[],[]⟩,⟨fun n h=>?_,fun h=>absurd rfl h,fun n _ h=>?_,fun s hs=>(by cases hs)⟩,⟨fun s hs=>(by cases hs),List.Pairwise.nil,fun s hs=>(by cases hs),fun _=>rfl⟩,⟨fun s hs=>(by cases hs),fun h=>absurd rfl h⟩,⟨Nat.le_refl _,fun s hs=>(by cases hs)⟩,rfl,rfl,rfl⟩,fun k=>⟨[],Nat.le_refl _,fun z h=>?_⟩⟩
 ·rw[nmAt_newD]at h;exact absurd rfl h
 ·rw[nmAt_newD]at h;exact absurd rfl h
 ·rw[nmAt_newD]at h;exact absurd rfl h
theorem newD_op(x y:Nat)(nm:ByteArray):OpQ (newD x y) nm 0 0 (fun B lo hi=>B=[]∧lo=[]∧hi=[]) fun B R=>B=[]∧R=[]:=
 ⟨⟨0,0,[],[]⟩,(RS.pv (newD_DI x y) ⟨fun k=>⟨fun n h=>by rw[nmAt_newD]at h;exact absurd rfl h,fun h=>absurd rfl h,fun n _ h=>by rw[nmAt_newD]at h;exact absurd rfl h,fun s hs=>(by cases hs)⟩,⟨fun s hs=>(by cases hs),List.Pairwise.nil,fun s hs=>(by cases hs),fun _=>rfl⟩,⟨fun s hs=>(by cases hs),fun h=>absurd rfl h⟩⟩),Nat.le_refl _,(newD_CW x y nm).js,⟨rfl,rfl⟩,Nat.le_refl _⟩
theorem found_one{B B0:Bs}{R R0:List Bs}(h:∃lo hi:List Bs,(B=B0∧R0<+:lo∧hi<+:R0)∧lo<+:R∧R<+:hi):B=B0∧R=R0:=by
 obtain⟨lo,hi,⟨a,b,c⟩,d,e⟩:=h
 exact⟨a,pre_eq (e.trans c) (b.trans d)⟩
theorem JL.oth{D D':DiskD}{nm nm2 seg:ByteArray}{B:Bs}{R0 R:List Bs}{g:Nat}{σ:Bs}{sy:Bool}{q:Nat}(h:JL D nm2 B R0 R g seg σ sy q)(hp:PlainB nm2)(hs:Stp nm D D')(hne:nm2≠nm):JL D' nm2 B R0 R g seg σ sy q:=by
 obtain⟨V,cur,a,b⟩:=h
 exact⟨V,cur,hs.oth nm2 hp hne V cur g a,b⟩
theorem JW.oth{D D':DiskD}{nm nm2 seg:ByteArray}{B:Bs}{R0 R:List Bs}{g:Nat}{σ:Bs}{sy:Bool}{n n' m t q c c':Nat}(h:JW D nm2 B R0 R g seg σ sy n m t q c)(hs:Stp nm D D')(hne:nm2≠nm)(hd:DI D')(ha:Al D' n')(hc:Cap D' c'):JW D' nm2 B R0 R g seg σ sy n' m t q c':=
 ⟨h.pl,hd,ha,h.jl.oth h.pl hs hne,hc,h.gm,h.sl,h.rl,h.rb,h.bl⟩
theorem JL.names{D:DiskD}{nm seg:ByteArray}{B:Bs}{R0 R:List Bs}{g:Nat}{σ:Bs}{sy:Bool}(h:JL D nm B R0 R g seg σ sy 0):∃l:List ByteArray,l.length≤3∧∀x,OfJ nm x→mfind x (nmAt D D.steps.length)≠none→x∈l:=by
 obtain⟨V,cur,a,-,-,-,-,-,-,-,hq⟩:=h
 have hs:V.segs=[]:=List.eq_nil_of_length_eq_zero (Nat.le_zero.1 hq)
 refine⟨[cN nm V.last,sN nm V.last]++cur.toList.map fun s=>sN nm s.n,by rw[List.length_append,List.length_map];cases cur<;>simp,fun x hx hn=>?_⟩
 rcases a.own x hx hn with rfl|rfl|⟨s,hs', rfl⟩
 · simp
 · simp
 · have : s∈cur.toList:=by
    change s∈V.segs++cur.toList at hs'
    rwa[hs,List.nil_append]at hs'
   exact List.mem_append_right _ (List.mem_map.2 ⟨s,this,rfl⟩)
theorem Cap.keep{D D':DiskD}(hc:Cp 1 D D')(hN:NmC D D.steps.length 6)(h:Cap D 8):Cap D' 8:=(hc 6 hN).2 8 (by omega) h
theorem RS.op{D:DiskD}(hd:DI D){nm:ByteArray}{V:VV}{m:Nat}(h:RS D nm V)(h1:V.last≤m)(h2:∀s∈V.segs,s.n≤m):∃q,OpQ D nm m q (fun B lo hi=>B=V.B∧lo=V.lo∧hi=V.hi) fun B R=>B=V.B∧V.lo<+:R∧R<+:V.hi:=by
 have hp:=h.pv hd
 obtain⟨a,b⟩:=hp.recs hd
 exact⟨V.segs.length,V,hp,gV_le h1 h2,h.js h1 h2,⟨rfl,a,b⟩,Nat.le_refl _⟩
end Go.Proofs.YtdnibpclkhenmaaGreatDoor
