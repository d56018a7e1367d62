import Derived.Test.YtdnibpclkhenmaaGreatDoorSBxA
import Derived.Test.YtdnibpclkhenmaaGreatDoorSJP
namespace Go.Proofs.YtdnibpclkhenmaaGreatDoor
open Go.BX
structure Act where
 kind:Int
 data:List (BitVec 8)
 n:Int
def actS:Shape Act:=(Shape.pair (Shape.int .i64) (Shape.pair SB (Shape.int .i64))).map fun x=>(x.kind,x.data,x.n)
theorem act_open{S:Nat→Prop}{w:World}{cs:List Value}{x:Act}(h:actS.rep S w cs x):∃a1:Option Addr,∃k1:Nat,cs=[.I x.kind,.slice a1 x.data.length k1,.I x.n]∧((-9223372036854775808)≤x.kind∧x.kind≤9223372036854775807)∧SB.rep S w [.slice a1 x.data.length k1] x.data∧((-9223372036854775808)≤x.n∧x.n≤9223372036854775807):=by
 obtain⟨_,_,rfl,c,h⟩:=h
 obtain⟨_,_,rfl,a,h⟩:=h
 have d:=h
 obtain⟨e,f⟩:=c
 obtain⟨a1,k1,b⟩:=Shape.slice_form' a
 obtain⟨g,i⟩:=d
 exact⟨a1,k1,(by simp[e,b,g]),f,(b▸a),i⟩
def sumD(l:List Act):Nat:=(l.map fun x=>x.data.length).sum
theorem sumD_snoc{l:List Act}{i:Nat}(h:i<l.length):sumD (l.take (i+1))=sumD (l.take i)+(l[i]).data.length:=by
 unfold sumD;rw[snoc_take h,List.map_append,List.sum_append];simp
theorem sumD_take(l:List Act)(i:Nat):sumD (l.take i)≤sumD l:=by
 have h:sumD l=sumD (l.take i)+sumD (l.drop i):=by unfold sumD;rw[←List.sum_append,←List.map_append,List.take_append_drop]
 omega
def RoomP(l:List Act):Prop:=(∀x∈l,x.data.length≤20000)∧l.length≤200∧sumD l≤1000000
theorem wrap_in{t:Int}(h:-9223372036854775808≤t∧t≤9223372036854775807):IntKind.i64.wrap t=t:=by
 have a:=wr_i64 (x:=t) h
 injection a
theorem room_fin{l:List Act}{nn:Int}(h1:∀j(h:j<l.length),(l[j]).data.length≤20000)(h2:l.length≤1000→nn=(sumD l:Int))(b:Bool)(hb:b=true→l.length≤200∧nn≤1000000):b=true→RoomP l:=fun h=>by
 obtain⟨k1,k2⟩:=hb h
 have:=h2 (by omega)
 refine⟨fun x hx=>?_,k1,by omega⟩
 obtain⟨j,hj,rfl⟩:=List.mem_iff_getElem.1 hx
 exact h1 j hj
theorem RoomP.at{l:List Act}(h:RoomP l){i:Nat}(hi:i<l.length):(l[i]).data.length≤20000:=h.1 _ (List.getElem_mem hi)
theorem room_spec{S:Nat→Prop}{w:World}{l:List Act}{al:Option Addr}{cl:Nat}(hr:(Rp (Shape.slice actS) [.slice al l.length cl] l).p S w):
 Calls Tryz.prog 22 #[.slice al l.length cl] w (Ret fun v w'=>Ext w w'∧∃bb:Bool,v=.bool bb∧(bb=true→RoomP l)):=by
 have hal:=Shape.slice_len hr
 refine uS1 Tryz.func22 ?_
 have H:=Hp.startF (w:=w) (S:=S) (G:=[Rp (Shape.slice actS) [.slice al l.length cl] l]) (.rp hr .nil)
 refine uR 8 [.c [2,0,1,0],.b 0,.c [3]] ?_
 refine uL (α:=Nat×Int) (g:=22) (p:=[2,0,1,0,0]) (fun(i,nn)=>[(0,.slice al l.length cl),(3,.I nn),(4,.I i)]) (fun(i,nn)w'=>Hp w S [] [] [] [Rp (Shape.slice actS) [.slice al l.length cl] l] w'∧i≤l.length∧(∀j(h:j<l.length),j<i→(l[j]).data.length≤20000)∧(i≤1000→nn=(sumD (l.take i):Int)∧nn≤20000*(i:Int))) (fun(i,nn)=>l.length-i) (0,(0:Int)) ⟨H,Nat.zero_le _,fun j _ h=>absurd h (Nat.not_lt_zero j),fun _=>⟨rfl,by omega⟩⟩ ?_
 rintro⟨i,nn⟩_⟨H,⟨hi,hall,hnn⟩⟩f
 refine uR 3 [.c [2,0,1,0,0,0,1],.c [2,0,1,0,0,1],.l [2,0,1,0,0],.b 0,.c [3]] ?_
 refine qD (((i:Int):Int)<((l.length:Nat):Int)) (fun x=>?_) (fun x=>?_)
 ·
  refine uR 5 [.c [2,0,1,0,0,1,0,0,0,0],.c [2,0,1,0,0,1,0,0,0,1],.c [2,0,1,0,0,1,0,0,1],.b 1,.c [2,0,1,0,0,2],.l [2,0,1,0,0],.b 0,.c [3]] ?_
  refine qG (sq 0 7) ?_
  refine uP 2 ?_
  have q:i<l.length:=by omega
  refine uX 46 (i:Int) H 0 rfl i (by omega) (List.getElem?_eq_getElem q) ?_
  intro _ _ _ s H
  obtain⟨_,_,rfl,_,k,_⟩:=act_open s
  have H:=H.addR k
  refine uP 1 ?_
  refine uV 23 1 (H.fc 1 rfl) ?_
  refine uF 2 ?_
  refine qD (((((l[i]).data.length:Nat):Int):Int)>20000) (fun t=>?_) (fun t=>?_)
  ·
   refine uR 2 [.c [2,0,1,0,0,1,0,0,0,1,0,1],.c [2,0,1,0,0,1,0,0,1],.b 1,.c [2,0,1,0,0,2],.l [2,0,1,0,0],.b 0,.c [3]] ?_
   refine qT (.bool false) Tryz.func22 ?_
   exact⟨_,rfl,H.done,false,rfl,nofun⟩
  ·
   refine uR 1 [.c [2,0,1,0,0,1,0,0,1],.b 1,.c [2,0,1,0,0,2],.l [2,0,1,0,0],.b 0,.c [3]] ?_
   refine qG (sq 0 9) ?_
   refine uP 3 ?_
   have m:i<l.length:=by omega
   refine uX 46 (i:Int) H 2 rfl i (by omega) (List.getElem?_eq_getElem m) ?_
   intro _ _ _ n H
   obtain⟨_,_,rfl,_,o,_⟩:=act_open n
   have H:=H.addR o
   refine uP 1 ?_
   refine uV 23 1 (H.fc 1 rfl) ?_
   refine uP 1 ?_
   refine RW.pv (κ:=.seq) (d:=some 25) (r:=(sq 8 9)) (v':=.I (IntKind.i64.wrap (nn+(((l[i]).data.length:Nat):Int)))) (v:=.I (IntKind.i64.wrap (nn+(((l[i]).data.length:Nat):Int)))) (by as_aux_lemma=>kernel_rfl) (rfl) ?_
   refine qF 1 [(0,.slice al l.length cl),(3,.I (IntKind.i64.wrap (nn+(((l[i]).data.length:Nat):Int)))),(4,.I i)] ?_
   refine uR 1 [.c [2,0,1,0,0,2],.l [2,0,1,0,0],.b 0,.c [3]] ?_
   refine qG (sq 0 3) ?_
   refine uP 1 ?_
   refine uI ((i:Int)+1) ?_
   refine uF 1 ?_
   have H:=H.pick [4] rfl
   exact uB (f (i+1,(IntKind.i64.wrap (nn+(((l[i]).data.length:Nat):Int)))) _ ⟨H,by omega,fun j hj h=>(Nat.lt_succ_iff_lt_or_eq.1 h).elim (hall j hj) (fun e=>by subst e;omega),fun a=>by obtain⟨q1,q2⟩:=hnn (by omega);have hs9:=sumD_snoc (l:=l) (i:=i) (by omega);rw[wrap_in (by omega),hs9];omega⟩ (by first|omega|(simp only[];omega)))
 ·
  refine uR 2 [.c [3,0],.c [4]] ?_
  refine qG (sq 0 8) ?_
  refine uP 4 ?_
  refine uD 29 ((((l.length:Nat):Int):Int)≤200) (fun u=>?_) (fun u=>?_)
  ·
   refine uF 4 ?_
   refine qT (.bool (decide ((nn:Int)≤1000000))) Tryz.func22 ?_
   exact⟨_,rfl,H.done,_,rfl,room_fin (nn:=nn) (fun j hj=>hall j hj (by omega)) (fun a=>by obtain⟨q1,-⟩:=hnn (by omega);rw[q1,List.take_of_length_le (by omega)]) _ (fun a=>by first|cases a|exact⟨by omega,of_decide_eq_true a⟩)⟩
  ·
   refine uF 4 ?_
   refine qT (.bool false) Tryz.func22 ?_
   exact⟨_,rfl,H.done,_,rfl,room_fin (nn:=nn) (fun j hj=>hall j hj (by omega)) (fun a=>by obtain⟨q1,-⟩:=hnn (by omega);rw[q1,List.take_of_length_le (by omega)]) _ (fun a=>by first|cases a|exact⟨by omega,of_decide_eq_true a⟩)⟩
end Go.Proofs.YtdnibpclkhenmaaGreatDoor
