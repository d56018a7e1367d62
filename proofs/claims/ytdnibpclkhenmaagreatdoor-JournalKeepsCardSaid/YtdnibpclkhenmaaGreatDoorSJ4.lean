import Derived.Test.YtdnibpclkhenmaaGreatDoorSBxA
import Derived.Test.YtdnibpclkhenmaaGreatDoorSJ1
import Derived.Test.YtdnibpclkhenmaaGreatDoorSJA
import Derived.Test.YtdnibpclkhenmaaGreatDoorSBxB
namespace Go.Proofs.YtdnibpclkhenmaaGreatDoor
open Go.BX
theorem wnumber_spec{S:Nat→Prop}{w:World}(e:Int)(hq:(Fz jQ).p S w):
 Calls Tryz.prog 161 #[.iface 322 (.I e)] w (Ret fun v w'=>Ext w w'∧v=.I e):=by
 refine uS1 Tryz.func161 ?_
 have H:=Hp.startF (w:=w) (S:=S) (G:=[Fz jQ]) (.cons hq .nil)
 refine uR 3 [.c [1,0],.c [2]] ?_
 refine qG (sq 0 1) ?_
 refine uC #[.I 0] 322 H ?_
 intro a _ H
 refine uF 0 ?_
 refine uR 2 [.c [2,0,0],.c [2,0,1],.c [3]] ?_
 refine qG (sq 0 3) ?_
 refine uP 2 ?_
 refine RW.callS (d:=some 6) (r:=(sq 3 3)) (g:=112) (args:=#[.iface 322 (.I e),.iface 323 (.P a 0)]) (by as_aux_lemma=>kernel_rfl) (as_wire H (Fz.of (H.fact 0 rfl))) ?_
 rintro _ _⟨rfl,H⟩
 refine uF 0 ?_
 refine uR 2 [.c [2,0,1,0,0],.c [2,0,1,0,1],.c [3]] ?_
 refine qG (sq 0 2) ?_
 refine uV 322 0 (H.cells 0 rfl) ?_
 refine uF 1 ?_
 refine qT (.I e) Tryz.func161 ?_
 exact⟨_,rfl,H.done,rfl⟩
theorem wNext_spec{S:Nat→Prop}{w:World}{xs:List (BitVec 8)}{a:Option Addr}{c:Nat}(h:SB.rep S w [.slice a xs.length c] xs)(at_:Nat)(hat:at_≤xs.length)(hxl:xs.length≤100000000)(hq:(Fz jQ).p S w):
 Calls Tryz.prog 108 #[.slice a xs.length c,.I at_] w (Ret fun v w'=>Ext w w'∧((∃e:Int,e≠0∧v=.tuple #[.slice none 0 0,.I 0,.I e]∧nextF (xs.drop at_)=none)∨∃(a':Option Addr)(c':Nat)(b:List (BitVec 8)),nextF (xs.drop at_)=some b∧v=.tuple #[.slice a' b.length c',.I ((at_+b.length+12:Nat):Int),.I 0]∧SB.rep (Nw S w) w' [.slice a' b.length c'] b)):=by
 have hlen:=Shape.slice_len h
 refine uS1 Tryz.func108 ?_
 have H:=Hp.startF (.rp h (.cons hq .nil))
 refine uR 4 [.c [1,0,0],.c [1,0,1],.c [2]] ?_
 refine qG (sq 0 8) ?_
 refine uP 3 ?_
 refine uD 11 (((at_:Int):Int)<0) (fun t=>?_) (fun t=>?_)
 ·
  omega
 ·
  refine uF 5 ?_
  refine qD (((at_:Int):Int)>((xs.length:Nat):Int)) (fun u=>?_) (fun u=>?_)
  ·
   omega
  ·
   refine uR 2 [.c [2,0],.c [3]] ?_
   refine qG (sq 0 9) ?_
   refine uP 2 ?_
   refine RW.slice (κ:=.seq) (d:=some 20) (r:=(sq 3 9)) (T:=23) (e:=5) (sh:=Sb) (a:=a) (len:=xs.length) (cap:=c) (zs:=(xs.drop at_)) (lv:=(some (.I at_))) (hv:=none) (by as_aux_lemma=>kernel_rfl) (by as_aux_lemma=>kernel_rfl) H 0 rfl at_ xs.length (.mk (by omega)) .nil (by omega) (by omega) (by rw[List.take_of_length_le (Nat.le_refl _)]) ?_
   intro x H
   refine uK (wnext_spec (xs:=(xs.drop at_)) (H.rp 0 rfl)) ?_
   rintro _ _ k(⟨n,o,rfl,g⟩|⟨y,s,f,g,rfl,l⟩)
   ·
    have H:=H.ext k
    refine uF 5 ?_
    refine uR 5 [.c [3,0,1,0,0],.c [3,0,1,0,1],.c [4]] ?_
    refine qG (sq 0 5) ?_
    refine uP 1 ?_
    refine uK (wnumber_spec n (H.fact 2 rfl)) ?_
    rintro _ _ m rfl
    have H:=H.ext m
    refine uF 3 ?_
    refine qT (.tuple #[.slice none 0 0,.I 0,.I n]) Tryz.func108 ?_
    exact⟨_,rfl,H.done,.inl ⟨_,o,rfl,g⟩⟩
   ·
    have H:=H.addM k l
    have hbl:=nextF_len g
    rw[List.length_drop]at hbl
    refine uF 5 ?_
    refine qR 6 [.c [4,0],.c [5]] [(1,.I at_),(7,.slice y f.length s)] ?_
    refine qG (sq 0 11) ?_
    refine uP 1 ?_
    have H:=H.ownNil Sb 5
    have H:Hp w S [] [] [⟨Sb,5,.slice none 0 0,[]⟩] [_,Rp SB [.slice x (xs.drop at_).length (c-at_)] (xs.drop at_),_,_] _:=H
    refine uA 23 23 1 f H 0 rfl 0 rfl (rfl) (by omega) ?_
    intro i j _ H _
    have H:Hp w S [] [] [⟨Sb,5,.slice i f.length j,f⟩] [_,_,_,_] _:=H
    refine uP 3 ?_
    refine uI ((at_:Int)+((f.length:Nat):Int)) ?_
    refine uI (((at_:Int)+((f.length:Nat):Int))+8) ?_
    refine uI ((((at_:Int)+((f.length:Nat):Int))+8)+4) ?_
    refine uF 3 ?_
    refine qT (.tuple #[.slice i f.length j,.I ((((at_:Int)+((f.length:Nat):Int))+8)+4),.I 0]) Tryz.func108 ?_
    have H:Hp w S [] [] [] [Rp SB [.slice i f.length j] f,_,_,_,_] _:=H.freezeW 0 rfl
    exact⟨_,rfl,H.done,.inr ⟨_,_,f,g,congrArg (fun q=>Value.tuple #[_,Value.int .i64 q,.I 0]) (by omega),H.out (H.rp 0 rfl)⟩⟩
theorem wAll_spec{S:Nat→Prop}{w:World}{xs:List (BitVec 8)}{a:Option Addr}{c:Nat}(h:SB.rep S w [.slice a xs.length c] xs)(hxl:xs.length≤100000000)(hq:(Fz jQ).p S w):
 Calls Tryz.prog 109 #[.slice a xs.length c] w (Ret fun v w'=>Ext w w'∧∃(a':Option Addr)(c' k:Nat),v=.tuple #[.slice a' (allW xs).length c',.I k]∧Hp w S [] [] [⟨SB,23,.slice a' (allW xs).length c',allW xs⟩] [] w'):=by
 have hlen:=Shape.slice_len h
 have hal:=allW_len xs
 refine uS1 Tryz.func109 ?_
 have H:=Hp.startF (.rp h (.cons hq .nil))
 refine uR 7 [.c [3,0],.b 0] ?_
 have H:=H.ownNil SB 23
 have H:=H.take 0 1
 refine uL (α:=Nat×List (List (BitVec 8))×Option Addr×Nat) (g:=109) (p:=[3,0,0]) (fun(at_,outs,aO,cO)=>[(0,.slice a xs.length c),(4,.slice aO outs.length cO),(5,.I at_)]) (fun(at_,outs,aO,cO)w'=>Hp w S [] [] [⟨SB,23,.slice aO outs.length cO,outs⟩] [Rp SB [.slice a xs.length c] xs,Fz jQ] w'∧at_≤xs.length∧outs++allW (xs.drop at_)=allW xs) (fun(at_,outs,aO,cO)=>xs.length-at_) (0,([]:List (List (BitVec 8))),none,0) ⟨H,Nat.zero_le _,rfl⟩ ?_
 rintro⟨at_,outs,aO,cO⟩_⟨H,f⟩j
 refine uR 2 [.c [3,0,0,0,0],.c [3,0,0,0,1],.b 1,.l [3,0,0],.b 0] ?_
 refine qG (sq 0 10) ?_
 refine uP 2 ?_
 refine uK (wNext_spec (xs:=xs) (H.rp 0 rfl) at_ (by omega) (by omega) (H.fact 1 rfl)) ?_
 rintro _ _ n(⟨B,x,rfl,i⟩|⟨y,z,e,i,rfl,u⟩)
 ·
  have H:=H.ext n
  refine uF 7 ?_
  refine uR 3 [.c [3,0,0,0,1,0,1],.c [3,0,0,0,2],.b 1,.l [3,0,0],.b 0] ?_
  refine qN B 0 (fun m=>?_) (fun m=>?_)
  ·
   have C:=m
   refine uR 2 [.c [3,0,0,0,1,0,1,0,1],.c [3,0,0,0,2],.b 1,.l [3,0,0],.b 0] ?_
   refine qT (.tuple #[.slice aO outs.length cO,.I at_]) Tryz.func109 ?_
   have hoA:outs=allW xs:=by have h9:=f.2;rwa[allW_none i,List.append_nil]at h9
   subst hoA
   have H:=H.drop (M':=[]) (W':=[_]) (List.nil_sublist _) (by repeat(first|exact List.Sublist.refl _|exact List.nil_sublist _|apply List.Sublist.cons_cons|apply List.Sublist.cons))
   exact⟨_,rfl,H.done,_,_,_,rfl,H.pick [] rfl⟩
  ·
   exact absurd m x
 ·
  have H:=H.addM n u
  have hbl:=nextF_len i
  rw[List.length_drop]at hbl
  have q:=allW_some i
  have hol:outs.length+1≤(allW xs).length:=by rw[←f.2,q,List.length_append,List.length_cons];omega
  refine uF 7 ?_
  refine uR 5 [.c [3,0,0,0,2],.b 1,.l [3,0,0],.b 0] ?_
  refine qG (sq 0 7) ?_
  refine uP 2 ?_
  refine RW.new (κ:=.seq) (d:=some 22) (r:=(sq 3 7)) (o:=.cells #[.slice y e.length z] 23 (0,0)) (v:=fun b=>.slice (some ⟨b,0,none⟩) 1 1) (fun b=>by as_aux_lemma=>kernel_rfl) (nofun) H ?_
  intro A _ H
  have H:=H.freeze 0 rfl SB ([e]:List (List (BitVec 8))) 1 (by simp[maxLen]) (by first|exact Nat.le_refl _|simp) (EsP.cons (c:=[.slice y e.length z]) (H.rp 0 rfl) EsP.nil)
  have H:Hp w S [] [] [_] [Rp (Shape.slice SB) [.slice (some ⟨A,0,none⟩) 1 1] ([e]:List (List (BitVec 8))),_,_,_] _:=H
  refine uA 22 22 24 (outs++([e]:List (List (BitVec 8)))) H 0 rfl 0 rfl (rfl) (by rw[List.length_append];simp only[List.length_cons,List.length_nil];omega) ?_
  intro s t _ H _
  have H:Hp w S [] [] [⟨SB,23,.slice s ((outs++([e]:List (List (BitVec 8)))).length) t,outs++([e]:List (List (BitVec 8)))⟩] [_,_,_,_] _:=H
  refine uF 3 ?_
  refine uR 1 [.l [3,0,0],.b 0] ?_
  have H:=H.pick [2,3] rfl
  exact uB (j (at_+e.length+12,outs++([e]:List (List (BitVec 8))),s,t) _ ⟨H,by omega,by rw[←f.2,q,List.drop_drop,List.append_assoc];rfl⟩ (by first|omega|(simp only[];omega)))
end Go.Proofs.YtdnibpclkhenmaaGreatDoor
