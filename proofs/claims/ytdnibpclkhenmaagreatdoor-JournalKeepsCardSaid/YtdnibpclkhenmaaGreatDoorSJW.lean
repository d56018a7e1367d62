import Derived.Test.YtdnibpclkhenmaaGreatDoorSBxA
import Derived.Test.YtdnibpclkhenmaaGreatDoorSJU
import Derived.Test.YtdnibpclkhenmaaGreatDoorSJM
namespace Go.Proofs.YtdnibpclkhenmaaGreatDoor
open Go.BX
set_option maxHeartbeats 8000000 in
theorem play_spec{S:Nat→Prop}{w:World}{O:List Nat}{db:Nat}{D0:DiskD}{sa0:Option Addr}{sk0:Nat}{l:List Act}{al:Option Addr}{cl:Nat}(hrm:RoomP l)(hcw0:CW D0 (⟨#[106]⟩:ByteArray) 0 0 (fun B lo hi=>B=[]∧lo=[]∧hi=[]))(hop0:OpQ D0 (⟨#[106]⟩:ByteArray) 0 0 (fun B lo hi=>B=[]∧lo=[]∧hi=[]) fun B R=>B=[]∧R=[])(H0:Hp w S O (diskM db D0 sa0 sk0) [⟨stepS,143,.slice sa0 D0.steps.length sk0,D0.steps⟩] [Rp (Shape.slice actS) [.slice al l.length cl] l,Fz jQ] w):
 Calls Tryz.prog 27 #[.P db 0,.slice al l.length cl] w (Ret fun v w'=>v=.bool true∧Hp w S O [] [] [] w'):=by
 have m4:=hrm.2.1
 have n4:=hrm.2.2
 refine uS1 Tryz.func27 ?_
 have H:=H0
 refine uR 3 [.c [1,0],.c [2]] ?_
 refine qG (sq 0 3) ?_
 refine uP 1 ?_
 refine uC #[.slice none 0 0,.slice none 0 0,.slice none 0 0,.slice none 0 0,.slice none 0 0,.bool false,.slice none 0 0] 50 H ?_
 intro a _ H
 refine uF 1 ?_
 refine uR 1 [.c [2,0],.c [3]] ?_
 refine qG (sq 0 8) ?_
 refine uP 2 ?_
 have H:=H.ownNil SB 23
 have H:=H.ownNil SB 23
 have H:Hp w S O ((a,.cells #[.slice none 0 0,.slice none 0 0,.slice none 0 0,.slice none 0 0,.slice none 0 0,.bool false,.slice none 0 0] 50 (0,0))::_) [⟨SB,23,.slice none (([]:List (List (BitVec 8))).length) 0,([]:List (List (BitVec 8)))⟩,⟨SB,23,.slice none (([]:List (List (BitVec 8))).length) 0,([]:List (List (BitVec 8)))⟩,_] [_,_] _:=H
 have H:=H.add (F:=Rp SB [.slice none (([]:List (BitVec 8)).length) 0] ([]:List (BitVec 8))) Shape.slice_nil
 have H:=H.add (F:=Rp (Shape.slice SB) [.slice none (([]:List (List (BitVec 8))).length) 0] ([]:List (List (BitVec 8)))) Shape.slice_nil
 have H:Hp w S O ((a,.cells #[.slice none (([]:List (BitVec 8)).length) 0,.slice none (([]:List (List (BitVec 8))).length) 0,.slice none (([]:List (BitVec 8)).length) 0,.slice none (([]:List (List (BitVec 8))).length) 0,.slice none (([]:List (List (BitVec 8))).length) 0,.bool false,.slice none (([]:List (BitVec 8)).length) 0] 50 (0,0))::_) [_,_,_] [_,_,_,_] _:=H
 have H:=H.frontW 2 rfl
 have H:=H.frontW 2 rfl
 have H:=H.frontW 2 rfl
 have H:=H.gat 1 0
 refine uKS (again_spec (n:=200000000) (m:=0) (q:=0) hcw0.di (hcw0.al.mono (by omega)) hcw0.arm hop0 hcw0.cap (by omega) (fun B R h=>CW.hb0 h) (fun B R h=>.inr ⟨h.1,List.nil_prefix,h.2▸List.nil_prefix⟩) (Nat.zero_le _) (Nat.zero_le _) (Nat.zero_le _) ((H.lend (M1:=((a,.cells #[.slice none (([]:List (BitVec 8)).length) 0,.slice none (([]:List (List (BitVec 8))).length) 0,.slice none (([]:List (BitVec 8)).length) 0,.slice none (([]:List (List (BitVec 8))).length) 0,.slice none (([]:List (List (BitVec 8))).length) 0,.bool false,.slice none (([]:List (BitVec 8)).length) 0] 50 (0,0))::diskM db D0 sa0 sk0)) (W1:=[⟨SB,23,.slice none (([]:List (List (BitVec 8))).length) 0,([]:List (List (BitVec 8)))⟩,⟨SB,23,.slice none (([]:List (List (BitVec 8))).length) 0,([]:List (List (BitVec 8)))⟩,⟨stepS,143,.slice sa0 D0.steps.length sk0,D0.steps⟩])).pick [1,1,1,0,3] rfl)) ?_
 rintro _ _⟨u3,B5,R6,g7,f2,g2,R1,S1,s1,t1,T1,U1,V1,X1,d2,Y1,Z1,rfl,h2,_,H'⟩
 have H:=H.back (M1:=((a,.cells #[.slice none (([]:List (BitVec 8)).length) 0,.slice none (([]:List (List (BitVec 8))).length) 0,.slice none (([]:List (BitVec 8)).length) 0,.slice none (([]:List (List (BitVec 8))).length) 0,.slice none (([]:List (List (BitVec 8))).length) 0,.bool false,.slice none (([]:List (BitVec 8)).length) 0] 50 (0,0))::diskM db D0 sa0 sk0)) (W1:=[⟨SB,23,.slice none (([]:List (List (BitVec 8))).length) 0,([]:List (List (BitVec 8)))⟩,⟨SB,23,.slice none (([]:List (List (BitVec 8))).length) 0,([]:List (List (BitVec 8)))⟩,⟨stepS,143,.slice sa0 D0.steps.length sk0,D0.steps⟩]) H'
 have H:=H.ung 2
 have H:Hp w S O ((u3,.cells #[.P db 0,.string (⟨#[106]⟩:ByteArray),.slice f2 B5.length g2,.slice R1 R6.length S1,.I g7,.string (⟨#[]⟩:ByteArray),.slice none (([]:List (BitVec 8)).length) 0,.bool true] 41 (0,0))::(a,.cells #[.slice s1 B5.length t1,.slice T1 R6.length U1,.slice s1 B5.length t1,.slice V1 R6.length X1,.slice none (([]:List (List (BitVec 8))).length) 0,.bool false,.slice none (([]:List (BitVec 8)).length) 0] 50 (0,0))::(diskM db d2 Y1 Z1)) [⟨SB,23,.slice R1 R6.length S1,R6⟩,⟨SB,23,.slice T1 R6.length U1,R6⟩,_,⟨stepS,143,.slice Y1 d2.steps.length Z1,d2.steps⟩] [Rp SB [.slice f2 B5.length g2] B5,_,Rp SB [.slice s1 B5.length t1] B5,Rp SB [.slice s1 B5.length t1] B5,_,Rp (Shape.slice SB) [.slice V1 R6.length X1] R6,_,_,_,_] _:=H
 have hbz:=h2.rl
 refine uF 5 ?_
 refine uR 4 [.c [3,0,1,0],.b 0,.c [4]] ?_
 have H:=H.pick [8,9,0,1,2,2,1,5] rfl
 refine uL (α:=Nat×Nat×DiskD×Option Addr×Nat×List (BitVec 8)×List (List (BitVec 8))×List (List (BitVec 8))×Nat×ByteArray×List (BitVec 8)×Bool×Nat×List (List (BitVec 8))×Bool×List (BitVec 8)×Option Addr×Nat×Option Addr×Nat×Option Addr×Nat×Option Addr×Nat×Option Addr×Nat×Option Addr×Nat×Option Addr×Nat×Option Addr×Nat×Option Addr×Nat×Value×Value×Value×Value) (g:=27) (p:=[3,0,1,0,0]) (fun(i,jb,D,sa,sk,B,R0,R,g,seg,σ,sy,q,L,torn,t,ab,cb,ar,cr,aσ,cσ,aB,cB,aR,cR,x,y,z,A,e,f,j,o,ya,yb,yc,yd)=>[(0,.P db 0),(1,.slice al l.length cl),(5,.P a 0),(6,.P jb 0),(7,.bool true),(8,.I i)]) (fun(i,jb,D,sa,sk,B,R0,R,g,seg,σ,sy,q,L,torn,t,ab,cb,ar,cr,aσ,cσ,aB,cB,aR,cR,x,y,z,A,e,f,j,o,ya,yb,yc,yd)w'=>Hp w S O ((jb,.cells #[.P db 0,.string (⟨#[106]⟩:ByteArray),.slice ab B.length cb,.slice ar R.length cr,ya,yb,yc,yd] 41 (0,0))::(a,.cells #[.slice aB B.length cB,.slice aR R.length cR,.slice x B.length y,.slice z R0.length A,.slice e L.length f,.bool torn,.slice j t.length o] 50 (0,0))::(diskM db D sa sk)) [⟨SB,23,.slice ar R.length cr,R⟩,⟨SB,23,.slice aR R.length cR,R⟩,⟨SB,23,.slice e L.length f,L⟩,⟨stepS,143,.slice sa D.steps.length sk,D.steps⟩] [Rp (Shape.slice actS) [.slice al l.length cl] l,Fz jQ,Rp SB [.slice ab B.length cb] B,Rp SB [.slice aσ σ.length cσ] σ,Rp SB [.slice aB B.length cB] B,Rp SB [.slice x B.length y] B,Rp SB [.slice j t.length o] t,Rp (Shape.slice SB) [.slice z R0.length A] R0] w'∧i≤l.length∧t.length≤4194304∧((ya=.I g∧yb=.string seg∧yc=.slice aσ σ.length cσ∧yd=.bool sy∧JW D (⟨#[106]⟩:ByteArray) B R0 R g seg σ sy (400000*(205-i)) (i+1) (sumD (l.take i)+12*i) q (i+1)∧torn=false∧R=R0++L)∨KD D (i+1) B t R0 R L torn)) (fun(i,jb,D,sa,sk,B,R0,R,g,seg,σ,sy,q,L,torn,t,ab,cb,ar,cr,aσ,cσ,aB,cB,aR,cR,x,y,z,A,e,f,j,o,ya,yb,yc,yd)=>l.length-i) (0,u3,d2,Y1,Z1,B5,R6,R6,g7,(⟨#[]⟩:ByteArray),([]:List (BitVec 8)),true,0,([]:List (List (BitVec 8))),false,([]:List (BitVec 8)),f2,g2,R1,S1,none,0,s1,t1,T1,U1,s1,t1,V1,X1,none,0,none,0,(.I g7),(.string (⟨#[]⟩:ByteArray)),(.slice none (([]:List (BitVec 8)).length) 0),(.bool true)) ⟨H,Nat.zero_le _,by exact Nat.zero_le _,.inl ⟨rfl,rfl,rfl,rfl,h2.mono (by omega) (by omega) (by omega) (Nat.le_refl _) (by omega),rfl,(List.append_nil _).symm⟩⟩ ?_
 rintro⟨i,jb,D,sa,sk,B,R0,R,g,seg,σ,sy,q,L,torn,t,ab,cb,ar,cr,aσ,cσ,aB,cB,aR,cR,x,y,z,A,e,f,j,o,ya,yb,yc,yd⟩_⟨H,⟨hi,ht,hst⟩⟩C
 rcases hst with⟨hya,hyb,hyc,hyd,hW,hto,hRL⟩|hkd
 ·
  subst hya
  subst hyb
  subst hyc
  subst hyd
  subst hto
  have v3:=hW.bd (t:=t) hRL ht
  have d4:=v3.rl
  have e4:=v3.ll
  have H:Hp w S O ((jb,.cells #[.P db 0,.string (⟨#[106]⟩:ByteArray),.slice ab B.length cb,.slice ar R.length cr,.I g,.string seg,.slice aσ σ.length cσ,.bool sy] 41 (0,0))::(a,.cells #[.slice aB B.length cB,.slice aR R.length cR,.slice x B.length y,.slice z R0.length A,.slice e L.length f,.bool false,.slice j t.length o] 50 (0,0))::_) [_,_,_,_] [_,_,_,_,_,_,_,_] _:=H
  refine uR 2 [.c [3,0,1,0,0,0,0],.c [3,0,1,0,0,0,1],.c [3,0,1,0,0,1],.l [3,0,1,0,0],.b 0,.c [4]] ?_
  refine qG (sq 0 7) ?_
  refine uP 5 ?_
  refine uD 27 (((i:Int):Int)<((l.length:Nat):Int)) (fun f4=>?_) (fun f4=>?_)
  ·
   have hxl:=hrm.at (i:=i) (by omega)
   have F3:=sumD_take l i
   refine uF 2 ?_
   refine uR 5 [.c [3,0,1,0,0,1,0,0,0],.c [3,0,1,0,0,1,0,0,1],.b 1,.c [3,0,1,0,0,2],.l [3,0,1,0,0],.b 0,.c [4]] ?_
   refine qG (sq 0 6) ?_
   refine uP 2 ?_
   have G3:i<l.length:=by omega
   refine uX 46 (i:Int) H 0 rfl i (by omega) (List.getElem?_eq_getElem G3) ?_
   intro g4 h4 _ H3 H
   obtain⟨J,K,rfl,_,I3,_⟩:=act_open H3
   have H:=H.addR I3
   refine uV 53 0 (H.fc 1 rfl) ?_
   refine uC #[.I 0,.slice none 0 0,.I 0] 53 H ?_
   intro y1 _ H
   refine qW 53 y1 0 (sq 6 6) (.agg #[.I ((l[i]).kind),.slice J ((l[i]).data.length) K,.I ((l[i]).n)]) ((y1,.cells #[.I ((l[i]).kind),.slice J ((l[i]).data.length) K,.I ((l[i]).n)] 53 (0,0))::(jb,.cells #[.P db 0,.string (⟨#[106]⟩:ByteArray),.slice ab B.length cb,.slice ar R.length cr,.I g,.string seg,.slice aσ σ.length cσ,.bool sy] 41 (0,0))::(a,.cells #[.slice aB B.length cB,.slice aR R.length cR,.slice x B.length y,.slice z R0.length A,.slice e L.length f,.bool false,.slice j t.length o] 50 (0,0))::(diskM db D sa sk)) H 0 rfl rfl ?_
   intro _ H
   refine uF 0 ?_
   refine uR 2 [.c [3,0,1,0,0,1,0,0,1,0,0],.c [3,0,1,0,0,1,0,0,1,0,1],.c [3,0,1,0,0,1,0,0,2],.b 1,.c [3,0,1,0,0,2],.l [3,0,1,0,0],.b 0,.c [4]] ?_
   refine qG (sq 0 7) ?_
   refine uP 1 ?_
   have H:=H.frontW 3 rfl
   have H:=H.gat 0 3
   refine uKS (dDead hW.al.dead ((H.lend (M1:=diskM db D sa sk) (W1:=[⟨stepS,143,.slice sa D.steps.length sk,D.steps⟩])).pick [] rfl)) ?_
   rintro _ _⟨rfl,H'⟩
   have H:=H.back (M1:=diskM db D sa sk) (W1:=[⟨stepS,143,.slice sa D.steps.length sk,D.steps⟩]) H'
   have H:=H.ung 0
   have H:Hp w S O (_::_::_::_) [_,_,_,_] [_,Fc g4 h4 [.I ((l[i]).kind),.slice J ((l[i]).data.length) K,.I ((l[i]).n)],_,_,_,_,_,_,_,_] _:=H
   refine uF 5 ?_
   refine uR 6 [.c [3,0,1,0,0,1,0,0,3,0,0],.c [3,0,1,0,0,1,0,0,3,0,1],.c [3,0,1,0,0,1,0,0,4],.b 1,.c [3,0,1,0,0,2],.l [3,0,1,0,0],.b 0,.c [4]] ?_
   refine qG (sq 0 2) ?_
   refine qP 1 (sq 1 2) [(0,.P db 0),(1,.slice al l.length cl),(5,.P a 0),(6,.P jb 0),(7,.bool true),(8,.I i),(9,.P y1 0),(12,.I 0),(55,.P y1 0)] ?_
   refine uV 3 0 (H.cells 0 rfl) ?_
   refine uF 0 ?_
   refine uR 3 [.c [3,0,1,0,0,1,0,0,3,0,1,0,1],.b 2,.c [3,0,1,0,0,1,0,0,4],.b 1,.c [3,0,1,0,0,2],.l [3,0,1,0,0],.b 0,.c [4]] ?_
   refine qE ((l[i]).kind) 1 (fun i4=>?_) (fun i4=>?_)
   ·
    refine uR 1 [.c [3,0,1,0,0,1,0,0,3,0,1,0,1,0,0],.c [3,0,1,0,0,1,0,0,3,0,1,0,1,0,1],.b 2,.c [3,0,1,0,0,1,0,0,4],.b 1,.c [3,0,1,0,0,2],.l [3,0,1,0,0],.b 0,.c [4]] ?_
    refine qG (sq 0 5) ?_
    refine uP 2 ?_
    refine uV 23 1 (H.cells 0 rfl) ?_
    have H:=H.frontM 1 rfl
    have H:=H.frontW 1 rfl
    have H:=H.gat 1 2
    refine uKS (jappend_spec (r:=(l[i]).data) (n:=((400000*(205-i))-300000)) hW.pl hW.di (hW.al.mono (by omega)) hW.jl (Nat.lt_of_le_of_lt hW.gm (by omega)) (by omega) (by have:=hW.sl;omega) (Nat.le_trans hW.rl (by omega)) (Nat.lt_of_le_of_lt hW.now (by omega)) ((H.lend (M1:=((jb,.cells #[.P db 0,.string (⟨#[106]⟩:ByteArray),.slice ab B.length cb,.slice ar R.length cr,.I g,.string seg,.slice aσ σ.length cσ,.bool sy] 41 (0,0))::diskM db D sa sk)) (W1:=[⟨SB,23,.slice ar R.length cr,R⟩,⟨stepS,143,.slice sa D.steps.length sk,D.steps⟩])).pick [4,5,3,0] rfl)) ?_
    rintro _ _(⟨rfl,z1,x0,y0,z0,T0,U0,b0,d0,e0,J3,K3,L3,M3,_,N3,_,H'⟩|⟨I1,J1,K1,L1,b0,d0,e0,rfl,O3,H'⟩)
    ·
     have A1:=hW.app (by omega) J3 K3 L3 M3 (hW.cap.step N3)
     have H:=H.back (M1:=((jb,.cells #[.P db 0,.string (⟨#[106]⟩:ByteArray),.slice ab B.length cb,.slice ar R.length cr,.I g,.string seg,.slice aσ σ.length cσ,.bool sy] 41 (0,0))::diskM db D sa sk)) (W1:=[⟨SB,23,.slice ar R.length cr,R⟩,⟨stepS,143,.slice sa D.steps.length sk,D.steps⟩]) H'
     have H:=H.ung 1
     have H:Hp w S O ((jb,.cells #[.P db 0,.string (⟨#[106]⟩:ByteArray),.slice ab B.length cb,.slice y0 ((R++[(l[i]).data]).length) z0,.I z1,.string x0,.slice T0 ((σ++frameF ((l[i]).data)).length) U0,.bool false] 41 (0,0))::_::_::(diskM db b0 d0 e0)) [⟨SB,23,.slice y0 ((R++[(l[i]).data]).length) z0,(R++[(l[i]).data])⟩,⟨stepS,143,.slice d0 b0.steps.length e0,b0.steps⟩,_,_] [_,Rp SB [.slice T0 ((σ++frameF ((l[i]).data)).length) U0] (σ++frameF ((l[i]).data)),_,_,_,_,_,_,_,_,_,_] _:=H
     refine uF 1 ?_
     refine qG (sq 0 6) ?_
     refine uP 2 ?_
     refine uV 23 1 (H.cells 1 rfl) ?_
     refine uP 2 ?_
     have H:=H.frontM 2 rfl
     have H:=H.frontW 3 rfl
     have H:=H.frontW 3 rfl
     refine uKS (bk_app (by first|omega|(simp only[List.length_append,List.length_cons,List.length_nil];omega)) (by first|omega|(simp only[List.length_append,List.length_cons,List.length_nil];omega)) ((H.lend (M1:=[(a,.cells #[.slice aB B.length cB,.slice aR R.length cR,.slice x B.length y,.slice z R0.length A,.slice e L.length f,.bool false,.slice j t.length o] 50 (0,0))]) (W1:=[⟨SB,23,.slice aR R.length cR,R⟩,⟨SB,23,.slice e L.length f,L⟩])).pick [8,9,10,11,2] rfl)) ?_
     rintro _ _⟨rfl,a1,b1,c1,d1,H'⟩
     have H:=H.back (M1:=[(a,.cells #[.slice aB B.length cB,.slice aR R.length cR,.slice x B.length y,.slice z R0.length A,.slice e L.length f,.bool false,.slice j t.length o] 50 (0,0))]) (W1:=[⟨SB,23,.slice aR R.length cR,R⟩,⟨SB,23,.slice e L.length f,L⟩]) H'
     have H:Hp w S O ((a,.cells #[.slice aB B.length cB,.slice a1 ((R++[(l[i]).data]).length) b1,.slice x B.length y,.slice z R0.length A,.slice c1 ((L++[(l[i]).data]).length) d1,.bool false,.slice j t.length o] 50 (0,0))::_::_::_) [⟨SB,23,.slice a1 ((R++[(l[i]).data]).length) b1,(R++[(l[i]).data])⟩,⟨SB,23,.slice c1 ((L++[(l[i]).data]).length) d1,(L++[(l[i]).data])⟩,_,_] [_,_,_,_,_,_,_,_,_,_,_,_,_,_,_,_] _:=H
     refine uF 0 ?_
     refine uR 3 [.c [3,0,1,0,0,1,0,0,4,0,0],.c [3,0,1,0,0,1,0,0,4,0,1],.c [3,0,1,0,0,1,0,0,5],.b 1,.c [3,0,1,0,0,2],.l [3,0,1,0,0],.b 0,.c [4]] ?_
     refine qG (sq 0 19) ?_
     refine uP 16 ?_
     have H:=H.frontW 3 rfl
     have H:=H.gat 0 3
     refine uKS (dDead A1.al.dead ((H.lend (M1:=diskM db b0 d0 e0) (W1:=[⟨stepS,143,.slice d0 b0.steps.length e0,b0.steps⟩])).pick [] rfl)) ?_
     rintro _ _⟨rfl,H'⟩
     have H:=H.back (M1:=diskM db b0 d0 e0) (W1:=[⟨stepS,143,.slice d0 b0.steps.length e0,b0.steps⟩]) H'
     have H:=H.ung 0
     have H:Hp w S O (_::_::_::_) [_,_,_,_] [_,_,_,_,_,_,_,_,_,_,_,_,_,_,_,_] _:=H
     refine qF 2 [(0,.P db 0),(1,.slice al l.length cl),(5,.P a 0),(6,.P jb 0),(7,.bool true),(8,.I i),(153,.bool false)] ?_
     refine uR 2 [.c [3,0,1,0,0,1,0,0,5],.b 1,.c [3,0,1,0,0,2],.l [3,0,1,0,0],.b 0,.c [4]] ?_
     refine qG (sq 0 10) ?_
     refine uP 4 ?_
     have H:=H.frontM 1 rfl
     refine uKS (jbase_spec A1.bl ((H.lend (M1:=[(jb,.cells #[.P db 0,.string (⟨#[106]⟩:ByteArray),.slice ab B.length cb,.slice y0 ((R++[(l[i]).data]).length) z0,.I z1,.string x0,.slice T0 ((σ++frameF ((l[i]).data)).length) U0,.bool false] 41 (0,0))]) (W1:=[])).pick [4] rfl)) ?_
     rintro _ _⟨x3,y3,rfl,H'⟩
     have H:=H.back (M1:=[(jb,.cells #[.P db 0,.string (⟨#[106]⟩:ByteArray),.slice ab B.length cb,.slice y0 ((R++[(l[i]).data]).length) z0,.I z1,.string x0,.slice T0 ((σ++frameF ((l[i]).data)).length) U0,.bool false] 41 (0,0))]) (W1:=[]) H'
     have H:Hp w S O (_::_::_::_) [⟨Sb,5,.slice x3 B.length y3,B⟩,_,_,_,_] [_,_,_,_,_,_,_,_,_,_,_,_,_,_,_,_] _:=H
     refine uP 1 ?_
     have H:=H.frontW 4 rfl
     refine uKS (jrecs_spec (Nat.le_trans A1.rl (by omega)) A1.rb ((H.lend (M1:=[(jb,.cells #[.P db 0,.string (⟨#[106]⟩:ByteArray),.slice ab B.length cb,.slice y0 ((R++[(l[i]).data]).length) z0,.I z1,.string x0,.slice T0 ((σ++frameF ((l[i]).data)).length) U0,.bool false] 41 (0,0))]) (W1:=[⟨SB,23,.slice y0 ((R++[(l[i]).data]).length) z0,(R++[(l[i]).data])⟩])).pick [] rfl)) ?_
     rintro _ _⟨z3,A3,rfl,H'⟩
     have H:=H.back (M1:=[(jb,.cells #[.P db 0,.string (⟨#[106]⟩:ByteArray),.slice ab B.length cb,.slice y0 ((R++[(l[i]).data]).length) z0,.I z1,.string x0,.slice T0 ((σ++frameF ((l[i]).data)).length) U0,.bool false] 41 (0,0))]) (W1:=[⟨SB,23,.slice y0 ((R++[(l[i]).data]).length) z0,(R++[(l[i]).data])⟩]) H'
     have H:Hp w S O (_::_::_::_) [⟨SB,23,.slice z3 ((R++[(l[i]).data]).length) A3,(R++[(l[i]).data])⟩,_,_,_,_,_] [_,_,_,_,_,_,_,_,_,_,_,_,_,_,_,_] _:=H
     have H:Hp w S O (_::_::_::_) [_,_,_,_,_] [Rp SB [.slice x3 B.length y3] B,_,_,_,_,_,_,_,_,_,_,_,_,_,_,_,_] _:=H.freezeW 2 rfl
     have H:Hp w S O (_::_::_::_) [_,_,_,_] [Rp (Shape.slice SB) [.slice z3 ((R++[(l[i]).data]).length) A3] (R++[(l[i]).data]),_,_,_,_,_,_,_,_,_,_,_,_,_,_,_,_,_] _:=H.freezeW 0 rfl
     have H:=H.frontM 1 rfl
     have H:=H.frontW 3 rfl
     have H:=H.frontW 3 rfl
     refine uKS (bk_has (by first|omega|(simp only[List.length_append,List.length_cons,List.length_nil];omega)) (by first|omega|(simp only[List.length_append,List.length_cons,List.length_nil];omega)) rfl rfl ((H.lend (M1:=[(a,.cells #[.slice aB B.length cB,.slice a1 ((R++[(l[i]).data]).length) b1,.slice x B.length y,.slice z R0.length A,.slice c1 ((L++[(l[i]).data]).length) d1,.bool false,.slice j t.length o] 50 (0,0))]) (W1:=[⟨SB,23,.slice a1 ((R++[(l[i]).data]).length) b1,(R++[(l[i]).data])⟩,⟨SB,23,.slice c1 ((L++[(l[i]).data]).length) d1,(L++[(l[i]).data])⟩])).pick [2,3,4,5,1,0] rfl)) ?_
     rintro _ _⟨rfl,H'⟩
     have H:=H.back (M1:=[(a,.cells #[.slice aB B.length cB,.slice a1 ((R++[(l[i]).data]).length) b1,.slice x B.length y,.slice z R0.length A,.slice c1 ((L++[(l[i]).data]).length) d1,.bool false,.slice j t.length o] 50 (0,0))]) (W1:=[⟨SB,23,.slice a1 ((R++[(l[i]).data]).length) b1,(R++[(l[i]).data])⟩,⟨SB,23,.slice c1 ((L++[(l[i]).data]).length) d1,(L++[(l[i]).data])⟩]) H'
     have H:Hp w S O (_::_::_::_) [_,_,_,_] [_,_,_,_,_,_,_,_,_,_,_,_,_,_,_,_,_,_,_,_,_,_] _:=H
     refine uF 2 ?_
     refine uR 1 [.c [3,0,1,0,0,2],.l [3,0,1,0,0],.b 0,.c [4]] ?_
     refine qG (sq 0 3) ?_
     refine uP 1 ?_
     refine uI ((i:Int)+1) ?_
     refine uF 1 ?_
     have H:=H.pick [14,15,10,11,0,1,2,3] rfl
     have H:=H.frontM 1 rfl
     have H:=H.frontM 2 rfl
     have H:=H.frontW 3 rfl
     have H:=H.frontW 2 rfl
     have H:=H.frontW 2 rfl
     have H:=H.frontW 3 rfl
     have H:=H.dropM 0
     exact uB (C (i+1,jb,b0,d0,e0,B,R0,(R++[(l[i]).data]),z1,x0,(σ++frameF ((l[i]).data)),false,q,(L++[(l[i]).data]),false,t,ab,cb,y0,z0,T0,U0,aB,cB,a1,b1,x,y,z,A,c1,d1,j,o,(.I z1),(.string x0),(.slice T0 ((σ++frameF ((l[i]).data)).length) U0),(.bool false)) _ ⟨H,by omega,ht,.inl ⟨rfl,rfl,rfl,rfl,A1.mono (by omega) (by omega) (by first|omega|(rw[sumD_snoc (by omega)];omega)) (Nat.le_refl _) (by omega),rfl,(by rw[hRL,List.append_assoc])⟩⟩ (by first|omega|(simp only[];omega)))
    ·
     have H:=H.back (M1:=((jb,.cells #[.P db 0,.string (⟨#[106]⟩:ByteArray),.slice ab B.length cb,.slice ar R.length cr,.I g,.string seg,.slice aσ σ.length cσ,.bool sy] 41 (0,0))::diskM db D sa sk)) (W1:=[⟨SB,23,.slice ar R.length cr,R⟩,⟨stepS,143,.slice sa D.steps.length sk,D.steps⟩]) H'
     have H:=H.ung 1
     have H:Hp w S O ((jb,.cells #[.P db 0,.string (⟨#[106]⟩:ByteArray),.slice ab B.length cb,.slice ar R.length cr,I1,J1,K1,L1] 41 (0,0))::_::_::_) [_,_,_,_] [_,_,_,_,_,_,_,_,_,_,_] _:=H
     have f3:=(O3).dw (m:=(i+1)) (P':=fun B' lo hi=>B'=B∧R0<+:lo∧hi<+:R++[(l[i]).data]) (by have:=hW.gm;omega) hW.cap (fun _ _ _ h=>h)
     have i1:=f3.kd (B:=B) (t:=t) (R0:=R0) (R:=R) (L:=(L++[(l[i]).data])) (torn:=false) (by omega) (fun _ _ _ h=>kp_app hRL h) ((hW.bd hRL ht).app (by omega))
     refine uF 1 ?_
     refine qG (sq 0 6) ?_
     refine uP 2 ?_
     refine uV 23 1 (H.cells 1 rfl) ?_
     refine uP 2 ?_
     have H:=H.frontM 2 rfl
     have H:=H.frontW 3 rfl
     have H:=H.frontW 3 rfl
     refine uKS (bk_apf (by first|omega|(simp only[List.length_append,List.length_cons,List.length_nil];omega)) (by first|omega|(simp only[List.length_append,List.length_cons,List.length_nil];omega)) ((H.lend (M1:=[(a,.cells #[.slice aB B.length cB,.slice aR R.length cR,.slice x B.length y,.slice z R0.length A,.slice e L.length f,.bool false,.slice j t.length o] 50 (0,0))]) (W1:=[⟨SB,23,.slice aR R.length cR,R⟩,⟨SB,23,.slice e L.length f,L⟩])).pick [7,8,9,10,1] rfl)) ?_
     rintro _ _⟨rfl,e1,f1,H'⟩
     have H:=H.back (M1:=[(a,.cells #[.slice aB B.length cB,.slice aR R.length cR,.slice x B.length y,.slice z R0.length A,.slice e L.length f,.bool false,.slice j t.length o] 50 (0,0))]) (W1:=[⟨SB,23,.slice aR R.length cR,R⟩,⟨SB,23,.slice e L.length f,L⟩]) H'
     have H:Hp w S O ((a,.cells #[.slice aB B.length cB,.slice aR R.length cR,.slice x B.length y,.slice z R0.length A,.slice e1 ((L++[(l[i]).data]).length) f1,.bool false,.slice j t.length o] 50 (0,0))::_::_::_) [_,⟨SB,23,.slice e1 ((L++[(l[i]).data]).length) f1,(L++[(l[i]).data])⟩,_,_] [_,_,_,_,_,_,_,_,_,_,_,_,_,_,_] _:=H
     refine qF 0 [(0,.P db 0),(1,.slice al l.length cl),(5,.P a 0),(6,.P jb 0),(7,.bool true),(8,.I i),(12,.I 70)] ?_
     refine uR 3 [.c [3,0,1,0,0,1,0,0,4,0,0],.c [3,0,1,0,0,1,0,0,4,0,1],.c [3,0,1,0,0,1,0,0,5],.b 1,.c [3,0,1,0,0,2],.l [3,0,1,0,0],.b 0,.c [4]] ?_
     refine qG (sq 0 19) ?_
     refine uP 7 ?_
     have H:=H.frontW 3 rfl
     have H:=H.gat 0 3
     refine uKS (dDead i1.dead ((H.lend (M1:=diskM db b0 d0 e0) (W1:=[⟨stepS,143,.slice d0 b0.steps.length e0,b0.steps⟩])).pick [] rfl)) ?_
     rintro _ _⟨rfl,H'⟩
     have H:=H.back (M1:=diskM db b0 d0 e0) (W1:=[⟨stepS,143,.slice d0 b0.steps.length e0,b0.steps⟩]) H'
     have H:=H.ung 0
     have H:Hp w S O (_::_::_::_) [_,_,_,_] [_,_,_,_,_,_,_,_,_,_,_,_,_,_,_] _:=H
     refine uF 11 ?_
     refine uR 2 [.c [3,0,1,0,0,1,0,0,5],.b 1,.c [3,0,1,0,0,2],.l [3,0,1,0,0],.b 0,.c [4]] ?_
     refine qG (sq 0 10) ?_
     refine uP 4 ?_
     have H:=H.frontM 1 rfl
     refine uKS (jbase_spec i1.ks.bd.bl ((H.lend (M1:=[(jb,.cells #[.P db 0,.string (⟨#[106]⟩:ByteArray),.slice ab B.length cb,.slice ar R.length cr,I1,J1,K1,L1] 41 (0,0))]) (W1:=[])).pick [4] rfl)) ?_
     rintro _ _⟨B3,C3,rfl,H'⟩
     have H:=H.back (M1:=[(jb,.cells #[.P db 0,.string (⟨#[106]⟩:ByteArray),.slice ab B.length cb,.slice ar R.length cr,I1,J1,K1,L1] 41 (0,0))]) (W1:=[]) H'
     have H:Hp w S O (_::_::_::_) [⟨Sb,5,.slice B3 B.length C3,B⟩,_,_,_,_] [_,_,_,_,_,_,_,_,_,_,_,_,_,_,_] _:=H
     refine uP 1 ?_
     have H:=H.frontW 4 rfl
     refine uKS (jrecs_spec (Nat.le_trans i1.ks.bd.rl (by omega)) i1.ks.bd.rb ((H.lend (M1:=[(jb,.cells #[.P db 0,.string (⟨#[106]⟩:ByteArray),.slice ab B.length cb,.slice ar R.length cr,I1,J1,K1,L1] 41 (0,0))]) (W1:=[⟨SB,23,.slice ar R.length cr,R⟩])).pick [] rfl)) ?_
     rintro _ _⟨D3,E3,rfl,H'⟩
     have H:=H.back (M1:=[(jb,.cells #[.P db 0,.string (⟨#[106]⟩:ByteArray),.slice ab B.length cb,.slice ar R.length cr,I1,J1,K1,L1] 41 (0,0))]) (W1:=[⟨SB,23,.slice ar R.length cr,R⟩]) H'
     have H:Hp w S O (_::_::_::_) [⟨SB,23,.slice D3 R.length E3,R⟩,_,_,_,_,_] [_,_,_,_,_,_,_,_,_,_,_,_,_,_,_] _:=H
     have H:Hp w S O (_::_::_::_) [_,_,_,_,_] [Rp SB [.slice B3 B.length C3] B,_,_,_,_,_,_,_,_,_,_,_,_,_,_,_] _:=H.freezeW 2 rfl
     have H:Hp w S O (_::_::_::_) [_,_,_,_] [Rp (Shape.slice SB) [.slice D3 R.length E3] R,_,_,_,_,_,_,_,_,_,_,_,_,_,_,_,_] _:=H.freezeW 0 rfl
     have H:=H.frontM 1 rfl
     have H:=H.frontW 3 rfl
     have H:=H.frontW 3 rfl
     refine uKS (bk_has (by first|omega|(simp only[List.length_append,List.length_cons,List.length_nil];omega)) (by first|omega|(simp only[List.length_append,List.length_cons,List.length_nil];omega)) rfl rfl ((H.lend (M1:=[(a,.cells #[.slice aB B.length cB,.slice aR R.length cR,.slice x B.length y,.slice z R0.length A,.slice e1 ((L++[(l[i]).data]).length) f1,.bool false,.slice j t.length o] 50 (0,0))]) (W1:=[⟨SB,23,.slice aR R.length cR,R⟩,⟨SB,23,.slice e1 ((L++[(l[i]).data]).length) f1,(L++[(l[i]).data])⟩])).pick [2,3,4,5,1,0] rfl)) ?_
     rintro _ _⟨rfl,H'⟩
     have H:=H.back (M1:=[(a,.cells #[.slice aB B.length cB,.slice aR R.length cR,.slice x B.length y,.slice z R0.length A,.slice e1 ((L++[(l[i]).data]).length) f1,.bool false,.slice j t.length o] 50 (0,0))]) (W1:=[⟨SB,23,.slice aR R.length cR,R⟩,⟨SB,23,.slice e1 ((L++[(l[i]).data]).length) f1,(L++[(l[i]).data])⟩]) H'
     have H:Hp w S O (_::_::_::_) [_,_,_,_] [_,_,_,_,_,_,_,_,_,_,_,_,_,_,_,_,_,_,_,_,_] _:=H
     refine uF 2 ?_
     refine uR 1 [.c [3,0,1,0,0,2],.l [3,0,1,0,0],.b 0,.c [4]] ?_
     refine qG (sq 0 3) ?_
     refine uP 1 ?_
     refine uI ((i:Int)+1) ?_
     refine uF 1 ?_
     have H:=H.add (F:=Rp SB [.slice none (([]:List (BitVec 8)).length) 0] ([]:List (BitVec 8))) Shape.slice_nil
     have H:=H.pick [14,15,11,0,1,2,3,4] rfl
     have H:=H.frontM 1 rfl
     have H:=H.frontM 2 rfl
     have H:=H.frontW 3 rfl
     have H:=H.frontW 2 rfl
     have H:=H.frontW 2 rfl
     have H:=H.frontW 3 rfl
     have H:=H.dropM 0
     exact uB (C (i+1,jb,b0,d0,e0,B,R0,R,0,(⟨#[]⟩:ByteArray),([]:List (BitVec 8)),true,q,(L++[(l[i]).data]),false,t,ab,cb,ar,cr,none,0,aB,cB,aR,cR,x,y,z,A,e1,f1,j,o,I1,J1,K1,L1) _ ⟨H,by omega,ht,.inr (i1.mono (by omega))⟩ (by first|omega|(simp only[];omega)))
   ·
    refine uR 2 [.c [3,0,1,0,0,1,0,0,3,0,1,0,1,1,1],.b 2,.c [3,0,1,0,0,1,0,0,4],.b 1,.c [3,0,1,0,0,2],.l [3,0,1,0,0],.b 0,.c [4]] ?_
    refine qE ((l[i]).kind) 2 (fun j4=>?_) (fun j4=>?_)
    ·
     refine uR 1 [.c [3,0,1,0,0,1,0,0,3,0,1,0,1,1,1,0,0],.c [3,0,1,0,0,1,0,0,3,0,1,0,1,1,1,0,1],.b 2,.c [3,0,1,0,0,1,0,0,4],.b 1,.c [3,0,1,0,0,2],.l [3,0,1,0,0],.b 0,.c [4]] ?_
     refine qG (sq 0 3) ?_
     refine uP 1 ?_
     have H:=H.frontM 1 rfl
     have H:=H.frontW 1 rfl
     have H:=H.gat 1 2
     refine uKS (jsync_spec (n:=((400000*(205-i))-300000)) hW.pl hW.di (hW.al.mono (by omega)) hW.jl ((H.lend (M1:=((jb,.cells #[.P db 0,.string (⟨#[106]⟩:ByteArray),.slice ab B.length cb,.slice ar R.length cr,.I g,.string seg,.slice aσ σ.length cσ,.bool sy] 41 (0,0))::diskM db D sa sk)) (W1:=[⟨SB,23,.slice ar R.length cr,R⟩,⟨stepS,143,.slice sa D.steps.length sk,D.steps⟩])).pick [4,5,3] rfl)) ?_
     rintro _ _(⟨rfl,c0,f0,g0,g3,h3,i3,_,j3,H'⟩|⟨N1,O1,P1,Q1,c0,f0,g0,rfl,k3,H'⟩)
     ·
      have j1:=hW.syn g3 h3 i3 (hW.cap.step j3)
      have H:=H.back (M1:=((jb,.cells #[.P db 0,.string (⟨#[106]⟩:ByteArray),.slice ab B.length cb,.slice ar R.length cr,.I g,.string seg,.slice aσ σ.length cσ,.bool sy] 41 (0,0))::diskM db D sa sk)) (W1:=[⟨SB,23,.slice ar R.length cr,R⟩,⟨stepS,143,.slice sa D.steps.length sk,D.steps⟩]) H'
      have H:=H.ung 1
      have H:Hp w S O ((jb,.cells #[.P db 0,.string (⟨#[106]⟩:ByteArray),.slice ab B.length cb,.slice ar R.length cr,.I g,.string seg,.slice aσ σ.length cσ,.bool true] 41 (0,0))::_::_::(diskM db c0 f0 g0)) [_,⟨stepS,143,.slice f0 c0.steps.length g0,c0.steps⟩,_,_] [_,_,_,_,_,_,_,_,_,_,_,_] _:=H
      refine uF 1 ?_
      refine uR 3 [.c [3,0,1,0,0,1,0,0,3,0,1,0,1,1,1,0,2,0],.b 2,.c [3,0,1,0,0,1,0,0,4],.b 1,.c [3,0,1,0,0,2],.l [3,0,1,0,0],.b 0,.c [4]] ?_
      refine qG (sq 0 2) ?_
      refine uP 1 ?_
      have H:=H.frontM 2 rfl
      have H:=H.frontW 3 rfl
      have H:=H.frontW 3 rfl
      refine uKS (bk_syn (by first|omega|(simp only[List.length_append,List.length_cons,List.length_nil];omega)) (by first|omega|(simp only[List.length_append,List.length_cons,List.length_nil];omega)) ((H.lend (M1:=[(a,.cells #[.slice aB B.length cB,.slice aR R.length cR,.slice x B.length y,.slice z R0.length A,.slice e L.length f,.bool false,.slice j t.length o] 50 (0,0))]) (W1:=[⟨SB,23,.slice aR R.length cR,R⟩,⟨SB,23,.slice e L.length f,L⟩])).pick [8,9,10,11] rfl)) ?_
      rintro _ _⟨rfl,B1,C1,H'⟩
      have H:=H.back (M1:=[(a,.cells #[.slice aB B.length cB,.slice aR R.length cR,.slice x B.length y,.slice z R0.length A,.slice e L.length f,.bool false,.slice j t.length o] 50 (0,0))]) (W1:=[⟨SB,23,.slice aR R.length cR,R⟩,⟨SB,23,.slice e L.length f,L⟩]) H'
      have H:Hp w S O ((a,.cells #[.slice aB B.length cB,.slice aR R.length cR,.slice aB B.length cB,.slice B1 R.length C1,.slice none (([]:List (List (BitVec 8))).length) 0,.bool false,.slice j t.length o] 50 (0,0))::_::_::_) [_,_,_,_] [_,_,_,Rp (Shape.slice SB) [.slice B1 R.length C1] R,_,_,_,_,_,_,_,_,_,_,_,_] _:=H
      refine qF 0 [(0,.P db 0),(1,.slice al l.length cl),(5,.P a 0),(6,.P jb 0),(7,.bool true),(8,.I i),(12,.I 0)] ?_
      refine uR 3 [.c [3,0,1,0,0,1,0,0,4,0,0],.c [3,0,1,0,0,1,0,0,4,0,1],.c [3,0,1,0,0,1,0,0,5],.b 1,.c [3,0,1,0,0,2],.l [3,0,1,0,0],.b 0,.c [4]] ?_
      refine qG (sq 0 19) ?_
      refine uP 16 ?_
      have H:=H.frontW 3 rfl
      have H:=H.gat 0 3
      refine uKS (dDead j1.al.dead ((H.lend (M1:=diskM db c0 f0 g0) (W1:=[⟨stepS,143,.slice f0 c0.steps.length g0,c0.steps⟩])).pick [] rfl)) ?_
      rintro _ _⟨rfl,H'⟩
      have H:=H.back (M1:=diskM db c0 f0 g0) (W1:=[⟨stepS,143,.slice f0 c0.steps.length g0,c0.steps⟩]) H'
      have H:=H.ung 0
      have H:Hp w S O (_::_::_::_) [_,_,_,_] [_,_,_,_,_,_,_,_,_,_,_,_,_,_,_,_] _:=H
      refine uF 2 ?_
      refine uR 2 [.c [3,0,1,0,0,1,0,0,5],.b 1,.c [3,0,1,0,0,2],.l [3,0,1,0,0],.b 0,.c [4]] ?_
      refine qG (sq 0 10) ?_
      refine uP 4 ?_
      have H:=H.frontM 1 rfl
      refine uKS (jbase_spec j1.bl ((H.lend (M1:=[(jb,.cells #[.P db 0,.string (⟨#[106]⟩:ByteArray),.slice ab B.length cb,.slice ar R.length cr,.I g,.string seg,.slice aσ σ.length cσ,.bool true] 41 (0,0))]) (W1:=[])).pick [4] rfl)) ?_
      rintro _ _⟨i2,j2,rfl,H'⟩
      have H:=H.back (M1:=[(jb,.cells #[.P db 0,.string (⟨#[106]⟩:ByteArray),.slice ab B.length cb,.slice ar R.length cr,.I g,.string seg,.slice aσ σ.length cσ,.bool true] 41 (0,0))]) (W1:=[]) H'
      have H:Hp w S O (_::_::_::_) [⟨Sb,5,.slice i2 B.length j2,B⟩,_,_,_,_] [_,_,_,_,_,_,_,_,_,_,_,_,_,_,_,_] _:=H
      refine uP 1 ?_
      have H:=H.frontW 4 rfl
      refine uKS (jrecs_spec (Nat.le_trans j1.rl (by omega)) j1.rb ((H.lend (M1:=[(jb,.cells #[.P db 0,.string (⟨#[106]⟩:ByteArray),.slice ab B.length cb,.slice ar R.length cr,.I g,.string seg,.slice aσ σ.length cσ,.bool true] 41 (0,0))]) (W1:=[⟨SB,23,.slice ar R.length cr,R⟩])).pick [] rfl)) ?_
      rintro _ _⟨k2,l2,rfl,H'⟩
      have H:=H.back (M1:=[(jb,.cells #[.P db 0,.string (⟨#[106]⟩:ByteArray),.slice ab B.length cb,.slice ar R.length cr,.I g,.string seg,.slice aσ σ.length cσ,.bool true] 41 (0,0))]) (W1:=[⟨SB,23,.slice ar R.length cr,R⟩]) H'
      have H:Hp w S O (_::_::_::_) [⟨SB,23,.slice k2 R.length l2,R⟩,_,_,_,_,_] [_,_,_,_,_,_,_,_,_,_,_,_,_,_,_,_] _:=H
      have H:Hp w S O (_::_::_::_) [_,_,_,_,_] [Rp SB [.slice i2 B.length j2] B,_,_,_,_,_,_,_,_,_,_,_,_,_,_,_,_] _:=H.freezeW 2 rfl
      have H:Hp w S O (_::_::_::_) [_,_,_,_] [Rp (Shape.slice SB) [.slice k2 R.length l2] R,_,_,_,_,_,_,_,_,_,_,_,_,_,_,_,_,_] _:=H.freezeW 0 rfl
      have H:=H.frontM 1 rfl
      have H:=H.frontW 3 rfl
      have H:=H.frontW 3 rfl
      refine uKS (bk_has (by first|omega|(simp only[List.length_append,List.length_cons,List.length_nil];omega)) (by first|omega|(simp only[List.length_append,List.length_cons,List.length_nil];omega)) rfl rfl ((H.lend (M1:=[(a,.cells #[.slice aB B.length cB,.slice aR R.length cR,.slice aB B.length cB,.slice B1 R.length C1,.slice none (([]:List (List (BitVec 8))).length) 0,.bool false,.slice j t.length o] 50 (0,0))]) (W1:=[⟨SB,23,.slice aR R.length cR,R⟩,⟨SB,23,.slice none (([]:List (List (BitVec 8))).length) 0,([]:List (List (BitVec 8)))⟩])).pick [2,2,4,5,1,0] rfl)) ?_
      rintro _ _⟨rfl,H'⟩
      have H:=H.back (M1:=[(a,.cells #[.slice aB B.length cB,.slice aR R.length cR,.slice aB B.length cB,.slice B1 R.length C1,.slice none (([]:List (List (BitVec 8))).length) 0,.bool false,.slice j t.length o] 50 (0,0))]) (W1:=[⟨SB,23,.slice aR R.length cR,R⟩,⟨SB,23,.slice none (([]:List (List (BitVec 8))).length) 0,([]:List (List (BitVec 8)))⟩]) H'
      have H:Hp w S O (_::_::_::_) [_,_,_,_] [_,_,_,_,_,_,_,_,_,_,_,_,_,_,_,_,_,_,_,_,_,_] _:=H
      refine uF 2 ?_
      refine uR 1 [.c [3,0,1,0,0,2],.l [3,0,1,0,0],.b 0,.c [4]] ?_
      refine qG (sq 0 3) ?_
      refine uP 1 ?_
      refine uI ((i:Int)+1) ?_
      refine uF 1 ?_
      have H:=H.pick [14,15,10,11,0,0,2,3] rfl
      have H:=H.frontM 1 rfl
      have H:=H.frontM 2 rfl
      have H:=H.frontW 3 rfl
      have H:=H.frontW 2 rfl
      have H:=H.frontW 2 rfl
      have H:=H.frontW 3 rfl
      have H:=H.dropM 0
      exact uB (C (i+1,jb,c0,f0,g0,B,R,R,g,seg,σ,true,q,([]:List (List (BitVec 8))),false,t,ab,cb,ar,cr,aσ,cσ,aB,cB,aR,cR,aB,cB,B1,C1,none,0,j,o,(.I g),(.string seg),(.slice aσ σ.length cσ),(.bool true)) _ ⟨H,by omega,ht,.inl ⟨rfl,rfl,rfl,rfl,j1.mono (by omega) (by omega) (by first|omega|(rw[sumD_snoc (by omega)];omega)) (Nat.le_refl _) (by omega),rfl,(List.append_nil _).symm⟩⟩ (by first|omega|(simp only[];omega)))
     ·
      have H:=H.back (M1:=((jb,.cells #[.P db 0,.string (⟨#[106]⟩:ByteArray),.slice ab B.length cb,.slice ar R.length cr,.I g,.string seg,.slice aσ σ.length cσ,.bool sy] 41 (0,0))::diskM db D sa sk)) (W1:=[⟨SB,23,.slice ar R.length cr,R⟩,⟨stepS,143,.slice sa D.steps.length sk,D.steps⟩]) H'
      have H:=H.ung 1
      have H:Hp w S O ((jb,.cells #[.P db 0,.string (⟨#[106]⟩:ByteArray),.slice ab B.length cb,.slice ar R.length cr,N1,O1,P1,Q1] 41 (0,0))::_::_::_) [_,_,_,_] [_,_,_,_,_,_,_,_,_,_,_] _:=H
      have m2:=(k3).dw (m:=(i+1)) (P':=fun B' lo hi=>B'=B∧R0<+:lo∧hi<+:R) (by have:=hW.gm;omega) hW.cap (fun _ _ _ h=>h)
      have V0:=m2.kd (B:=B) (t:=t) (R0:=R0) (R:=R) (L:=L) (torn:=false) (by omega) (fun _ _ _ h=>kp_syn hRL h) ((hW.bd hRL ht).mono (by omega))
      refine qF 1 [(0,.P db 0),(1,.slice al l.length cl),(5,.P a 0),(6,.P jb 0),(7,.bool true),(8,.I i),(12,.I 70)] ?_
      refine uR 7 [.c [3,0,1,0,0,1,0,0,4,0,0],.c [3,0,1,0,0,1,0,0,4,0,1],.c [3,0,1,0,0,1,0,0,5],.b 1,.c [3,0,1,0,0,2],.l [3,0,1,0,0],.b 0,.c [4]] ?_
      refine qG (sq 0 19) ?_
      refine uP 7 ?_
      have H:=H.frontW 1 rfl
      have H:=H.gat 0 3
      refine uKS (dDead V0.dead ((H.lend (M1:=diskM db c0 f0 g0) (W1:=[⟨stepS,143,.slice f0 c0.steps.length g0,c0.steps⟩])).pick [] rfl)) ?_
      rintro _ _⟨rfl,H'⟩
      have H:=H.back (M1:=diskM db c0 f0 g0) (W1:=[⟨stepS,143,.slice f0 c0.steps.length g0,c0.steps⟩]) H'
      have H:=H.ung 0
      have H:Hp w S O (_::_::_::_) [_,_,_,_] [_,_,_,_,_,_,_,_,_,_,_] _:=H
      refine uF 11 ?_
      refine uR 2 [.c [3,0,1,0,0,1,0,0,5],.b 1,.c [3,0,1,0,0,2],.l [3,0,1,0,0],.b 0,.c [4]] ?_
      refine qG (sq 0 10) ?_
      refine uP 4 ?_
      refine uKS (jbase_spec V0.ks.bd.bl ((H.lend (M1:=[(jb,.cells #[.P db 0,.string (⟨#[106]⟩:ByteArray),.slice ab B.length cb,.slice ar R.length cr,N1,O1,P1,Q1] 41 (0,0))]) (W1:=[])).pick [0] rfl)) ?_
      rintro _ _⟨n2,o2,rfl,H'⟩
      have H:=H.back (M1:=[(jb,.cells #[.P db 0,.string (⟨#[106]⟩:ByteArray),.slice ab B.length cb,.slice ar R.length cr,N1,O1,P1,Q1] 41 (0,0))]) (W1:=[]) H'
      have H:Hp w S O (_::_::_::_) [⟨Sb,5,.slice n2 B.length o2,B⟩,_,_,_,_] [_,_,_,_,_,_,_,_,_,_,_] _:=H
      refine uP 1 ?_
      have H:=H.frontW 2 rfl
      refine uKS (jrecs_spec (Nat.le_trans V0.ks.bd.rl (by omega)) V0.ks.bd.rb ((H.lend (M1:=[(jb,.cells #[.P db 0,.string (⟨#[106]⟩:ByteArray),.slice ab B.length cb,.slice ar R.length cr,N1,O1,P1,Q1] 41 (0,0))]) (W1:=[⟨SB,23,.slice ar R.length cr,R⟩])).pick [] rfl)) ?_
      rintro _ _⟨p2,q2,rfl,H'⟩
      have H:=H.back (M1:=[(jb,.cells #[.P db 0,.string (⟨#[106]⟩:ByteArray),.slice ab B.length cb,.slice ar R.length cr,N1,O1,P1,Q1] 41 (0,0))]) (W1:=[⟨SB,23,.slice ar R.length cr,R⟩]) H'
      have H:Hp w S O (_::_::_::_) [⟨SB,23,.slice p2 R.length q2,R⟩,_,_,_,_,_] [_,_,_,_,_,_,_,_,_,_,_] _:=H
      have H:Hp w S O (_::_::_::_) [_,_,_,_,_] [Rp SB [.slice n2 B.length o2] B,_,_,_,_,_,_,_,_,_,_,_] _:=H.freezeW 2 rfl
      have H:Hp w S O (_::_::_::_) [_,_,_,_] [Rp (Shape.slice SB) [.slice p2 R.length q2] R,_,_,_,_,_,_,_,_,_,_,_,_] _:=H.freezeW 0 rfl
      have H:=H.frontM 2 rfl
      have H:=H.frontW 3 rfl
      have H:=H.frontW 3 rfl
      refine uKS (bk_has (by first|omega|(simp only[List.length_append,List.length_cons,List.length_nil];omega)) (by first|omega|(simp only[List.length_append,List.length_cons,List.length_nil];omega)) rfl rfl ((H.lend (M1:=[(a,.cells #[.slice aB B.length cB,.slice aR R.length cR,.slice x B.length y,.slice z R0.length A,.slice e L.length f,.bool false,.slice j t.length o] 50 (0,0))]) (W1:=[⟨SB,23,.slice aR R.length cR,R⟩,⟨SB,23,.slice e L.length f,L⟩])).pick [9,10,11,12,1,0] rfl)) ?_
      rintro _ _⟨rfl,H'⟩
      have H:=H.back (M1:=[(a,.cells #[.slice aB B.length cB,.slice aR R.length cR,.slice x B.length y,.slice z R0.length A,.slice e L.length f,.bool false,.slice j t.length o] 50 (0,0))]) (W1:=[⟨SB,23,.slice aR R.length cR,R⟩,⟨SB,23,.slice e L.length f,L⟩]) H'
      have H:Hp w S O (_::_::_::_) [_,_,_,_] [_,_,_,_,_,_,_,_,_,_,_,_,_,_,_,_,_] _:=H
      refine uF 2 ?_
      refine uR 1 [.c [3,0,1,0,0,2],.l [3,0,1,0,0],.b 0,.c [4]] ?_
      refine qG (sq 0 3) ?_
      refine uP 1 ?_
      refine uI ((i:Int)+1) ?_
      refine uF 1 ?_
      have H:=H.add (F:=Rp SB [.slice none (([]:List (BitVec 8)).length) 0] ([]:List (BitVec 8))) Shape.slice_nil
      have H:=H.pick [10,11,7,0,1,2,3,4] rfl
      have H:=H.frontM 1 rfl
      have H:=H.frontM 2 rfl
      have H:=H.frontW 3 rfl
      have H:=H.frontW 2 rfl
      have H:=H.frontW 2 rfl
      have H:=H.frontW 3 rfl
      have H:=H.dropM 0
      exact uB (C (i+1,jb,c0,f0,g0,B,R0,R,0,(⟨#[]⟩:ByteArray),([]:List (BitVec 8)),true,q,L,false,t,ab,cb,ar,cr,none,0,aB,cB,aR,cR,x,y,z,A,e,f,j,o,N1,O1,P1,Q1) _ ⟨H,by omega,ht,.inr (V0.mono (by omega))⟩ (by first|omega|(simp only[];omega)))
    ·
     refine uR 2 [.c [3,0,1,0,0,1,0,0,3,0,1,0,1,1,1,1,1],.b 2,.c [3,0,1,0,0,1,0,0,4],.b 1,.c [3,0,1,0,0,2],.l [3,0,1,0,0],.b 0,.c [4]] ?_
     refine qE ((l[i]).kind) 3 (fun P3=>?_) (fun P3=>?_)
     ·
      refine uR 1 [.c [3,0,1,0,0,1,0,0,3,0,1,0,1,1,1,1,1,0,0],.c [3,0,1,0,0,1,0,0,3,0,1,0,1,1,1,1,1,0,1],.b 2,.c [3,0,1,0,0,1,0,0,4],.b 1,.c [3,0,1,0,0,2],.l [3,0,1,0,0],.b 0,.c [4]] ?_
      refine qG (sq 0 5) ?_
      refine uP 2 ?_
      refine uV 23 1 (H.cells 0 rfl) ?_
      have H:=H.frontM 1 rfl
      have H:=H.frontW 1 rfl
      have H:=H.gat 1 2
      refine uKS (jcheck_spec (b:=(l[i]).data) (n:=((400000*(205-i))-300000)) hW.pl hW.di (hW.al.mono (by omega)) hW.jl (Nat.lt_of_le_of_lt hW.gm (by omega)) (by omega) (Nat.lt_of_le_of_lt hW.now (by omega)) ((H.lend (M1:=((jb,.cells #[.P db 0,.string (⟨#[106]⟩:ByteArray),.slice ab B.length cb,.slice ar R.length cr,.I g,.string seg,.slice aσ σ.length cσ,.bool sy] 41 (0,0))::diskM db D sa sk)) (W1:=[⟨SB,23,.slice ar R.length cr,R⟩,⟨stepS,143,.slice sa D.steps.length sk,D.steps⟩])).pick [4,5,3,0] rfl)) ?_
      rintro _ _(⟨rfl,A0,B0,Q,U,V,l3,m3,n3,_,o3,H'⟩|⟨u1,v1,w1,x1,Q,U,V,rfl,p3,H'⟩)
      ·
       have k1:=hW.chk (by omega) l3 m3 n3 (hW.cap.step o3)
       have H:=H.back (M1:=((jb,.cells #[.P db 0,.string (⟨#[106]⟩:ByteArray),.slice ab B.length cb,.slice ar R.length cr,.I g,.string seg,.slice aσ σ.length cσ,.bool sy] 41 (0,0))::diskM db D sa sk)) (W1:=[⟨SB,23,.slice ar R.length cr,R⟩,⟨stepS,143,.slice sa D.steps.length sk,D.steps⟩]) H'
       have H:=H.ung 1
       have H:Hp w S O ((jb,.cells #[.P db 0,.string (⟨#[106]⟩:ByteArray),.slice A0 (((l[i]).data).length) B0,.slice none (([]:List (List (BitVec 8))).length) 0,.I (((g+1):Nat):Int),.string (⟨#[]⟩:ByteArray),.slice none (([]:List (BitVec 8)).length) 0,.bool true] 41 (0,0))::_::_::(diskM db Q U V)) [_,⟨stepS,143,.slice U Q.steps.length V,Q.steps⟩,_,_] [Rp SB [.slice A0 (((l[i]).data).length) B0] ((l[i]).data),_,_,_,_,_,_,_,_,_,_,_] _:=H
       refine qF 1 [(0,.P db 0),(1,.slice al l.length cl),(5,.P a 0),(6,.P jb 0),(7,.bool true),(8,.I i),(9,.P y1 0),(12,.I 0)] ?_
       refine qG (sq 0 6) ?_
       refine uP 2 ?_
       refine uV 23 1 (H.cells 1 rfl) ?_
       refine uP 2 ?_
       have H:=H.frontM 2 rfl
       have H:=H.frontW 3 rfl
       have H:=H.frontW 3 rfl
       refine uKS (bk_tuy (by first|omega|(simp only[List.length_append,List.length_cons,List.length_nil];omega)) (by first|omega|(simp only[List.length_append,List.length_cons,List.length_nil];omega)) ((H.lend (M1:=[(a,.cells #[.slice aB B.length cB,.slice aR R.length cR,.slice x B.length y,.slice z R0.length A,.slice e L.length f,.bool false,.slice j t.length o] 50 (0,0))]) (W1:=[⟨SB,23,.slice aR R.length cR,R⟩,⟨SB,23,.slice e L.length f,L⟩])).pick [8,9,10,11,2] rfl)) ?_
       rintro _ _⟨rfl,D1,E1,H'⟩
       have H:=H.back (M1:=[(a,.cells #[.slice aB B.length cB,.slice aR R.length cR,.slice x B.length y,.slice z R0.length A,.slice e L.length f,.bool false,.slice j t.length o] 50 (0,0))]) (W1:=[⟨SB,23,.slice aR R.length cR,R⟩,⟨SB,23,.slice e L.length f,L⟩]) H'
       have H:Hp w S O ((a,.cells #[.slice J (((l[i]).data).length) K,.slice none (([]:List (List (BitVec 8))).length) 0,.slice J (((l[i]).data).length) K,.slice D1 (([]:List (List (BitVec 8))).length) E1,.slice none (([]:List (List (BitVec 8))).length) 0,.bool false,.slice j t.length o] 50 (0,0))::_::_::_) [_,_,_,_] [Rp SB [.slice J (((l[i]).data).length) K] ((l[i]).data),Rp SB [.slice J (((l[i]).data).length) K] ((l[i]).data),_,Rp (Shape.slice SB) [.slice D1 (([]:List (List (BitVec 8))).length) E1] ([]:List (List (BitVec 8))),_,_,_,_,_,_,_,_,_,_,_,_] _:=H
       refine uF 0 ?_
       refine uR 3 [.c [3,0,1,0,0,1,0,0,4,0,0],.c [3,0,1,0,0,1,0,0,4,0,1],.c [3,0,1,0,0,1,0,0,5],.b 1,.c [3,0,1,0,0,2],.l [3,0,1,0,0],.b 0,.c [4]] ?_
       refine qG (sq 0 19) ?_
       refine uP 16 ?_
       have H:=H.frontW 3 rfl
       have H:=H.gat 0 3
       refine uKS (dDead k1.al.dead ((H.lend (M1:=diskM db Q U V) (W1:=[⟨stepS,143,.slice U Q.steps.length V,Q.steps⟩])).pick [] rfl)) ?_
       rintro _ _⟨rfl,H'⟩
       have H:=H.back (M1:=diskM db Q U V) (W1:=[⟨stepS,143,.slice U Q.steps.length V,Q.steps⟩]) H'
       have H:=H.ung 0
       have H:Hp w S O (_::_::_::_) [_,_,_,_] [_,_,_,_,_,_,_,_,_,_,_,_,_,_,_,_] _:=H
       refine uF 2 ?_
       refine uR 2 [.c [3,0,1,0,0,1,0,0,5],.b 1,.c [3,0,1,0,0,2],.l [3,0,1,0,0],.b 0,.c [4]] ?_
       refine qG (sq 0 10) ?_
       refine uP 4 ?_
       have H:=H.frontM 1 rfl
       refine uKS (jbase_spec k1.bl ((H.lend (M1:=[(jb,.cells #[.P db 0,.string (⟨#[106]⟩:ByteArray),.slice A0 (((l[i]).data).length) B0,.slice none (([]:List (List (BitVec 8))).length) 0,.I (((g+1):Nat):Int),.string (⟨#[]⟩:ByteArray),.slice none (([]:List (BitVec 8)).length) 0,.bool true] 41 (0,0))]) (W1:=[])).pick [4] rfl)) ?_
       rintro _ _⟨r2,s2,rfl,H'⟩
       have H:=H.back (M1:=[(jb,.cells #[.P db 0,.string (⟨#[106]⟩:ByteArray),.slice A0 (((l[i]).data).length) B0,.slice none (([]:List (List (BitVec 8))).length) 0,.I (((g+1):Nat):Int),.string (⟨#[]⟩:ByteArray),.slice none (([]:List (BitVec 8)).length) 0,.bool true] 41 (0,0))]) (W1:=[]) H'
       have H:Hp w S O (_::_::_::_) [⟨Sb,5,.slice r2 (((l[i]).data).length) s2,(l[i]).data⟩,_,_,_,_] [_,_,_,_,_,_,_,_,_,_,_,_,_,_,_,_] _:=H
       refine uP 1 ?_
       have H:=H.frontW 2 rfl
       refine uKS (jrecs_spec (Nat.le_trans k1.rl (by omega)) k1.rb ((H.lend (M1:=[(jb,.cells #[.P db 0,.string (⟨#[106]⟩:ByteArray),.slice A0 (((l[i]).data).length) B0,.slice none (([]:List (List (BitVec 8))).length) 0,.I (((g+1):Nat):Int),.string (⟨#[]⟩:ByteArray),.slice none (([]:List (BitVec 8)).length) 0,.bool true] 41 (0,0))]) (W1:=[⟨SB,23,.slice none (([]:List (List (BitVec 8))).length) 0,([]:List (List (BitVec 8)))⟩])).pick [] rfl)) ?_
       rintro _ _⟨t2,u2,rfl,H'⟩
       have H:=H.back (M1:=[(jb,.cells #[.P db 0,.string (⟨#[106]⟩:ByteArray),.slice A0 (((l[i]).data).length) B0,.slice none (([]:List (List (BitVec 8))).length) 0,.I (((g+1):Nat):Int),.string (⟨#[]⟩:ByteArray),.slice none (([]:List (BitVec 8)).length) 0,.bool true] 41 (0,0))]) (W1:=[⟨SB,23,.slice none (([]:List (List (BitVec 8))).length) 0,([]:List (List (BitVec 8)))⟩]) H'
       have H:Hp w S O (_::_::_::_) [⟨SB,23,.slice t2 (([]:List (List (BitVec 8))).length) u2,([]:List (List (BitVec 8)))⟩,_,_,_,_,_] [_,_,_,_,_,_,_,_,_,_,_,_,_,_,_,_] _:=H
       have H:Hp w S O (_::_::_::_) [_,_,_,_,_] [Rp SB [.slice r2 (((l[i]).data).length) s2] ((l[i]).data),_,_,_,_,_,_,_,_,_,_,_,_,_,_,_,_] _:=H.freezeW 2 rfl
       have H:Hp w S O (_::_::_::_) [_,_,_,_] [Rp (Shape.slice SB) [.slice t2 (([]:List (List (BitVec 8))).length) u2] ([]:List (List (BitVec 8))),_,_,_,_,_,_,_,_,_,_,_,_,_,_,_,_,_] _:=H.freezeW 0 rfl
       have H:=H.frontM 1 rfl
       have H:=H.frontW 2 rfl
       have H:=H.frontW 1 rfl
       refine uKS (bk_has (by first|omega|(simp only[List.length_append,List.length_cons,List.length_nil];omega)) (by first|omega|(simp only[List.length_append,List.length_cons,List.length_nil];omega)) rfl rfl ((H.lend (M1:=[(a,.cells #[.slice J (((l[i]).data).length) K,.slice none (([]:List (List (BitVec 8))).length) 0,.slice J (((l[i]).data).length) K,.slice D1 (([]:List (List (BitVec 8))).length) E1,.slice none (([]:List (List (BitVec 8))).length) 0,.bool false,.slice j t.length o] 50 (0,0))]) (W1:=[⟨SB,23,.slice none (([]:List (List (BitVec 8))).length) 0,([]:List (List (BitVec 8)))⟩,⟨SB,23,.slice none (([]:List (List (BitVec 8))).length) 0,([]:List (List (BitVec 8)))⟩])).pick [2,2,4,5,1,0] rfl)) ?_
       rintro _ _⟨rfl,H'⟩
       have H:=H.back (M1:=[(a,.cells #[.slice J (((l[i]).data).length) K,.slice none (([]:List (List (BitVec 8))).length) 0,.slice J (((l[i]).data).length) K,.slice D1 (([]:List (List (BitVec 8))).length) E1,.slice none (([]:List (List (BitVec 8))).length) 0,.bool false,.slice j t.length o] 50 (0,0))]) (W1:=[⟨SB,23,.slice none (([]:List (List (BitVec 8))).length) 0,([]:List (List (BitVec 8)))⟩,⟨SB,23,.slice none (([]:List (List (BitVec 8))).length) 0,([]:List (List (BitVec 8)))⟩]) H'
       have H:Hp w S O (_::_::_::_) [_,_,_,_] [_,_,_,_,_,_,_,_,_,_,_,_,_,_,_,_,_,_,_,_,_,_] _:=H
       refine uF 2 ?_
       refine qR 1 [.c [3,0,1,0,0,2],.l [3,0,1,0,0],.b 0,.c [4]] [(0,.P db 0),(1,.slice al l.length cl),(5,.P a 0),(6,.P jb 0),(7,.bool true),(8,.I i)] ?_
       refine qG (sq 0 3) ?_
       refine uP 1 ?_
       refine uI ((i:Int)+1) ?_
       refine uF 1 ?_
       have H:=H.pick [14,15,10,11,0,0,2,3] rfl
       have H:=H.frontM 1 rfl
       have H:=H.frontM 2 rfl
       have H:=H.frontW 2 rfl
       have H:=H.frontW 1 rfl
       have H:=H.frontW 2 rfl
       have H:=H.frontW 3 rfl
       have H:=H.dropM 0
       exact uB (C (i+1,jb,Q,U,V,(l[i]).data,([]:List (List (BitVec 8))),([]:List (List (BitVec 8))),(g+1),(⟨#[]⟩:ByteArray),([]:List (BitVec 8)),true,0,([]:List (List (BitVec 8))),false,t,A0,B0,none,0,none,0,J,K,none,0,J,K,D1,E1,none,0,j,o,(.I (((g+1):Nat):Int)),(.string (⟨#[]⟩:ByteArray)),(.slice none (([]:List (BitVec 8)).length) 0),(.bool true)) _ ⟨H,by omega,ht,.inl ⟨rfl,rfl,rfl,rfl,k1.mono (by omega) (by omega) (by first|omega|(rw[sumD_snoc (by omega)];omega)) (Nat.le_refl _) (by omega),rfl,(List.append_nil _).symm⟩⟩ (by first|omega|(simp only[];omega)))
      ·
       have H:=H.back (M1:=((jb,.cells #[.P db 0,.string (⟨#[106]⟩:ByteArray),.slice ab B.length cb,.slice ar R.length cr,.I g,.string seg,.slice aσ σ.length cσ,.bool sy] 41 (0,0))::diskM db D sa sk)) (W1:=[⟨SB,23,.slice ar R.length cr,R⟩,⟨stepS,143,.slice sa D.steps.length sk,D.steps⟩]) H'
       have H:=H.ung 1
       have H:Hp w S O ((jb,.cells #[.P db 0,.string (⟨#[106]⟩:ByteArray),.slice ab B.length cb,.slice ar R.length cr,u1,v1,w1,x1] 41 (0,0))::_::_::_) [_,_,_,_] [_,_,_,_,_,_,_,_,_,_,_] _:=H
       have v2:=(p3).dw (m:=(i+1)) (P':=fun B' lo hi=>(B'=B∧R0<+:lo∧hi<+:R)∨(B'=((l[i]).data)∧hi=[])) (by have:=hW.gm;omega) hW.cap (fun _ _ _ h=>h)
       have W0:=v2.kd (B:=B) (t:=(l[i]).data) (R0:=R0) (R:=R) (L:=L) (torn:=true) (by omega) (fun _ _ _ h=>kp_chk hRL h) (((hW.bd hRL ht).mono (by omega)).torn (by omega))
       refine uF 1 ?_
       refine qG (sq 0 6) ?_
       refine uP 2 ?_
       refine uV 23 1 (H.cells 1 rfl) ?_
       refine uP 2 ?_
       have H:=H.frontM 2 rfl
       have H:=H.frontW 3 rfl
       have H:=H.frontW 3 rfl
       refine uKS (bk_tun ((H.lend (M1:=[(a,.cells #[.slice aB B.length cB,.slice aR R.length cR,.slice x B.length y,.slice z R0.length A,.slice e L.length f,.bool false,.slice j t.length o] 50 (0,0))]) (W1:=[⟨SB,23,.slice aR R.length cR,R⟩,⟨SB,23,.slice e L.length f,L⟩])).pick [7,8,9,10,1] rfl)) ?_
       rintro _ _⟨rfl,H'⟩
       have H:=H.back (M1:=[(a,.cells #[.slice aB B.length cB,.slice aR R.length cR,.slice x B.length y,.slice z R0.length A,.slice e L.length f,.bool false,.slice j t.length o] 50 (0,0))]) (W1:=[⟨SB,23,.slice aR R.length cR,R⟩,⟨SB,23,.slice e L.length f,L⟩]) H'
       have H:Hp w S O ((a,.cells #[.slice aB B.length cB,.slice aR R.length cR,.slice x B.length y,.slice z R0.length A,.slice e L.length f,.bool true,.slice J (((l[i]).data).length) K] 50 (0,0))::_::_::_) [_,_,_,_] [_,_,_,_,_,_,_,_,_,_,_,_,_,_,_] _:=H
       refine uF 0 ?_
       refine uR 3 [.c [3,0,1,0,0,1,0,0,4,0,0],.c [3,0,1,0,0,1,0,0,4,0,1],.c [3,0,1,0,0,1,0,0,5],.b 1,.c [3,0,1,0,0,2],.l [3,0,1,0,0],.b 0,.c [4]] ?_
       refine qG (sq 0 19) ?_
       refine uP 7 ?_
       have H:=H.frontW 3 rfl
       have H:=H.gat 0 3
       refine uKS (dDead W0.dead ((H.lend (M1:=diskM db Q U V) (W1:=[⟨stepS,143,.slice U Q.steps.length V,Q.steps⟩])).pick [] rfl)) ?_
       rintro _ _⟨rfl,H'⟩
       have H:=H.back (M1:=diskM db Q U V) (W1:=[⟨stepS,143,.slice U Q.steps.length V,Q.steps⟩]) H'
       have H:=H.ung 0
       have H:Hp w S O (_::_::_::_) [_,_,_,_] [_,_,_,_,_,_,_,_,_,_,_,_,_,_,_] _:=H
       refine uF 11 ?_
       refine uR 2 [.c [3,0,1,0,0,1,0,0,5],.b 1,.c [3,0,1,0,0,2],.l [3,0,1,0,0],.b 0,.c [4]] ?_
       refine qG (sq 0 10) ?_
       refine qP 4 (sq 4 10) [(0,.P db 0),(1,.slice al l.length cl),(5,.P a 0),(6,.P jb 0),(7,.bool true),(8,.I i),(155,.bool true),(156,.P a 0),(157,.P jb 0)] ?_
       have H:=H.frontM 1 rfl
       refine uKS (jbase_spec W0.ks.bd.bl ((H.lend (M1:=[(jb,.cells #[.P db 0,.string (⟨#[106]⟩:ByteArray),.slice ab B.length cb,.slice ar R.length cr,u1,v1,w1,x1] 41 (0,0))]) (W1:=[])).pick [4] rfl)) ?_
       rintro _ _⟨x2,y2,rfl,H'⟩
       have H:=H.back (M1:=[(jb,.cells #[.P db 0,.string (⟨#[106]⟩:ByteArray),.slice ab B.length cb,.slice ar R.length cr,u1,v1,w1,x1] 41 (0,0))]) (W1:=[]) H'
       have H:Hp w S O (_::_::_::_) [⟨Sb,5,.slice x2 B.length y2,B⟩,_,_,_,_] [_,_,_,_,_,_,_,_,_,_,_,_,_,_,_] _:=H
       refine uP 1 ?_
       have H:=H.frontW 4 rfl
       refine uKS (jrecs_spec (Nat.le_trans W0.ks.bd.rl (by omega)) W0.ks.bd.rb ((H.lend (M1:=[(jb,.cells #[.P db 0,.string (⟨#[106]⟩:ByteArray),.slice ab B.length cb,.slice ar R.length cr,u1,v1,w1,x1] 41 (0,0))]) (W1:=[⟨SB,23,.slice ar R.length cr,R⟩])).pick [] rfl)) ?_
       rintro _ _⟨z2,A2,rfl,H'⟩
       have H:=H.back (M1:=[(jb,.cells #[.P db 0,.string (⟨#[106]⟩:ByteArray),.slice ab B.length cb,.slice ar R.length cr,u1,v1,w1,x1] 41 (0,0))]) (W1:=[⟨SB,23,.slice ar R.length cr,R⟩]) H'
       have H:Hp w S O (_::_::_::_) [⟨SB,23,.slice z2 R.length A2,R⟩,_,_,_,_,_] [_,_,_,_,_,_,_,_,_,_,_,_,_,_,_] _:=H
       have H:Hp w S O (_::_::_::_) [_,_,_,_,_] [Rp SB [.slice x2 B.length y2] B,_,_,_,_,_,_,_,_,_,_,_,_,_,_,_] _:=H.freezeW 2 rfl
       have H:Hp w S O (_::_::_::_) [_,_,_,_] [Rp (Shape.slice SB) [.slice z2 R.length A2] R,_,_,_,_,_,_,_,_,_,_,_,_,_,_,_,_] _:=H.freezeW 0 rfl
       have H:=H.frontM 1 rfl
       have H:=H.frontW 3 rfl
       have H:=H.frontW 3 rfl
       refine uKS (bk_has (by first|omega|(simp only[List.length_append,List.length_cons,List.length_nil];omega)) (by first|omega|(simp only[List.length_append,List.length_cons,List.length_nil];omega)) rfl rfl ((H.lend (M1:=[(a,.cells #[.slice aB B.length cB,.slice aR R.length cR,.slice x B.length y,.slice z R0.length A,.slice e L.length f,.bool true,.slice J (((l[i]).data).length) K] 50 (0,0))]) (W1:=[⟨SB,23,.slice aR R.length cR,R⟩,⟨SB,23,.slice e L.length f,L⟩])).pick [2,3,4,5,1,0] rfl)) ?_
       rintro _ _⟨rfl,H'⟩
       have H:=H.back (M1:=[(a,.cells #[.slice aB B.length cB,.slice aR R.length cR,.slice x B.length y,.slice z R0.length A,.slice e L.length f,.bool true,.slice J (((l[i]).data).length) K] 50 (0,0))]) (W1:=[⟨SB,23,.slice aR R.length cR,R⟩,⟨SB,23,.slice e L.length f,L⟩]) H'
       have H:Hp w S O (_::_::_::_) [_,_,_,_] [_,_,_,_,_,_,_,_,_,_,_,_,_,_,_,_,_,_,_,_,_] _:=H
       refine uF 2 ?_
       refine uR 1 [.c [3,0,1,0,0,2],.l [3,0,1,0,0],.b 0,.c [4]] ?_
       refine qG (sq 0 3) ?_
       refine uP 1 ?_
       refine uI ((i:Int)+1) ?_
       refine uF 1 ?_
       have H:=H.add (F:=Rp SB [.slice none (([]:List (BitVec 8)).length) 0] ([]:List (BitVec 8))) Shape.slice_nil
       have H:=H.pick [14,15,11,0,1,2,3,4] rfl
       have H:=H.frontM 1 rfl
       have H:=H.frontM 2 rfl
       have H:=H.frontW 3 rfl
       have H:=H.frontW 2 rfl
       have H:=H.frontW 2 rfl
       have H:=H.frontW 3 rfl
       have H:=H.dropM 0
       exact uB (C (i+1,jb,Q,U,V,B,R0,R,0,(⟨#[]⟩:ByteArray),([]:List (BitVec 8)),true,q,L,true,(l[i]).data,ab,cb,ar,cr,none,0,aB,cB,aR,cR,x,y,z,A,e,f,J,K,u1,v1,w1,x1) _ ⟨H,by omega,(by omega),.inr (W0.mono (by omega))⟩ (by first|omega|(simp only[];omega)))
     ·
      refine qR 2 [.c [3,0,1,0,0,1,0,0,3,0,1,0,1,1,1,1,1,1,1],.b 2,.c [3,0,1,0,0,1,0,0,4],.b 1,.c [3,0,1,0,0,2],.l [3,0,1,0,0],.b 0,.c [4]] [(0,.P db 0),(1,.slice al l.length cl),(5,.P a 0),(6,.P jb 0),(7,.bool true),(8,.I i),(9,.P y1 0),(12,.I 0),(56,.I ((l[i]).kind)),(89,.bool (((l[i]).kind)==4))] ?_
      refine qE ((l[i]).kind) 4 (fun Q3=>?_) (fun Q3=>?_)
      ·
       refine uR 2 [.c [3,0,1,0,0,1,0,0,3,0,1,0,1,1,1,1,1,1,1,0,0,0],.c [3,0,1,0,0,1,0,0,3,0,1,0,1,1,1,1,1,1,1,0,0,1],.c [3,0,1,0,0,1,0,0,3,0,1,0,1,1,1,1,1,1,1,0,1],.b 2,.c [3,0,1,0,0,1,0,0,4],.b 1,.c [3,0,1,0,0,2],.l [3,0,1,0,0],.b 0,.c [4]] ?_
       refine qG (sq 0 2) ?_
       refine uP 1 ?_
       have H:=H.gat 0 3
       refine uKS (dDead hW.al.dead ((H.lend (M1:=diskM db D sa sk) (W1:=[⟨stepS,143,.slice sa D.steps.length sk,D.steps⟩])).pick [] rfl)) ?_
       rintro _ _⟨rfl,H'⟩
       have H:=H.back (M1:=diskM db D sa sk) (W1:=[⟨stepS,143,.slice sa D.steps.length sk,D.steps⟩]) H'
       have H:=H.ung 0
       have H:Hp w S O (_::_::_::_) [_,_,_,_] [_,_,_,_,_,_,_,_,_,_] _:=H
       refine uF 0 ?_
       refine uR 3 [.c [3,0,1,0,0,1,0,0,3,0,1,0,1,1,1,1,1,1,1,0,1,0],.c [3,0,1,0,0,1,0,0,3,0,1,0,1,1,1,1,1,1,1,0,2],.b 2,.c [3,0,1,0,0,1,0,0,4],.b 1,.c [3,0,1,0,0,2],.l [3,0,1,0,0],.b 0,.c [4]] ?_
       refine qG (sq 0 7) ?_
       refine uP 1 ?_
       have H:=H.gat 0 3
       refine uKS (jopen_law (n:=(400000*(205-i)-1000)) (m:=(i+1)) (q:=(q+1)) (c:=(i+1)) plainJ hW.di (hW.al.mono (by omega)) hW.op hW.cap (by omega) (fun B' R' h=>⟨by rw[h.1];exact hW.bl,by rw[h.2];exact Nat.le_trans hW.rl (Nat.le_succ _),by rw[h.2];exact hW.rb⟩) ((H.lend (M1:=diskM db D sa sk) (W1:=[⟨stepS,143,.slice sa D.steps.length sk,D.steps⟩])).pick [3] rfl)) ?_
       rintro _ _(⟨Y,_,_,t0,Z,a0,M,N,T,W,X,rfl,e2,u0,_,H'⟩|⟨T,W,X,rfl,q3,_,H'⟩)
       ·
        have k4:=e2.1.symm
        subst k4
        have l4:=e2.2.symm
        subst l4
        have H:=H.back (M1:=diskM db D sa sk) (W1:=[⟨stepS,143,.slice sa D.steps.length sk,D.steps⟩]) H'
        have H:=H.ung 1
        have H:Hp w S O ((Y,.cells #[.P db 0,.string (⟨#[106]⟩:ByteArray),.slice Z B.length a0,.slice M R.length N,.I t0,.string (⟨#[]⟩:ByteArray),.slice none (([]:List (BitVec 8)).length) 0,.bool true] 41 (0,0))::_::_::_::(diskM db T W X)) [⟨SB,23,.slice M R.length N,R⟩,⟨stepS,143,.slice W T.steps.length X,T.steps⟩,_,_,_] [Rp SB [.slice Z B.length a0] B,_,_,_,_,_,_,_,_,_,_,_] _:=H
        refine uF 5 ?_
        refine uR 6 [.c [3,0,1,0,0,1,0,0,3,0,1,0,1,1,1,1,1,1,1,0,3,0,1,0],.c [3,0,1,0,0,1,0,0,3,0,1,0,1,1,1,1,1,1,1,0,3,0,2],.b 2,.c [3,0,1,0,0,1,0,0,4],.b 1,.c [3,0,1,0,0,2],.l [3,0,1,0,0],.b 0,.c [4]] ?_
        refine qG (sq 0 7) ?_
        refine uP 2 ?_
        refine uKS (jbase_spec u0.bl ((H.lend (M1:=[(Y,.cells #[.P db 0,.string (⟨#[106]⟩:ByteArray),.slice Z B.length a0,.slice M R.length N,.I t0,.string (⟨#[]⟩:ByteArray),.slice none (([]:List (BitVec 8)).length) 0,.bool true] 41 (0,0))]) (W1:=[])).pick [0] rfl)) ?_
        rintro _ _⟨B2,C2,rfl,H'⟩
        have H:=H.back (M1:=[(Y,.cells #[.P db 0,.string (⟨#[106]⟩:ByteArray),.slice Z B.length a0,.slice M R.length N,.I t0,.string (⟨#[]⟩:ByteArray),.slice none (([]:List (BitVec 8)).length) 0,.bool true] 41 (0,0))]) (W1:=[]) H'
        have H:Hp w S O (_::_::_::_::_) [⟨Sb,5,.slice B2 B.length C2,B⟩,_,_,_,_,_] [_,_,_,_,_,_,_,_,_,_,_,_] _:=H
        refine uP 1 ?_
        have H:=H.frontW 1 rfl
        refine uKS (jrecs_spec (Nat.le_trans u0.rl (by omega)) u0.rb ((H.lend (M1:=[(Y,.cells #[.P db 0,.string (⟨#[106]⟩:ByteArray),.slice Z B.length a0,.slice M R.length N,.I t0,.string (⟨#[]⟩:ByteArray),.slice none (([]:List (BitVec 8)).length) 0,.bool true] 41 (0,0))]) (W1:=[⟨SB,23,.slice M R.length N,R⟩])).pick [] rfl)) ?_
        rintro _ _⟨D2,E2,rfl,H'⟩
        have H:=H.back (M1:=[(Y,.cells #[.P db 0,.string (⟨#[106]⟩:ByteArray),.slice Z B.length a0,.slice M R.length N,.I t0,.string (⟨#[]⟩:ByteArray),.slice none (([]:List (BitVec 8)).length) 0,.bool true] 41 (0,0))]) (W1:=[⟨SB,23,.slice M R.length N,R⟩]) H'
        have H:Hp w S O (_::_::_::_::_) [⟨SB,23,.slice D2 R.length E2,R⟩,_,_,_,_,_,_] [_,_,_,_,_,_,_,_,_,_,_,_] _:=H
        have H:Hp w S O (_::_::_::_::_) [_,_,_,_,_,_] [Rp SB [.slice B2 B.length C2] B,_,_,_,_,_,_,_,_,_,_,_,_] _:=H.freezeW 2 rfl
        have H:Hp w S O (_::_::_::_::_) [_,_,_,_,_] [Rp (Shape.slice SB) [.slice D2 R.length E2] R,_,_,_,_,_,_,_,_,_,_,_,_,_] _:=H.freezeW 0 rfl
        have H:=H.frontM 3 rfl
        have H:=H.frontW 4 rfl
        have H:=H.frontW 4 rfl
        refine uKS (bk_has (by first|omega|(simp only[List.length_append,List.length_cons,List.length_nil];omega)) (by first|omega|(simp only[List.length_append,List.length_cons,List.length_nil];omega)) rfl rfl ((H.lend (M1:=[(a,.cells #[.slice aB B.length cB,.slice aR R.length cR,.slice x B.length y,.slice z R0.length A,.slice e L.length f,.bool false,.slice j t.length o] 50 (0,0))]) (W1:=[⟨SB,23,.slice aR R.length cR,R⟩,⟨SB,23,.slice e L.length f,L⟩])).pick [10,11,12,13,1,0] rfl)) ?_
        rintro _ _⟨rfl,H'⟩
        have H:=H.back (M1:=[(a,.cells #[.slice aB B.length cB,.slice aR R.length cR,.slice x B.length y,.slice z R0.length A,.slice e L.length f,.bool false,.slice j t.length o] 50 (0,0))]) (W1:=[⟨SB,23,.slice aR R.length cR,R⟩,⟨SB,23,.slice e L.length f,L⟩]) H'
        have H:Hp w S O (_::_::_::_::_) [_,_,_,_,_] [_,_,_,_,_,_,_,_,_,_,_,_,_,_,_,_,_,_] _:=H
        refine uF 1 ?_
        refine qG (sq 0 2) ?_
        refine qP 1 (sq 1 2) [(0,.P db 0),(1,.slice al l.length cl),(5,.P a 0),(6,.P Y 0),(7,.bool true),(8,.I i),(12,.I 0),(111,.P a 0)] ?_
        have H:=H.frontW 1 rfl
        have H:=H.frontW 1 rfl
        refine uKS (bk_syn (by first|omega|(simp only[List.length_append,List.length_cons,List.length_nil];omega)) (by first|omega|(simp only[List.length_append,List.length_cons,List.length_nil];omega)) ((H.lend (M1:=[(a,.cells #[.slice aB B.length cB,.slice aR R.length cR,.slice x B.length y,.slice z R0.length A,.slice e L.length f,.bool false,.slice j t.length o] 50 (0,0))]) (W1:=[⟨SB,23,.slice aR R.length cR,R⟩,⟨SB,23,.slice e L.length f,L⟩])).pick [0,1,2,3] rfl)) ?_
        rintro _ _⟨rfl,F1,G1,H'⟩
        have H:=H.back (M1:=[(a,.cells #[.slice aB B.length cB,.slice aR R.length cR,.slice x B.length y,.slice z R0.length A,.slice e L.length f,.bool false,.slice j t.length o] 50 (0,0))]) (W1:=[⟨SB,23,.slice aR R.length cR,R⟩,⟨SB,23,.slice e L.length f,L⟩]) H'
        have H:Hp w S O ((a,.cells #[.slice aB B.length cB,.slice aR R.length cR,.slice aB B.length cB,.slice F1 R.length G1,.slice none (([]:List (List (BitVec 8))).length) 0,.bool false,.slice j t.length o] 50 (0,0))::_::_::_::_) [_,_,_,_,_] [_,_,_,Rp (Shape.slice SB) [.slice F1 R.length G1] R,_,_,_,_,_,_,_,_,_,_,_,_,_,_,_,_,_,_] _:=H
        refine uF 0 ?_
        refine uR 3 [.c [3,0,1,0,0,1,0,0,4,0,0],.c [3,0,1,0,0,1,0,0,4,0,1],.c [3,0,1,0,0,1,0,0,5],.b 1,.c [3,0,1,0,0,2],.l [3,0,1,0,0],.b 0,.c [4]] ?_
        refine qG (sq 0 19) ?_
        refine uP 16 ?_
        have H:=H.frontW 3 rfl
        have H:=H.gat 0 4
        refine uKS (dDead u0.al.dead ((H.lend (M1:=diskM db T W X) (W1:=[⟨stepS,143,.slice W T.steps.length X,T.steps⟩])).pick [] rfl)) ?_
        rintro _ _⟨rfl,H'⟩
        have H:=H.back (M1:=diskM db T W X) (W1:=[⟨stepS,143,.slice W T.steps.length X,T.steps⟩]) H'
        have H:=H.ung 0
        have H:Hp w S O (_::_::_::_::_) [_,_,_,_,_] [_,_,_,_,_,_,_,_,_,_,_,_,_,_,_,_,_,_,_,_,_,_] _:=H
        refine uF 2 ?_
        refine uR 2 [.c [3,0,1,0,0,1,0,0,5],.b 1,.c [3,0,1,0,0,2],.l [3,0,1,0,0],.b 0,.c [4]] ?_
        refine qG (sq 0 10) ?_
        refine uP 4 ?_
        have H:=H.frontM 1 rfl
        refine uKS (jbase_spec u0.bl ((H.lend (M1:=[(Y,.cells #[.P db 0,.string (⟨#[106]⟩:ByteArray),.slice Z B.length a0,.slice M R.length N,.I t0,.string (⟨#[]⟩:ByteArray),.slice none (([]:List (BitVec 8)).length) 0,.bool true] 41 (0,0))]) (W1:=[])).pick [10] rfl)) ?_
        rintro _ _⟨F2,G2,rfl,H'⟩
        have H:=H.back (M1:=[(Y,.cells #[.P db 0,.string (⟨#[106]⟩:ByteArray),.slice Z B.length a0,.slice M R.length N,.I t0,.string (⟨#[]⟩:ByteArray),.slice none (([]:List (BitVec 8)).length) 0,.bool true] 41 (0,0))]) (W1:=[]) H'
        have H:Hp w S O (_::_::_::_::_) [⟨Sb,5,.slice F2 B.length G2,B⟩,_,_,_,_,_] [_,_,_,_,_,_,_,_,_,_,_,_,_,_,_,_,_,_,_,_,_,_] _:=H
        refine uP 1 ?_
        have H:=H.frontW 4 rfl
        refine uKS (jrecs_spec (Nat.le_trans u0.rl (by omega)) u0.rb ((H.lend (M1:=[(Y,.cells #[.P db 0,.string (⟨#[106]⟩:ByteArray),.slice Z B.length a0,.slice M R.length N,.I t0,.string (⟨#[]⟩:ByteArray),.slice none (([]:List (BitVec 8)).length) 0,.bool true] 41 (0,0))]) (W1:=[⟨SB,23,.slice M R.length N,R⟩])).pick [] rfl)) ?_
        rintro _ _⟨H2,I2,rfl,H'⟩
        have H:=H.back (M1:=[(Y,.cells #[.P db 0,.string (⟨#[106]⟩:ByteArray),.slice Z B.length a0,.slice M R.length N,.I t0,.string (⟨#[]⟩:ByteArray),.slice none (([]:List (BitVec 8)).length) 0,.bool true] 41 (0,0))]) (W1:=[⟨SB,23,.slice M R.length N,R⟩]) H'
        have H:Hp w S O (_::_::_::_::_) [⟨SB,23,.slice H2 R.length I2,R⟩,_,_,_,_,_,_] [_,_,_,_,_,_,_,_,_,_,_,_,_,_,_,_,_,_,_,_,_,_] _:=H
        have H:Hp w S O (_::_::_::_::_) [_,_,_,_,_,_] [Rp SB [.slice F2 B.length G2] B,_,_,_,_,_,_,_,_,_,_,_,_,_,_,_,_,_,_,_,_,_,_] _:=H.freezeW 2 rfl
        have H:Hp w S O (_::_::_::_::_) [_,_,_,_,_] [Rp (Shape.slice SB) [.slice H2 R.length I2] R,_,_,_,_,_,_,_,_,_,_,_,_,_,_,_,_,_,_,_,_,_,_,_] _:=H.freezeW 0 rfl
        have H:=H.frontM 1 rfl
        have H:=H.frontW 3 rfl
        have H:=H.frontW 3 rfl
        refine uKS (bk_has (by first|omega|(simp only[List.length_append,List.length_cons,List.length_nil];omega)) (by first|omega|(simp only[List.length_append,List.length_cons,List.length_nil];omega)) rfl rfl ((H.lend (M1:=[(a,.cells #[.slice aB B.length cB,.slice aR R.length cR,.slice aB B.length cB,.slice F1 R.length G1,.slice none (([]:List (List (BitVec 8))).length) 0,.bool false,.slice j t.length o] 50 (0,0))]) (W1:=[⟨SB,23,.slice aR R.length cR,R⟩,⟨SB,23,.slice none (([]:List (List (BitVec 8))).length) 0,([]:List (List (BitVec 8)))⟩])).pick [2,2,4,5,1,0] rfl)) ?_
        rintro _ _⟨rfl,H'⟩
        have H:=H.back (M1:=[(a,.cells #[.slice aB B.length cB,.slice aR R.length cR,.slice aB B.length cB,.slice F1 R.length G1,.slice none (([]:List (List (BitVec 8))).length) 0,.bool false,.slice j t.length o] 50 (0,0))]) (W1:=[⟨SB,23,.slice aR R.length cR,R⟩,⟨SB,23,.slice none (([]:List (List (BitVec 8))).length) 0,([]:List (List (BitVec 8)))⟩]) H'
        have H:Hp w S O (_::_::_::_::_) [_,_,_,_,_] [_,_,_,_,_,_,_,_,_,_,_,_,_,_,_,_,_,_,_,_,_,_,_,_,_,_,_,_] _:=H
        refine uF 2 ?_
        refine uR 1 [.c [3,0,1,0,0,2],.l [3,0,1,0,0],.b 0,.c [4]] ?_
        refine qG (sq 0 3) ?_
        refine uP 1 ?_
        refine uI ((i:Int)+1) ?_
        refine qF 1 [(0,.P db 0),(1,.slice al l.length cl),(5,.P a 0),(6,.P Y 0),(7,.bool true),(8,.I ((i:Int)+1))] ?_
        have H:=H.pick [20,21,16,17,0,0,2,3] rfl
        have H:=H.frontM 1 rfl
        have H:=H.frontM 3 rfl
        have H:=H.frontM 3 rfl
        have H:=H.frontW 3 rfl
        have H:=H.frontW 2 rfl
        have H:=H.frontW 2 rfl
        have H:=H.frontW 3 rfl
        have H:=H.dropM 1
        have H:=H.dropM 0
        have H:=H.dropW 4
        exact uB (C (i+1,Y,T,W,X,B,R,R,t0,(⟨#[]⟩:ByteArray),([]:List (BitVec 8)),true,(q+1),([]:List (List (BitVec 8))),false,t,Z,a0,M,N,none,0,aB,cB,aR,cR,aB,cB,F1,G1,none,0,j,o,(.I t0),(.string (⟨#[]⟩:ByteArray)),(.slice none (([]:List (BitVec 8)).length) 0),(.bool true)) _ ⟨H,by omega,ht,.inl ⟨rfl,rfl,rfl,rfl,u0.mono (by omega) (by omega) (by first|omega|(rw[sumD_snoc (by omega)];omega)) (Nat.le_refl _) (by omega),rfl,(List.append_nil _).symm⟩⟩ (by first|omega|(simp only[];omega)))
       ·
        have H:=H.back (M1:=diskM db D sa sk) (W1:=[⟨stepS,143,.slice sa D.steps.length sk,D.steps⟩]) H'
        have H:=H.ung 0
        have H:Hp w S O (_::_::_::_) [_,_,_,_] [_,_,_,_,_,_,_,_,_,_] _:=H
        have X0:=(q3).kd (B:=B) (t:=t) (R0:=R0) (R:=R) (L:=L) (torn:=false) (by omega) (fun _ _ _ h=>kp_opn hRL h) ((hW.bd hRL ht).mono (by omega))
        refine uF 5 ?_
        refine uR 7 [.c [3,0,1,0,0,1,0,0,4,0,0],.c [3,0,1,0,0,1,0,0,4,0,1],.c [3,0,1,0,0,1,0,0,5],.b 1,.c [3,0,1,0,0,2],.l [3,0,1,0,0],.b 0,.c [4]] ?_
        refine qG (sq 0 19) ?_
        refine uP 7 ?_
        have H:=H.gat 0 3
        refine uKS (dDead X0.dead ((H.lend (M1:=diskM db T W X) (W1:=[⟨stepS,143,.slice W T.steps.length X,T.steps⟩])).pick [] rfl)) ?_
        rintro _ _⟨rfl,H'⟩
        have H:=H.back (M1:=diskM db T W X) (W1:=[⟨stepS,143,.slice W T.steps.length X,T.steps⟩]) H'
        have H:=H.ung 0
        have H:Hp w S O (_::_::_::_) [_,_,_,_] [_,_,_,_,_,_,_,_,_,_] _:=H
        refine uF 11 ?_
        refine uR 2 [.c [3,0,1,0,0,1,0,0,5],.b 1,.c [3,0,1,0,0,2],.l [3,0,1,0,0],.b 0,.c [4]] ?_
        refine qG (sq 0 10) ?_
        refine uP 4 ?_
        have H:=H.frontM 1 rfl
        refine uKS (jbase_spec X0.ks.bd.bl ((H.lend (M1:=[(jb,.cells #[.P db 0,.string (⟨#[106]⟩:ByteArray),.slice ab B.length cb,.slice ar R.length cr,.I g,.string seg,.slice aσ σ.length cσ,.bool sy] 41 (0,0))]) (W1:=[])).pick [4] rfl)) ?_
        rintro _ _⟨J2,K2,rfl,H'⟩
        have H:=H.back (M1:=[(jb,.cells #[.P db 0,.string (⟨#[106]⟩:ByteArray),.slice ab B.length cb,.slice ar R.length cr,.I g,.string seg,.slice aσ σ.length cσ,.bool sy] 41 (0,0))]) (W1:=[]) H'
        have H:Hp w S O (_::_::_::_) [⟨Sb,5,.slice J2 B.length K2,B⟩,_,_,_,_] [_,_,_,_,_,_,_,_,_,_] _:=H
        refine uP 1 ?_
        have H:=H.frontW 2 rfl
        refine uKS (jrecs_spec (Nat.le_trans X0.ks.bd.rl (by omega)) X0.ks.bd.rb ((H.lend (M1:=[(jb,.cells #[.P db 0,.string (⟨#[106]⟩:ByteArray),.slice ab B.length cb,.slice ar R.length cr,.I g,.string seg,.slice aσ σ.length cσ,.bool sy] 41 (0,0))]) (W1:=[⟨SB,23,.slice ar R.length cr,R⟩])).pick [] rfl)) ?_
        rintro _ _⟨L2,M2,rfl,H'⟩
        have H:=H.back (M1:=[(jb,.cells #[.P db 0,.string (⟨#[106]⟩:ByteArray),.slice ab B.length cb,.slice ar R.length cr,.I g,.string seg,.slice aσ σ.length cσ,.bool sy] 41 (0,0))]) (W1:=[⟨SB,23,.slice ar R.length cr,R⟩]) H'
        have H:Hp w S O (_::_::_::_) [⟨SB,23,.slice L2 R.length M2,R⟩,_,_,_,_,_] [_,_,_,_,_,_,_,_,_,_] _:=H
        have H:Hp w S O (_::_::_::_) [_,_,_,_,_] [Rp SB [.slice J2 B.length K2] B,_,_,_,_,_,_,_,_,_,_] _:=H.freezeW 2 rfl
        have H:Hp w S O (_::_::_::_) [_,_,_,_] [Rp (Shape.slice SB) [.slice L2 R.length M2] R,_,_,_,_,_,_,_,_,_,_,_] _:=H.freezeW 0 rfl
        have H:=H.frontM 2 rfl
        have H:=H.frontW 3 rfl
        have H:=H.frontW 3 rfl
        refine uKS (bk_has (by first|omega|(simp only[List.length_append,List.length_cons,List.length_nil];omega)) (by first|omega|(simp only[List.length_append,List.length_cons,List.length_nil];omega)) rfl rfl ((H.lend (M1:=[(a,.cells #[.slice aB B.length cB,.slice aR R.length cR,.slice x B.length y,.slice z R0.length A,.slice e L.length f,.bool false,.slice j t.length o] 50 (0,0))]) (W1:=[⟨SB,23,.slice aR R.length cR,R⟩,⟨SB,23,.slice e L.length f,L⟩])).pick [8,9,10,11,1,0] rfl)) ?_
        rintro _ _⟨rfl,H'⟩
        have H:=H.back (M1:=[(a,.cells #[.slice aB B.length cB,.slice aR R.length cR,.slice x B.length y,.slice z R0.length A,.slice e L.length f,.bool false,.slice j t.length o] 50 (0,0))]) (W1:=[⟨SB,23,.slice aR R.length cR,R⟩,⟨SB,23,.slice e L.length f,L⟩]) H'
        have H:Hp w S O (_::_::_::_) [_,_,_,_] [_,_,_,_,_,_,_,_,_,_,_,_,_,_,_,_] _:=H
        refine uF 2 ?_
        refine uR 1 [.c [3,0,1,0,0,2],.l [3,0,1,0,0],.b 0,.c [4]] ?_
        refine qG (sq 0 3) ?_
        refine uP 1 ?_
        refine uI ((i:Int)+1) ?_
        refine qF 1 [(0,.P db 0),(1,.slice al l.length cl),(5,.P a 0),(6,.P jb 0),(7,.bool true),(8,.I ((i:Int)+1))] ?_
        have H:=H.add (F:=Rp SB [.slice none (([]:List (BitVec 8)).length) 0] ([]:List (BitVec 8))) Shape.slice_nil
        have H:=H.pick [9,10,11,0,1,2,3,4] rfl
        have H:=H.frontM 1 rfl
        have H:=H.frontM 2 rfl
        have H:=H.frontW 3 rfl
        have H:=H.frontW 2 rfl
        have H:=H.frontW 2 rfl
        have H:=H.frontW 3 rfl
        have H:=H.dropM 0
        exact uB (C (i+1,jb,T,W,X,B,R0,R,0,(⟨#[]⟩:ByteArray),([]:List (BitVec 8)),true,q,L,false,t,ab,cb,ar,cr,none,0,aB,cB,aR,cR,x,y,z,A,e,f,j,o,(.I g),(.string seg),(.slice aσ σ.length cσ),(.bool sy)) _ ⟨H,by omega,ht,.inr (X0.mono (by omega))⟩ (by first|omega|(simp only[];omega)))
      ·
       refine uR 2 [.c [3,0,1,0,0,1,0,0,3,0,1,0,1,1,1,1,1,1,1,1,1],.b 2,.c [3,0,1,0,0,1,0,0,4],.b 1,.c [3,0,1,0,0,2],.l [3,0,1,0,0],.b 0,.c [4]] ?_
       refine qE ((l[i]).kind) 5 (fun R3=>?_) (fun R3=>?_)
       ·
        refine uR 1 [.c [3,0,1,0,0,1,0,0,3,0,1,0,1,1,1,1,1,1,1,1,1,0,0],.c [3,0,1,0,0,1,0,0,3,0,1,0,1,1,1,1,1,1,1,1,1,0,1],.b 2,.c [3,0,1,0,0,1,0,0,4],.b 1,.c [3,0,1,0,0,2],.l [3,0,1,0,0],.b 0,.c [4]] ?_
        refine qG (sq 0 4) ?_
        refine uP 2 ?_
        refine uV 23 1 (H.cells 0 rfl) ?_
        have H:=H.gat 0 3
        refine uKS (dCrashAny hW.di.ok hW.al.hst ((H.lend (M1:=diskM db D sa sk) (W1:=[⟨stepS,143,.slice sa D.steps.length sk,D.steps⟩])).pick [0] rfl)) ?_
        rintro _ _⟨rfl,h0,i0,H'⟩
        have H:=H.back (M1:=diskM db D sa sk) (W1:=[⟨stepS,143,.slice sa D.steps.length sk,D.steps⟩]) H'
        have H:=H.ung 0
        have H:Hp w S O (_::_::_::(diskM db (crashD D ((l[i]).data) h0 i0) none 0)) [⟨stepS,143,.slice none ((crashD D ((l[i]).data) h0 i0).steps.length) 0,(crashD D ((l[i]).data) h0 i0).steps⟩,_,_,_] [_,_,_,_,_,_,_,_,_,_] _:=H
        have hks:=hW.ks (t:=t) (torn:=false) (by omega) hRL ht
        have hcw:=hks.cw ((l[i]).data) h0 i0
        obtain⟨q8,a2⟩:=hcw.op
        refine uF 0 ?_
        refine qG (sq 0 8) ?_
        refine uP 2 ?_
        have H:=H.frontM 2 rfl
        have H:=H.frontW 3 rfl
        have H:=H.frontW 3 rfl
        have H:=H.gat 1 2
        refine uKS (again_spec (n:=(400000*(205-i)-300000)) (m:=(i+1)) (q:=q8) hcw.di (hcw.al.mono (by omega)) rfl a2 hcw.cap (by omega) (fun B R h=>QBk.bd hks.bd h) (fun B R h=>QBk.may h) (by have:=hks.bd.rl;omega) (by have:=hks.bd.ll;omega) (by have:=hks.bd.ll;omega) ((H.lend (M1:=((a,.cells #[.slice aB B.length cB,.slice aR R.length cR,.slice x B.length y,.slice z R0.length A,.slice e L.length f,.bool false,.slice j t.length o] 50 (0,0))::diskM db (crashD D ((l[i]).data) h0 i0) none 0)) (W1:=[⟨SB,23,.slice aR R.length cR,R⟩,⟨SB,23,.slice e L.length f,L⟩,⟨stepS,143,.slice none ((crashD D ((l[i]).data) h0 i0).steps.length) 0,(crashD D ((l[i]).data) h0 i0).steps⟩])).pick [6,7,8,9,3] rfl)) ?_
        rintro _ _⟨C0,E,s,g1,E0,F0,p0,q0,j0,k0,G0,I0,l1,m1,v0,J0,K0,rfl,Y0,_,H'⟩
        have H:=H.back (M1:=((a,.cells #[.slice aB B.length cB,.slice aR R.length cR,.slice x B.length y,.slice z R0.length A,.slice e L.length f,.bool false,.slice j t.length o] 50 (0,0))::diskM db (crashD D ((l[i]).data) h0 i0) none 0)) (W1:=[⟨SB,23,.slice aR R.length cR,R⟩,⟨SB,23,.slice e L.length f,L⟩,⟨stepS,143,.slice none ((crashD D ((l[i]).data) h0 i0).steps.length) 0,(crashD D ((l[i]).data) h0 i0).steps⟩]) H'
        have H:=H.ung 2
        have H:Hp w S O ((C0,.cells #[.P db 0,.string (⟨#[106]⟩:ByteArray),.slice E0 E.length F0,.slice p0 s.length q0,.I g1,.string (⟨#[]⟩:ByteArray),.slice none (([]:List (BitVec 8)).length) 0,.bool true] 41 (0,0))::(a,.cells #[.slice j0 E.length k0,.slice G0 s.length I0,.slice j0 E.length k0,.slice l1 s.length m1,.slice none (([]:List (List (BitVec 8))).length) 0,.bool false,.slice j t.length o] 50 (0,0))::_::_::(diskM db v0 J0 K0)) [⟨SB,23,.slice p0 s.length q0,s⟩,⟨SB,23,.slice G0 s.length I0,s⟩,_,⟨stepS,143,.slice J0 v0.steps.length K0,v0.steps⟩,_] [Rp SB [.slice E0 E.length F0] E,_,Rp SB [.slice j0 E.length k0] E,Rp SB [.slice j0 E.length k0] E,_,Rp (Shape.slice SB) [.slice l1 s.length m1] s,_,_,_,_,_,_,_,_,_,_] _:=H
        have hbz:=Y0.rl
        refine qF 5 [(0,.P db 0),(1,.slice al l.length cl),(5,.P a 0),(6,.P C0 0),(7,.bool true),(8,.I i),(12,.I 0)] ?_
        refine uR 3 [.c [3,0,1,0,0,1,0,0,4,0,0],.c [3,0,1,0,0,1,0,0,4,0,1],.c [3,0,1,0,0,1,0,0,5],.b 1,.c [3,0,1,0,0,2],.l [3,0,1,0,0],.b 0,.c [4]] ?_
        refine qG (sq 0 19) ?_
        refine uP 16 ?_
        have H:=H.frontW 3 rfl
        have H:=H.gat 0 4
        refine uKS (dDead Y0.al.dead ((H.lend (M1:=diskM db v0 J0 K0) (W1:=[⟨stepS,143,.slice J0 v0.steps.length K0,v0.steps⟩])).pick [] rfl)) ?_
        rintro _ _⟨rfl,H'⟩
        have H:=H.back (M1:=diskM db v0 J0 K0) (W1:=[⟨stepS,143,.slice J0 v0.steps.length K0,v0.steps⟩]) H'
        have H:=H.ung 0
        have H:Hp w S O (_::_::_::_::_) [_,_,_,_,_] [_,_,_,_,_,_,_,_,_,_,_,_,_,_,_,_] _:=H
        refine uF 2 ?_
        refine uR 2 [.c [3,0,1,0,0,1,0,0,5],.b 1,.c [3,0,1,0,0,2],.l [3,0,1,0,0],.b 0,.c [4]] ?_
        refine qG (sq 0 10) ?_
        refine uP 4 ?_
        refine uKS (jbase_spec Y0.bl ((H.lend (M1:=[(C0,.cells #[.P db 0,.string (⟨#[106]⟩:ByteArray),.slice E0 E.length F0,.slice p0 s.length q0,.I g1,.string (⟨#[]⟩:ByteArray),.slice none (([]:List (BitVec 8)).length) 0,.bool true] 41 (0,0))]) (W1:=[])).pick [0] rfl)) ?_
        rintro _ _⟨N2,O2,rfl,H'⟩
        have H:=H.back (M1:=[(C0,.cells #[.P db 0,.string (⟨#[106]⟩:ByteArray),.slice E0 E.length F0,.slice p0 s.length q0,.I g1,.string (⟨#[]⟩:ByteArray),.slice none (([]:List (BitVec 8)).length) 0,.bool true] 41 (0,0))]) (W1:=[]) H'
        have H:Hp w S O (_::_::_::_::_) [⟨Sb,5,.slice N2 E.length O2,E⟩,_,_,_,_,_] [_,_,_,_,_,_,_,_,_,_,_,_,_,_,_,_] _:=H
        refine uP 1 ?_
        have H:=H.frontW 2 rfl
        refine uKS (jrecs_spec (Nat.le_trans Y0.rl (by omega)) Y0.rb ((H.lend (M1:=[(C0,.cells #[.P db 0,.string (⟨#[106]⟩:ByteArray),.slice E0 E.length F0,.slice p0 s.length q0,.I g1,.string (⟨#[]⟩:ByteArray),.slice none (([]:List (BitVec 8)).length) 0,.bool true] 41 (0,0))]) (W1:=[⟨SB,23,.slice p0 s.length q0,s⟩])).pick [] rfl)) ?_
        rintro _ _⟨P2,Q2,rfl,H'⟩
        have H:=H.back (M1:=[(C0,.cells #[.P db 0,.string (⟨#[106]⟩:ByteArray),.slice E0 E.length F0,.slice p0 s.length q0,.I g1,.string (⟨#[]⟩:ByteArray),.slice none (([]:List (BitVec 8)).length) 0,.bool true] 41 (0,0))]) (W1:=[⟨SB,23,.slice p0 s.length q0,s⟩]) H'
        have H:Hp w S O (_::_::_::_::_) [⟨SB,23,.slice P2 s.length Q2,s⟩,_,_,_,_,_,_] [_,_,_,_,_,_,_,_,_,_,_,_,_,_,_,_] _:=H
        have H:Hp w S O (_::_::_::_::_) [_,_,_,_,_,_] [Rp SB [.slice N2 E.length O2] E,_,_,_,_,_,_,_,_,_,_,_,_,_,_,_,_] _:=H.freezeW 2 rfl
        have H:Hp w S O (_::_::_::_::_) [_,_,_,_,_] [Rp (Shape.slice SB) [.slice P2 s.length Q2] s,_,_,_,_,_,_,_,_,_,_,_,_,_,_,_,_,_] _:=H.freezeW 0 rfl
        have H:=H.frontM 1 rfl
        have H:=H.frontW 3 rfl
        have H:=H.frontW 3 rfl
        refine uKS (bk_has (by first|omega|(simp only[List.length_append,List.length_cons,List.length_nil];omega)) (by first|omega|(simp only[List.length_append,List.length_cons,List.length_nil];omega)) rfl rfl ((H.lend (M1:=[(a,.cells #[.slice j0 E.length k0,.slice G0 s.length I0,.slice j0 E.length k0,.slice l1 s.length m1,.slice none (([]:List (List (BitVec 8))).length) 0,.bool false,.slice j t.length o] 50 (0,0))]) (W1:=[⟨SB,23,.slice G0 s.length I0,s⟩,⟨SB,23,.slice none (([]:List (List (BitVec 8))).length) 0,([]:List (List (BitVec 8)))⟩])).pick [4,4,6,7,1,0] rfl)) ?_
        rintro _ _⟨rfl,H'⟩
        have H:=H.back (M1:=[(a,.cells #[.slice j0 E.length k0,.slice G0 s.length I0,.slice j0 E.length k0,.slice l1 s.length m1,.slice none (([]:List (List (BitVec 8))).length) 0,.bool false,.slice j t.length o] 50 (0,0))]) (W1:=[⟨SB,23,.slice G0 s.length I0,s⟩,⟨SB,23,.slice none (([]:List (List (BitVec 8))).length) 0,([]:List (List (BitVec 8)))⟩]) H'
        have H:Hp w S O (_::_::_::_::_) [_,_,_,_,_] [_,_,_,_,_,_,_,_,_,_,_,_,_,_,_,_,_,_,_,_,_,_] _:=H
        refine uF 2 ?_
        refine uR 1 [.c [3,0,1,0,0,2],.l [3,0,1,0,0],.b 0,.c [4]] ?_
        refine qG (sq 0 3) ?_
        refine uP 1 ?_
        refine uI ((i:Int)+1) ?_
        refine uF 1 ?_
        have H:=H.pick [14,15,6,7,0,0,2,3] rfl
        have H:=H.frontM 1 rfl
        have H:=H.frontM 3 rfl
        have H:=H.frontM 3 rfl
        have H:=H.frontW 3 rfl
        have H:=H.frontW 2 rfl
        have H:=H.frontW 2 rfl
        have H:=H.frontW 3 rfl
        have H:=H.dropM 1
        have H:=H.dropM 0
        have H:=H.dropW 4
        exact uB (C (i+1,C0,v0,J0,K0,E,s,s,g1,(⟨#[]⟩:ByteArray),([]:List (BitVec 8)),true,q8,([]:List (List (BitVec 8))),false,t,E0,F0,p0,q0,none,0,j0,k0,G0,I0,j0,k0,l1,m1,none,0,j,o,(.I g1),(.string (⟨#[]⟩:ByteArray)),(.slice none (([]:List (BitVec 8)).length) 0),(.bool true)) _ ⟨H,by omega,ht,.inl ⟨rfl,rfl,rfl,rfl,Y0.mono (by omega) (by omega) (by first|omega|(rw[sumD_snoc (by omega)];omega)) (Nat.le_refl _) (by omega),rfl,(List.append_nil _).symm⟩⟩ (by first|omega|(simp only[];omega)))
       ·
        refine qR 2 [.c [3,0,1,0,0,1,0,0,3,0,1,0,1,1,1,1,1,1,1,1,1,1,1],.b 2,.c [3,0,1,0,0,1,0,0,4],.b 1,.c [3,0,1,0,0,2],.l [3,0,1,0,0],.b 0,.c [4]] [(0,.P db 0),(1,.slice al l.length cl),(5,.P a 0),(6,.P jb 0),(7,.bool true),(8,.I i),(9,.P y1 0),(12,.I 0),(126,.bool (((l[i]).kind)==6))] ?_
        refine qE ((l[i]).kind) 6 (fun S3=>?_) (fun S3=>?_)
        ·
         refine uR 1 [.c [3,0,1,0,0,1,0,0,3,0,1,0,1,1,1,1,1,1,1,1,1,1,1,0,0],.c [3,0,1,0,0,1,0,0,3,0,1,0,1,1,1,1,1,1,1,1,1,1,1,0,1],.b 2,.c [3,0,1,0,0,1,0,0,4],.b 1,.c [3,0,1,0,0,2],.l [3,0,1,0,0],.b 0,.c [4]] ?_
         refine qG (sq 0 3) ?_
         refine uP 1 ?_
         refine uV 3 2 (H.cells 0 rfl) ?_
         refine uF 1 ?_
         refine qD (((l[i]).n:Int)≥0) (fun T3=>?_) (fun T3=>?_)
         ·
          refine qG (sq 0 4) ?_
          refine uP 2 ?_
          refine uV 3 2 (H.cells 0 rfl) ?_
          have H:=H.gat 0 3
          refine uKS (dArm ((l[i]).n) hW.al.dead ((H.lend (M1:=diskM db D sa sk) (W1:=[⟨stepS,143,.slice sa D.steps.length sk,D.steps⟩])).pick [] rfl)) ?_
          rintro _ _⟨rfl,H'⟩
          have H:=H.back (M1:=diskM db D sa sk) (W1:=[⟨stepS,143,.slice sa D.steps.length sk,D.steps⟩]) H'
          have H:=H.ung 0
          have H:Hp w S O (_::_::_::(diskM db (armD D ((l[i]).n)) sa sk)) [⟨stepS,143,.slice sa ((armD D ((l[i]).n)).steps.length) sk,(armD D ((l[i]).n)).steps⟩,_,_,_] [_,_,_,_,_,_,_,_,_,_] _:=H
          have n1:=hW.arm (k:=(l[i]).n) ⟨by omega,by omega⟩
          refine uF 0 ?_
          refine uR 3 [.c [3,0,1,0,0,1,0,0,4,0,0],.c [3,0,1,0,0,1,0,0,4,0,1],.c [3,0,1,0,0,1,0,0,5],.b 1,.c [3,0,1,0,0,2],.l [3,0,1,0,0],.b 0,.c [4]] ?_
          refine qG (sq 0 19) ?_
          refine uP 16 ?_
          have H:=H.gat 0 3
          refine uKS (dDead n1.al.dead ((H.lend (M1:=diskM db (armD D ((l[i]).n)) sa sk) (W1:=[⟨stepS,143,.slice sa ((armD D ((l[i]).n)).steps.length) sk,(armD D ((l[i]).n)).steps⟩])).pick [] rfl)) ?_
          rintro _ _⟨rfl,H'⟩
          have H:=H.back (M1:=diskM db (armD D ((l[i]).n)) sa sk) (W1:=[⟨stepS,143,.slice sa ((armD D ((l[i]).n)).steps.length) sk,(armD D ((l[i]).n)).steps⟩]) H'
          have H:=H.ung 0
          have H:Hp w S O (_::_::_::_) [_,_,_,_] [_,_,_,_,_,_,_,_,_,_] _:=H
          refine uF 2 ?_
          refine uR 2 [.c [3,0,1,0,0,1,0,0,5],.b 1,.c [3,0,1,0,0,2],.l [3,0,1,0,0],.b 0,.c [4]] ?_
          refine qG (sq 0 10) ?_
          refine uP 4 ?_
          have H:=H.frontM 1 rfl
          refine uKS (jbase_spec n1.bl ((H.lend (M1:=[(jb,.cells #[.P db 0,.string (⟨#[106]⟩:ByteArray),.slice ab B.length cb,.slice ar R.length cr,.I g,.string seg,.slice aσ σ.length cσ,.bool sy] 41 (0,0))]) (W1:=[])).pick [4] rfl)) ?_
          rintro _ _⟨b2,c2,rfl,H'⟩
          have H:=H.back (M1:=[(jb,.cells #[.P db 0,.string (⟨#[106]⟩:ByteArray),.slice ab B.length cb,.slice ar R.length cr,.I g,.string seg,.slice aσ σ.length cσ,.bool sy] 41 (0,0))]) (W1:=[]) H'
          have H:Hp w S O (_::_::_::_) [⟨Sb,5,.slice b2 B.length c2,B⟩,_,_,_,_] [_,_,_,_,_,_,_,_,_,_] _:=H
          refine qP 1 (sq 6 10) [(0,.P db 0),(1,.slice al l.length cl),(5,.P a 0),(6,.P jb 0),(7,.bool true),(8,.I i),(155,.bool true),(156,.P a 0),(158,.slice b2 B.length c2),(159,.P jb 0)] ?_
          have H:=H.frontW 2 rfl
          refine uKS (jrecs_spec (Nat.le_trans n1.rl (by omega)) n1.rb ((H.lend (M1:=[(jb,.cells #[.P db 0,.string (⟨#[106]⟩:ByteArray),.slice ab B.length cb,.slice ar R.length cr,.I g,.string seg,.slice aσ σ.length cσ,.bool sy] 41 (0,0))]) (W1:=[⟨SB,23,.slice ar R.length cr,R⟩])).pick [] rfl)) ?_
          rintro _ _⟨R2,S2,rfl,H'⟩
          have H:=H.back (M1:=[(jb,.cells #[.P db 0,.string (⟨#[106]⟩:ByteArray),.slice ab B.length cb,.slice ar R.length cr,.I g,.string seg,.slice aσ σ.length cσ,.bool sy] 41 (0,0))]) (W1:=[⟨SB,23,.slice ar R.length cr,R⟩]) H'
          have H:Hp w S O (_::_::_::_) [⟨SB,23,.slice R2 R.length S2,R⟩,_,_,_,_,_] [_,_,_,_,_,_,_,_,_,_] _:=H
          have H:Hp w S O (_::_::_::_) [_,_,_,_,_] [Rp SB [.slice b2 B.length c2] B,_,_,_,_,_,_,_,_,_,_] _:=H.freezeW 2 rfl
          have H:Hp w S O (_::_::_::_) [_,_,_,_] [Rp (Shape.slice SB) [.slice R2 R.length S2] R,_,_,_,_,_,_,_,_,_,_,_] _:=H.freezeW 0 rfl
          have H:=H.frontM 2 rfl
          have H:=H.frontW 3 rfl
          have H:=H.frontW 3 rfl
          refine uKS (bk_has (by first|omega|(simp only[List.length_append,List.length_cons,List.length_nil];omega)) (by first|omega|(simp only[List.length_append,List.length_cons,List.length_nil];omega)) rfl rfl ((H.lend (M1:=[(a,.cells #[.slice aB B.length cB,.slice aR R.length cR,.slice x B.length y,.slice z R0.length A,.slice e L.length f,.bool false,.slice j t.length o] 50 (0,0))]) (W1:=[⟨SB,23,.slice aR R.length cR,R⟩,⟨SB,23,.slice e L.length f,L⟩])).pick [8,9,10,11,1,0] rfl)) ?_
          rintro _ _⟨rfl,H'⟩
          have H:=H.back (M1:=[(a,.cells #[.slice aB B.length cB,.slice aR R.length cR,.slice x B.length y,.slice z R0.length A,.slice e L.length f,.bool false,.slice j t.length o] 50 (0,0))]) (W1:=[⟨SB,23,.slice aR R.length cR,R⟩,⟨SB,23,.slice e L.length f,L⟩]) H'
          have H:Hp w S O (_::_::_::_) [_,_,_,_] [_,_,_,_,_,_,_,_,_,_,_,_,_,_,_,_] _:=H
          refine uF 2 ?_
          refine uR 1 [.c [3,0,1,0,0,2],.l [3,0,1,0,0],.b 0,.c [4]] ?_
          refine qG (sq 0 3) ?_
          refine uP 1 ?_
          refine uI ((i:Int)+1) ?_
          refine uF 1 ?_
          have H:=H.pick [8,9,10,11,0,1,2,3] rfl
          have H:=H.frontM 1 rfl
          have H:=H.frontM 2 rfl
          have H:=H.frontW 3 rfl
          have H:=H.frontW 2 rfl
          have H:=H.frontW 2 rfl
          have H:=H.frontW 3 rfl
          have H:=H.dropM 0
          exact uB (C (i+1,jb,(armD D ((l[i]).n)),sa,sk,B,R0,R,g,seg,σ,sy,q,L,false,t,ab,cb,ar,cr,aσ,cσ,aB,cB,aR,cR,x,y,z,A,e,f,j,o,(.I g),(.string seg),(.slice aσ σ.length cσ),(.bool sy)) _ ⟨H,by omega,ht,.inl ⟨rfl,rfl,rfl,rfl,n1.mono (by omega) (by omega) (by first|omega|(rw[sumD_snoc (by omega)];omega)) (Nat.le_refl _) (by omega),rfl,hRL⟩⟩ (by first|omega|(simp only[];omega)))
         ·
          refine uR 4 [.c [3,0,1,0,0,1,0,0,4,0,0],.c [3,0,1,0,0,1,0,0,4,0,1],.c [3,0,1,0,0,1,0,0,5],.b 1,.c [3,0,1,0,0,2],.l [3,0,1,0,0],.b 0,.c [4]] ?_
          refine qG (sq 0 19) ?_
          refine uP 16 ?_
          have H:=H.gat 0 3
          refine uKS (dDead hW.al.dead ((H.lend (M1:=diskM db D sa sk) (W1:=[⟨stepS,143,.slice sa D.steps.length sk,D.steps⟩])).pick [] rfl)) ?_
          rintro _ _⟨rfl,H'⟩
          have H:=H.back (M1:=diskM db D sa sk) (W1:=[⟨stepS,143,.slice sa D.steps.length sk,D.steps⟩]) H'
          have H:=H.ung 0
          have H:Hp w S O (_::_::_::_) [_,_,_,_] [_,_,_,_,_,_,_,_,_,_] _:=H
          refine uF 2 ?_
          refine uR 2 [.c [3,0,1,0,0,1,0,0,5],.b 1,.c [3,0,1,0,0,2],.l [3,0,1,0,0],.b 0,.c [4]] ?_
          refine qG (sq 0 10) ?_
          refine uP 4 ?_
          have H:=H.frontM 1 rfl
          refine uKS (jbase_spec hW.bl ((H.lend (M1:=[(jb,.cells #[.P db 0,.string (⟨#[106]⟩:ByteArray),.slice ab B.length cb,.slice ar R.length cr,.I g,.string seg,.slice aσ σ.length cσ,.bool sy] 41 (0,0))]) (W1:=[])).pick [4] rfl)) ?_
          rintro _ _⟨T2,U2,rfl,H'⟩
          have H:=H.back (M1:=[(jb,.cells #[.P db 0,.string (⟨#[106]⟩:ByteArray),.slice ab B.length cb,.slice ar R.length cr,.I g,.string seg,.slice aσ σ.length cσ,.bool sy] 41 (0,0))]) (W1:=[]) H'
          have H:Hp w S O (_::_::_::_) [⟨Sb,5,.slice T2 B.length U2,B⟩,_,_,_,_] [_,_,_,_,_,_,_,_,_,_] _:=H
          refine uP 1 ?_
          have H:=H.frontW 2 rfl
          refine uKS (jrecs_spec (Nat.le_trans hW.rl (by omega)) hW.rb ((H.lend (M1:=[(jb,.cells #[.P db 0,.string (⟨#[106]⟩:ByteArray),.slice ab B.length cb,.slice ar R.length cr,.I g,.string seg,.slice aσ σ.length cσ,.bool sy] 41 (0,0))]) (W1:=[⟨SB,23,.slice ar R.length cr,R⟩])).pick [] rfl)) ?_
          rintro _ _⟨V2,W2,rfl,H'⟩
          have H:=H.back (M1:=[(jb,.cells #[.P db 0,.string (⟨#[106]⟩:ByteArray),.slice ab B.length cb,.slice ar R.length cr,.I g,.string seg,.slice aσ σ.length cσ,.bool sy] 41 (0,0))]) (W1:=[⟨SB,23,.slice ar R.length cr,R⟩]) H'
          have H:Hp w S O (_::_::_::_) [⟨SB,23,.slice V2 R.length W2,R⟩,_,_,_,_,_] [_,_,_,_,_,_,_,_,_,_] _:=H
          have H:Hp w S O (_::_::_::_) [_,_,_,_,_] [Rp SB [.slice T2 B.length U2] B,_,_,_,_,_,_,_,_,_,_] _:=H.freezeW 2 rfl
          have H:Hp w S O (_::_::_::_) [_,_,_,_] [Rp (Shape.slice SB) [.slice V2 R.length W2] R,_,_,_,_,_,_,_,_,_,_,_] _:=H.freezeW 0 rfl
          have H:=H.frontM 2 rfl
          have H:=H.frontW 3 rfl
          have H:=H.frontW 3 rfl
          refine uKS (bk_has (by first|omega|(simp only[List.length_append,List.length_cons,List.length_nil];omega)) (by first|omega|(simp only[List.length_append,List.length_cons,List.length_nil];omega)) rfl rfl ((H.lend (M1:=[(a,.cells #[.slice aB B.length cB,.slice aR R.length cR,.slice x B.length y,.slice z R0.length A,.slice e L.length f,.bool false,.slice j t.length o] 50 (0,0))]) (W1:=[⟨SB,23,.slice aR R.length cR,R⟩,⟨SB,23,.slice e L.length f,L⟩])).pick [8,9,10,11,1,0] rfl)) ?_
          rintro _ _⟨rfl,H'⟩
          have H:=H.back (M1:=[(a,.cells #[.slice aB B.length cB,.slice aR R.length cR,.slice x B.length y,.slice z R0.length A,.slice e L.length f,.bool false,.slice j t.length o] 50 (0,0))]) (W1:=[⟨SB,23,.slice aR R.length cR,R⟩,⟨SB,23,.slice e L.length f,L⟩]) H'
          have H:Hp w S O (_::_::_::_) [_,_,_,_] [_,_,_,_,_,_,_,_,_,_,_,_,_,_,_,_] _:=H
          refine qF 2 [(0,.P db 0),(1,.slice al l.length cl),(5,.P a 0),(6,.P jb 0),(7,.bool true),(8,.I i)] ?_
          refine uR 1 [.c [3,0,1,0,0,2],.l [3,0,1,0,0],.b 0,.c [4]] ?_
          refine qG (sq 0 3) ?_
          refine uP 1 ?_
          refine uI ((i:Int)+1) ?_
          refine uF 1 ?_
          have H:=H.pick [8,9,10,11,0,1,2,3] rfl
          have H:=H.frontM 1 rfl
          have H:=H.frontM 2 rfl
          have H:=H.frontW 3 rfl
          have H:=H.frontW 2 rfl
          have H:=H.frontW 2 rfl
          have H:=H.frontW 3 rfl
          have H:=H.dropM 0
          exact uB (C (i+1,jb,D,sa,sk,B,R0,R,g,seg,σ,sy,q,L,false,t,ab,cb,ar,cr,aσ,cσ,aB,cB,aR,cR,x,y,z,A,e,f,j,o,(.I g),(.string seg),(.slice aσ σ.length cσ),(.bool sy)) _ ⟨H,by omega,ht,.inl ⟨rfl,rfl,rfl,rfl,hW.mono (by omega) (by omega) (by first|omega|(rw[sumD_snoc (by omega)];omega)) (Nat.le_refl _) (by omega),rfl,hRL⟩⟩ (by first|omega|(simp only[];omega)))
        ·
         refine uR 4 [.c [3,0,1,0,0,1,0,0,4,0,0],.c [3,0,1,0,0,1,0,0,4,0,1],.c [3,0,1,0,0,1,0,0,5],.b 1,.c [3,0,1,0,0,2],.l [3,0,1,0,0],.b 0,.c [4]] ?_
         refine qG (sq 0 19) ?_
         refine uP 16 ?_
         have H:=H.gat 0 3
         refine uKS (dDead hW.al.dead ((H.lend (M1:=diskM db D sa sk) (W1:=[⟨stepS,143,.slice sa D.steps.length sk,D.steps⟩])).pick [] rfl)) ?_
         rintro _ _⟨rfl,H'⟩
         have H:=H.back (M1:=diskM db D sa sk) (W1:=[⟨stepS,143,.slice sa D.steps.length sk,D.steps⟩]) H'
         have H:=H.ung 0
         have H:Hp w S O (_::_::_::_) [_,_,_,_] [_,_,_,_,_,_,_,_,_,_] _:=H
         refine uF 2 ?_
         refine uR 2 [.c [3,0,1,0,0,1,0,0,5],.b 1,.c [3,0,1,0,0,2],.l [3,0,1,0,0],.b 0,.c [4]] ?_
         refine qG (sq 0 10) ?_
         refine uP 4 ?_
         have H:=H.frontM 1 rfl
         refine uKS (jbase_spec hW.bl ((H.lend (M1:=[(jb,.cells #[.P db 0,.string (⟨#[106]⟩:ByteArray),.slice ab B.length cb,.slice ar R.length cr,.I g,.string seg,.slice aσ σ.length cσ,.bool sy] 41 (0,0))]) (W1:=[])).pick [4] rfl)) ?_
         rintro _ _⟨X2,Y2,rfl,H'⟩
         have H:=H.back (M1:=[(jb,.cells #[.P db 0,.string (⟨#[106]⟩:ByteArray),.slice ab B.length cb,.slice ar R.length cr,.I g,.string seg,.slice aσ σ.length cσ,.bool sy] 41 (0,0))]) (W1:=[]) H'
         have H:Hp w S O (_::_::_::_) [⟨Sb,5,.slice X2 B.length Y2,B⟩,_,_,_,_] [_,_,_,_,_,_,_,_,_,_] _:=H
         refine uP 1 ?_
         have H:=H.frontW 2 rfl
         refine uKS (jrecs_spec (Nat.le_trans hW.rl (by omega)) hW.rb ((H.lend (M1:=[(jb,.cells #[.P db 0,.string (⟨#[106]⟩:ByteArray),.slice ab B.length cb,.slice ar R.length cr,.I g,.string seg,.slice aσ σ.length cσ,.bool sy] 41 (0,0))]) (W1:=[⟨SB,23,.slice ar R.length cr,R⟩])).pick [] rfl)) ?_
         rintro _ _⟨Z2,a3,rfl,H'⟩
         have H:=H.back (M1:=[(jb,.cells #[.P db 0,.string (⟨#[106]⟩:ByteArray),.slice ab B.length cb,.slice ar R.length cr,.I g,.string seg,.slice aσ σ.length cσ,.bool sy] 41 (0,0))]) (W1:=[⟨SB,23,.slice ar R.length cr,R⟩]) H'
         have H:Hp w S O (_::_::_::_) [⟨SB,23,.slice Z2 R.length a3,R⟩,_,_,_,_,_] [_,_,_,_,_,_,_,_,_,_] _:=H
         have H:Hp w S O (_::_::_::_) [_,_,_,_,_] [Rp SB [.slice X2 B.length Y2] B,_,_,_,_,_,_,_,_,_,_] _:=H.freezeW 2 rfl
         have H:Hp w S O (_::_::_::_) [_,_,_,_] [Rp (Shape.slice SB) [.slice Z2 R.length a3] R,_,_,_,_,_,_,_,_,_,_,_] _:=H.freezeW 0 rfl
         have H:=H.frontM 2 rfl
         have H:=H.frontW 3 rfl
         have H:=H.frontW 3 rfl
         refine uKS (bk_has (by first|omega|(simp only[List.length_append,List.length_cons,List.length_nil];omega)) (by first|omega|(simp only[List.length_append,List.length_cons,List.length_nil];omega)) rfl rfl ((H.lend (M1:=[(a,.cells #[.slice aB B.length cB,.slice aR R.length cR,.slice x B.length y,.slice z R0.length A,.slice e L.length f,.bool false,.slice j t.length o] 50 (0,0))]) (W1:=[⟨SB,23,.slice aR R.length cR,R⟩,⟨SB,23,.slice e L.length f,L⟩])).pick [8,9,10,11,1,0] rfl)) ?_
         rintro _ _⟨rfl,H'⟩
         have H:=H.back (M1:=[(a,.cells #[.slice aB B.length cB,.slice aR R.length cR,.slice x B.length y,.slice z R0.length A,.slice e L.length f,.bool false,.slice j t.length o] 50 (0,0))]) (W1:=[⟨SB,23,.slice aR R.length cR,R⟩,⟨SB,23,.slice e L.length f,L⟩]) H'
         have H:Hp w S O (_::_::_::_) [_,_,_,_] [_,_,_,_,_,_,_,_,_,_,_,_,_,_,_,_] _:=H
         refine uF 2 ?_
         refine qR 1 [.c [3,0,1,0,0,2],.l [3,0,1,0,0],.b 0,.c [4]] [(0,.P db 0),(1,.slice al l.length cl),(5,.P a 0),(6,.P jb 0),(7,.bool true),(8,.I i)] ?_
         refine qG (sq 0 3) ?_
         refine uP 1 ?_
         refine uI ((i:Int)+1) ?_
         refine uF 1 ?_
         have H:=H.pick [8,9,10,11,0,1,2,3] rfl
         have H:=H.frontM 1 rfl
         have H:=H.frontM 2 rfl
         have H:=H.frontW 3 rfl
         have H:=H.frontW 2 rfl
         have H:=H.frontW 2 rfl
         have H:=H.frontW 3 rfl
         have H:=H.dropM 0
         exact uB (C (i+1,jb,D,sa,sk,B,R0,R,g,seg,σ,sy,q,L,false,t,ab,cb,ar,cr,aσ,cσ,aB,cB,aR,cR,x,y,z,A,e,f,j,o,(.I g),(.string seg),(.slice aσ σ.length cσ),(.bool sy)) _ ⟨H,by omega,ht,.inl ⟨rfl,rfl,rfl,rfl,hW.mono (by omega) (by omega) (by first|omega|(rw[sumD_snoc (by omega)];omega)) (Nat.le_refl _) (by omega),rfl,hRL⟩⟩ (by first|omega|(simp only[];omega)))
  ·
   refine uF 2 ?_
   refine uR 4 [.c [5]] ?_
   refine qT (.bool true) Tryz.func27 ?_
   have H:=H.pick [] rfl
   have H:=H.take 0 0
   exact⟨_,rfl,rfl,H⟩
 ·
  have d4:=hkd.ks.bd.rl
  have e4:=hkd.ks.bd.ll
  refine uR 2 [.c [3,0,1,0,0,0,0],.c [3,0,1,0,0,0,1],.c [3,0,1,0,0,1],.l [3,0,1,0,0],.b 0,.c [4]] ?_
  refine qG (sq 0 7) ?_
  refine uP 5 ?_
  refine uD 27 (((i:Int):Int)<((l.length:Nat):Int)) (fun U3=>?_) (fun U3=>?_)
  ·
   have hxl:=hrm.at (i:=i) (by omega)
   have F3:=sumD_take l i
   refine uF 2 ?_
   refine uR 5 [.c [3,0,1,0,0,1,0,0,0],.c [3,0,1,0,0,1,0,0,1],.b 1,.c [3,0,1,0,0,2],.l [3,0,1,0,0],.b 0,.c [4]] ?_
   refine qG (sq 0 6) ?_
   refine uP 2 ?_
   have r3:i<l.length:=by omega
   refine uX 46 (i:Int) H 0 rfl i (by omega) (List.getElem?_eq_getElem r3) ?_
   intro V3 W3 _ s3 H
   obtain⟨o1,p1,rfl,_,t3,_⟩:=act_open s3
   have H:=H.addR t3
   refine uV 53 0 (H.fc 1 rfl) ?_
   refine uC #[.I 0,.slice none 0 0,.I 0] 53 H ?_
   intro H1 _ H
   refine qW 53 H1 0 (sq 6 6) (.agg #[.I ((l[i]).kind),.slice o1 ((l[i]).data.length) p1,.I ((l[i]).n)]) ((H1,.cells #[.I ((l[i]).kind),.slice o1 ((l[i]).data.length) p1,.I ((l[i]).n)] 53 (0,0))::(jb,.cells #[.P db 0,.string (⟨#[106]⟩:ByteArray),.slice ab B.length cb,.slice ar R.length cr,ya,yb,yc,yd] 41 (0,0))::(a,.cells #[.slice aB B.length cB,.slice aR R.length cR,.slice x B.length y,.slice z R0.length A,.slice e L.length f,.bool torn,.slice j t.length o] 50 (0,0))::(diskM db D sa sk)) H 0 rfl rfl ?_
   intro _ H
   refine uF 0 ?_
   refine uR 2 [.c [3,0,1,0,0,1,0,0,1,0,0],.c [3,0,1,0,0,1,0,0,1,0,1],.c [3,0,1,0,0,1,0,0,2],.b 1,.c [3,0,1,0,0,2],.l [3,0,1,0,0],.b 0,.c [4]] ?_
   refine qG (sq 0 7) ?_
   refine uP 1 ?_
   have H:=H.frontW 3 rfl
   have H:=H.gat 0 3
   refine uKS (dDead hkd.dead ((H.lend (M1:=diskM db D sa sk) (W1:=[⟨stepS,143,.slice sa D.steps.length sk,D.steps⟩])).pick [] rfl)) ?_
   rintro _ _⟨rfl,H'⟩
   have H:=H.back (M1:=diskM db D sa sk) (W1:=[⟨stepS,143,.slice sa D.steps.length sk,D.steps⟩]) H'
   have H:=H.ung 0
   have H:Hp w S O (_::_::_::_) [_,_,_,_] [_,Fc V3 W3 [.I ((l[i]).kind),.slice o1 ((l[i]).data.length) p1,.I ((l[i]).n)],_,_,_,_,_,_,_,_] _:=H
   refine qP 2 (sq 4 7) [(0,.P db 0),(1,.slice al l.length cl),(5,.P a 0),(6,.P jb 0),(7,.bool true),(8,.I i),(9,.P H1 0),(38,.bool true),(39,.P H1 0)] ?_
   refine uV 3 0 (H.cells 0 rfl) ?_
   refine uF 2 ?_
   refine qN ((l[i]).kind) 5 (fun X3=>?_) (fun X3=>?_)
   ·
    refine uR 1 [.c [3,0,1,0,0,1,0,0,1,0,1,0,0],.c [3,0,1,0,0,1,0,0,1,0,1,0,1],.c [3,0,1,0,0,1,0,0,2],.b 1,.c [3,0,1,0,0,2],.l [3,0,1,0,0],.b 0,.c [4]] ?_
    refine qG (sq 0 5) ?_
    refine uP 2 ?_
    refine uV 23 1 (H.cells 0 rfl) ?_
    have H:=H.frontM 1 rfl
    have H:=H.gat 1 2
    refine RW.callS (d:=some 46) (r:=(sq 4 5)) (g:=16) (args:=#[.P jb 0,.slice o1 ((l[i]).data.length) p1]) (by as_aux_lemma=>kernel_rfl) (jappend_dead (r:=(l[i]).data) (R:=R) hkd.dead (by omega) (Nat.le_trans hkd.ks.bd.rl (by omega)) ((H.lend (M1:=((jb,.cells #[.P db 0,.string (⟨#[106]⟩:ByteArray),.slice ab B.length cb,.slice ar R.length cr,ya,yb,yc,yd] 41 (0,0))::diskM db D sa sk)) (W1:=[⟨stepS,143,.slice sa D.steps.length sk,D.steps⟩])).pick [] rfl)) ?_
    rintro _ _⟨rfl,H'⟩
    have H:=H.back (M1:=((jb,.cells #[.P db 0,.string (⟨#[106]⟩:ByteArray),.slice ab B.length cb,.slice ar R.length cr,ya,yb,yc,yd] 41 (0,0))::diskM db D sa sk)) (W1:=[⟨stepS,143,.slice sa D.steps.length sk,D.steps⟩]) H'
    have H:=H.ung 1
    have H:Hp w S O (_::_::_::_) [_,_,_,_] [_,_,_,_,_,_,_,_,_,_] _:=H
    refine uF 1 ?_
    refine uR 1 [.c [3,0,1,0,0,1,0,0,1,0,1,0,1,0],.c [3,0,1,0,0,1,0,0,1,0,1,0,2],.c [3,0,1,0,0,1,0,0,2],.b 1,.c [3,0,1,0,0,2],.l [3,0,1,0,0],.b 0,.c [4]] ?_
    refine qG (sq 0 3) ?_
    refine uP 1 ?_
    have H:=H.gat 1 2
    refine uKS (jsync_dead (R:=R) hkd.dead ((H.lend (M1:=((jb,.cells #[.P db 0,.string (⟨#[106]⟩:ByteArray),.slice ab B.length cb,.slice ar R.length cr,ya,yb,yc,yd] 41 (0,0))::diskM db D sa sk)) (W1:=[⟨stepS,143,.slice sa D.steps.length sk,D.steps⟩])).pick [] rfl)) ?_
    rintro _ _⟨rfl,H'⟩
    have H:=H.back (M1:=((jb,.cells #[.P db 0,.string (⟨#[106]⟩:ByteArray),.slice ab B.length cb,.slice ar R.length cr,ya,yb,yc,yd] 41 (0,0))::diskM db D sa sk)) (W1:=[⟨stepS,143,.slice sa D.steps.length sk,D.steps⟩]) H'
    have H:=H.ung 1
    have H:Hp w S O (_::_::_::_) [_,_,_,_] [_,_,_,_,_,_,_,_,_,_] _:=H
    refine uF 1 ?_
    refine uR 6 [.c [3,0,1,0,0,2],.l [3,0,1,0,0],.b 0,.c [4]] ?_
    refine qG (sq 0 3) ?_
    refine uP 1 ?_
    refine uI ((i:Int)+1) ?_
    refine uF 1 ?_
    have H:=H.add (F:=Rp SB [.slice none (([]:List (BitVec 8)).length) 0] ([]:List (BitVec 8))) Shape.slice_nil
    have H:=H.pick [3,4,5,0,7,8,9,10] rfl
    have H:=H.frontM 2 rfl
    have H:=H.frontM 1 rfl
    have H:=H.frontM 2 rfl
    have H:=H.frontW 3 rfl
    have H:=H.frontW 3 rfl
    have H:=H.frontW 3 rfl
    have H:=H.dropM 0
    exact uB (C (i+1,jb,D,sa,sk,B,R0,R,0,(⟨#[]⟩:ByteArray),([]:List (BitVec 8)),true,q,L,torn,t,ab,cb,ar,cr,none,0,aB,cB,aR,cR,x,y,z,A,e,f,j,o,ya,yb,yc,yd) _ ⟨H,by omega,ht,.inr (hkd.mono (by omega))⟩ (by first|omega|(simp only[];omega)))
   ·
    refine uR 5 [.c [3,0,1,0,0,1,0,0,3,0,0],.c [3,0,1,0,0,1,0,0,3,0,1],.c [3,0,1,0,0,1,0,0,4],.b 1,.c [3,0,1,0,0,2],.l [3,0,1,0,0],.b 0,.c [4]] ?_
    refine qG (sq 0 2) ?_
    refine uP 1 ?_
    refine uV 3 0 (H.cells 0 rfl) ?_
    refine uF 0 ?_
    refine qR 3 [.c [3,0,1,0,0,1,0,0,3,0,1,0,1],.b 2,.c [3,0,1,0,0,1,0,0,4],.b 1,.c [3,0,1,0,0,2],.l [3,0,1,0,0],.b 0,.c [4]] [(0,.P db 0),(1,.slice al l.length cl),(5,.P a 0),(6,.P jb 0),(7,.bool true),(8,.I i),(9,.P H1 0),(12,.I 0),(56,.I ((l[i]).kind)),(57,.bool (((l[i]).kind)==1))] ?_
    refine qE ((l[i]).kind) 1 (fun Y3=>?_) (fun Y3=>?_)
    ·
     omega
    ·
     refine uR 2 [.c [3,0,1,0,0,1,0,0,3,0,1,0,1,1,1],.b 2,.c [3,0,1,0,0,1,0,0,4],.b 1,.c [3,0,1,0,0,2],.l [3,0,1,0,0],.b 0,.c [4]] ?_
     refine qE ((l[i]).kind) 2 (fun Z3=>?_) (fun Z3=>?_)
     ·
      omega
     ·
      refine uR 2 [.c [3,0,1,0,0,1,0,0,3,0,1,0,1,1,1,1,1],.b 2,.c [3,0,1,0,0,1,0,0,4],.b 1,.c [3,0,1,0,0,2],.l [3,0,1,0,0],.b 0,.c [4]] ?_
      refine qE ((l[i]).kind) 3 (fun a4=>?_) (fun a4=>?_)
      ·
       omega
      ·
       refine uR 2 [.c [3,0,1,0,0,1,0,0,3,0,1,0,1,1,1,1,1,1,1],.b 2,.c [3,0,1,0,0,1,0,0,4],.b 1,.c [3,0,1,0,0,2],.l [3,0,1,0,0],.b 0,.c [4]] ?_
       refine qE ((l[i]).kind) 4 (fun b4=>?_) (fun b4=>?_)
       ·
        omega
       ·
        refine uR 2 [.c [3,0,1,0,0,1,0,0,3,0,1,0,1,1,1,1,1,1,1,1,1],.b 2,.c [3,0,1,0,0,1,0,0,4],.b 1,.c [3,0,1,0,0,2],.l [3,0,1,0,0],.b 0,.c [4]] ?_
        refine qE ((l[i]).kind) 5 (fun c4=>?_) (fun c4=>?_)
        ·
         refine uR 1 [.c [3,0,1,0,0,1,0,0,3,0,1,0,1,1,1,1,1,1,1,1,1,0,0],.c [3,0,1,0,0,1,0,0,3,0,1,0,1,1,1,1,1,1,1,1,1,0,1],.b 2,.c [3,0,1,0,0,1,0,0,4],.b 1,.c [3,0,1,0,0,2],.l [3,0,1,0,0],.b 0,.c [4]] ?_
         refine qG (sq 0 4) ?_
         refine uP 2 ?_
         refine uV 23 1 (H.cells 0 rfl) ?_
         have H:=H.gat 0 3
         refine uKS (dCrashAny hkd.ks.di.ok hkd.ks.st ((H.lend (M1:=diskM db D sa sk) (W1:=[⟨stepS,143,.slice sa D.steps.length sk,D.steps⟩])).pick [0] rfl)) ?_
         rintro _ _⟨rfl,l0,m0,H'⟩
         have H:=H.back (M1:=diskM db D sa sk) (W1:=[⟨stepS,143,.slice sa D.steps.length sk,D.steps⟩]) H'
         have H:=H.ung 0
         have H:Hp w S O (_::_::_::(diskM db (crashD D ((l[i]).data) l0 m0) none 0)) [⟨stepS,143,.slice none ((crashD D ((l[i]).data) l0 m0).steps.length) 0,(crashD D ((l[i]).data) l0 m0).steps⟩,_,_,_] [_,_,_,_,_,_,_,_,_,_] _:=H
         have hks:=hkd.ks
         have hcw:=hks.cw ((l[i]).data) l0 m0
         obtain⟨q8,a2⟩:=hcw.op
         refine uF 0 ?_
         refine qG (sq 0 8) ?_
         refine uP 2 ?_
         have H:=H.frontM 2 rfl
         have H:=H.frontW 3 rfl
         have H:=H.frontW 3 rfl
         have H:=H.gat 1 2
         refine uKS (again_spec (n:=(400000*(205-i)-300000)) (m:=(i+1)) (q:=q8) hcw.di (hcw.al.mono (by omega)) rfl a2 hcw.cap (by omega) (fun B R h=>QBk.bd hks.bd h) (fun B R h=>QBk.may h) (by have:=hks.bd.rl;omega) (by have:=hks.bd.ll;omega) (by have:=hks.bd.ll;omega) ((H.lend (M1:=((a,.cells #[.slice aB B.length cB,.slice aR R.length cR,.slice x B.length y,.slice z R0.length A,.slice e L.length f,.bool torn,.slice j t.length o] 50 (0,0))::diskM db (crashD D ((l[i]).data) l0 m0) none 0)) (W1:=[⟨SB,23,.slice aR R.length cR,R⟩,⟨SB,23,.slice e L.length f,L⟩,⟨stepS,143,.slice none ((crashD D ((l[i]).data) l0 m0).steps.length) 0,(crashD D ((l[i]).data) l0 m0).steps⟩])).pick [6,7,8,9,3] rfl)) ?_
         rintro _ _⟨L0,G,u,h1,M0,N0,r0,s0,n0,o0,O0,P0,q1,r1,w0,Q0,S0,rfl,Z0,_,H'⟩
         have H:=H.back (M1:=((a,.cells #[.slice aB B.length cB,.slice aR R.length cR,.slice x B.length y,.slice z R0.length A,.slice e L.length f,.bool torn,.slice j t.length o] 50 (0,0))::diskM db (crashD D ((l[i]).data) l0 m0) none 0)) (W1:=[⟨SB,23,.slice aR R.length cR,R⟩,⟨SB,23,.slice e L.length f,L⟩,⟨stepS,143,.slice none ((crashD D ((l[i]).data) l0 m0).steps.length) 0,(crashD D ((l[i]).data) l0 m0).steps⟩]) H'
         have H:=H.ung 2
         have H:Hp w S O ((L0,.cells #[.P db 0,.string (⟨#[106]⟩:ByteArray),.slice M0 G.length N0,.slice r0 u.length s0,.I h1,.string (⟨#[]⟩:ByteArray),.slice none (([]:List (BitVec 8)).length) 0,.bool true] 41 (0,0))::(a,.cells #[.slice n0 G.length o0,.slice O0 u.length P0,.slice n0 G.length o0,.slice q1 u.length r1,.slice none (([]:List (List (BitVec 8))).length) 0,.bool false,.slice j t.length o] 50 (0,0))::_::_::(diskM db w0 Q0 S0)) [⟨SB,23,.slice r0 u.length s0,u⟩,⟨SB,23,.slice O0 u.length P0,u⟩,_,⟨stepS,143,.slice Q0 w0.steps.length S0,w0.steps⟩,_] [Rp SB [.slice M0 G.length N0] G,_,Rp SB [.slice n0 G.length o0] G,Rp SB [.slice n0 G.length o0] G,_,Rp (Shape.slice SB) [.slice q1 u.length r1] u,_,_,_,_,_,_,_,_,_,_] _:=H
         have hbz:=Z0.rl
         refine uF 5 ?_
         refine uR 3 [.c [3,0,1,0,0,1,0,0,4,0,0],.c [3,0,1,0,0,1,0,0,4,0,1],.c [3,0,1,0,0,1,0,0,5],.b 1,.c [3,0,1,0,0,2],.l [3,0,1,0,0],.b 0,.c [4]] ?_
         refine qG (sq 0 19) ?_
         refine qP 16 (sq 16 19) [(0,.P db 0),(1,.slice al l.length cl),(5,.P a 0),(6,.P L0 0),(7,.bool true),(8,.I i),(146,.bool false),(149,.bool true),(150,.P db 0)] ?_
         have H:=H.frontW 3 rfl
         have H:=H.gat 0 4
         refine uKS (dDead Z0.al.dead ((H.lend (M1:=diskM db w0 Q0 S0) (W1:=[⟨stepS,143,.slice Q0 w0.steps.length S0,w0.steps⟩])).pick [] rfl)) ?_
         rintro _ _⟨rfl,H'⟩
         have H:=H.back (M1:=diskM db w0 Q0 S0) (W1:=[⟨stepS,143,.slice Q0 w0.steps.length S0,w0.steps⟩]) H'
         have H:=H.ung 0
         have H:Hp w S O (_::_::_::_::_) [_,_,_,_,_] [_,_,_,_,_,_,_,_,_,_,_,_,_,_,_,_] _:=H
         refine uF 2 ?_
         refine uR 2 [.c [3,0,1,0,0,1,0,0,5],.b 1,.c [3,0,1,0,0,2],.l [3,0,1,0,0],.b 0,.c [4]] ?_
         refine qG (sq 0 10) ?_
         refine uP 4 ?_
         refine uKS (jbase_spec Z0.bl ((H.lend (M1:=[(L0,.cells #[.P db 0,.string (⟨#[106]⟩:ByteArray),.slice M0 G.length N0,.slice r0 u.length s0,.I h1,.string (⟨#[]⟩:ByteArray),.slice none (([]:List (BitVec 8)).length) 0,.bool true] 41 (0,0))]) (W1:=[])).pick [0] rfl)) ?_
         rintro _ _⟨b3,c3,rfl,H'⟩
         have H:=H.back (M1:=[(L0,.cells #[.P db 0,.string (⟨#[106]⟩:ByteArray),.slice M0 G.length N0,.slice r0 u.length s0,.I h1,.string (⟨#[]⟩:ByteArray),.slice none (([]:List (BitVec 8)).length) 0,.bool true] 41 (0,0))]) (W1:=[]) H'
         have H:Hp w S O (_::_::_::_::_) [⟨Sb,5,.slice b3 G.length c3,G⟩,_,_,_,_,_] [_,_,_,_,_,_,_,_,_,_,_,_,_,_,_,_] _:=H
         refine uP 1 ?_
         have H:=H.frontW 2 rfl
         refine uKS (jrecs_spec (Nat.le_trans Z0.rl (by omega)) Z0.rb ((H.lend (M1:=[(L0,.cells #[.P db 0,.string (⟨#[106]⟩:ByteArray),.slice M0 G.length N0,.slice r0 u.length s0,.I h1,.string (⟨#[]⟩:ByteArray),.slice none (([]:List (BitVec 8)).length) 0,.bool true] 41 (0,0))]) (W1:=[⟨SB,23,.slice r0 u.length s0,u⟩])).pick [] rfl)) ?_
         rintro _ _⟨d3,e3,rfl,H'⟩
         have H:=H.back (M1:=[(L0,.cells #[.P db 0,.string (⟨#[106]⟩:ByteArray),.slice M0 G.length N0,.slice r0 u.length s0,.I h1,.string (⟨#[]⟩:ByteArray),.slice none (([]:List (BitVec 8)).length) 0,.bool true] 41 (0,0))]) (W1:=[⟨SB,23,.slice r0 u.length s0,u⟩]) H'
         have H:Hp w S O (_::_::_::_::_) [⟨SB,23,.slice d3 u.length e3,u⟩,_,_,_,_,_,_] [_,_,_,_,_,_,_,_,_,_,_,_,_,_,_,_] _:=H
         have H:Hp w S O (_::_::_::_::_) [_,_,_,_,_,_] [Rp SB [.slice b3 G.length c3] G,_,_,_,_,_,_,_,_,_,_,_,_,_,_,_,_] _:=H.freezeW 2 rfl
         have H:Hp w S O (_::_::_::_::_) [_,_,_,_,_] [Rp (Shape.slice SB) [.slice d3 u.length e3] u,_,_,_,_,_,_,_,_,_,_,_,_,_,_,_,_,_] _:=H.freezeW 0 rfl
         have H:=H.frontM 1 rfl
         have H:=H.frontW 3 rfl
         have H:=H.frontW 3 rfl
         refine uKS (bk_has (by first|omega|(simp only[List.length_append,List.length_cons,List.length_nil];omega)) (by first|omega|(simp only[List.length_append,List.length_cons,List.length_nil];omega)) rfl rfl ((H.lend (M1:=[(a,.cells #[.slice n0 G.length o0,.slice O0 u.length P0,.slice n0 G.length o0,.slice q1 u.length r1,.slice none (([]:List (List (BitVec 8))).length) 0,.bool false,.slice j t.length o] 50 (0,0))]) (W1:=[⟨SB,23,.slice O0 u.length P0,u⟩,⟨SB,23,.slice none (([]:List (List (BitVec 8))).length) 0,([]:List (List (BitVec 8)))⟩])).pick [4,4,6,7,1,0] rfl)) ?_
         rintro _ _⟨rfl,H'⟩
         have H:=H.back (M1:=[(a,.cells #[.slice n0 G.length o0,.slice O0 u.length P0,.slice n0 G.length o0,.slice q1 u.length r1,.slice none (([]:List (List (BitVec 8))).length) 0,.bool false,.slice j t.length o] 50 (0,0))]) (W1:=[⟨SB,23,.slice O0 u.length P0,u⟩,⟨SB,23,.slice none (([]:List (List (BitVec 8))).length) 0,([]:List (List (BitVec 8)))⟩]) H'
         have H:Hp w S O (_::_::_::_::_) [_,_,_,_,_] [_,_,_,_,_,_,_,_,_,_,_,_,_,_,_,_,_,_,_,_,_,_] _:=H
         refine uF 2 ?_
         refine uR 1 [.c [3,0,1,0,0,2],.l [3,0,1,0,0],.b 0,.c [4]] ?_
         refine qG (sq 0 3) ?_
         refine uP 1 ?_
         refine uI ((i:Int)+1) ?_
         refine uF 1 ?_
         have H:=H.pick [14,15,6,7,0,0,2,3] rfl
         have H:=H.frontM 1 rfl
         have H:=H.frontM 3 rfl
         have H:=H.frontM 3 rfl
         have H:=H.frontW 3 rfl
         have H:=H.frontW 2 rfl
         have H:=H.frontW 2 rfl
         have H:=H.frontW 3 rfl
         have H:=H.dropM 1
         have H:=H.dropM 0
         have H:=H.dropW 4
         exact uB (C (i+1,L0,w0,Q0,S0,G,u,u,h1,(⟨#[]⟩:ByteArray),([]:List (BitVec 8)),true,q8,([]:List (List (BitVec 8))),false,t,M0,N0,r0,s0,none,0,n0,o0,O0,P0,n0,o0,q1,r1,none,0,j,o,(.I h1),(.string (⟨#[]⟩:ByteArray)),(.slice none (([]:List (BitVec 8)).length) 0),(.bool true)) _ ⟨H,by omega,ht,.inl ⟨rfl,rfl,rfl,rfl,Z0.mono (by omega) (by omega) (by first|omega|(rw[sumD_snoc (by omega)];omega)) (Nat.le_refl _) (by omega),rfl,(List.append_nil _).symm⟩⟩ (by first|omega|(simp only[];omega)))
        ·
         omega
  ·
   refine uF 2 ?_
   refine uR 4 [.c [5]] ?_
   refine qT (.bool true) Tryz.func27 ?_
   have H:=H.pick [] rfl
   have H:=H.take 0 0
   exact⟨_,rfl,rfl,H⟩
set_option maxHeartbeats 1000000 in
theorem keeps_spec{S:Nat→Prop}{w:World}{l:List Act}{al:Option Addr}{cl:Nat}(hl:(Rp (Shape.slice actS) [.slice al l.length cl] l).p S w)(hq:(Fz jQ).p S w):
 Calls Tryz.prog 7 #[.slice al l.length cl] w (Ret fun v w'=>Ext w w'∧v=.bool true):=by
 refine uS1 Tryz.func7 ?_
 have H:=Hp.startF (w:=w) (S:=S) (G:=[Rp (Shape.slice actS) [.slice al l.length cl] l,Fz jQ]) (.rp hl (.cons hq .nil))
 refine uR 4 [.c [1,0,0],.c [1,0,1],.c [2]] ?_
 refine qG (sq 0 3) ?_
 refine uP 1 ?_
 refine uK (room_spec (H.rp 0 rfl)) ?_
 rintro _ _ g⟨d,rfl,h⟩
 have H:=H.ext g
 refine uF 1 ?_
 refine qC (!d) (fun e=>?_) (fun e=>?_)
 ·
  replace e:(d)=false:=by revert e;cases(d)<;>simp
  refine uR 1 [.c [1,0,1,0,0],.c [1,0,1,0,1],.c [2]] ?_
  refine qG (sq 0 2) ?_
  refine uK (heads_spec (S:=fun _=>True) (H.viewF 1 rfl)) ?_
  rintro _ _ i rfl
  have H:=H.ext i
  refine uF 1 ?_
  refine qT (.bool true) Tryz.func7 ?_
  exact⟨_,rfl,H.done,rfl⟩
 ·
  replace e:(d)=true:=by revert e;cases(d)<;>simp
  refine uR 2 [.c [2,0],.c [3]] ?_
  refine qG (sq 0 2) ?_
  refine uK (new_spec (S:=Av S w [] (idsOf [] []))) ?_
  rintro _ _-⟨j,a,b,rfl,H'⟩
  have H:=H.back (M1:=[]) (W1:=[]) H'
  have H:=H.ung 0
  have H:Hp w S [] ((diskM j (newD a b) none 0)) [⟨stepS,143,.slice none ((newD a b).steps.length) 0,(newD a b).steps⟩] [_,_] _:=H
  have k:DOk (newD a b):=newD_ok a b
  refine uF 1 ?_
  refine uR 1 [.c [3,0],.c [4]] ?_
  refine qG (sq 0 11) ?_
  refine uP 5 ?_
  refine uKS (play_spec (h (by first|assumption|simp_all)) (newD_CW a b _) (newD_op a b _) ((H.lend (M1:=(diskM _ _ _ _)) (W1:=[_])).pick [0,1] rfl)) ?_
  rintro _ _⟨rfl,H'⟩
  have H:=H.back (M1:=(diskM _ _ _ _)) (W1:=[_]) H'
  have H:Hp w S [] [] [] [_,_] _:=H
  refine uP 2 ?_
  refine uK (heads_spec (S:=fun _=>True) (H.viewF 1 rfl)) ?_
  rintro _ _ f rfl
  have H:=H.ext f
  refine qF 2 [(2,.bool true)] ?_
  refine qT (.bool true) Tryz.func7 ?_
  exact⟨_,rfl,H.done,rfl⟩
end Go.Proofs.YtdnibpclkhenmaaGreatDoor
