import Derived.Test.YtdnibpclkhenmaaGreatDoorSBxA
import Derived.Test.YtdnibpclkhenmaaGreatDoorSJB
import Derived.Test.YtdnibpclkhenmaaGreatDoorSJ8
import Derived.Test.YtdnibpclkhenmaaGreatDoorSJ4
namespace Go.Proofs.YtdnibpclkhenmaaGreatDoor
open Go.BX
set_option maxHeartbeats 4000000 in
theorem jfound_spec{S:Nat→Prop}{w:World}{O:List Nat}{jb db:Nat}{nm:ByteArray}{D0:DiskD}{sa0:Option Addr}{sk0:Nat}{V:VV}{G n:Nat}{P:Bs→List Bs→List Bs→Prop}(hp:PlainB nm)(hd:DI D0)(ha:Al D0 (n+256))(hpv:PV D0 nm V)(hjs:JS D0 nm G P)(hnl:D0.now.length≤256)(H0:Hp w S O ((jb,.cells #[.P db 0,.string nm,.slice none 0 0,.slice none 0 0,.I 0,.string (⟨#[]⟩:ByteArray),.slice none 0 0,.bool true] 41 (0,0))::diskM db D0 sa0 sk0) [⟨stepS,143,.slice sa0 D0.steps.length sk0,D0.steps⟩] [Fz jQ] w):
 Calls Tryz.prog 52 #[.P jb 0] w (Ret fun v w'=>(v=.nilIface∧∃(D':DiskD)(sa':Option Addr)(sk':Nat)(ab:Option Addr)(cb:Nat)(ar:Option Addr)(cr:Nat),LJ D' nm (fixV D0 V) none (gV V)∧DI D'∧Al D' n∧Stp nm D0 D'∧Cp 1 D0 D'∧Hp w S O ((jb,.cells #[.P db 0,.string nm,.slice ab V.B.length cb,.slice ar (recsV D0 V).length cr,.I ((gV V:Nat):Int),.string (⟨#[]⟩:ByteArray),.slice none 0 0,.bool true] 41 (0,0))::diskM db D' sa' sk') [⟨SB,23,.slice ar (recsV D0 V).length cr,recsV D0 V⟩,diskW D' sa' sk'] [Rp SB [.slice ab V.B.length cb] V.B] w')∨(∃(eb:Nat)(x2 x3 x4 x5 x6 x7:Value)(D':DiskD)(sa':Option Addr)(sk':Nat),v=.iface 200 (.P eb 0)∧Dd D0 D' nm (max G (gV V)) (fun B lo hi=>P B lo hi∨(B=V.B∧recsV D0 V<+:lo∧hi<+:recsV D0 V))∧Hp w S O ((eb,.cells #[.I 70] 204 (0,0))::(jb,.cells #[.P db 0,.string nm,x2,x3,x4,x5,x6,x7] 41 (0,0))::diskM db D' sa' sk') [diskW D' sa' sk'] [] w')):=by
 obtain⟨hbl,hbs⟩:=hpv.bds hd hp
 have f0:=ha.rdy hd
 refine uS1 Tryz.func52 ?_
 have H:=H0
 refine uR 6 [.c [2,0,0],.c [2,0,1],.c [3]] ?_
 refine qG (sq 0 7) ?_
 refine uP 3 ?_
 refine uV 24 0 (H.cells 0 rfl) ?_
 have H:=H.gat 0 1
 refine uKS (dNames f0.di f0.dead (hnl) ((H.lend (M1:=(diskM _ _ _ _)) (W1:=[_])).pick [] rfl)) ?_
 rintro _ _⟨a2,c3,q,s0,rfl,H'⟩
 have H:=H.back (M1:=(diskM _ _ _ _)) (W1:=[_]) H'
 have H:=H.ung 0
 have H:Hp w S O (_::(diskM db D0 sa0 sk0)) [⟨Shape.str,9,.slice a2 q.length c3,q⟩,_] [_] _:=H
 have H:Hp w S O (_::_) [_] [Rp (Shape.slice Shape.str) [.slice a2 q.length c3] q,_] _:=H.freezeW 0 rfl
 have hnL:q.length≤256:=by rw[s0.length_eq,List.length_map];exact hnl
 refine uF 2 ?_
 refine uR 1 [.c [2,0,1,0],.b 0,.c [3]] ?_
 refine uL (α:=Nat×Nat) (g:=52) (p:=[2,0,1,0,0]) (fun(i,la)=>[(0,.P jb 0),(3,.I la),(30,.slice a2 q.length c3),(31,.I ((q.length:Nat):Int)),(32,.I i)]) (fun(i,la)w'=>Hp w S O ((jb,.cells #[.P db 0,.string nm,.slice none 0 0,.slice none 0 0,.I 0,.string (⟨#[]⟩:ByteArray),.slice none 0 0,.bool true] 41 (0,0))::(diskM db D0 sa0 sk0)) [⟨stepS,143,.slice sa0 D0.steps.length sk0,D0.steps⟩] [Rp (Shape.slice Shape.str) [.slice a2 q.length c3] q,Fz jQ] w'∧i≤q.length∧la=lastF nm (q.take i)) (fun(i,la)=>q.length-i) (0,0) ⟨H,Nat.zero_le _,rfl⟩ ?_
 rintro⟨i,la⟩w7⟨H,⟨hi,hla⟩⟩g0
 refine uR 3 [.c [2,0,1,0,0,1,0],.c [2,0,1,0,0,2],.l [2,0,1,0,0],.b 0,.c [3]] ?_
 refine qD (((i:Int):Int)<((q.length:Nat):Int)) (fun h8=>?_) (fun h8=>?_)
 ·
  have hff:=names_ff hd s0 (show i<q.length by omega)
  have hls:=lastF_snoc nm (q.take i) (q[i])
  rw[←snoc_take (show i<q.length by omega),←hla]at hls
  refine uR 4 [.c [2,0,1,0,0,2,0,0,0],.c [2,0,1,0,0,2,0,0,1],.b 1,.c [2,0,1,0,0,3],.l [2,0,1,0,0],.b 0,.c [3]] ?_
  refine qG (sq 0 3) ?_
  have d1:i<q.length:=by omega
  refine uX 189 (i:Int) H 0 rfl i (by omega) (List.getElem?_eq_getElem d1) ?_
  intro _ _ _ J0 H
  obtain⟨rfl,_⟩:=J0
  refine uV 9 0 (H.fc 0 rfl) ?_
  refine uF 1 ?_
  refine uR 1 [.c [2,0,1,0,0,2,0,0,1,0],.c [2,0,1,0,0,2,0,0,2],.b 1,.c [2,0,1,0,0,3],.l [2,0,1,0,0],.b 0,.c [3]] ?_
  refine qG (sq 0 8) ?_
  refine uP 2 ?_
  refine uK (numbered_spec (S:=fun _=>True) (kd:=kC) (H.viewM 0 rfl (by simp)) hff hp (.inr rfl)) ?_
  rintro _ _ K0 rfl
  have H:=H.ext K0
  refine uF 5 ?_
  refine uR 2 [.c [2,0,1,0,0,2,0,0,3],.b 1,.c [2,0,1,0,0,3],.l [2,0,1,0,0],.b 0,.c [3]] ?_
  refine qD (0<numB nm kC (q[i])) (fun e1=>?_) (fun e1=>?_)
  ·
   refine qG (sq 0 4) ?_
   refine uP 2 ?_
   refine RW.pv (κ:=.seq) (d:=some 45) (r:=(sq 3 4)) (v':=.I ((max la (numB nm kC q[i]):Nat):Int)) (v:=.I (if((numB nm kC (q[i]):Nat):Int)>(la:Int)then((numB nm kC (q[i]):Nat):Int)else(la:Int))) (by as_aux_lemma=>kernel_rfl) (by split<;>(first|rfl|exact congrArg (Value.int .i64) (by omega))) ?_
   refine uF 1 ?_
   refine uR 1 [.c [2,0,1,0,0,3],.l [2,0,1,0,0],.b 0,.c [3]] ?_
   refine qG (sq 0 2) ?_
   refine uI ((i:Int)+1) ?_
   refine qF 1 [(0,.P jb 0),(3,.I ((max la (numB nm kC q[i]):Nat):Int)),(30,.slice a2 q.length c3),(31,.I ((q.length:Nat):Int)),(32,.I ((i:Int)+1))] ?_
   have H:=H.pick [1,2] rfl
   exact uB (g0 (i+1,max la (numB nm kC q[i])) _ ⟨H,by omega,by rw[hls]<;>omega⟩ (by first|omega|(simp only[];omega)))
  ·
   refine uR 2 [.c [2,0,1,0,0,3],.l [2,0,1,0,0],.b 0,.c [3]] ?_
   refine qG (sq 0 2) ?_
   refine uI ((i:Int)+1) ?_
   refine uF 1 ?_
   have H:=H.pick [1,2] rfl
   exact uB (g0 (i+1,la) _ ⟨H,by omega,by rw[hls]<;>omega⟩ (by first|omega|(simp only[];omega)))
 ·
  have hlz:la=V.last:=by rw[hla,List.take_of_length_le (by omega)];exact lastF_eq hd hp hpv.nowN (mem_names hd s0)
  subst hlz
  refine uR 4 [.c [3,0,1],.c [4]] ?_
  refine WK.joinV (α:=Option Addr×Nat) (fun(ab,cb)w_=>Hp w S O ((jb,.cells #[.P db 0,.string nm,.slice ab V.B.length cb,.slice none 0 0,.I 0,.string (⟨#[]⟩:ByteArray),.slice none 0 0,.bool true] 41 (0,0))::(diskM db D0 sa0 sk0)) [⟨stepS,143,.slice sa0 D0.steps.length sk0,D0.steps⟩] [Rp SB [.slice ab V.B.length cb] V.B,Fz jQ] w_∧True) (fun(ab,cb)=>[(0,.P jb 0),(3,.I ((V.last:Nat):Int))]) [Cq Tryz.prog 52 [4]] (fun k0=>?_) ?_
  ·
   refine qD ((((V.last:Nat):Int):Int)>0) (fun f1=>?_) (fun f1=>?_)
   ·
    refine uR 1 [.c [3,0,1,0,0],.c [3,0,1,0,1],.c [4]] ?_
    refine qG (sq 0 10) ?_
    refine uP 3 ?_
    have L0:=H.viewF 1 rfl
    refine uK (jfile_spec (S:=fun _=>True) (kd:=kC) (n:=V.last) (H.viewM 0 rfl (by simp)) L0 (by omega) hp (.inr rfl)) ?_
    rintro _ _ M0 rfl
    have H:=H.ext M0
    obtain⟨fC,szC,hfC,hfn,hfz,N0,hfB,hfl⟩:=hpv.rdC hd (by omega)
    have H:=H.gat 1 0
    refine uKS (jread_spec (f:=fC) (sz:=szC) f0 hfC hfn hfz N0 ((H.lend (M1:=(_::(diskM _ _ _ _))) (W1:=[_])).pick [] rfl)) ?_
    rintro _ _⟨n0,o0,rfl,H'⟩
    have H:=H.back (M1:=(_::(diskM _ _ _ _))) (W1:=[_]) H'
    have H:=H.ung 1
    have H:Hp w S O (_::_) [⟨Sb,5,.slice n0 ((readG (gX fC.now) szC 0).length) o0,(readG (gX fC.now) szC 0)⟩,_] [_,_] _:=H
    have H:Hp w S O (_::_) [_] [Rp SB [.slice n0 ((readG (gX fC.now) szC 0).length) o0] (readG (gX fC.now) szC 0),_,_] _:=H.freezeW 0 rfl
    refine qF 5 [(0,.P jb 0),(3,.I ((V.last:Nat):Int)),(8,.slice n0 ((readG (gX fC.now) szC 0).length) o0),(9,.nilIface)] ?_
    refine uR 6 [.c [3,0,1,0,2,0],.c [3,0,1,0,3],.c [4]] ?_
    refine qG (sq 0 9) ?_
    refine uP 1 ?_
    refine uK (wNext_spec (xs:=(readG (gX fC.now) szC 0)) (H.rp 0 rfl) 0 (by omega) (by omega) (H.fact 2 rfl)) ?_
    rintro _ g1 t0(⟨h1,O0,rfl,Z⟩|⟨h0,i0,u0,Z,rfl,P0⟩)
    ·
     have H:=H.ext t0
     refine uF 7 ?_
     refine uR 2 [.c [3,0,1,0,4],.c [4]] ?_
     refine qE h1 0 (fun E0=>?_) (fun E0=>?_)
     ·
      exact absurd E0 O0
     ·
      refine uR 1 [.c [4]] ?_
      have j0:V.B=[]:=by rw[←hfB];have W:=Z;rw[List.drop_zero]at W;rw[W];rfl
      have H:=H.add (F:=Rp SB [.slice none 0 0] ([]:List (BitVec 8))) Shape.slice_nil
      have H:Hp w S O ((jb,.cells #[.P db 0,.string nm,.slice none V.B.length 0,.slice none 0 0,.I 0,.string (⟨#[]⟩:ByteArray),.slice none 0 0,.bool true] 41 (0,0))::(diskM db D0 sa0 sk0)) [⟨stepS,143,.slice sa0 D0.steps.length sk0,D0.steps⟩] [Rp SB [.slice none V.B.length 0] V.B,Rp SB [.slice n0 ((readG (gX fC.now) szC 0).length) o0] (readG (gX fC.now) szC 0),Rp (Shape.slice Shape.str) [.slice a2 q.length c3] q,Fz jQ] g1:=by rw[j0];exact H
      have H:=H.pick [0,3] rfl
      exact uB (k0 (none,0) _ ⟨H,trivial⟩)
    ·
     have H:=H.addM t0 P0
     have hbl:=nextF_len Z
     rw[List.length_drop]at hbl
     refine uF 7 ?_
     refine uR 3 [.c [3,0,1,0,4,0],.c [4]] ?_
     refine qG (sq 0 5) ?_
     refine uP 4 ?_
     refine qW 23 jb 2 (sq 5 5) (.slice h0 u0.length i0) ((jb,.cells #[.P db 0,.string nm,.slice h0 u0.length i0,.slice none 0 0,.I 0,.string (⟨#[]⟩:ByteArray),.slice none 0 0,.bool true] 41 (0,0))::(diskM db D0 sa0 sk0)) H 0 rfl rfl ?_
     intro _ H
     refine uF 0 ?_
     have j0:u0=V.B:=by rw[←hfB];have W:=Z;rw[List.drop_zero]at W;rw[W];rfl
     subst j0
     have H:Hp w S O ((jb,.cells #[.P db 0,.string nm,.slice h0 V.B.length i0,.slice none 0 0,.I 0,.string (⟨#[]⟩:ByteArray),.slice none 0 0,.bool true] 41 (0,0))::_) [_] [Rp SB [.slice h0 V.B.length i0] V.B,_,_,_] _:=H
     have H:=H.pick [0,3] rfl
     exact uB (k0 (h0,i0) _ ⟨H,trivial⟩)
   ·
    refine uR 1 [.c [4]] ?_
    have j0:V.B=[]:=hpv.wf.b0 (by omega)
    have H:=H.add (F:=Rp SB [.slice none 0 0] ([]:List (BitVec 8))) Shape.slice_nil
    have H:Hp w S O ((jb,.cells #[.P db 0,.string nm,.slice none V.B.length 0,.slice none 0 0,.I 0,.string (⟨#[]⟩:ByteArray),.slice none 0 0,.bool true] 41 (0,0))::(diskM db D0 sa0 sk0)) [⟨stepS,143,.slice sa0 D0.steps.length sk0,D0.steps⟩] [Rp SB [.slice none V.B.length 0] V.B,Rp (Shape.slice Shape.str) [.slice a2 q.length c3] q,Fz jQ] w7:=by rw[j0];exact H
    have H:=H.pick [0,2] rfl
    exact uB (k0 (none,0) _ ⟨H,trivial⟩)
  ·
   rintro⟨ab,cb⟩_⟨H,-⟩
   refine uR 4 [.c [5,0,0],.c [5,0,1],.c [6]] ?_
   refine qG (sq 0 7) ?_
   refine uP 3 ?_
   refine uV 24 0 (H.cells 0 rfl) ?_
   have H:=H.gat 0 1
   refine uKS (dNames f0.di f0.dead (hnl) ((H.lend (M1:=(diskM _ _ _ _)) (W1:=[_])).pick [] rfl)) ?_
   rintro _ _⟨z,A,j,a0,rfl,H'⟩
   have H:=H.back (M1:=(diskM _ _ _ _)) (W1:=[_]) H'
   have H:=H.ung 0
   have H:Hp w S O (_::_) [⟨Shape.str,9,.slice z j.length A,j⟩,_] [_,_] _:=H
   have H:Hp w S O (_::_) [_] [Rp (Shape.slice Shape.str) [.slice z j.length A] j,_,_] _:=H.freezeW 0 rfl
   have hnL:j.length≤256:=by rw[a0.length_eq,List.length_map];exact hnl
   refine qF 2 [(0,.P jb 0),(3,.I ((V.last:Nat):Int)),(13,.slice none 0 0),(76,.slice z j.length A),(77,.I ((j.length:Nat):Int)),(78,.I 0)] ?_
   refine uR 1 [.c [5,0,1,0],.b 2,.c [6]] ?_
   have H:=H.ownNil (Shape.int .i64) 3
   have H:=H.drop (M':=((jb,.cells #[.P db 0,.string nm,.slice ab V.B.length cb,.slice none 0 0,.I 0,.string (⟨#[]⟩:ByteArray),.slice none 0 0,.bool true] 41 (0,0))::(diskM db D0 sa0 sk0))) (W':=[⟨Shape.int .i64,3,.slice none ((([]:List Nat).map fun n:Nat=>(n:Int)).length) 0,(([]:List Nat).map fun n:Nat=>(n:Int))⟩,⟨stepS,143,.slice sa0 D0.steps.length sk0,D0.steps⟩]) (by repeat(first|exact List.Sublist.refl _|exact List.nil_sublist _|apply List.Sublist.cons_cons|apply List.Sublist.cons)) (by repeat(first|exact List.Sublist.refl _|exact List.nil_sublist _|apply List.Sublist.cons_cons|apply List.Sublist.cons))
   refine uL (α:=Nat×List Nat×Option Addr×Nat) (g:=52) (p:=[5,0,1,0,0]) (fun(i,sn,aS,cS)=>[(0,.P jb 0),(3,.I ((V.last:Nat):Int)),(13,.slice aS ((sn.map fun n:Nat=>(n:Int)).length) cS),(76,.slice z j.length A),(77,.I ((j.length:Nat):Int)),(78,.I i)]) (fun(i,sn,aS,cS)w'=>Hp w S O ((jb,.cells #[.P db 0,.string nm,.slice ab V.B.length cb,.slice none 0 0,.I 0,.string (⟨#[]⟩:ByteArray),.slice none 0 0,.bool true] 41 (0,0))::(diskM db D0 sa0 sk0)) [⟨Shape.int .i64,3,.slice aS ((sn.map fun n:Nat=>(n:Int)).length) cS,(sn.map fun n:Nat=>(n:Int))⟩,⟨stepS,143,.slice sa0 D0.steps.length sk0,D0.steps⟩] [Rp (Shape.slice Shape.str) [.slice z j.length A] j,Rp SB [.slice ab V.B.length cb] V.B,Fz jQ] w'∧i≤j.length∧sn=segF nm V.last (j.take i)) (fun(i,sn,aS,cS)=>j.length-i) (0,([]:List Nat),none,0) ⟨H,Nat.zero_le _,rfl⟩ ?_
   rintro⟨i,sn,aS,cS⟩_⟨H,⟨hi,hsn⟩⟩N
   refine uR 3 [.c [5,0,1,0,0,1,0],.c [5,0,1,0,0,2],.l [5,0,1,0,0],.b 2,.c [6]] ?_
   refine qD (((i:Int):Int)<((j.length:Nat):Int)) (fun i1=>?_) (fun i1=>?_)
   ·
    have hff:=names_ff hd a0 (show i<j.length by omega)
    have hls:=segF_snoc nm V.last (j.take i) (j[i])
    rw[←snoc_take (show i<j.length by omega),←hsn]at hls
    have hnb:=numB_le (kd:=kS) hp (.inl rfl) hff
    have hsnl:sn.length≤256:=by rw[hsn];exact Nat.le_trans (segF_len ..) (by rw[List.length_take];omega)
    refine uR 4 [.c [5,0,1,0,0,2,0,0,0],.c [5,0,1,0,0,2,0,0,1],.b 3,.c [5,0,1,0,0,3],.l [5,0,1,0,0],.b 2,.c [6]] ?_
    refine qG (sq 0 3) ?_
    have Q0:i<j.length:=by omega
    refine uX 189 (i:Int) H 0 rfl i (by omega) (List.getElem?_eq_getElem Q0) ?_
    intro j1 k1 _ R0 H
    obtain⟨rfl,_⟩:=R0
    refine uV 9 0 (H.fc 0 rfl) ?_
    refine uF 1 ?_
    refine uR 1 [.c [5,0,1,0,0,2,0,0,1,0],.c [5,0,1,0,0,2,0,0,2],.b 3,.c [5,0,1,0,0,3],.l [5,0,1,0,0],.b 2,.c [6]] ?_
    refine qG (sq 0 8) ?_
    refine uP 2 ?_
    refine uK (numbered_spec (S:=fun _=>True) (kd:=kS) (H.viewM 0 rfl (by simp)) hff hp (.inl rfl)) ?_
    rintro _ _ S0 rfl
    have H:=H.ext S0
    refine uF 5 ?_
    refine uR 1 [.c [5,0,1,0,0,2,0,0,2,0],.c [5,0,1,0,0,2,0,0,3],.b 3,.c [5,0,1,0,0,3],.l [5,0,1,0,0],.b 2,.c [6]] ?_
    refine qG (sq 0 6) ?_
    refine uP 2 ?_
    refine uD 89 (0<numB nm kS (j[i])) (fun l1=>?_) (fun l1=>?_)
    ·
     refine uF 4 ?_
     refine qD ((((numB nm kS (j[i]):Nat):Int):Int)>((V.last:Nat):Int)) (fun m1=>?_) (fun m1=>?_)
     ·
      refine qG (sq 0 5) ?_
      refine uP 2 ?_
      refine RW.new (κ:=.seq) (d:=some 96) (r:=(sq 3 5)) (o:=.cells #[.I ((numB nm kS (j[i]):Nat):Int)] 3 (0,0)) (v:=fun b=>.slice (some ⟨b,0,none⟩) 1 1) (fun b=>by as_aux_lemma=>kernel_rfl) (nofun) H ?_
      intro n1 _ H
      have H:=H.freeze 0 rfl (Shape.int .i64) ([((numB nm kS (j[i]):Nat):Int)]:List Int) 1 (by simp[maxLen]) (by first|exact Nat.le_refl _|simp) (EsP.cons (c:=[.I ((numB nm kS (j[i]):Nat):Int)]) i64a EsP.nil)
      have H:Hp w S O (_::_) [_,_] [Rp (Shape.slice (Shape.int .i64)) [.slice (some ⟨n1,0,none⟩) 1 1] ([((numB nm kS (j[i]):Nat):Int)]:List Int),Fc j1 k1 [.string (j[i])],_,_,_] _:=H
      refine uA 59 59 8 ((sn++[numB nm kS j[i]]).map fun n:Nat=>(n:Int)) H 0 rfl 0 rfl (by rw[List.map_append];rfl) (by rw[List.length_map,List.length_append];simp only[List.length_cons,List.length_nil];omega) ?_
      intro v0 w0 _ H _
      have H:Hp w S O (_::_) [⟨Shape.int .i64,3,.slice v0 (((sn++[numB nm kS j[i]]).map fun n:Nat=>(n:Int)).length) w0,((sn++[numB nm kS j[i]]).map fun n:Nat=>(n:Int))⟩,_] [_,_,_,_,_] _:=H
      refine qF 1 [(0,.P jb 0),(3,.I ((V.last:Nat):Int)),(13,.slice v0 (((sn++[numB nm kS j[i]]).map fun n:Nat=>(n:Int)).length) w0),(76,.slice z j.length A),(77,.I ((j.length:Nat):Int)),(78,.I i)] ?_
      refine uR 1 [.c [5,0,1,0,0,3],.l [5,0,1,0,0],.b 2,.c [6]] ?_
      refine qG (sq 0 2) ?_
      refine uI ((i:Int)+1) ?_
      refine uF 1 ?_
      have t:=hls.symm
      first|rw[if_pos (by omega)]at t|rw[if_neg (by omega),List.append_nil]at t
      have H:=H.pick [2,3,4] rfl
      exact uB (N (i+1,(sn++[numB nm kS j[i]]),v0,w0) _ ⟨H,by omega,t⟩ (by first|omega|(simp only[];omega)))
     ·
      refine uR 2 [.c [5,0,1,0,0,3],.l [5,0,1,0,0],.b 2,.c [6]] ?_
      refine qG (sq 0 2) ?_
      refine uI ((i:Int)+1) ?_
      refine uF 1 ?_
      have t:=hls.symm
      first|rw[if_pos (by omega)]at t|rw[if_neg (by omega),List.append_nil]at t
      have H:=H.pick [1,2,3] rfl
      exact uB (N (i+1,sn,aS,cS) _ ⟨H,by omega,t⟩ (by first|omega|(simp only[];omega)))
    ·
     refine uF 4 ?_
     refine qR 3 [.c [5,0,1,0,0,3],.l [5,0,1,0,0],.b 2,.c [6]] [(0,.P jb 0),(3,.I ((V.last:Nat):Int)),(13,.slice aS ((sn.map fun n:Nat=>(n:Int)).length) cS),(76,.slice z j.length A),(77,.I ((j.length:Nat):Int)),(78,.I i)] ?_
     refine qG (sq 0 2) ?_
     refine uI ((i:Int)+1) ?_
     refine uF 1 ?_
     have t:=hls.symm
     first|rw[if_pos (by omega)]at t|rw[if_neg (by omega),List.append_nil]at t
     have H:=H.pick [1,2,3] rfl
     exact uB (N (i+1,sn,aS,cS) _ ⟨H,by omega,t⟩ (by first|omega|(simp only[];omega)))
   ·
    have hsp:sn.Perm (V.segs.map (·.n)):=by rw[hsn,List.take_of_length_le (by omega)];exact segF_perm hd hp hpv.wf hpv.nowN (names_nd hd a0) (mem_names hd a0)
    have s1:sn.length≤256:=by rw[hsn];exact Nat.le_trans (segF_len ..) (by rw[List.length_take];omega)
    have hsl:sn.length=V.segs.length:=by rw[hsp.length_eq,List.length_map]
    have t1:(sn.map fun n:Nat=>(n:Int)).length=V.segs.length:=by rw[List.length_map,hsl]
    refine uR 2 [.c [6,0],.c [7]] ?_
    refine qG (sq 0 5) ?_
    refine uP 4 ?_
    refine qW 3 jb 4 (sq 5 5) (.I ((V.last:Nat):Int)) ((jb,.cells #[.P db 0,.string nm,.slice ab V.B.length cb,.slice none 0 0,.I ((V.last:Nat):Int),.string (⟨#[]⟩:ByteArray),.slice none 0 0,.bool true] 41 (0,0))::(diskM db D0 sa0 sk0)) H 0 rfl rfl ?_
    intro _ H
    refine qF 0 [(0,.P jb 0),(3,.I ((V.last:Nat):Int)),(13,.slice aS ((sn.map fun n:Nat=>(n:Int)).length) cS)] ?_
    refine uR 4 [.c [7,0,1,0],.b 4,.c [8]] ?_
    have H:=H.ownNil SB 23
    have H:=H.drop (M':=((jb,.cells #[.P db 0,.string nm,.slice ab V.B.length cb,.slice none ([]:List (List (BitVec 8))).length 0,.I (V.last:Int),.string (⟨#[]⟩:ByteArray),.slice none 0 0,.bool true] 41 (0,0))::(diskM db D0 sa0 sk0))) (W':=[⟨SB,23,.slice none ([]:List (List (BitVec 8))).length 0,([]:List (List (BitVec 8)))⟩,⟨Shape.int .i64,3,.slice aS ((sn.map fun n:Nat=>(n:Int)).length) cS,(sn.map fun n:Nat=>(n:Int))⟩,⟨stepS,143,.slice sa0 D0.steps.length sk0,D0.steps⟩]) (by repeat(first|exact List.Sublist.refl _|exact List.nil_sublist _|apply List.Sublist.cons_cons|apply List.Sublist.cons)) (by repeat(first|exact List.Sublist.refl _|exact List.nil_sublist _|apply List.Sublist.cons_cons|apply List.Sublist.cons))
    refine uL (α:=Nat×DiskD×Option Addr×Nat×Nat×List (List (BitVec 8))×Option Addr×Nat) (g:=52) (p:=[7,0,1,0,0]) (fun(m,D,sa,sk,gr,rs,aR,cR)=>[(0,.P jb 0),(3,.I ((V.last:Nat):Int)),(13,.slice aS ((sn.map fun n:Nat=>(n:Int)).length) cS),(104,.I (((sn.map fun n:Nat=>(n:Int)).length:Nat):Int)),(105,.I m)]) (fun(m,D,sa,sk,gr,rs,aR,cR)w'=>Hp w S O ((jb,.cells #[.P db 0,.string nm,.slice ab V.B.length cb,.slice aR rs.length cR,.I gr,.string (⟨#[]⟩:ByteArray),.slice none 0 0,.bool true] 41 (0,0))::(diskM db D sa sk)) [⟨SB,23,.slice aR rs.length cR,rs⟩,⟨Shape.int .i64,3,.slice aS ((sn.map fun n:Nat=>(n:Int)).length) cS,(sn.map fun n:Nat=>(n:Int))⟩,⟨stepS,143,.slice sa D.steps.length sk,D.steps⟩] [Rp (Shape.slice Shape.str) [.slice z j.length A] j,Rp SB [.slice ab V.B.length cb] V.B,Fz jQ] w'∧m≤V.segs.length∧FdS D0 nm V G P (n+256) m D∧gr=gAt V m∧rs=((V.segs.take m).flatMap fun s=>allW (strm D0 s.p))∧rs.length≤100000000*m) (fun(m,D,sa,sk,gr,rs,aR,cR)=>V.segs.length-m) (0,D0,sa0,sk0,V.last,([]:List (List (BitVec 8))),none,0) ⟨H,Nat.zero_le _,FdS.start hd ha hpv hjs,rfl,rfl,Nat.le_refl _⟩ ?_
    rintro⟨m,D,sa,sk,gr,rs,aR,cR⟩_⟨H,⟨hm,hP,hgr,hrs,hrl⟩⟩q0
    refine uR 3 [.c [7,0,1,0,0,1,0],.c [7,0,1,0,0,2],.l [7,0,1,0,0],.b 4,.c [8]] ?_
    refine qD (((m:Int):Int)<(((sn.map fun n:Nat=>(n:Int)).length:Nat):Int)) (fun o1=>?_) (fun o1=>?_)
    ·
     obtain⟨Q,X⟩:∃s,V.segs[m]?=some s:=⟨_,List.getElem?_eq_getElem (by omega)⟩
     have x1:=hbs Q (List.mem_of_getElem? X)
     refine uR 9 [.c [7,0,1,0,0,2,0,0,1,0,1,0],.b 6,.c [7,0,1,0,0,2,0,0,2],.b 5,.c [7,0,1,0,0,3],.l [7,0,1,0,0],.b 4,.c [8]] ?_
     refine uL (α:=Nat×Nat) (g:=52) (p:=[7,0,1,0,0,2,0,0,1,0,1,0,0]) (fun(k,le)=>[(0,.P jb 0),(3,.I ((V.last:Nat):Int)),(13,.slice aS ((sn.map fun n:Nat=>(n:Int)).length) cS),(18,.I le),(104,.I (((sn.map fun n:Nat=>(n:Int)).length:Nat):Int)),(105,.I m),(107,.slice aS ((sn.map fun n:Nat=>(n:Int)).length) cS),(108,.I (((sn.map fun n:Nat=>(n:Int)).length:Nat):Int)),(109,.I k)]) (fun(k,le)w'=>Hp w S O ((jb,.cells #[.P db 0,.string nm,.slice ab V.B.length cb,.slice aR rs.length cR,.I gr,.string (⟨#[]⟩:ByteArray),.slice none 0 0,.bool true] 41 (0,0))::(diskM db D sa sk)) [⟨SB,23,.slice aR rs.length cR,rs⟩,⟨Shape.int .i64,3,.slice aS ((sn.map fun n:Nat=>(n:Int)).length) cS,(sn.map fun n:Nat=>(n:Int))⟩,⟨stepS,143,.slice sa D.steps.length sk,D.steps⟩] [Rp (Shape.slice Shape.str) [.slice z j.length A] j,Rp SB [.slice ab V.B.length cb] V.B,Fz jQ] w'∧k≤sn.length∧le=leastF gr (sn.take k)) (fun(k,le)=>sn.length-k) (0,0) ⟨H,Nat.zero_le _,rfl⟩ ?_
     rintro⟨k,le⟩_⟨H,⟨hk,hlf⟩⟩Y
     refine uR 3 [.c [7,0,1,0,0,2,0,0,1,0,1,0,0,1,0],.c [7,0,1,0,0,2,0,0,1,0,1,0,0,2],.l [7,0,1,0,0,2,0,0,1,0,1,0,0],.b 6,.c [7,0,1,0,0,2,0,0,2],.b 5,.c [7,0,1,0,0,3],.l [7,0,1,0,0],.b 4,.c [8]] ?_
     refine qD (((k:Int):Int)<(((sn.map fun n:Nat=>(n:Int)).length:Nat):Int)) (fun p1=>?_) (fun p1=>?_)
     ·
      refine uR 4 [.c [7,0,1,0,0,2,0,0,1,0,1,0,0,2,0,0,0],.c [7,0,1,0,0,2,0,0,1,0,1,0,0,2,0,0,1],.b 7,.c [7,0,1,0,0,2,0,0,1,0,1,0,0,3],.l [7,0,1,0,0,2,0,0,1,0,1,0,0],.b 6,.c [7,0,1,0,0,2,0,0,2],.b 5,.c [7,0,1,0,0,3],.l [7,0,1,0,0],.b 4,.c [8]] ?_
      refine qG (sq 0 3) ?_
      have H:=H.frontW 1 rfl
      have T0:(sn.map fun n:Nat=>(n:Int)).length=(sn.map fun n:Nat=>(n:Int)).length:=rfl
      have U0:k<(sn.map fun n:Nat=>(n:Int)).length:=by rw[List.length_map];omega
      refine RW.indexW (κ:=.seq) (d:=some 111) (r:=(sq 1 3)) (T:=59) (e:=3) (m:=1) (ik:=.i64) (ix:=(k:Int)) (sh:=(Shape.int .i64)) (xs:=(sn.map fun n:Nat=>(n:Int))) (a:=aS) (len:=(sn.map fun n:Nat=>(n:Int)).length) (cap:=cS) (by as_aux_lemma=>kernel_rfl) (by as_aux_lemma=>kernel_rfl) rfl H k (by omega) U0 T0 ?_
      intro _ _ _ r0 l0
      rw[List.getElem_map _]at l0
      have u1:=Shape.i64_bd l0
      obtain⟨rfl,-⟩:=l0
      refine uV 3 0 r0 ?_
      refine uF 1 ?_
      refine uR 1 [.c [7,0,1,0,0,2,0,0,1,0,1,0,0,2,0,0,1,0],.c [7,0,1,0,0,2,0,0,1,0,1,0,0,2,0,0,2],.b 7,.c [7,0,1,0,0,2,0,0,1,0,1,0,0,3],.l [7,0,1,0,0,2,0,0,1,0,1,0,0],.b 6,.c [7,0,1,0,0,2,0,0,2],.b 5,.c [7,0,1,0,0,3],.l [7,0,1,0,0],.b 4,.c [8]] ?_
      refine WK.join (fun b_:Bool=>b_=decide ((((sn[k]:Nat):Int)>(gr:Int))∧((le:Int)=0∨((sn[k]:Nat):Int)<(le:Int)))) (fun b_=>[(0,.P jb 0),(3,.I ((V.last:Nat):Int)),(13,.slice aS ((sn.map fun n:Nat=>(n:Int)).length) cS),(18,.I le),(20,.I ((sn[k]:Nat):Int)),(104,.I (((sn.map fun n:Nat=>(n:Int)).length:Nat):Int)),(105,.I m),(107,.slice aS ((sn.map fun n:Nat=>(n:Int)).length) cS),(108,.I (((sn.map fun n:Nat=>(n:Int)).length:Nat):Int)),(109,.I k),(127,.bool b_)]) [Cq Tryz.prog 52 [7,0,1,0,0,2,0,0,1,0,1,0,0,2,0,0,2],.inBlock 7,Cq Tryz.prog 52 [7,0,1,0,0,2,0,0,1,0,1,0,0,3],Lq Tryz.prog 52 [7,0,1,0,0,2,0,0,1,0,1,0,0],.inBlock 6,Cq Tryz.prog 52 [7,0,1,0,0,2,0,0,2],.inBlock 5,Cq Tryz.prog 52 [7,0,1,0,0,3],Lq Tryz.prog 52 [7,0,1,0,0],.inBlock 4,Cq Tryz.prog 52 [8]] (fun m0=>?_) (fun V0 p0=>?_)
      ·
       refine qG (sq 0 15) ?_
       refine uP 4 ?_
       refine uV 3 4 (H.cells 0 rfl) ?_
       refine uP 2 ?_
       refine uD 119 ((((sn[k]:Nat):Int):Int)>(gr:Int)) (fun q1=>?_) (fun q1=>?_)
       ·
        refine uP 3 ?_
        refine uE 122 (le:Int) 0 (fun r1=>?_) (fun r1=>?_)
        ·
         refine uF 5 ?_
         exact uB (m0 true ((decide_eq_true (by omega)).symm))
        ·
         refine uF 5 ?_
         exact uB (m0 (decide ((((sn[k]:Nat):Int):Int)<(le:Int))) (decide_eq_decide.2 (by constructor<;>intro _<;>omega)))
       ·
        refine uF 8 ?_
        exact uB (m0 false ((decide_eq_false (by omega)).symm))
      ·
       refine qC V0 (fun U=>?_) (fun U=>?_)
       ·
        rw[p0]at U
        replace U:=of_decide_eq_true U
        refine uR 2 [.c [7,0,1,0,0,2,0,0,1,0,1,0,0,3],.l [7,0,1,0,0,2,0,0,1,0,1,0,0],.b 6,.c [7,0,1,0,0,2,0,0,2],.b 5,.c [7,0,1,0,0,3],.l [7,0,1,0,0],.b 4,.c [8]] ?_
        refine qG (sq 0 2) ?_
        refine uI ((k:Int)+1) ?_
        refine uF 1 ?_
        have t:=leastF_snoc gr (sn.take k) sn[k]
        rw[←snoc_take (by omega),←hlf]at t
        first|rw[if_pos (by omega)]at t|rw[if_neg (by omega)]at t
        have H:=H.frontW 2 rfl
        have H:=H.frontW 1 rfl
        have H:=H.frontW 2 rfl
        exact uB (Y (k+1,sn[k]) _ ⟨H,by omega,t.symm⟩ (by first|omega|(simp only[];omega)))
       ·
        rw[p0]at U
        replace U:=of_decide_eq_false U
        refine qR 2 [.c [7,0,1,0,0,2,0,0,1,0,1,0,0,3],.l [7,0,1,0,0,2,0,0,1,0,1,0,0],.b 6,.c [7,0,1,0,0,2,0,0,2],.b 5,.c [7,0,1,0,0,3],.l [7,0,1,0,0],.b 4,.c [8]] [(0,.P jb 0),(3,.I ((V.last:Nat):Int)),(13,.slice aS ((sn.map fun n:Nat=>(n:Int)).length) cS),(18,.I le),(104,.I (((sn.map fun n:Nat=>(n:Int)).length:Nat):Int)),(105,.I m),(107,.slice aS ((sn.map fun n:Nat=>(n:Int)).length) cS),(108,.I (((sn.map fun n:Nat=>(n:Int)).length:Nat):Int)),(109,.I k)] ?_
        refine qG (sq 0 2) ?_
        refine uI ((k:Int)+1) ?_
        refine uF 1 ?_
        have t:=leastF_snoc gr (sn.take k) sn[k]
        rw[←snoc_take (by omega),←hlf]at t
        first|rw[if_pos (by omega)]at t|rw[if_neg (by omega)]at t
        have H:=H.frontW 2 rfl
        have H:=H.frontW 1 rfl
        have H:=H.frontW 2 rfl
        exact uB (Y (k+1,le) _ ⟨H,by omega,t.symm⟩ (by first|omega|(simp only[];omega)))
     ·
      have hle:le=Q.n:=by rw[hlf,List.take_of_length_le (by omega),hgr];exact leastF_seg hpv.wf hsp X
      subst hle
      refine uR 2 [.c [7,0,1,0,0,2,0,0,2,0],.c [7,0,1,0,0,2,0,0,3],.b 5,.c [7,0,1,0,0,3],.l [7,0,1,0,0],.b 4,.c [8]] ?_
      refine qG (sq 0 10) ?_
      refine uP 3 ?_
      have W0:=H.viewF 2 rfl
      refine uK (jfile_spec (S:=fun _=>True) (kd:=kS) (n:=Q.n) (H.viewM 0 rfl (by simp)) W0 (by omega) hp (.inl rfl)) ?_
      rintro _ _ X0 rfl
      have H:=H.ext X0
      obtain⟨fS,szS,hfS,hgn,hgz,Y0,hgB,hgl⟩:=hP.pv.rdS hP.di (List.mem_of_getElem? X)
      have v1:=allW_len (readG (gX fS.now) szS 0)
      have H:=H.frontW 2 rfl
      have H:=H.gat 1 0
      refine uKS (jread_spec (f:=fS) (sz:=szS) (hP.al.rdy hP.di) hfS hgn hgz Y0 ((H.lend (M1:=(_::(diskM _ _ _ _))) (W1:=[_])).pick [] rfl)) ?_
      rintro _ _⟨F0,G0,rfl,H'⟩
      have H:=H.back (M1:=(_::(diskM _ _ _ _))) (W1:=[_]) H'
      have H:=H.ung 1
      have H:Hp w S O (_::_) [⟨Sb,5,.slice F0 ((readG (gX fS.now) szS 0).length) G0,(readG (gX fS.now) szS 0)⟩,_,_,_] [_,_,_] _:=H
      have H:Hp w S O (_::_) [_,_,_] [Rp SB [.slice F0 ((readG (gX fS.now) szS 0).length) G0] (readG (gX fS.now) szS 0),_,_,_] _:=H.freezeW 0 rfl
      refine uF 5 ?_
      refine uR 6 [.c [7,0,1,0,0,2,0,0,4,0],.c [7,0,1,0,0,2,0,0,5],.b 5,.c [7,0,1,0,0,3],.l [7,0,1,0,0],.b 4,.c [8]] ?_
      refine qG (sq 0 7) ?_
      refine uP 1 ?_
      refine uK (wAll_spec (xs:=(readG (gX fS.now) szS 0)) (H.rp 0 rfl) (by omega) (H.fact 3 rfl)) ?_
      rintro _ _-⟨x0,y0,_,rfl,H'⟩
      have H:=H.back (M1:=[]) (W1:=[]) H'
      have H:Hp w S O (_::_) [⟨SB,23,.slice x0 ((allW (readG (gX fS.now) szS 0)).length) y0,(allW (readG (gX fS.now) szS 0))⟩,_,_,_] [_,_,_,_] _:=H
      refine uF 5 ?_
      refine qR 1 [.c [7,0,1,0,0,2,0,0,5,0],.c [7,0,1,0,0,2,0,0,6],.b 5,.c [7,0,1,0,0,3],.l [7,0,1,0,0],.b 4,.c [8]] [(0,.P jb 0),(3,.I ((V.last:Nat):Int)),(13,.slice aS ((sn.map fun n:Nat=>(n:Int)).length) cS),(18,.I ((Q.n:Nat):Int)),(23,.slice x0 ((allW (readG (gX fS.now) szS 0)).length) y0),(104,.I (((sn.map fun n:Nat=>(n:Int)).length:Nat):Int)),(105,.I m)] ?_
      refine qG (sq 0 10) ?_
      refine uP 4 ?_
      refine uV 22 3 (H.cells 0 rfl) ?_
      refine uP 1 ?_
      have H:Hp w S O (_::_) [_,_,_] [Rp (Shape.slice SB) [.slice x0 ((allW (readG (gX fS.now) szS 0)).length) y0] (allW (readG (gX fS.now) szS 0)),_,_,_,_] _:=H.freezeW 0 rfl
      refine uA 22 22 24 (rs++(allW (readG (gX fS.now) szS 0))) H 1 rfl 0 rfl (rfl) (by rw[List.length_append];omega) ?_
      intro C E _ H _
      have H:Hp w S O (_::_) [_,⟨SB,23,.slice C ((rs++(allW (readG (gX fS.now) szS 0))).length) E,rs++(allW (readG (gX fS.now) szS 0))⟩,_] [_,_,_,_,_] _:=H
      refine uP 2 ?_
      refine qW 22 jb 3 (sq 10 10) (.slice C ((rs++(allW (readG (gX fS.now) szS 0))).length) E) ((jb,.cells #[.P db 0,.string nm,.slice ab V.B.length cb,.slice C ((rs++(allW (readG (gX fS.now) szS 0))).length) E,.I gr,.string (⟨#[]⟩:ByteArray),.slice none 0 0,.bool true] 41 (0,0))::(diskM db D sa sk)) H 0 rfl rfl ?_
      intro _ H
      refine uF 0 ?_
      refine uR 1 [.c [7,0,1,0,0,2,0,0,6,0],.c [7,0,1,0,0,2,0,0,7],.b 5,.c [7,0,1,0,0,3],.l [7,0,1,0,0],.b 4,.c [8]] ?_
      refine qG (sq 0 5) ?_
      refine uP 4 ?_
      refine qW 3 jb 4 (sq 5 5) (.I ((Q.n:Nat):Int)) ((jb,.cells #[.P db 0,.string nm,.slice ab V.B.length cb,.slice C ((rs++(allW (readG (gX fS.now) szS 0))).length) E,.I ((Q.n:Nat):Int),.string (⟨#[]⟩:ByteArray),.slice none 0 0,.bool true] 41 (0,0))::(diskM db D sa sk)) H 0 rfl rfl ?_
      intro I0 H
      refine uF 0 ?_
      refine uR 1 [.c [7,0,1,0,0,2,0,0,7,0],.c [7,0,1,0,0,2,0,0,8],.b 5,.c [7,0,1,0,0,3],.l [7,0,1,0,0],.b 4,.c [8]] ?_
      refine WK.draw1 7 [(0,.qui),(1,.qui),(2,.qui),(3,.qui),(4,.qui),(5,.qui),(6,.chn)] [(0,.qui),(1,.qui),(2,.qui),(3,.qui),(4,.qui),(5,.qui),(6,.chn),(7,.seq),(8,.seq)] Tryz_mixed (by as_aux_lemma=>kernel_rfl) (by as_aux_lemma=>kernel_rfl) (by as_aux_lemma=>kernel_rfl) ?_
      have H:=H.draw
      generalize({I0 with drawn:=I0.drawn+1}:World)=y1 at H⊢
      refine uP 3 ?_
      refine uV 24 0 (H.cells 0 rfl) ?_
      refine uP 2 ?_
      have z0:=H.viewF 4 rfl
      refine uK (jfile_spec (S:=fun _=>True) (kd:=kS) (n:=Q.n) (H.viewM 0 rfl (by simp)) z0 (by omega) hp (.inl rfl)) ?_
      rintro _ _ Z0 rfl
      have H:=H.ext Z0
      have H:=H.gat 0 1
      refine RW.callS (d:=some 166) (r:=[(8,.seq)]) (g:=60) (args:=#[.P db 0,.string (sN nm Q.n)]) (by as_aux_lemma=>kernel_rfl) (dSync (hP.al.rdy hP.di).di.ok (hP.al.rdy hP.di).st (hP.al.rdy hP.di).dead (hP.al.rdy hP.di).hl ((H.lend (M1:=(diskM _ _ _ _)) (W1:=[_])).pick [] rfl)) ?_
      rintro _ _⟨u,x,y,⟨a1,rfl,c0⟩,H'⟩
      have H:=H.back (M1:=(diskM _ _ _ _)) (W1:=[_]) H'
      have H:=H.ung 0
      have H:Hp w S O (_::(diskM db u x y)) [⟨stepS,143,.slice x u.steps.length y,u.steps⟩,_,_] [_,_,_,_,_] _:=H
      have c0:SyncR D (sN nm Q.n) a1 u:=c0
      rcases hP.sync X c0 with⟨rfl,A0⟩|⟨rfl,B0⟩
      ·
       refine uF 1 ?_
       refine uR 4 [.c [7,0,1,0,0,2,0,0,9,0,0],.c [7,0,1,0,0,2,0,0,9,0,1],.b 5,.c [7,0,1,0,0,3],.l [7,0,1,0,0],.b 4,.c [8]] ?_
       refine qG (sq 0 3) ?_
       refine uP 1 ?_
       refine uK (told_spec (S:=Av S w O (idsOf ((jb,.cells #[.P db 0,.string nm,.slice ab V.B.length cb,.slice C ((rs++(allW (readG (gX fS.now) szS 0))).length) E,.I ((Q.n:Nat):Int),.string (⟨#[]⟩:ByteArray),.slice none 0 0,.bool true] 41 (0,0))::(diskM db u x y)) [⟨stepS,143,.slice x u.steps.length y,u.steps⟩,⟨SB,23,.slice C ((rs++(allW (readG (gX fS.now) szS 0))).length) E,rs++(allW (readG (gX fS.now) szS 0))⟩,⟨Shape.int .i64,3,.slice aS ((sn.map fun n:Nat=>(n:Int)).length) cS,(sn.map fun n:Nat=>(n:Int))⟩]))) ?_
       rintro _ _-⟨d0,rfl,H'⟩
       have H:=H.back (M1:=[]) (W1:=[]) H'
       have H:Hp w S O ((d0,.cells #[.I 70] 204 (0,0))::_::_) [_,_,_] [_,_,_,_,_] _:=H
       refine uF 1 ?_
       refine qT (.iface 200 (.P d0 0)) Tryz.func52 ?_
       have H:=H.pick [] rfl
       have H:=H.dropW 2
       have H:=H.dropW 1
       exact⟨_,rfl,.inr ⟨d0,_,_,_,_,_,_,u,x,y,rfl,(A0).mono (Nat.le_max_left _ _) fun _ _ _ h=>.inl h,H⟩⟩
      ·
       refine uF 1 ?_
       refine uR 5 [.c [7,0,1,0,0,3],.l [7,0,1,0,0],.b 4,.c [8]] ?_
       refine qG (sq 0 2) ?_
       refine uI ((m:Int)+1) ?_
       refine uF 1 ?_
       have H:=H.pick [2,3,4] rfl
       have H:=H.frontW 2 rfl
       have H:=H.frontW 2 rfl
       have H:=H.drop (M':=((jb,.cells #[.P db 0,.string nm,.slice ab V.B.length cb,.slice C (rs++(allW (readG (gX fS.now) szS 0))).length E,.I (Q.n:Int),.string (⟨#[]⟩:ByteArray),.slice none 0 0,.bool true] 41 (0,0))::(diskM db u x y))) (W':=[⟨SB,23,.slice C (rs++(allW (readG (gX fS.now) szS 0))).length E,(rs++(allW (readG (gX fS.now) szS 0)))⟩,⟨Shape.int .i64,3,.slice aS ((sn.map fun n:Nat=>(n:Int)).length) cS,(sn.map fun n:Nat=>(n:Int))⟩,⟨stepS,143,.slice x u.steps.length y,u.steps⟩]) (by repeat(first|exact List.Sublist.refl _|apply List.Sublist.cons_cons|apply List.Sublist.cons)) (by repeat(first|exact List.Sublist.refl _|apply List.Sublist.cons_cons|apply List.Sublist.cons))
       exact uB (q0 (m+1,u,x,y,Q.n,rs++(allW (readG (gX fS.now) szS 0)),C,E) _ ⟨H,by omega,B0,by show Q.n=((V.segs[m]?).map (·.n)).getD 0;rw[X];rfl,by rw[hrs,recs_snoc X,hgB,hP.same],by rw[List.length_append];omega⟩ (by first|omega|(simp only[];omega)))
    ·
     refine uR 2 [.c [8,0],.c [9]] ?_
     refine qG (sq 0 4) ?_
     refine uP 2 ?_
     have hme:m=V.segs.length:=by omega
     subst hme
     have J:=hP
     have b1:rs=recsV D0 V:=by rw[hrs,List.take_length];rfl
     have c1:gr=gV V:=by rw[hgr,gAt_end]
     subst b1
     subst c1
     have H:Hp w S O ((jb,.cells #[.P db 0,.string nm,.slice ab V.B.length cb,.slice aR (recsV D0 V).length cR,.I ((gV V:Nat):Int),.string (⟨#[]⟩:ByteArray),.slice none 0 0,.bool true] 41 (0,0))::_) [⟨SB,23,.slice aR (recsV D0 V).length cR,recsV D0 V⟩,_,_] [_,_,_] _:=H
     have H:=H.frontW 2 rfl
     have H:=H.gat 1 0
     refine uKS (jdrop_spec (Dz:=D0) (V:=fixV D0 V) (g:=gV V) (n:=n) hp (J.al.rdy J.di) (by rw[J.nw];exact hnl) (fun ns W=>DrS.start J.di (J.al.mono (by rw[J.nw];omega)) J.done J.stp J.cp W) ((H.lend (M1:=(_::(diskM _ _ _ _))) (W1:=[_])).pick [] rfl)) ?_
     rintro _ _(⟨rfl,R,K,L,M,H'⟩|⟨e0,rfl,R,K,L,C0,H'⟩)
     ·
      have H:=H.back (M1:=(_::(diskM _ _ _ _))) (W1:=[_]) H'
      have H:=H.ung 1
      have H:Hp w S O (_::(diskM db R K L)) [⟨stepS,143,.slice K R.steps.length L,R.steps⟩,_,_] [_,_,_] _:=H
      refine uF 1 ?_
      refine qT .nilIface Tryz.func52 ?_
      have H:=H.pick [1] rfl
      have H:=H.frontW 1 rfl
      have H:=H.dropW 2
      exact⟨_,rfl,.inl ⟨rfl,R,K,L,_,_,_,_,(M).done hp,(M).di,(M).al,(M).stp,(M).cp,H⟩⟩
     ·
      have H:=H.back (M1:=(_::(diskM _ _ _ _))) (W1:=[_]) H'
      have H:=H.ung 2
      have H:Hp w S O ((e0,.cells #[.I 70] 204 (0,0))::_::_) [_,_,_] [_,_,_] _:=H
      refine uF 1 ?_
      refine qT (.iface 200 (.P e0 0)) Tryz.func52 ?_
      have H:=H.pick [] rfl
      have H:=H.dropW 2
      have H:=H.dropW 1
      exact⟨_,rfl,.inr ⟨e0,_,_,_,_,_,_,R,K,L,rfl,(C0).mono (Nat.le_max_right _ _) fun B lo hi h=>.inr (by have W:=h;rw[fixV_hi]at W;exact W),H⟩⟩
end Go.Proofs.YtdnibpclkhenmaaGreatDoor
