import Derived.Test.YtdnibpclkhenmaaGreatDoorSBxA
import Derived.Test.YtdnibpclkhenmaaGreatDoorSJL
namespace Go.Proofs.YtdnibpclkhenmaaGreatDoor
open Go.BX
theorem plainJ:PlainN (⟨#[106]⟩:ByteArray):=⟨⟨by decide,by decide⟩,by decide⟩
theorem notJ:¬PlainN (⟨#[74]⟩:ByteArray):=fun h=>absurd (h.1.2 74 (by simp)) (by decide)
theorem CW.hb0{B:Bs}{R:List Bs}{m:Nat}(h:B=[]∧R=[]):B.length≤4194304∧R.length≤m∧∀r∈R,r.length≤4194304:=by
 obtain⟨rfl,rfl⟩:=h
 exact⟨Nat.zero_le _,Nat.zero_le _,nofun⟩
theorem heads_crash{D2 D3:DiskD}{nm seg seg':ByteArray}{B B':Bs}{R R0' R':List Bs}{g g':Nat}{σ σ':Bs}{sy':Bool}{n m t q c n' m' t' q' c':Nat}(h2:JW D2 nm B R R g seg σ true n m t q c)(h3:JW D3 nm B' R0' R' g' seg' σ' sy' n' m' t' q' c')(hmm:m≤m')(hdry:Dry D2 D3)(ns:Nat→Nat)(nb:Nat):CW (crashD D3 [] ns nb) nm m' c' fun B' lo hi=>B'=B∧R<+:lo∧hi<+:R:=
 ⟨h3.di.crash [] ns nb,rfl,rfl,rfl,JS.dryc (hdry _ _ _ ((h2.jl.js.mono (Nat.le_trans h2.gm hmm) fun _ _ _ h=>h).dryd)) ns nb,h3.cap.crash [] ns nb⟩
theorem CW.hb1{B B0:Bs}{R R0:List Bs}{m:Nat}(h0:B0.length≤4194304)(h1:R0.length≤m)(h2:∀r∈R0,r.length≤4194304)(h:∃lo hi:List Bs,(B=B0∧R0<+:lo∧hi<+:R0)∧lo<+:R∧R<+:hi):B.length≤4194304∧R.length≤m∧∀r∈R,r.length≤4194304:=by
 obtain⟨rfl,rfl⟩:=found_one h
 exact⟨h0,h1,h2⟩
set_option maxHeartbeats 2000000 in
theorem heads_spec{S:Nat→Prop}{w:World}(hq:(Fz jQ).p S w):
 Calls Tryz.prog 13 #[] w (Ret fun v w'=>Ext w w'∧v=.bool true):=by
 refine uS1 Tryz.func13 ?_
 have H:=Hp.startF (w:=w) (S:=S) (G:=[Fz jQ]) (.cons hq .nil)
 refine uR 3 [.c [1,0],.c [2]] ?_
 refine qG (sq 0 2) ?_
 refine uK (new_spec (S:=Av S w [] (idsOf [] []))) ?_
 rintro _ _-⟨i,E,F,rfl,H'⟩
 have H:=H.back (M1:=[]) (W1:=[]) H'
 have H:=H.ung 0
 have H:Hp w S [] ((diskM i (newD E F) none 0)) [⟨stepS,143,.slice none ((newD E F).steps.length) 0,(newD E F).steps⟩] [_] _:=H
 have o1:DOk (newD E F):=newD_ok E F
 refine uF 1 ?_
 refine uR 1 [.c [2,0],.c [3]] ?_
 refine qG (sq 0 7) ?_
 refine uP 1 ?_
 have J:=newD_CW E F ⟨#[106]⟩
 have r0:(newD E F).armed=false:=rfl
 have H:=H.gat 0 0
 refine uKS (jopen_law (n:=100000000) (m:=0) (q:=0) (c:=0) plainJ J.di (J.al.mono (by omega)) (newD_op E F _) J.cap (by omega) (fun B R h=>CW.hb0 h) ((H.lend (M1:=(diskM _ _ _ _)) (W1:=[_])).pick [0] rfl)) ?_
 rintro _ _(⟨e0,_,_,g9,s,t,s0,t0,f0,K,L,rfl,O0,g,P0,H'⟩|⟨f0,K,L,rfl,_,Q0,H'⟩)
 rotate_left
 ·exact absurd (Q0) (by rw[r0];nofun)
 obtain⟨u0,v0⟩:=O0
 subst u0
 subst v0
 have H:=H.back (M1:=(diskM _ _ _ _)) (W1:=[_]) H'
 have H:=H.ung 1
 have H:Hp w S [] ((e0,.cells #[.P i 0,.string (⟨#[106]⟩:ByteArray),.slice s (([]:List (BitVec 8)).length) t,.slice s0 (([]:List (List (BitVec 8))).length) t0,.I g9,.string (⟨#[]⟩:ByteArray),.slice none (([]:List (BitVec 8)).length) 0,.bool true] 41 (0,0))::(diskM i f0 K L)) [⟨SB,23,.slice s0 (([]:List (List (BitVec 8))).length) t0,([]:List (List (BitVec 8)))⟩,⟨stepS,143,.slice K f0.steps.length L,f0.steps⟩] [Rp SB [.slice s (([]:List (BitVec 8)).length) t] ([]:List (BitVec 8)),Rp SB [.slice none (([]:List (BitVec 8)).length) 0] ([]:List (BitVec 8)),_] _:=H
 have g0:=P0.arm.trans r0
 refine uF 5 ?_
 refine uR 2 [.c [3,0,0],.c [3,0,1],.c [4]] ?_
 refine qG (sq 0 25) ?_
 refine uP 8 ?_
 refine RW.new (κ:=.seq) (d:=some 23) (r:=(sq 9 25)) (o:=.cells #[.int .u8 97] 5 (0,0)) (v:=fun b=>.slice (some ⟨b,0,none⟩) 1 1) (fun b=>by as_aux_lemma=>kernel_rfl) (nofun) H ?_
 intro L0 _ H
 refine RW.convS (d:=some 24) (r:=(sq 10 25)) (T:=23) (e:=5) (b:=L0) (len:=1) (cap:=1) (by as_aux_lemma=>kernel_rfl) (by as_aux_lemma=>kernel_rfl) H ?_
 intro _ H
 have H:=H.freeze 0 rfl Sb ([97#8]:List (BitVec 8)) 1 (by simp[maxLen]) (by first|exact Nat.le_refl _|simp) (EsP.cons (c:=[.int .u8 97]) (Shape.bv_lit (x:=97#8) (by decide)) EsP.nil)
 have H:Hp w S [] (_::_) [_,_] [Rp SB [.slice (some ⟨L0,0,none⟩) 1 1] ([97#8]:List (BitVec 8)),_,_,_] _:=H
 have hlit:([97#8]:List (BitVec 8)).length=1:=rfl
 have H:=H.frontW 1 rfl
 have H:=H.frontW 1 rfl
 have H:=H.gat 1 0
 refine uKS (jappend_spec (r:=([97#8]:List (BitVec 8))) (n:=99700000) g.pl g.di (g.al.mono (by omega)) g.jl (Nat.lt_of_le_of_lt g.gm (by omega)) (by omega) (by have:=g.sl;omega) (Nat.le_trans g.rl (by omega)) (Nat.lt_of_le_of_lt g.now (by omega)) ((H.lend (M1:=(_::(diskM _ _ _ _))) (W1:=[_,_])).pick [1,2,3,0] rfl)) ?_
 rintro _ _(⟨rfl,M0,h0,M,N,O,Q,i0,U,V,R0,S0,T0,U0,V0,W0,_,H'⟩|⟨_,_,_,_,i0,U,V,rfl,X0,H'⟩)
 rotate_left
 ·exact absurd (X0.arm) (by rw[g0];nofun)
 have j:=g.app (by omega) R0 S0 T0 U0 (g.cap.step W0)
 have H:=H.back (M1:=(_::(diskM _ _ _ _))) (W1:=[_,_]) H'
 have H:=H.ung 1
 have H:Hp w S [] ((e0,.cells #[.P i 0,.string (⟨#[106]⟩:ByteArray),.slice s (([]:List (BitVec 8)).length) t,.slice M ((([]:List (List (BitVec 8)))++[([97#8]:List (BitVec 8))]).length) N,.I M0,.string h0,.slice O ((([]:List (BitVec 8))++frameF ([97#8]:List (BitVec 8))).length) Q,.bool false] 41 (0,0))::(diskM i i0 U V)) [⟨SB,23,.slice M ((([]:List (List (BitVec 8)))++[([97#8]:List (BitVec 8))]).length) N,(([]:List (List (BitVec 8)))++[([97#8]:List (BitVec 8))])⟩,⟨stepS,143,.slice U i0.steps.length V,i0.steps⟩] [_,Rp SB [.slice O ((([]:List (BitVec 8))++frameF ([97#8]:List (BitVec 8))).length) Q] (([]:List (BitVec 8))++frameF ([97#8]:List (BitVec 8))),_,_,_,_] _:=H
 have j0:=V0.arm.trans g0
 refine uP 4 ?_
 have H:=H.frontW 1 rfl
 have H:=H.frontW 1 rfl
 have H:=H.gat 1 0
 refine uKS (jsync_spec (n:=99400000) j.pl j.di (j.al.mono (by omega)) j.jl ((H.lend (M1:=(_::(diskM _ _ _ _))) (W1:=[_,_])).pick [0,1,5] rfl)) ?_
 rintro _ _(⟨rfl,k0,W,X,Y0,Z0,a1,b1,c1,H'⟩|⟨_,_,_,_,k0,W,X,rfl,d1,H'⟩)
 rotate_left
 ·exact absurd (d1.arm) (by rw[j0];nofun)
 have f:=j.syn Y0 Z0 a1 (j.cap.step c1)
 have H:=H.back (M1:=(_::(diskM _ _ _ _))) (W1:=[_,_]) H'
 have H:=H.ung 1
 have H:Hp w S [] ((e0,.cells #[.P i 0,.string (⟨#[106]⟩:ByteArray),.slice s (([]:List (BitVec 8)).length) t,.slice M ((([]:List (List (BitVec 8)))++[([97#8]:List (BitVec 8))]).length) N,.I M0,.string h0,.slice O ((([]:List (BitVec 8))++frameF ([97#8]:List (BitVec 8))).length) Q,.bool true] 41 (0,0))::(diskM i k0 W X)) [_,⟨stepS,143,.slice W k0.steps.length X,k0.steps⟩] [_,_,_,_,_,_,_,_] _:=H
 have l0:=b1.arm.trans j0
 refine uP 4 ?_
 refine RW.new (κ:=.seq) (d:=some 35) (r:=(sq 21 25)) (o:=.cells #[.int .u8 98] 5 (0,0)) (v:=fun b=>.slice (some ⟨b,0,none⟩) 1 1) (fun b=>by as_aux_lemma=>kernel_rfl) (nofun) H ?_
 intro N0 _ H
 refine RW.convS (d:=some 36) (r:=(sq 22 25)) (T:=23) (e:=5) (b:=N0) (len:=1) (cap:=1) (by as_aux_lemma=>kernel_rfl) (by as_aux_lemma=>kernel_rfl) H ?_
 intro _ H
 have H:=H.freeze 0 rfl Sb ([98#8]:List (BitVec 8)) 1 (by simp[maxLen]) (by first|exact Nat.le_refl _|simp) (EsP.cons (c:=[.int .u8 98]) (Shape.bv_lit (x:=98#8) (by decide)) EsP.nil)
 have H:Hp w S [] (_::_) [_,_] [Rp SB [.slice (some ⟨N0,0,none⟩) 1 1] ([98#8]:List (BitVec 8)),_,_,_,_,_,_,_,_] _:=H
 have hlit:([98#8]:List (BitVec 8)).length=1:=rfl
 have H:=H.frontW 1 rfl
 have H:=H.frontW 1 rfl
 have H:=H.gat 1 0
 refine uKS (jappend_spec (r:=([98#8]:List (BitVec 8))) (n:=99100000) f.pl f.di (f.al.mono (by omega)) f.jl (Nat.lt_of_le_of_lt f.gm (by omega)) (by omega) (by have:=f.sl;omega) (Nat.le_trans f.rl (by omega)) (Nat.lt_of_le_of_lt f.now (by omega)) ((H.lend (M1:=(_::(diskM _ _ _ _))) (W1:=[_,_])).pick [1,2,8,0] rfl)) ?_
 rintro _ _(⟨rfl,p1,D0,w0,x0,y0,z0,k,Y,Z,e1,f1,g1,h1,i1,j1,E0,H'⟩|⟨_,_,_,_,k,Y,Z,rfl,k1,H'⟩)
 rotate_left
 ·exact absurd (k1.arm) (by rw[l0];nofun)
 have a0:=f.app (by omega) e1 f1 g1 h1 (f.cap.step j1)
 have H:=H.back (M1:=(_::(diskM _ _ _ _))) (W1:=[_,_]) H'
 have H:=H.ung 1
 have H:Hp w S [] ((e0,.cells #[.P i 0,.string (⟨#[106]⟩:ByteArray),.slice s (([]:List (BitVec 8)).length) t,.slice w0 (((([]:List (List (BitVec 8)))++[([97#8]:List (BitVec 8))])++[([98#8]:List (BitVec 8))]).length) x0,.I p1,.string D0,.slice y0 (((([]:List (BitVec 8))++frameF ([97#8]:List (BitVec 8)))++frameF ([98#8]:List (BitVec 8))).length) z0,.bool false] 41 (0,0))::(diskM i k Y Z)) [⟨SB,23,.slice w0 (((([]:List (List (BitVec 8)))++[([97#8]:List (BitVec 8))])++[([98#8]:List (BitVec 8))]).length) x0,((([]:List (List (BitVec 8)))++[([97#8]:List (BitVec 8))])++[([98#8]:List (BitVec 8))])⟩,⟨stepS,143,.slice Y k.steps.length Z,k.steps⟩] [_,Rp SB [.slice y0 (((([]:List (BitVec 8))++frameF ([97#8]:List (BitVec 8)))++frameF ([98#8]:List (BitVec 8))).length) z0] ((([]:List (BitVec 8))++frameF ([97#8]:List (BitVec 8)))++frameF ([98#8]:List (BitVec 8))),_,_,_,_,_,_,_,_,_] _:=H
 have r1:=i1.arm.trans l0
 refine uF 2 ?_
 refine qR 3 [.c [4,0],.c [5]] [(1,.P i 0)] ?_
 refine qG (sq 0 2) ?_
 refine uP 1 ?_
 have H:=H.frontW 1 rfl
 have H:=H.gat 0 1
 refine uKS (dCrash0 a0.di.ok a0.al.hst ((H.lend (M1:=(diskM _ _ _ _)) (W1:=[_])).pick [] rfl)) ?_
 rintro _ _⟨rfl,u,y,H'⟩
 have H:=H.back (M1:=(diskM _ _ _ _)) (W1:=[_]) H'
 have H:=H.ung 0
 have H:Hp w S [] (_::(diskM i (crashD k [] u y) none 0)) [⟨stepS,143,.slice none ((crashD k [] u y).steps.length) 0,(crashD k [] u y).steps⟩,_] [_,_,_,_,_,_,_,_,_,_,_] _:=H
 have z:=heads_crash f a0 (by omega) E0 u y
 have A0:(crashD k [] u y).armed=false:=rfl
 obtain⟨q9,l1⟩:=z.op
 refine uF 0 ?_
 refine uR 1 [.c [5,0],.c [6]] ?_
 refine qG (sq 0 7) ?_
 refine uP 1 ?_
 have H:=H.gat 0 1
 refine uKS (jopen_law (n:=100000000) (m:=4) (q:=q9) (c:=4) plainJ z.di (z.al.mono (by omega)) l1 z.cap (by omega) (fun B R h=>CW.hb1 f.bl (Nat.le_trans f.rl (by omega)) f.rb h) ((H.lend (M1:=(diskM _ _ _ _)) (W1:=[_])).pick [10] rfl)) ?_
 rintro _ _(⟨m1,_,_,n1,m0,n0,o0,p0,A,C,D,rfl,F0,l,G0,H'⟩|⟨A,C,D,rfl,_,H0,H'⟩)
 rotate_left
 ·exact absurd (H0) (by rw[A0];nofun)
 obtain⟨u0,v0⟩:=found_one F0
 subst u0
 subst v0
 have H:=H.back (M1:=(diskM _ _ _ _)) (W1:=[_]) H'
 have H:=H.ung 1
 have H:Hp w S [] ((m1,.cells #[.P i 0,.string (⟨#[106]⟩:ByteArray),.slice m0 (([]:List (BitVec 8)).length) n0,.slice o0 ((([]:List (List (BitVec 8)))++[([97#8]:List (BitVec 8))]).length) p0,.I n1,.string (⟨#[]⟩:ByteArray),.slice none (([]:List (BitVec 8)).length) 0,.bool true] 41 (0,0))::_::(diskM i A C D)) [⟨SB,23,.slice o0 ((([]:List (List (BitVec 8)))++[([97#8]:List (BitVec 8))]).length) p0,(([]:List (List (BitVec 8)))++[([97#8]:List (BitVec 8))])⟩,⟨stepS,143,.slice C A.steps.length D,A.steps⟩,_] [Rp SB [.slice m0 (([]:List (BitVec 8)).length) n0] ([]:List (BitVec 8)),_,_,_,_,_,_,_,_,_,_,_,_] _:=H
 have q1:=G0.arm.trans A0
 refine uF 5 ?_
 refine uR 6 [.c [7,0],.c [8]] ?_
 refine qG (sq 0 3) ?_
 refine uP 1 ?_
 refine uKS (jrecs_spec (Nat.le_trans l.rl (by omega)) l.rb ((H.lend (M1:=[_]) (W1:=[_])).pick [] rfl)) ?_
 rintro _ _⟨b0,c0,rfl,H'⟩
 have H:=H.back (M1:=[_]) (W1:=[_]) H'
 have H:Hp w S [] (_::_::_) [⟨SB,23,.slice b0 ((([]:List (List (BitVec 8)))++[([97#8]:List (BitVec 8))]).length) c0,(([]:List (List (BitVec 8)))++[([97#8]:List (BitVec 8))])⟩,_,_,_] [_,_,_,_,_,_,_,_,_,_,_,_,_] _:=H
 refine uF 1 ?_
 refine uR 1 [.c [8,0],.c [9]] ?_
 refine qG (sq 0 7) ?_
 refine uP 1 ?_
 have H:=H.frontW 2 rfl
 have H:=H.gat 0 2
 refine uKS (jopen_arg l.di l.al.dead (by decide) notJ ((H.lend (M1:=(diskM _ _ _ _)) (W1:=[_])).pick [] rfl)) ?_
 rintro _ _⟨rfl,H'⟩
 have H:=H.back (M1:=(diskM _ _ _ _)) (W1:=[_]) H'
 have H:=H.ung 0
 have H:Hp w S [] (_::_::_) [_,_,_,_] [_,_,_,_,_,_,_,_,_,_,_,_,_] _:=H
 refine qF 5 [(6,.slice b0 ((([]:List (List (BitVec 8)))++[([97#8]:List (BitVec 8))]).length) c0),(8,.I 2)] ?_
 refine uR 1 [.c [9,0],.c [10]] ?_
 refine qG (sq 0 16) ?_
 refine uP 4 ?_
 refine uE 63 (((([]:List (List (BitVec 8)))++[([97#8]:List (BitVec 8))]).length:Nat):Int) 1 (fun B0=>?_) (fun B0=>?_)
 ·
  refine uP 1 ?_
  have H:=H.frontW 1 rfl
  have I0:(([]:List (List (BitVec 8)))++[([97#8]:List (BitVec 8))]).length=(([]:List (List (BitVec 8)))++[([97#8]:List (BitVec 8))]).length:=by simp
  have J0:0<(([]:List (List (BitVec 8)))++[([97#8]:List (BitVec 8))]).length:=by simp
  refine RW.indexW (κ:=.seq) (d:=some 65) (r:=(sq 6 16)) (T:=22) (e:=23) (m:=1) (ik:=.i64) (ix:=0) (sh:=SB) (xs:=(([]:List (List (BitVec 8)))++[([97#8]:List (BitVec 8))])) (a:=b0) (len:=(([]:List (List (BitVec 8)))++[([97#8]:List (BitVec 8))]).length) (cap:=c0) (by as_aux_lemma=>kernel_rfl) (by as_aux_lemma=>kernel_rfl) rfl H 0 (by omega) J0 I0 ?_
  intro _ _ _ d0 q0
  obtain⟨_,_,rfl⟩:=Shape.slice_form' q0
  have H:=H.addR q0
  refine uV 23 0 d0 ?_
  refine RW.new (κ:=.seq) (d:=some 67) (r:=(sq 8 16)) (o:=.cells #[.int .u8 97] 5 (0,0)) (v:=fun b=>.slice (some ⟨b,0,none⟩) 1 1) (fun b=>by as_aux_lemma=>kernel_rfl) (nofun) H ?_
  intro C0 _ H
  refine RW.convS (d:=some 68) (r:=(sq 9 16)) (T:=23) (e:=5) (b:=C0) (len:=1) (cap:=1) (by as_aux_lemma=>kernel_rfl) (by as_aux_lemma=>kernel_rfl) H ?_
  intro _ H
  have H:=H.freeze 0 rfl Sb ([97#8]:List (BitVec 8)) 1 (by simp[maxLen]) (by first|exact Nat.le_refl _|simp) (EsP.cons (c:=[.int .u8 97]) (Shape.bv_lit (x:=97#8) (by decide)) EsP.nil)
  have H:Hp w S [] (_::_::_) [_,_,_,_] [Rp SB [.slice (some ⟨C0,0,none⟩) 1 1] ([97#8]:List (BitVec 8)),_,_,_,_,_,_,_,_,_,_,_,_,_,_] _:=H
  refine uK (same01N (xs:=(([]:List (List (BitVec 8)))++[([97#8]:List (BitVec 8))])[0]) (ys:=([97#8]:List (BitVec 8))) (H.rp 1 rfl) (H.rp 0 rfl)) ?_
  rintro _ _ K0 rfl
  have H:=H.ext K0
  rw[sameB_eq (show(([]:List (List (BitVec 8)))++[([97#8]:List (BitVec 8))])[0]=([97#8]:List (BitVec 8))from rfl)]
  refine uF 6 ?_
  refine qT (.bool true) Tryz.func13 ?_
  exact⟨_,rfl,H.done,rfl⟩
 ·
  exact absurd rfl B0
end Go.Proofs.YtdnibpclkhenmaaGreatDoor
