import Derived.Test.YtcafjhnjhhicdaaGreatDoorSM2
namespace Go.Proofs.YtcafjhnjhhicdaaGreatDoor
open Go.BX
set_option maxHeartbeats 8000000 in
theorem reduce_spec{S:Nat→Prop}{w:World}{O:List Nat}{lb lc rb rc r c d:Nat}{L0 R0:List (List (BitVec 8))}(H0:Hp w S O [] [⟨SB,28,.slice (some ⟨lb,0,none⟩) r lc,L0⟩,⟨SB,28,.slice (some ⟨rb,0,none⟩) r rc,R0⟩] [] w)(hL0:L0.length=r)(hR0:R0.length=r)(hr:r≤255)(hcL0:∀x∈L0,x.length=c)(hcR0:∀x∈R0,x.length=d)(hcd:c≤255∧d≤255){cols:Nat}(hcols:cols≤c):
 Calls Tryz.prog 174 #[.agg #[.slice (some ⟨lb,0,none⟩) r lc,.slice (some ⟨rb,0,none⟩) r rc],.I cols] w (Ret fun v w'=>v=.I (((redTo L0 R0 cols).1:Nat):Int)∧Hp w S O [] [⟨SB,28,.slice (some ⟨lb,0,none⟩) r lc,(redTo L0 R0 cols).2.1⟩,⟨SB,28,.slice (some ⟨rb,0,none⟩) r rc,(redTo L0 R0 cols).2.2⟩] [] w'):=by
 refine qS (fn:=Tryz.f174) (n:=73) (σ:=[(0,.agg #[.slice (some ⟨lb,0,none⟩) r lc,.slice (some ⟨rb,0,none⟩) r rc]),(1,.I cols)]) Tryz.func174 ?_
 have H:=H0
 refine qR 1 [.c [0],.c [1]] [(0,.agg #[.slice (some ⟨lb,0,none⟩) r lc,.slice (some ⟨rb,0,none⟩) r rc]),(1,.I cols)] ?_
 refine qG (sq 0 2) ?_
 refine qB .seq 2 (sq 1 2) #[.slice (some ⟨lb,0,none⟩) r lc,.slice (some ⟨rb,0,none⟩) r rc] 259 H ?_
 intro b1 w2 H
 refine qF 1 [(1,.I cols),(2,.P b1 0)] ?_
 refine qR 6 [.c [2,0,1,0],.b 0,.c [3]] [(1,.I cols),(2,.P b1 0),(5,.I 0),(6,.I 0)] ?_
 refine WK.loop (α:=Nat×Nat×List (List (BitVec 8))×List (List (BitVec 8))) (b:=cd Tryz.prog 174 [2,0,1,0,0]) (by as_aux_lemma=>kernel_rfl) (fun st_=>match st_ with|(cc,dn,L,R)=>[(1,.I cols),(2,.P b1 0),(5,.I dn),(6,.I cc)]) (fun st_ w'=>match st_ with|(cc,dn,L,R)=>Hp w S O [(b1,.cells #[.slice (some ⟨lb,0,none⟩) r lc,.slice (some ⟨rb,0,none⟩) r rc] 259 (0,0))] [⟨SB,28,.slice (some ⟨lb,0,none⟩) r lc,L⟩,⟨SB,28,.slice (some ⟨rb,0,none⟩) r rc,R⟩] [] w'∧cc≤cols∧(dn,L,R)=redTo L0 R0 cc∧dn≤r∧L.length=r∧R.length=r∧(∀x∈L,x.length=c)∧∀x∈R,x.length=d) (fun st_=>match st_ with|(cc,dn,L,R)=>cols-cc) (0,0,L0,R0) ⟨H,by omega,rfl,by omega,hL0,hR0,hcL0,hcR0⟩ (rfl) ?_
 rintro⟨cc,dn,L,R⟩w4⟨H,hinv0⟩hback3
 obtain⟨hcc,hred,hdn,hL,hR,hcL,hcR⟩:=hinv0
 refine qR 3 [.c [2,0,1,0,0,0,1],.c [2,0,1,0,0,1],.l [2,0,1,0,0],.b 0,.c [3]] [(1,.I cols),(2,.P b1 0),(5,.I dn),(6,.I cc),(10,.bool (decide (((cc:Int):Int)<(cols:Int))))] ?_
 refine qD (((cc:Int):Int)<(cols:Int)) (fun h5=>?_) (fun h5=>?_)
 ·
  refine qR 6 [.c [2,0,1,0,0,1,0,0,1,0],.b 2,.b 1,.c [2,0,1,0,0,2],.l [2,0,1,0,0],.b 0,.c [3]] [(1,.I cols),(2,.P b1 0),(5,.I dn),(6,.I cc),(7,.I dn)] ?_
  refine WK.loop (α:=Nat) (b:=cd Tryz.prog 174 [2,0,1,0,0,1,0,0,1,0,0]) (by as_aux_lemma=>kernel_rfl) (fun i=>[(1,.I cols),(2,.P b1 0),(5,.I dn),(6,.I cc),(7,.I i)]) (fun i w'=>Hp w S O [(b1,.cells #[.slice (some ⟨lb,0,none⟩) r lc,.slice (some ⟨rb,0,none⟩) r rc] 259 (0,0))] [⟨SB,28,.slice (some ⟨lb,0,none⟩) r lc,L⟩,⟨SB,28,.slice (some ⟨rb,0,none⟩) r rc,R⟩] [] w'∧dn≤i∧i≤r∧∀j,dn≤j→j<i→entAt L j cc=0#8) (fun i=>r-i) dn ⟨H,Nat.le_refl _,hdn,fun j h1 h2=>by omega⟩ (rfl) ?_
  rintro i w7⟨H,hinv1⟩hback6
  refine qR 2 [.c [2,0,1,0,0,1,0,0,1,0,0,0,0],.c [2,0,1,0,0,1,0,0,1,0,0,0,1],.c [2,0,1,0,0,1,0,0,1,0,0,1],.l [2,0,1,0,0,1,0,0,1,0,0],.b 2,.b 1,.c [2,0,1,0,0,2],.l [2,0,1,0,0],.b 0,.c [3]] [(1,.I cols),(2,.P b1 0),(5,.I dn),(6,.I cc),(7,.I i)] ?_
  refine qG (sq 0 5) ?_
  refine qP 2 (sq 2 5) [(1,.I cols),(2,.P b1 0),(5,.I dn),(6,.I cc),(7,.I i),(14,.I i),(15,.P b1 0)] ?_
  refine qL .seq 16 (sq 3 5) 74 b1 0 0 (.slice (some ⟨lb,0,none⟩) r lc) (H.cells 0 rfl) ?_
  refine qF 2 [(1,.I cols),(2,.P b1 0),(5,.I dn),(6,.I cc),(7,.I i),(18,.bool (decide (((i:Int):Int)<((r:Nat):Int))))] ?_
  refine qD (((i:Int):Int)<((r:Nat):Int)) (fun h8=>?_) (fun h8=>?_)
  ·
   have hil:i<L.length:=by omega
   have hci:=hcL (L[i]) (List.getElem_mem hil)
   refine qR 4 [.c [2,0,1,0,0,1,0,0,1,0,0,1,0,0,0],.c [2,0,1,0,0,1,0,0,1,0,0,1,0,0,1],.b 3,.c [2,0,1,0,0,1,0,0,1,0,0,2],.l [2,0,1,0,0,1,0,0,1,0,0],.b 2,.b 1,.c [2,0,1,0,0,2],.l [2,0,1,0,0],.b 0,.c [3]] [(1,.I cols),(2,.P b1 0),(5,.I dn),(6,.I cc),(7,.I i)] ?_
   refine qG (sq 0 9) ?_
   refine qP 1 (sq 1 9) [(1,.I cols),(2,.P b1 0),(5,.I dn),(6,.I cc),(7,.I i),(21,.P b1 0)] ?_
   refine qL .seq 22 (sq 2 9) 74 b1 0 0 (.slice (some ⟨lb,0,none⟩) r lc) (H.cells 0 rfl) ?_
   refine qP 1 (sq 3 9) [(1,.I cols),(2,.P b1 0),(5,.I dn),(6,.I cc),(7,.I i),(22,.slice (some ⟨lb,0,none⟩) r lc),(23,.I i)] ?_
   have hn10:r=L.length:=by omega
   have hx9:i<L.length:=by omega
   refine RW.indexW (κ:=.seq) (d:=some 24) (r:=(sq 4 9)) (T:=74) (e:=28) (m:=1) (ik:=.i64) (ix:=(i:Int)) (sh:=SB) (xs:=L) (a:=(some ⟨lb,0,none⟩)) (len:=r) (cap:=lc) (by as_aux_lemma=>kernel_rfl) (by as_aux_lemma=>kernel_rfl) rfl H i (by omega) hx9 hn10 ?_
   intro b11 es12 ha13 hcell14 hr15
   cases ha13
   obtain⟨a16,k17,rfl⟩:=Shape.slice_form' hr15
   have H:=H.add (F:=Rp SB [.slice a16 (L[i]).length k17] (L[i])) hr15
   refine qL .seq 25 (sq 5 9) 28 lb (i*1) 0 (.slice a16 (L[i]).length k17) hcell14 ?_
   refine qP 1 (sq 6 9) [(1,.I cols),(2,.P b1 0),(5,.I dn),(6,.I cc),(7,.I i),(25,.slice a16 (L[i]).length k17),(26,.I cc)] ?_
   have hx18:cc<(L[i]).length:=by omega
   refine qX .seq 27 (sq 7 9) 28 5 (cc:Int) Sb ((L[i])[cc]) H 0 rfl cc (by omega) (List.getElem?_eq_getElem hx18) ?_
   intro b19 o20 es21 hr22 H
   obtain rfl:=hr22
   refine qL .seq 28 (sq 8 9) 5 b19 o20 0 (.int .u8 ((((L[i])[cc]).toNat:Nat):Int)) (H.fc 0 rfl) ?_
   refine qF 1 [(1,.I cols),(2,.P b1 0),(5,.I dn),(6,.I cc),(7,.I i),(29,.bool (((((L[i])[cc]).toNat:Nat):Int)!=0))] ?_
   refine qN ((((L[i])[cc]).toNat:Nat):Int) 0 (fun h23=>?_) (fun h23=>?_)
   ·
    have hez:entAt L i cc≠0#8:=by rw[entAt_eq hil (by omega)];exact bvz h23
    have hfp:firstP L cc dn=some i:=firstP_some hil hinv1.1 hez hinv1.2.2
    have hsl:(swapL L i dn).length=r:=by rw[swapL_len];exact hL
    have hsr:(swapL R i dn).length=r:=by rw[swapL_len];exact hR
    have hcl:=swapL_all (i:=i) (j:=dn) hcL hil (by omega)
    have hcr:=swapL_all (i:=i) (j:=dn) hcR (by omega) (by omega)
    have hne:entAt (swapL L i dn) dn cc≠0#8:=by rw[swapL_ent (by omega)];exact hez
    refine qR 1 [.c [2,0,1,0,0,1,0,0,1,0,0,1,0,0,1,0,0],.c [2,0,1,0,0,1,0,0,1,0,0,1,0,0,1,0,1],.b 3,.c [2,0,1,0,0,1,0,0,1,0,0,2],.l [2,0,1,0,0,1,0,0,1,0,0],.b 2,.b 1,.c [2,0,1,0,0,2],.l [2,0,1,0,0],.b 0,.c [3]] [(1,.I cols),(2,.P b1 0),(5,.I dn),(6,.I cc),(7,.I i)] ?_
    refine WK.joinW (fun w_=>Hp w S O [(b1,.cells #[.slice (some ⟨lb,0,none⟩) r lc,.slice (some ⟨rb,0,none⟩) r rc] 259 (0,0))] [⟨SB,28,.slice (some ⟨lb,0,none⟩) r lc,(swapL L i dn)⟩,⟨SB,28,.slice (some ⟨rb,0,none⟩) r rc,R⟩] [] w_) [(1,.I cols),(2,.P b1 0),(5,.I dn),(6,.I cc),(7,.I i)] [Cq Tryz.prog 174 [2,0,1,0,0,1,0,0,1,0,0,1,0,0,1,0,1],.inBlock 3,Cq Tryz.prog 174 [2,0,1,0,0,1,0,0,1,0,0,2],Lq Tryz.prog 174 [2,0,1,0,0,1,0,0,1,0,0],.inBlock 2,.inBlock 1,Cq Tryz.prog 174 [2,0,1,0,0,2],Lq Tryz.prog 174 [2,0,1,0,0],.inBlock 0,Cq Tryz.prog 174 [3]] (fun hJ24=>?_) (fun w25 H=>?_)
    ·
     refine WK.drawH1 [lb] (.node (qs [0,1,2,3,4,5,6,7,8,9,11,12,13,14]) (.cons 10 (.leaf [(15,.seq),(16,.qui),(17,.seq),(18,.qui),(19,.seq)]) (.cons 15 (.leaf [(10,.seq),(16,.qui),(17,.seq),(18,.qui),(19,.seq)]) .nil))) Tryz_mixed (by as_aux_lemma=>kernel_rfl) (by as_aux_lemma=>kernel_rfl) ?_
     intro w26 hw27
     have H:=H.draw
     rw[←hw27]at H
     clear hw27
     have hS:=Chg.refl w26 [lb]
     refine RG.node' (qs [0,1,2,3,4,5,6,7,8,9,11,12,13,14]) (by as_aux_lemma=>kernel_rfl) ?_
     refine qHP hS 1 (qs [1,2,3,4,5,6,7,8,9,11,12,13,14]) [(1,.I cols),(2,.P b1 0),(5,.I dn),(6,.I cc),(7,.I i),(30,.P b1 0)] ?_
     refine RH.load (d:=some 31) (r:=(qs [2,3,4,5,6,7,8,9,11,12,13,14])) (T:=74) (b:=b1) (o':=0) (k:=0) (v:=.slice (some ⟨lb,0,none⟩) r lc) (by as_aux_lemma=>kernel_rfl) hS (H.cells 0 rfl) (by intro hq;simp only[List.mem_cons,List.not_mem_nil,or_false]at hq;exact H.neMW 0 rfl 0 rfl hq) (by simp) rfl (by as_aux_lemma=>kernel_rfl) ?_
     refine qHP hS 2 (qs [4,5,6,7,8,9,11,12,13,14]) [(1,.I cols),(2,.P b1 0),(5,.I dn),(6,.I cc),(7,.I i),(31,.slice (some ⟨lb,0,none⟩) r lc),(32,.I i),(33,.P b1 0)] ?_
     refine RH.load (d:=some 34) (r:=(qs [5,6,7,8,9,11,12,13,14])) (T:=74) (b:=b1) (o':=0) (k:=0) (v:=.slice (some ⟨lb,0,none⟩) r lc) (by as_aux_lemma=>kernel_rfl) hS (H.cells 0 rfl) (by intro hq;simp only[List.mem_cons,List.not_mem_nil,or_false]at hq;exact H.neMW 0 rfl 0 rfl hq) (by simp) rfl (by as_aux_lemma=>kernel_rfl) ?_
     refine qHP hS 2 (qs [7,8,9,11,12,13,14]) [(1,.I cols),(2,.P b1 0),(5,.I dn),(6,.I cc),(7,.I i),(31,.slice (some ⟨lb,0,none⟩) r lc),(32,.I i),(34,.slice (some ⟨lb,0,none⟩) r lc),(35,.I dn),(36,.P b1 0)] ?_
     refine RH.load (d:=some 37) (r:=(qs [8,9,11,12,13,14])) (T:=74) (b:=b1) (o':=0) (k:=0) (v:=.slice (some ⟨lb,0,none⟩) r lc) (by as_aux_lemma=>kernel_rfl) hS (H.cells 0 rfl) (by intro hq;simp only[List.mem_cons,List.not_mem_nil,or_false]at hq;exact H.neMW 0 rfl 0 rfl hq) (by simp) rfl (by as_aux_lemma=>kernel_rfl) ?_
     refine qHP hS 1 (qs [9,11,12,13,14]) [(1,.I cols),(2,.P b1 0),(5,.I dn),(6,.I cc),(7,.I i),(31,.slice (some ⟨lb,0,none⟩) r lc),(32,.I i),(34,.slice (some ⟨lb,0,none⟩) r lc),(35,.I dn),(37,.slice (some ⟨lb,0,none⟩) r lc),(38,.I dn)] ?_
     have hn29:r=L.length:=by omega
     have hx28:dn<L.length:=by omega
     refine RH.indexW (d:=some 39) (r:=(qs [11,12,13,14])) (T:=74) (e:=28) (m:=1) (ik:=.i64) (ix:=(dn:Int)) (sh:=SB) (xs:=L) (a:=(some ⟨lb,0,none⟩)) (len:=r) (cap:=lc) (by as_aux_lemma=>kernel_rfl) hS (by as_aux_lemma=>kernel_rfl) rfl H dn (by omega) hx28 hn29 ?_
     intro b30 es31 ha32 hcell33 hr34
     cases ha32
     obtain⟨a35,k36,rfl⟩:=Shape.slice_form' hr34
     have H:=H.add (F:=Rp SB [.slice a35 (L[dn]).length k36] (L[dn])) hr34
     refine qHP hS 1 (qs [12,13,14]) [(1,.I cols),(2,.P b1 0),(5,.I dn),(6,.I cc),(7,.I i),(31,.slice (some ⟨lb,0,none⟩) r lc),(32,.I i),(34,.slice (some ⟨lb,0,none⟩) r lc),(35,.I dn),(39,.pointer (some ⟨lb,dn*1,none⟩)),(41,.P b1 0)] ?_
     refine RH.load (d:=some 42) (r:=(qs [13,14])) (T:=74) (b:=b1) (o':=0) (k:=0) (v:=.slice (some ⟨lb,0,none⟩) r lc) (by as_aux_lemma=>kernel_rfl) hS (H.cells 0 rfl) (by intro hq;simp only[List.mem_cons,List.not_mem_nil,or_false]at hq;exact H.neMW 0 rfl 0 rfl hq) (by simp) rfl (by as_aux_lemma=>kernel_rfl) ?_
     refine qHP hS 1 [(14,.qui)] [(1,.I cols),(2,.P b1 0),(5,.I dn),(6,.I cc),(7,.I i),(31,.slice (some ⟨lb,0,none⟩) r lc),(32,.I i),(34,.slice (some ⟨lb,0,none⟩) r lc),(35,.I dn),(39,.pointer (some ⟨lb,dn*1,none⟩)),(42,.slice (some ⟨lb,0,none⟩) r lc),(43,.I i)] ?_
     have hn38:r=L.length:=by omega
     have hx37:i<L.length:=by omega
     refine RH.indexW (d:=some 44) (r:=[]) (T:=74) (e:=28) (m:=1) (ik:=.i64) (ix:=(i:Int)) (sh:=SB) (xs:=L) (a:=(some ⟨lb,0,none⟩)) (len:=r) (cap:=lc) (by as_aux_lemma=>kernel_rfl) hS (by as_aux_lemma=>kernel_rfl) rfl H i (by omega) hx37 hn38 ?_
     intro b39 es40 ha41 hcell42 hr43
     cases ha41
     obtain⟨a44,k45,rfl⟩:=Shape.slice_form' hr43
     have H:=H.add (F:=Rp SB [.slice a44 (L[i]).length k45] (L[i])) hr43
     refine RH.finB hS 0 [1,2,5,6,7,31,32,34,35,39,44] [(1,.I cols),(2,.P b1 0),(5,.I dn),(6,.I cc),(7,.I i),(31,.slice (some ⟨lb,0,none⟩) r lc),(32,.I i),(34,.slice (some ⟨lb,0,none⟩) r lc),(35,.I dn),(39,.pointer (some ⟨lb,dn*1,none⟩)),(44,.pointer (some ⟨lb,i*1,none⟩))] (by as_aux_lemma=>kernel_rfl) ?_
     refine(RGB.cons' ?_ (RGB.cons' ?_ RGB.nil'))
     ·
      refine RG.leaf' [(10,.seq),(15,.seq),(16,.qui),(17,.seq),(18,.qui),(19,.seq)] (by as_aux_lemma=>kernel_rfl) ?_
      have Hr:=H
      refine RH.chn hS ?_
      refine qL .chn 40 [] 28 lb (dn*1) 0 (.slice a35 (L[dn]).length k36) hcell33 ?_
      intro hS
      have Hr:=H
      refine RH.chn hS ?_
      refine qL .chn 45 [] 28 lb (i*1) 0 (.slice a44 (L[i]).length k45) hcell42 ?_
      intro hS
      have hn49:r=L.length:=by omega
      have hx48:i<L.length:=by omega
      refine RH.indexW (d:=some 46) (r:=[(17,.seq),(18,.qui),(19,.seq)]) (T:=74) (e:=28) (m:=1) (ik:=.i64) (ix:=(i:Int)) (sh:=SB) (xs:=L) (a:=(some ⟨lb,0,none⟩)) (len:=r) (cap:=lc) (by as_aux_lemma=>kernel_rfl) hS (by as_aux_lemma=>kernel_rfl) rfl H i (by omega) hx48 hn49 ?_
      intro b50 es51 ha52 hcell53 hr54
      cases ha52
      obtain⟨a55,k56,rfl⟩:=Shape.slice_form' hr54
      have H:=H.add (F:=Rp SB [.slice a55 (L[i]).length k56] (L[i])) hr54
      have Hr:=H
      refine RH.sto ?_
      refine RW.storeWC (d:=none) (r:=[]) (e:=28) (m:=1) (b:=lb) (k:=i) (v:=.slice a35 (L[dn]).length k36) (by as_aux_lemma=>kernel_rfl) rfl (by as_aux_lemma=>kernel_rfl) H rfl hx48 hn49 (L[dn]) (H.rp 2 rfl) ?_
      intro w58 hch57 H
      have hS59:=hS.sto hch57 (.inr (by simp))
      refine⟨hS59,?_⟩
      have hS:=hS59
      have hn61:r=(L.set i (L[dn])).length:=by rw[List.length_set];omega
      have hx60:dn<(L.set i (L[dn])).length:=by rw[List.length_set];omega
      refine RH.indexW (d:=some 47) (r:=[(19,.seq)]) (T:=74) (e:=28) (m:=1) (ik:=.i64) (ix:=(dn:Int)) (sh:=SB) (xs:=L.set i (L[dn])) (a:=(some ⟨lb,0,none⟩)) (len:=r) (cap:=lc) (by as_aux_lemma=>kernel_rfl) hS (by as_aux_lemma=>kernel_rfl) rfl H dn (by omega) hx60 hn61 ?_
      intro b62 es63 ha64 hcell65 hr66
      cases ha64
      obtain⟨a67,k68,rfl⟩:=Shape.slice_form' hr66
      have H:=H.add (F:=Rp SB [.slice a67 (((L.set i (L[dn]))[dn]).length) k68] ((L.set i (L[dn]))[dn])) hr66
      refine RH.sto ?_
      refine RW.storeWC (d:=none) (r:=[]) (e:=28) (m:=1) (b:=lb) (k:=dn) (v:=.slice a44 (L[i]).length k45) (by as_aux_lemma=>kernel_rfl) rfl (by as_aux_lemma=>kernel_rfl) H rfl hx60 hn61 (L[i]) (H.rp 2 rfl) ?_
      intro w70 hch69 H
      have H:=H.reW (ys:=swapL L i dn) (by unfold swapL;rw[rowAt_eq (show dn<L.length by omega),rowAt_eq (show i<L.length by omega)])
      have hS71:=hS.sto hch69 (.inr (by simp))
      refine⟨hS71,?_⟩
      have hS:=hS71
      refine RH.fin hS 0 [1,2,5,6,7] [(1,.I cols),(2,.P b1 0),(5,.I dn),(6,.I cc),(7,.I i)] (by as_aux_lemma=>kernel_rfl) ?_
      have H:=H.pick [] rfl
      exact hJ24 _ H
     ·
      refine RG.leaf' [(15,.seq),(10,.seq),(16,.qui),(17,.seq),(18,.qui),(19,.seq)] (by as_aux_lemma=>kernel_rfl) ?_
      have Hr:=H
      refine RH.chn hS ?_
      refine qL .chn 45 [] 28 lb (i*1) 0 (.slice a44 (L[i]).length k45) hcell42 ?_
      intro hS
      have Hr:=H
      refine RH.chn hS ?_
      refine qL .chn 40 [] 28 lb (dn*1) 0 (.slice a35 (L[dn]).length k36) hcell33 ?_
      intro hS
      have hn75:r=L.length:=by omega
      have hx74:i<L.length:=by omega
      refine RH.indexW (d:=some 46) (r:=[(17,.seq),(18,.qui),(19,.seq)]) (T:=74) (e:=28) (m:=1) (ik:=.i64) (ix:=(i:Int)) (sh:=SB) (xs:=L) (a:=(some ⟨lb,0,none⟩)) (len:=r) (cap:=lc) (by as_aux_lemma=>kernel_rfl) hS (by as_aux_lemma=>kernel_rfl) rfl H i (by omega) hx74 hn75 ?_
      intro b76 es77 ha78 hcell79 hr80
      cases ha78
      obtain⟨a81,k82,rfl⟩:=Shape.slice_form' hr80
      have H:=H.add (F:=Rp SB [.slice a81 (L[i]).length k82] (L[i])) hr80
      have Hr:=H
      refine RH.sto ?_
      refine RW.storeWC (d:=none) (r:=[]) (e:=28) (m:=1) (b:=lb) (k:=i) (v:=.slice a35 (L[dn]).length k36) (by as_aux_lemma=>kernel_rfl) rfl (by as_aux_lemma=>kernel_rfl) H rfl hx74 hn75 (L[dn]) (H.rp 2 rfl) ?_
      intro w84 hch83 H
      have hS85:=hS.sto hch83 (.inr (by simp))
      refine⟨hS85,?_⟩
      have hS:=hS85
      have hn87:r=(L.set i (L[dn])).length:=by rw[List.length_set];omega
      have hx86:dn<(L.set i (L[dn])).length:=by rw[List.length_set];omega
      refine RH.indexW (d:=some 47) (r:=[(19,.seq)]) (T:=74) (e:=28) (m:=1) (ik:=.i64) (ix:=(dn:Int)) (sh:=SB) (xs:=L.set i (L[dn])) (a:=(some ⟨lb,0,none⟩)) (len:=r) (cap:=lc) (by as_aux_lemma=>kernel_rfl) hS (by as_aux_lemma=>kernel_rfl) rfl H dn (by omega) hx86 hn87 ?_
      intro b88 es89 ha90 hcell91 hr92
      cases ha90
      obtain⟨a93,k94,rfl⟩:=Shape.slice_form' hr92
      have H:=H.add (F:=Rp SB [.slice a93 (((L.set i (L[dn]))[dn]).length) k94] ((L.set i (L[dn]))[dn])) hr92
      refine RH.sto ?_
      refine RW.storeWC (d:=none) (r:=[]) (e:=28) (m:=1) (b:=lb) (k:=dn) (v:=.slice a44 (L[i]).length k45) (by as_aux_lemma=>kernel_rfl) rfl (by as_aux_lemma=>kernel_rfl) H rfl hx86 hn87 (L[i]) (H.rp 2 rfl) ?_
      intro w96 hch95 H
      have H:=H.reW (ys:=swapL L i dn) (by unfold swapL;rw[rowAt_eq (show dn<L.length by omega),rowAt_eq (show i<L.length by omega)])
      have hS97:=hS.sto hch95 (.inr (by simp))
      refine⟨hS97,?_⟩
      have hS:=hS97
      refine RH.fin hS 0 [1,2,5,6,7] [(1,.I cols),(2,.P b1 0),(5,.I dn),(6,.I cc),(7,.I i)] (by as_aux_lemma=>kernel_rfl) ?_
      have H:=H.pick [] rfl
      exact hJ24 _ H
    ·
     refine qR 1 [.c [2,0,1,0,0,1,0,0,1,0,0,1,0,0,1,0,1,0],.c [2,0,1,0,0,1,0,0,1,0,0,1,0,0,1,0,2],.b 3,.c [2,0,1,0,0,1,0,0,1,0,0,2],.l [2,0,1,0,0,1,0,0,1,0,0],.b 2,.b 1,.c [2,0,1,0,0,2],.l [2,0,1,0,0],.b 0,.c [3]] [(1,.I cols),(2,.P b1 0),(5,.I dn),(6,.I cc),(7,.I i)] ?_
     refine WK.joinW (fun w_=>Hp w S O [(b1,.cells #[.slice (some ⟨lb,0,none⟩) r lc,.slice (some ⟨rb,0,none⟩) r rc] 259 (0,0))] [⟨SB,28,.slice (some ⟨lb,0,none⟩) r lc,(swapL L i dn)⟩,⟨SB,28,.slice (some ⟨rb,0,none⟩) r rc,(swapL R i dn)⟩] [] w_) [(1,.I cols),(2,.P b1 0),(5,.I dn),(6,.I cc)] [Cq Tryz.prog 174 [2,0,1,0,0,1,0,0,1,0,0,1,0,0,1,0,2],.inBlock 3,Cq Tryz.prog 174 [2,0,1,0,0,1,0,0,1,0,0,2],Lq Tryz.prog 174 [2,0,1,0,0,1,0,0,1,0,0],.inBlock 2,.inBlock 1,Cq Tryz.prog 174 [2,0,1,0,0,2],Lq Tryz.prog 174 [2,0,1,0,0],.inBlock 0,Cq Tryz.prog 174 [3]] (fun hJ98=>?_) (fun w99 H=>?_)
     ·
      refine WK.drawH1 [rb] (.node (qs [0,1,2,3,4,5,6,7,8,9,11,12,13,14]) (.cons 10 (.leaf [(15,.seq),(16,.qui),(17,.seq),(18,.qui),(19,.seq)]) (.cons 15 (.leaf [(10,.seq),(16,.qui),(17,.seq),(18,.qui),(19,.seq)]) .nil))) Tryz_mixed (by as_aux_lemma=>kernel_rfl) (by as_aux_lemma=>kernel_rfl) ?_
      intro w100 hw101
      have H:=H.draw
      rw[←hw101]at H
      clear hw101
      have hS:=Chg.refl w100 [rb]
      refine RG.node' (qs [0,1,2,3,4,5,6,7,8,9,11,12,13,14]) (by as_aux_lemma=>kernel_rfl) ?_
      refine qHP hS 1 (qs [1,2,3,4,5,6,7,8,9,11,12,13,14]) [(1,.I cols),(2,.P b1 0),(5,.I dn),(6,.I cc),(7,.I i),(48,.P b1 1)] ?_
      refine RH.load (d:=some 49) (r:=(qs [2,3,4,5,6,7,8,9,11,12,13,14])) (T:=74) (b:=b1) (o':=1) (k:=1) (v:=.slice (some ⟨rb,0,none⟩) r rc) (by as_aux_lemma=>kernel_rfl) hS (H.cells 0 rfl) (by intro hq;simp only[List.mem_cons,List.not_mem_nil,or_false]at hq;exact H.neMW 0 rfl 1 rfl hq) (by simp) rfl (by as_aux_lemma=>kernel_rfl) ?_
      refine qHP hS 2 (qs [4,5,6,7,8,9,11,12,13,14]) [(1,.I cols),(2,.P b1 0),(5,.I dn),(6,.I cc),(7,.I i),(49,.slice (some ⟨rb,0,none⟩) r rc),(50,.I i),(51,.P b1 1)] ?_
      refine RH.load (d:=some 52) (r:=(qs [5,6,7,8,9,11,12,13,14])) (T:=74) (b:=b1) (o':=1) (k:=1) (v:=.slice (some ⟨rb,0,none⟩) r rc) (by as_aux_lemma=>kernel_rfl) hS (H.cells 0 rfl) (by intro hq;simp only[List.mem_cons,List.not_mem_nil,or_false]at hq;exact H.neMW 0 rfl 1 rfl hq) (by simp) rfl (by as_aux_lemma=>kernel_rfl) ?_
      refine qHP hS 2 (qs [7,8,9,11,12,13,14]) [(1,.I cols),(2,.P b1 0),(5,.I dn),(6,.I cc),(7,.I i),(49,.slice (some ⟨rb,0,none⟩) r rc),(50,.I i),(52,.slice (some ⟨rb,0,none⟩) r rc),(53,.I dn),(54,.P b1 1)] ?_
      refine RH.load (d:=some 55) (r:=(qs [8,9,11,12,13,14])) (T:=74) (b:=b1) (o':=1) (k:=1) (v:=.slice (some ⟨rb,0,none⟩) r rc) (by as_aux_lemma=>kernel_rfl) hS (H.cells 0 rfl) (by intro hq;simp only[List.mem_cons,List.not_mem_nil,or_false]at hq;exact H.neMW 0 rfl 1 rfl hq) (by simp) rfl (by as_aux_lemma=>kernel_rfl) ?_
      refine qHP hS 1 (qs [9,11,12,13,14]) [(1,.I cols),(2,.P b1 0),(5,.I dn),(6,.I cc),(7,.I i),(49,.slice (some ⟨rb,0,none⟩) r rc),(50,.I i),(52,.slice (some ⟨rb,0,none⟩) r rc),(53,.I dn),(55,.slice (some ⟨rb,0,none⟩) r rc),(56,.I dn)] ?_
      have H:=H.frontW 1 (W':=[⟨SB,28,.slice (some ⟨rb,0,none⟩) r rc,R⟩,⟨SB,28,.slice (some ⟨lb,0,none⟩) r lc,(swapL L i dn)⟩]) rfl
      have hn103:r=R.length:=by omega
      have hx102:dn<R.length:=by omega
      refine RH.indexW (d:=some 57) (r:=(qs [11,12,13,14])) (T:=74) (e:=28) (m:=1) (ik:=.i64) (ix:=(dn:Int)) (sh:=SB) (xs:=R) (a:=(some ⟨rb,0,none⟩)) (len:=r) (cap:=rc) (by as_aux_lemma=>kernel_rfl) hS (by as_aux_lemma=>kernel_rfl) rfl H dn (by omega) hx102 hn103 ?_
      intro b104 es105 ha106 hcell107 hr108
      cases ha106
      obtain⟨a109,k110,rfl⟩:=Shape.slice_form' hr108
      have H:=H.add (F:=Rp SB [.slice a109 (R[dn]).length k110] (R[dn])) hr108
      refine qHP hS 1 (qs [12,13,14]) [(1,.I cols),(2,.P b1 0),(5,.I dn),(6,.I cc),(7,.I i),(49,.slice (some ⟨rb,0,none⟩) r rc),(50,.I i),(52,.slice (some ⟨rb,0,none⟩) r rc),(53,.I dn),(57,.pointer (some ⟨rb,dn*1,none⟩)),(59,.P b1 1)] ?_
      refine RH.load (d:=some 60) (r:=(qs [13,14])) (T:=74) (b:=b1) (o':=1) (k:=1) (v:=.slice (some ⟨rb,0,none⟩) r rc) (by as_aux_lemma=>kernel_rfl) hS (H.cells 0 rfl) (by intro hq;simp only[List.mem_cons,List.not_mem_nil,or_false]at hq;exact H.neMW 0 rfl 0 rfl hq) (by simp) rfl (by as_aux_lemma=>kernel_rfl) ?_
      refine qHP hS 1 [(14,.qui)] [(1,.I cols),(2,.P b1 0),(5,.I dn),(6,.I cc),(49,.slice (some ⟨rb,0,none⟩) r rc),(50,.I i),(52,.slice (some ⟨rb,0,none⟩) r rc),(53,.I dn),(57,.pointer (some ⟨rb,dn*1,none⟩)),(60,.slice (some ⟨rb,0,none⟩) r rc),(61,.I i)] ?_
      have hn112:r=R.length:=by omega
      have hx111:i<R.length:=by omega
      refine RH.indexW (d:=some 62) (r:=[]) (T:=74) (e:=28) (m:=1) (ik:=.i64) (ix:=(i:Int)) (sh:=SB) (xs:=R) (a:=(some ⟨rb,0,none⟩)) (len:=r) (cap:=rc) (by as_aux_lemma=>kernel_rfl) hS (by as_aux_lemma=>kernel_rfl) rfl H i (by omega) hx111 hn112 ?_
      intro b113 es114 ha115 hcell116 hr117
      cases ha115
      obtain⟨a118,k119,rfl⟩:=Shape.slice_form' hr117
      have H:=H.add (F:=Rp SB [.slice a118 (R[i]).length k119] (R[i])) hr117
      refine RH.finB hS 0 [1,2,5,6,49,50,52,53,57,62] [(1,.I cols),(2,.P b1 0),(5,.I dn),(6,.I cc),(49,.slice (some ⟨rb,0,none⟩) r rc),(50,.I i),(52,.slice (some ⟨rb,0,none⟩) r rc),(53,.I dn),(57,.pointer (some ⟨rb,dn*1,none⟩)),(62,.pointer (some ⟨rb,i*1,none⟩))] (by as_aux_lemma=>kernel_rfl) ?_
      refine(RGB.cons' ?_ (RGB.cons' ?_ RGB.nil'))
      ·
       refine RG.leaf' [(10,.seq),(15,.seq),(16,.qui),(17,.seq),(18,.qui),(19,.seq)] (by as_aux_lemma=>kernel_rfl) ?_
       have Hr:=H
       refine RH.chn hS ?_
       refine qL .chn 58 [] 28 rb (dn*1) 0 (.slice a109 (R[dn]).length k110) hcell107 ?_
       intro hS
       have Hr:=H
       refine RH.chn hS ?_
       refine qL .chn 63 [] 28 rb (i*1) 0 (.slice a118 (R[i]).length k119) hcell116 ?_
       intro hS
       have hn123:r=R.length:=by omega
       have hx122:i<R.length:=by omega
       refine RH.indexW (d:=some 64) (r:=[(17,.seq),(18,.qui),(19,.seq)]) (T:=74) (e:=28) (m:=1) (ik:=.i64) (ix:=(i:Int)) (sh:=SB) (xs:=R) (a:=(some ⟨rb,0,none⟩)) (len:=r) (cap:=rc) (by as_aux_lemma=>kernel_rfl) hS (by as_aux_lemma=>kernel_rfl) rfl H i (by omega) hx122 hn123 ?_
       intro b124 es125 ha126 hcell127 hr128
       cases ha126
       obtain⟨a129,k130,rfl⟩:=Shape.slice_form' hr128
       have H:=H.add (F:=Rp SB [.slice a129 (R[i]).length k130] (R[i])) hr128
       have Hr:=H
       refine RH.sto ?_
       refine RW.storeWC (d:=none) (r:=[]) (e:=28) (m:=1) (b:=rb) (k:=i) (v:=.slice a109 (R[dn]).length k110) (by as_aux_lemma=>kernel_rfl) rfl (by as_aux_lemma=>kernel_rfl) H rfl hx122 hn123 (R[dn]) (H.rp 2 rfl) ?_
       intro w132 hch131 H
       have hS133:=hS.sto hch131 (.inr (by simp))
       refine⟨hS133,?_⟩
       have hS:=hS133
       have hn135:r=(R.set i (R[dn])).length:=by rw[List.length_set];omega
       have hx134:dn<(R.set i (R[dn])).length:=by rw[List.length_set];omega
       refine RH.indexW (d:=some 65) (r:=[(19,.seq)]) (T:=74) (e:=28) (m:=1) (ik:=.i64) (ix:=(dn:Int)) (sh:=SB) (xs:=R.set i (R[dn])) (a:=(some ⟨rb,0,none⟩)) (len:=r) (cap:=rc) (by as_aux_lemma=>kernel_rfl) hS (by as_aux_lemma=>kernel_rfl) rfl H dn (by omega) hx134 hn135 ?_
       intro b136 es137 ha138 hcell139 hr140
       cases ha138
       obtain⟨a141,k142,rfl⟩:=Shape.slice_form' hr140
       have H:=H.add (F:=Rp SB [.slice a141 (((R.set i (R[dn]))[dn]).length) k142] ((R.set i (R[dn]))[dn])) hr140
       refine RH.sto ?_
       refine RW.storeWC (d:=none) (r:=[]) (e:=28) (m:=1) (b:=rb) (k:=dn) (v:=.slice a118 (R[i]).length k119) (by as_aux_lemma=>kernel_rfl) rfl (by as_aux_lemma=>kernel_rfl) H rfl hx134 hn135 (R[i]) (H.rp 2 rfl) ?_
       intro w144 hch143 H
       have H:=H.reW (ys:=swapL R i dn) (by unfold swapL;rw[rowAt_eq (show dn<R.length by omega),rowAt_eq (show i<R.length by omega)])
       have hS145:=hS.sto hch143 (.inr (by simp))
       refine⟨hS145,?_⟩
       have hS:=hS145
       refine RH.fin hS 0 [1,2,5,6] [(1,.I cols),(2,.P b1 0),(5,.I dn),(6,.I cc)] (by as_aux_lemma=>kernel_rfl) ?_
       have H:=H.pick [] rfl
       have H:=H.frontW 1 (W':=[⟨SB,28,.slice (some ⟨lb,0,none⟩) r lc,(swapL L i dn)⟩,⟨SB,28,.slice (some ⟨rb,0,none⟩) r rc,swapL R i dn⟩]) rfl
       exact hJ98 _ H
      ·
       refine RG.leaf' [(15,.seq),(10,.seq),(16,.qui),(17,.seq),(18,.qui),(19,.seq)] (by as_aux_lemma=>kernel_rfl) ?_
       have Hr:=H
       refine RH.chn hS ?_
       refine qL .chn 63 [] 28 rb (i*1) 0 (.slice a118 (R[i]).length k119) hcell116 ?_
       intro hS
       have Hr:=H
       refine RH.chn hS ?_
       refine qL .chn 58 [] 28 rb (dn*1) 0 (.slice a109 (R[dn]).length k110) hcell107 ?_
       intro hS
       have hn149:r=R.length:=by omega
       have hx148:i<R.length:=by omega
       refine RH.indexW (d:=some 64) (r:=[(17,.seq),(18,.qui),(19,.seq)]) (T:=74) (e:=28) (m:=1) (ik:=.i64) (ix:=(i:Int)) (sh:=SB) (xs:=R) (a:=(some ⟨rb,0,none⟩)) (len:=r) (cap:=rc) (by as_aux_lemma=>kernel_rfl) hS (by as_aux_lemma=>kernel_rfl) rfl H i (by omega) hx148 hn149 ?_
       intro b150 es151 ha152 hcell153 hr154
       cases ha152
       obtain⟨a155,k156,rfl⟩:=Shape.slice_form' hr154
       have H:=H.add (F:=Rp SB [.slice a155 (R[i]).length k156] (R[i])) hr154
       have Hr:=H
       refine RH.sto ?_
       refine RW.storeWC (d:=none) (r:=[]) (e:=28) (m:=1) (b:=rb) (k:=i) (v:=.slice a109 (R[dn]).length k110) (by as_aux_lemma=>kernel_rfl) rfl (by as_aux_lemma=>kernel_rfl) H rfl hx148 hn149 (R[dn]) (H.rp 2 rfl) ?_
       intro w158 hch157 H
       have hS159:=hS.sto hch157 (.inr (by simp))
       refine⟨hS159,?_⟩
       have hS:=hS159
       have hn161:r=(R.set i (R[dn])).length:=by rw[List.length_set];omega
       have hx160:dn<(R.set i (R[dn])).length:=by rw[List.length_set];omega
       refine RH.indexW (d:=some 65) (r:=[(19,.seq)]) (T:=74) (e:=28) (m:=1) (ik:=.i64) (ix:=(dn:Int)) (sh:=SB) (xs:=R.set i (R[dn])) (a:=(some ⟨rb,0,none⟩)) (len:=r) (cap:=rc) (by as_aux_lemma=>kernel_rfl) hS (by as_aux_lemma=>kernel_rfl) rfl H dn (by omega) hx160 hn161 ?_
       intro b162 es163 ha164 hcell165 hr166
       cases ha164
       obtain⟨a167,k168,rfl⟩:=Shape.slice_form' hr166
       have H:=H.add (F:=Rp SB [.slice a167 (((R.set i (R[dn]))[dn]).length) k168] ((R.set i (R[dn]))[dn])) hr166
       refine RH.sto ?_
       refine RW.storeWC (d:=none) (r:=[]) (e:=28) (m:=1) (b:=rb) (k:=dn) (v:=.slice a118 (R[i]).length k119) (by as_aux_lemma=>kernel_rfl) rfl (by as_aux_lemma=>kernel_rfl) H rfl hx160 hn161 (R[i]) (H.rp 2 rfl) ?_
       intro w170 hch169 H
       have H:=H.reW (ys:=swapL R i dn) (by unfold swapL;rw[rowAt_eq (show dn<R.length by omega),rowAt_eq (show i<R.length by omega)])
       have hS171:=hS.sto hch169 (.inr (by simp))
       refine⟨hS171,?_⟩
       have hS:=hS171
       refine RH.fin hS 0 [1,2,5,6] [(1,.I cols),(2,.P b1 0),(5,.I dn),(6,.I cc)] (by as_aux_lemma=>kernel_rfl) ?_
       have H:=H.pick [] rfl
       have H:=H.frontW 1 (W':=[⟨SB,28,.slice (some ⟨lb,0,none⟩) r lc,(swapL L i dn)⟩,⟨SB,28,.slice (some ⟨rb,0,none⟩) r rc,swapL R i dn⟩]) rfl
       exact hJ98 _ H
     ·
      refine qR 1 [.c [2,0,1,0,0,1,0,0,1,0,0,1,0,0,1,0,2,0],.c [2,0,1,0,0,1,0,0,1,0,0,1,0,0,1,0,3],.b 3,.c [2,0,1,0,0,1,0,0,1,0,0,2],.l [2,0,1,0,0,1,0,0,1,0,0],.b 2,.b 1,.c [2,0,1,0,0,2],.l [2,0,1,0,0],.b 0,.c [3]] [(1,.I cols),(2,.P b1 0),(5,.I dn),(6,.I cc)] ?_
      refine qG (sq 0 4) ?_
      refine qL .seq 66 (sq 1 4) 259 b1 0 0 (.agg #[.slice (some ⟨lb,0,none⟩) r lc,.slice (some ⟨rb,0,none⟩) r rc]) (H.cells 0 rfl) ?_
      refine qP 2 (sq 3 4) [(1,.I cols),(2,.P b1 0),(5,.I dn),(6,.I cc),(66,.agg #[.slice (some ⟨lb,0,none⟩) r lc,.slice (some ⟨rb,0,none⟩) r rc]),(67,.I dn),(68,.I cc)] ?_
      refine RW.callS (d:=some 69) (r:=(sq 4 4)) (g:=221) (args:=#[.agg #[.slice (some ⟨lb,0,none⟩) r lc,.slice (some ⟨rb,0,none⟩) r rc],.I dn,.I cc]) (by as_aux_lemma=>kernel_rfl) (clear_spec ((H.lend (M1:=[]) (W1:=[⟨SB,28,.slice (some ⟨lb,0,none⟩) r lc,(swapL L i dn)⟩,⟨SB,28,.slice (some ⟨rb,0,none⟩) r rc,(swapL R i dn)⟩])).pick [] rfl) hsl hsr hr hcl hcr hcd (at_:=dn) (col:=cc) (by omega) (by omega) hne) ?_
      rintro _ w172⟨rfl,H'⟩
      have H:=H.back (M1:=[]) (W1:=[⟨SB,28,.slice (some ⟨lb,0,none⟩) r lc,(swapL L i dn)⟩,⟨SB,28,.slice (some ⟨rb,0,none⟩) r rc,(swapL R i dn)⟩]) H'
      have H:Hp w S O [(b1,.cells #[.slice (some ⟨lb,0,none⟩) r lc,.slice (some ⟨rb,0,none⟩) r rc] 259 (0,0))] [⟨SB,28,.slice (some ⟨lb,0,none⟩) r lc,(clearL (swapL L i dn) dn cc)⟩,⟨SB,28,.slice (some ⟨rb,0,none⟩) r rc,(clearR (swapL L i dn) (swapL R i dn) dn cc)⟩] [] _:=H
      refine qF 0 [(1,.I cols),(2,.P b1 0),(5,.I dn),(6,.I cc)] ?_
      refine qR 1 [.c [2,0,1,0,0,1,0,0,1,0,0,1,0,0,1,0,3,0],.c [2,0,1,0,0,1,0,0,1,0,0,1,0,0,1,0,4],.b 3,.c [2,0,1,0,0,1,0,0,1,0,0,2],.l [2,0,1,0,0,1,0,0,1,0,0],.b 2,.b 1,.c [2,0,1,0,0,2],.l [2,0,1,0,0],.b 0,.c [3]] [(1,.I cols),(2,.P b1 0),(5,.I dn),(6,.I cc)] ?_
      refine qG (sq 0 3) ?_
      refine qP 1 (sq 1 3) [(1,.I cols),(2,.P b1 0),(5,.I dn),(6,.I cc),(70,.I dn)] ?_
      refine qI .seq 71 (sq 2 3) ((dn:Int)+1) ?_
      refine qF 1 [(1,.I cols),(2,.P b1 0),(5,.I ((dn:Int)+1)),(6,.I cc)] ?_
      refine qR 2 [.c [2,0,1,0,0,2],.l [2,0,1,0,0],.b 0,.c [3]] [(1,.I cols),(2,.P b1 0),(5,.I ((dn:Int)+1)),(6,.I cc)] ?_
      refine qG (sq 0 3) ?_
      refine qP 1 (sq 1 3) [(1,.I cols),(2,.P b1 0),(5,.I ((dn:Int)+1)),(6,.I cc),(11,.I cc)] ?_
      refine qI .seq 12 (sq 2 3) ((cc:Int)+1) ?_
      refine qF 1 [(1,.I cols),(2,.P b1 0),(5,.I ((dn:Int)+1)),(6,.I ((cc:Int)+1))] ?_
      exact WK.back (hback3 (cc+1,dn+1,(clearL (swapL L i dn) dn cc),(clearR (swapL L i dn) (swapL R i dn) dn cc)) _ ⟨H,by omega,by rw[redTo_succ,←hred];first|exact(redStep_hit hfp).symm|exact(redStep_miss hfn).symm,by omega,by first|exact hL|(rw[clearL_len];exact hsl),by first|exact hR|(rw[clearR_len];exact hsr),by first | exact hcL | exact clearL_all hcl (by omega), by first | exact hcR | exact clearR_all hcr (by omega)⟩ (by simp only[]; omega)) (by as_aux_lemma => kernel_rfl)
   ·
    refine qR 2 [.c [2, 0, 1, 0, 0, 1, 0, 0, 1, 0, 0, 2], .l [2, 0, 1, 0, 0, 1, 0, 0, 1, 0, 0], .b 2, .b 1, .c [2, 0, 1, 0, 0, 2], .l [2, 0, 1, 0, 0], .b 0, .c [3]] [(1, .I cols), (2, .P b1 0), (5, .I dn), (6, .I cc), (7, .I i)] ?_
    refine qG (sq 0 3) ?_
    refine qP 1 (sq 1 3) [(1, .I cols), (2, .P b1 0), (5, .I dn), (6, .I cc), (7, .I i), (19, .I i)] ?_
    refine qI .seq 20 (sq 2 3) ((i : Int) + 1) ?_
    refine qF 1 [(1, .I cols), (2, .P b1 0), (5, .I dn), (6, .I cc), (7, .I ((i : Int) + 1))] ?_
    have H := H.pick [] rfl
    exact WK.back (hback6 (i + 1) _ ⟨H, by omega, by omega, fun j h1 h2 => by
     rcases Nat.lt_or_ge j i with h3 | h3
     · exact hinv1.2.2 j h1 h3
     · obtain rfl : j = i := by omega
       rw[entAt_eq hil (by omega)]
       exact bvz0 (by omega)⟩ (by first | omega | (simp only[]; omega))) (by as_aux_lemma => kernel_rfl)
  ·
   have hfn : firstP L cc dn = none := firstP_none fun j h1 h2 => hinv1.2.2 j h1 (by omega)
   refine qR 2 [.c [2, 0, 1, 0, 0, 2], .l [2, 0, 1, 0, 0], .b 0, .c [3]] [(1, .I cols), (2, .P b1 0), (5, .I dn), (6, .I cc)] ?_
   refine qG (sq 0 3) ?_
   refine qP 1 (sq 1 3) [(1, .I cols), (2, .P b1 0), (5, .I dn), (6, .I cc), (11, .I cc)] ?_
   refine qI .seq 12 (sq 2 3) ((cc : Int) + 1) ?_
   refine qF 1 [(1, .I cols), (2, .P b1 0), (5, .I dn), (6, .I ((cc : Int) + 1))] ?_
   exact WK.back (hback3 (cc + 1, dn, L, R) _ ⟨H, by omega, by rw[redTo_succ, ← hred]; first | exact(redStep_hit hfp).symm | exact(redStep_miss hfn).symm, by omega, by first | exact hL | (rw[clearL_len]; exact hsl), by first | exact hR | (rw[clearR_len]; exact hsr), by first | exact hcL | exact clearL_all hcl (by omega), by first | exact hcR | exact clearR_all hcr (by omega)⟩ (by simp only[]; omega)) (by as_aux_lemma => kernel_rfl)
 ·
  refine qR 3 [.c [4]] [(4, .I dn)] ?_
  refine qT (.I dn) Tryz.func174 ?_
  have hce : cc = cols := by omega
  rw[hce]at hred
  have h1 := congrArg (·.1) hred
  have h2 := congrArg (·.2.1) hred
  have h3 := congrArg (·.2.2) hred
  simp only at h1 h2 h3
  rw[← h1, ← h2, ← h3]
  exact⟨_, rfl, rfl, (H.dropM 0).pick [] rfl⟩
theorem invert_spec{S:Nat→Prop}{w:World}{m:List (List (BitVec 8))}{a:Option Addr}{k:Nat}(h:(Shape.slice SB).rep S w [.slice a m.length k] m)(hr:1≤m.length∧m.length≤255)(hc:∀x∈m,x.length=m.length)(hreg:(redTo m (ident m.length) m.length).1=m.length):
 Calls Tryz.prog 113 #[.slice a m.length k] w (Ret fun v w'=>Ext w w'∧∃(a:Option Addr)(c:Nat),v=.tuple #[.slice a m.length c,.I 0]∧Hp w S [] [] [⟨SB,28,.slice a m.length c,(redTo m (ident m.length) m.length).2.2⟩] [] w'):=by
 have hml:=Shape.slice_len h
 have hcb:∀x∈m,x.length≤140737488355328:=fun x hx=>by rw[hc x hx];omega
 refine qS (fn:=Tryz.f113) (n:=34) (σ:=[(0,.slice a m.length k)]) Tryz.func113 ?_
 have H:=Hp.startF (w:=w) (S:=S) (G:=[Rp (Shape.slice SB) [.slice a m.length k] m]) (.rp h .nil)
 refine qR 1 [.c [0],.c [1]] [(0,.slice a m.length k)] ?_
 refine qG (sq 0 2) ?_
 refine qP 1 (sq 1 2) [(0,.slice a m.length k)] ?_
 refine qB .seq 3 (sq 2 2) #[.I 0] 75 H ?_
 intro b1 w2 H
 refine qF 0 [(0,.slice a m.length k),(3,.P b1 0)] ?_
 refine qR 1 [.c [1,0],.c [2]] [(0,.slice a m.length k),(3,.P b1 0)] ?_
 refine WK.defer1 (o:=op1 (cd Tryz.prog 113 [1,0])) ⟨.fn (.func 105) #[],#[.P b1 0]⟩ (by as_aux_lemma=>kernel_rfl) (by as_aux_lemma=>kernel_rfl) (by as_aux_lemma=>kernel_rfl) (by as_aux_lemma=>kernel_rfl) (by as_aux_lemma=>kernel_rfl) ?_
 refine qR 1 [.c [2,0],.c [3]] [(0,.slice a m.length k),(3,.P b1 0)] ?_
 refine qG (sq 0 7) ?_
 refine qP 1 (sq 1 7) [(0,.slice a m.length k),(3,.P b1 0),(10,.slice a m.length k)] ?_
 refine qK .seq (some 11) (sq 2 7) 171 #[.slice a m.length k] (sized_spec (S:=Av S w [] (idsOf [(b1,.cells #[.I 0] 75 (0,0))] [])) (m:=m) (H.rp 0 rfl) (by omega) (c:=m.length) (hc) (hr)) ?_
 rintro _ w3 hE4 rfl
 have H:=H.ext hE4
 refine qF 5 [(0,.slice a m.length k),(3,.P b1 0),(4,.I ((m.length:Nat):Int)),(5,.I ((m.length:Nat):Int))] ?_
 refine qR 1 [.c [3,0],.c [4]] [(0,.slice a m.length k),(3,.P b1 0),(4,.I ((m.length:Nat):Int)),(5,.I ((m.length:Nat):Int))] ?_
 refine qG (sq 0 4) ?_
 refine qP 2 (sq 2 4) [(0,.slice a m.length k),(3,.P b1 0),(4,.I ((m.length:Nat):Int)),(5,.I ((m.length:Nat):Int)),(14,.I ((m.length:Nat):Int)),(15,.I ((m.length:Nat):Int))] ?_
 refine RW.pv (κ:=.seq) (d:=some 16) (r:=(sq 3 4)) (v':=.bool true) (v:=.bool (((m.length:Nat):Int)==((m.length:Nat):Int))) (by as_aux_lemma=>kernel_rfl) (congrArg Value.bool (beq_self_eq_true _)) ?_
 refine qK .seq (some 17) (sq 4 4) 106 #[.bool true] (needs_spec (S:=fun _=>True)) ?_
 rintro _ w5 hE6 rfl
 have H:=H.ext hE6
 refine qF 0 [(0,.slice a m.length k),(3,.P b1 0),(4,.I ((m.length:Nat):Int)),(5,.I ((m.length:Nat):Int))] ?_
 refine qR 1 [.c [4,0],.c [5]] [(0,.slice a m.length k),(3,.P b1 0),(4,.I ((m.length:Nat):Int)),(5,.I ((m.length:Nat):Int))] ?_
 refine qG (sq 0 7) ?_
 refine qP 1 (sq 1 7) [(0,.slice a m.length k),(3,.P b1 0),(4,.I ((m.length:Nat):Int)),(5,.I ((m.length:Nat):Int)),(19,.I ((m.length:Nat):Int))] ?_
 refine qK .seq (some 20) (sq 2 7) 172 #[.I ((m.length:Nat):Int)] (identity_spec (S:=Av S w [] (idsOf [(b1,.cells #[.I 0] 75 (0,0))] [])) (n:=m.length) (by omega)) ?_
 rintro _ w7-⟨a8,c9,rfl,H'⟩
 have H:=H.back (M1:=[]) (W1:=[]) H'
 have H:Hp w S [] [(b1,.cells #[.I 0] 75 (0,0))] [⟨SB,28,.slice a8 (ident m.length).length c9,(ident m.length)⟩] [Rp (Shape.slice SB) [.slice a m.length k] m] _:=H
 refine qF 5 [(0,.slice a m.length k),(3,.P b1 0),(4,.I ((m.length:Nat):Int)),(5,.I ((m.length:Nat):Int)),(6,.slice a8 (ident m.length).length c9)] ?_
 refine qR 1 [.c [5,0],.c [6]] [(0,.slice a m.length k),(3,.P b1 0),(4,.I ((m.length:Nat):Int)),(5,.I ((m.length:Nat):Int)),(6,.slice a8 (ident m.length).length c9)] ?_
 refine qG (sq 0 6) ?_
 refine qP 1 (sq 1 6) [(3,.P b1 0),(4,.I ((m.length:Nat):Int)),(5,.I ((m.length:Nat):Int)),(6,.slice a8 (ident m.length).length c9),(23,.slice a m.length k)] ?_
 refine qK .seq (some 24) (sq 2 6) 173 #[.slice a m.length k] (copied2_spec (m:=m) (H.rp 0 rfl) (by omega) (hcb)) ?_
 rintro v11 w10-H'
 have H:=H.back (M1:=[]) (W1:=[]) H'
 obtain⟨a12,c13,rfl,hc14,hm15⟩:=H.ownForm 0 rfl
 have H:Hp w S [] [(b1,.cells #[.I 0] 75 (0,0))] [⟨SB,28,.slice a12 m.length c13,m⟩,⟨SB,28,.slice a8 (ident m.length).length c9,(ident m.length)⟩] [Rp (Shape.slice SB) [.slice a m.length k] m] _:=H
 refine qP 2 (sq 4 6) [(3,.P b1 0),(4,.I ((m.length:Nat):Int)),(5,.I ((m.length:Nat):Int)),(26,.agg #[.slice a12 m.length c13,.slice a8 (ident m.length).length c9])] ?_
 refine qB .seq 8 (sq 5 6) #[.slice none 0 0,.slice none 0 0] 259 H ?_
 intro b16 w17 H
 refine qW 259 b16 0 (sq 6 6) (.agg #[.slice a12 m.length c13,.slice a8 (ident m.length).length c9]) [(b16,.cells #[.slice a12 m.length c13,.slice a8 (ident m.length).length c9] 259 (0,0)),(b1,.cells #[.I 0] 75 (0,0))] H 0 rfl rfl ?_
 intro w18 H
 refine qF 0 [(3,.P b1 0),(4,.I ((m.length:Nat):Int)),(5,.I ((m.length:Nat):Int)),(8,.P b16 0)] ?_
 refine qR 2 [.c [6,0,0],.c [6,0,1],.c [7]] [(3,.P b1 0),(4,.I ((m.length:Nat):Int)),(5,.I ((m.length:Nat):Int)),(8,.P b16 0)] ?_
 refine qG (sq 0 5) ?_
 refine qL .seq 27 (sq 1 5) 259 b16 0 0 (.agg #[.slice a12 m.length c13,.slice a8 (ident m.length).length c9]) (H.cells 0 rfl) ?_
 refine qP 1 (sq 2 5) [(3,.P b1 0),(4,.I ((m.length:Nat):Int)),(8,.P b16 0),(27,.agg #[.slice a12 m.length c13,.slice a8 (ident m.length).length c9]),(28,.I ((m.length:Nat):Int))] ?_
 obtain⟨lb,hlb⟩:=H.ownLit (by first|omega|(rw[ident_len];omega)) rfl
 subst hlb
 have H:=H.frontW 1 (W':=[⟨SB,28,.slice a8 (ident m.length).length c9,(ident m.length)⟩,⟨SB,28,.slice (some ⟨lb,0,none⟩) m.length c13,m⟩]) rfl
 obtain⟨rb,hrb⟩:=H.ownLit (by first|omega|(rw[ident_len];omega)) rfl
 subst hrb
 have hil:=ident_len m.length
 rw[hil]at H
 try rw[hil]
 have H:=H.frontW 1 (W':=[⟨SB,28,.slice (some ⟨lb,0,none⟩) m.length c13,m⟩,⟨SB,28,.slice (some ⟨rb,0,none⟩) m.length c9,(ident m.length)⟩]) rfl
 refine RW.callS (d:=some 29) (r:=(sq 3 5)) (g:=174) (args:=#[.agg #[.slice (some ⟨lb,0,none⟩) m.length c13,.slice (some ⟨rb,0,none⟩) m.length c9],.I ((m.length:Nat):Int)]) (by as_aux_lemma=>kernel_rfl) (reduce_spec (cols:=m.length) ((H.lend (M1:=[]) (W1:=[⟨SB,28,.slice (some ⟨lb,0,none⟩) m.length c13,m⟩,⟨SB,28,.slice (some ⟨rb,0,none⟩) m.length c9,(ident m.length)⟩])).pick [] rfl) rfl hil (by omega) hc (ident_all m.length) (by omega) (Nat.le_refl _)) ?_
 rintro _ w19⟨rfl,H'⟩
 have H:=H.back (M1:=[]) (W1:=[⟨SB,28,.slice (some ⟨lb,0,none⟩) m.length c13,m⟩,⟨SB,28,.slice (some ⟨rb,0,none⟩) m.length c9,(ident m.length)⟩]) H'
 have H:Hp w S [] [(b16,.cells #[.slice (some ⟨lb,0,none⟩) m.length c13,.slice (some ⟨rb,0,none⟩) m.length c9] 259 (0,0)),(b1,.cells #[.I 0] 75 (0,0))] [⟨SB,28,.slice (some ⟨lb,0,none⟩) m.length c13,(redTo m (ident m.length) m.length).2.1⟩,⟨SB,28,.slice (some ⟨rb,0,none⟩) m.length c9,(redTo m (ident m.length) m.length).2.2⟩] [Rp (Shape.slice SB) [.slice a m.length k] m] _:=H
 refine qF 2 [(3,.P b1 0),(8,.P b16 0),(31,.bool (decide (((((redTo m (ident m.length) m.length).1:Nat):Int):Int)<((m.length:Nat):Int))))] ?_
 refine qD (((((redTo m (ident m.length) m.length).1:Nat):Int):Int)<((m.length:Nat):Int)) (fun h20=>?_) (fun h20=>?_)
 ·
  omega
 ·
  refine qR 2 [.c [7,0],.c [8]] [(3,.P b1 0),(8,.P b16 0)] ?_
  refine qG (sq 0 4) ?_
  refine qP 1 (sq 1 4) [(3,.P b1 0),(32,.P b16 1)] ?_
  refine qL .seq 33 (sq 2 4) 74 b16 1 1 (.slice (some ⟨rb,0,none⟩) m.length c9) (H.cells 0 rfl) ?_
  refine qP 1 (sq 3 4) [(2,.slice (some ⟨rb,0,none⟩) m.length c9),(3,.P b1 0)] ?_
  refine qW 75 b1 0 (sq 4 4) (.I 0) [(b16,.cells #[.slice (some ⟨lb,0,none⟩) m.length c13,.slice (some ⟨rb,0,none⟩) m.length c9] 259 (0,0)),(b1,.cells #[.I 0] 75 (0,0))] H 1 rfl rfl ?_
  intro w21 H
  refine qF 0 [(2,.slice (some ⟨rb,0,none⟩) m.length c9),(3,.P b1 0)] ?_
  refine WK.retD (v:=.tuple #[.slice (some ⟨rb,0,none⟩) m.length c9,.I 0]) Tryz.func113 (by as_aux_lemma=>kernel_rfl) (refused_defer ⟨b1,0,none⟩) (RV.res2 (x:=.tmp 2) (y:=.cell 3 75) (by as_aux_lemma=>kernel_rfl) (RV.tmp (by as_aux_lemma=>kernel_rfl)) (RV.cell (k:=0) (by as_aux_lemma=>kernel_rfl) (H.cells 1 rfl) rfl (by as_aux_lemma=>kernel_rfl))) ?_
  have H:=H.frontW 1 (W':=[⟨SB,28,.slice (some ⟨rb,0,none⟩) m.length c9,(redTo m (ident m.length) m.length).2.2⟩,⟨SB,28,.slice (some ⟨lb,0,none⟩) m.length c13,(redTo m (ident m.length) m.length).2.1⟩]) rfl
  have H:=H.drop (M':=[]) (W':=[_]) (List.nil_sublist _) (List.cons_sublist_cons.2 (List.nil_sublist _))
  exact⟨_,rfl,H.done,_,_,rfl,H.pick [] rfl⟩
theorem pickL_len(m:List (List (BitVec 8)))(rows:List Int):(pickL m rows).length=rows.length:=by simp[pickL]
theorem pickL_take{m:List (List (BitVec 8))}{rows:List Int}{i:Nat}(hi:i<rows.length)(h:(rows[i]).toNat<m.length):(pickL m rows).take i++[m[(rows[i]).toNat]]=(pickL m rows).take (i+1):=by
 rw[List.take_succ_eq_append_getElem (by rw[pickL_len];exact hi)]
 simp only[pickL,List.getElem_map]
 rw[rowAt_eq h]
theorem pick_spec{S:Nat→Prop}{w:World}{m:List (List (BitVec 8))}{a:Option Addr}{k:Nat}(h:(Shape.slice SB).rep S w [.slice a m.length k] m){rows:List Int}{b:Option Addr}{kr:Nat}(h2:(Shape.slice (Shape.int .i64)).rep S w [.slice b rows.length kr] rows)(hr:1≤m.length∧m.length≤255){c:Nat}(hc:∀x∈m,x.length=c)(hc2:1≤c∧c≤255)(hn:1≤rows.length∧rows.length≤255)(hrow:∀x∈rows,0≤x∧x<(m.length:Int)):
 Calls Tryz.prog 112 #[.slice a m.length k,.slice b rows.length kr] w (Ret fun v w'=>Ext w w'∧∃(a:Option Addr)(c:Nat),v=.tuple #[.slice a (pickL m rows).length c,.I 0]∧Hp w S [] [] [⟨SB,28,.slice a (pickL m rows).length c,pickL m rows⟩] [] w'):=by
 have hml:=Shape.slice_len h
 have hrl:=Shape.slice_len h2
 refine qS (fn:=Tryz.f112) (n:=47) (σ:=[(0,.slice a m.length k),(1,.slice b rows.length kr)]) Tryz.func112 ?_
 have H:=Hp.startF (w:=w) (S:=S) (G:=[Rp (Shape.slice SB) [.slice a m.length k] m,Rp (Shape.slice (Shape.int .i64)) [.slice b rows.length kr] rows]) (.rp h (.rp h2 .nil))
 refine qR 1 [.c [0],.c [1]] [(0,.slice a m.length k),(1,.slice b rows.length kr)] ?_
 refine qG (sq 0 2) ?_
 refine qP 1 (sq 1 2) [(0,.slice a m.length k),(1,.slice b rows.length kr),(4,.slice none 0 0)] ?_
 refine qB .seq 5 (sq 2 2) #[.I 0] 75 H ?_
 intro b1 w2 H
 refine qF 0 [(0,.slice a m.length k),(1,.slice b rows.length kr),(4,.slice none 0 0),(5,.P b1 0)] ?_
 refine qR 1 [.c [1,0],.c [2]] [(0,.slice a m.length k),(1,.slice b rows.length kr),(4,.slice none 0 0),(5,.P b1 0)] ?_
 refine WK.defer1 (o:=op1 (cd Tryz.prog 112 [1,0])) ⟨.fn (.func 105) #[],#[.P b1 0]⟩ (by as_aux_lemma=>kernel_rfl) (by as_aux_lemma=>kernel_rfl) (by as_aux_lemma=>kernel_rfl) (by as_aux_lemma=>kernel_rfl) (by as_aux_lemma=>kernel_rfl) ?_
 refine qR 1 [.c [2,0],.c [3]] [(0,.slice a m.length k),(1,.slice b rows.length kr),(4,.slice none 0 0),(5,.P b1 0)] ?_
 refine qG (sq 0 7) ?_
 refine qP 1 (sq 1 7) [(0,.slice a m.length k),(1,.slice b rows.length kr),(4,.slice none 0 0),(5,.P b1 0),(11,.slice a m.length k)] ?_
 refine qK .seq (some 12) (sq 2 7) 171 #[.slice a m.length k] (sized_spec (S:=Av S w [] (idsOf [(b1,.cells #[.I 0] 75 (0,0))] [])) (m:=m) (H.rp 0 rfl) (by omega) (c:=c) (by assumption) (by omega)) ?_
 rintro _ w3 hE4 rfl
 have H:=H.ext hE4
 refine qF 5 [(0,.slice a m.length k),(1,.slice b rows.length kr),(4,.slice none 0 0),(5,.P b1 0),(6,.I ((m.length:Nat):Int))] ?_
 refine qR 1 [.c [3,0],.c [4]] [(0,.slice a m.length k),(1,.slice b rows.length kr),(4,.slice none 0 0),(5,.P b1 0),(6,.I ((m.length:Nat):Int))] ?_
 refine qG (sq 0 9) ?_
 refine qP 2 (sq 2 9) [(0,.slice a m.length k),(1,.slice b rows.length kr),(4,.slice none 0 0),(5,.P b1 0),(6,.I ((m.length:Nat):Int)),(16,.I ((rows.length:Nat):Int))] ?_
 refine RW.pv (κ:=.seq) (d:=some 17) (r:=(sq 3 9)) (v':=.bool true) (v:=.bool (decide ((((rows.length:Nat):Int):Int)>0))) (by as_aux_lemma=>kernel_rfl) (by rw[decide_eq_true (by omega)]) ?_
 refine qP 3 (sq 6 9) [(0,.slice a m.length k),(1,.slice b rows.length kr),(4,.slice none 0 0),(5,.P b1 0),(6,.I ((m.length:Nat):Int)),(18,.bool true),(20,.I ((rows.length:Nat):Int))] ?_
 refine RW.pv (κ:=.seq) (d:=some 21) (r:=(sq 7 9)) (v':=.bool true) (v:=.bool (decide ((((rows.length:Nat):Int):Int)≤255))) (by as_aux_lemma=>kernel_rfl) (by rw[decide_eq_true (by omega)]) ?_
 refine qP 1 (sq 8 9) [(0,.slice a m.length k),(1,.slice b rows.length kr),(4,.slice none 0 0),(5,.P b1 0),(6,.I ((m.length:Nat):Int)),(22,.bool true)] ?_
 refine qK .seq (some 23) (sq 9 9) 106 #[.bool true] (needs_spec (S:=fun _=>True)) ?_
 rintro _ w5 hE6 rfl
 have H:=H.ext hE6
 refine qF 0 [(0,.slice a m.length k),(1,.slice b rows.length kr),(4,.slice none 0 0),(5,.P b1 0),(6,.I ((m.length:Nat):Int))] ?_
 refine qR 4 [.c [4,0,1,0],.b 0,.c [5]] [(0,.slice a m.length k),(4,.slice none 0 0),(5,.P b1 0),(6,.I ((m.length:Nat):Int)),(24,.slice b rows.length kr),(25,.I ((rows.length:Nat):Int)),(26,.I 0)] ?_
 have H:=H.ownNil SB 28
 have H:=H.drop (M':=[(b1,.cells #[.I 0] 75 (0,0))]) (W':=[⟨SB,28,.slice none (((pickL m rows).take 0).length) 0,(pickL m rows).take 0⟩]) (by repeat(first|exact List.Sublist.refl _|exact List.nil_sublist _|apply List.Sublist.cons_cons|apply List.Sublist.cons)) (by repeat(first|exact List.Sublist.refl _|exact List.nil_sublist _|apply List.Sublist.cons_cons|apply List.Sublist.cons))
 refine WK.loop (α:=Nat×Option Addr×Nat) (b:=cd Tryz.prog 112 [4,0,1,0,0]) (by as_aux_lemma=>kernel_rfl) (fun st_=>match st_ with|(i,ao,co)=>[(0,.slice a m.length k),(4,.slice ao (((pickL m rows).take i).length) co),(5,.P b1 0),(6,.I ((m.length:Nat):Int)),(24,.slice b rows.length kr),(25,.I ((rows.length:Nat):Int)),(26,.I i)]) (fun st_ w'=>match st_ with|(i,ao,co)=>Hp w S [] [(b1,.cells #[.I 0] 75 (0,0))] [⟨SB,28,.slice ao (((pickL m rows).take i).length) co,(pickL m rows).take i⟩] [Rp (Shape.slice SB) [.slice a m.length k] m,Rp (Shape.slice (Shape.int .i64)) [.slice b rows.length kr] rows] w'∧i≤rows.length) (fun st_=>match st_ with|(i,ao,co)=>rows.length-i) (0,none,0) ⟨H,Nat.zero_le _⟩ (rfl) ?_
 rintro⟨i,ao,co⟩w8⟨H,hinv0⟩hback7
 refine qR 3 [.c [4,0,1,0,0,1,0],.c [4,0,1,0,0,2],.l [4,0,1,0,0],.b 0,.c [5]] [(0,.slice a m.length k),(4,.slice ao (((pickL m rows).take i).length) co),(5,.P b1 0),(6,.I ((m.length:Nat):Int)),(24,.slice b rows.length kr),(25,.I ((rows.length:Nat):Int)),(26,.I i),(27,.bool (decide (((i:Int):Int)<((rows.length:Nat):Int))))] ?_
 refine qD (((i:Int):Int)<((rows.length:Nat):Int)) (fun h9=>?_) (fun h9=>?_)
 ·
  have hri:=hrow (rows[i]) (List.getElem_mem (by omega))
  have hrm:(rows[i]).toNat<m.length:=by omega
  have hcr:=hc (m[(rows[i]).toNat]) (List.getElem_mem hrm)
  refine qR 4 [.c [4,0,1,0,0,2,0,0,0],.c [4,0,1,0,0,2,0,0,1],.b 1,.c [4,0,1,0,0,3],.l [4,0,1,0,0],.b 0,.c [5]] [(0,.slice a m.length k),(4,.slice ao (((pickL m rows).take i).length) co),(5,.P b1 0),(6,.I ((m.length:Nat):Int)),(24,.slice b rows.length kr),(25,.I ((rows.length:Nat):Int)),(26,.I i)] ?_
  refine qG (sq 0 3) ?_
  have hx10:i<rows.length:=by omega
  refine qX .seq 28 (sq 1 3) 69 3 (i:Int) (Shape.int .i64) (rows[i]) H 1 rfl i (by omega) (List.getElem?_eq_getElem hx10) ?_
  intro b11 o12 es13 hr14 H
  have hb15:=Shape.i64_bd hr14
  obtain⟨rfl,-⟩:=hr14
  refine qL .seq 29 (sq 2 3) 3 b11 o12 0 (.I (rows[i])) (H.fc 0 rfl) ?_
  refine qF 1 [(0,.slice a m.length k),(4,.slice ao (((pickL m rows).take i).length) co),(5,.P b1 0),(6,.I ((m.length:Nat):Int)),(9,.I (rows[i])),(24,.slice b rows.length kr),(25,.I ((rows.length:Nat):Int)),(26,.I i)] ?_
  refine qR 2 [.c [4,0,1,0,0,2,0,0,1,0,0],.c [4,0,1,0,0,2,0,0,1,0,1],.c [4,0,1,0,0,2,0,0,2],.b 1,.c [4,0,1,0,0,3],.l [4,0,1,0,0],.b 0,.c [5]] [(0,.slice a m.length k),(4,.slice ao (((pickL m rows).take i).length) co),(5,.P b1 0),(6,.I ((m.length:Nat):Int)),(9,.I (rows[i])),(24,.slice b rows.length kr),(25,.I ((rows.length:Nat):Int)),(26,.I i)] ?_
  refine qG (sq 0 7) ?_
  refine qP 3 (sq 3 7) [(0,.slice a m.length k),(4,.slice ao (((pickL m rows).take i).length) co),(5,.P b1 0),(6,.I ((m.length:Nat):Int)),(9,.I (rows[i])),(24,.slice b rows.length kr),(25,.I ((rows.length:Nat):Int)),(26,.I i),(32,.bool (decide ((rows[i]:Int)<0)))] ?_
  refine tD (fun b_=>[(0,.slice a m.length k),(4,.slice ao (((pickL m rows).take i).length) co),(5,.P b1 0),(6,.I ((m.length:Nat):Int)),(9,.I (rows[i])),(24,.slice b rows.length kr),(25,.I ((rows.length:Nat):Int)),(26,.I i),(32,.bool b_)]) ((rows[i]:Int)<0) (fun h16=>?_) (fun h16=>?_)
  ·
   omega
  ·
   refine qF 4 [(0,.slice a m.length k),(4,.slice ao (((pickL m rows).take i).length) co),(5,.P b1 0),(6,.I ((m.length:Nat):Int)),(9,.I (rows[i])),(24,.slice b rows.length kr),(25,.I ((rows.length:Nat):Int)),(26,.I i),(36,.bool (decide ((rows[i]:Int)≥((m.length:Nat):Int))))] ?_
   refine qD ((rows[i]:Int)≥((m.length:Nat):Int)) (fun h17=>?_) (fun h17=>?_)
   ·
    omega
   ·
    refine qR 1 [.c [4,0,1,0,0,2,0,0,2],.b 1,.c [4,0,1,0,0,3],.l [4,0,1,0,0],.b 0,.c [5]] [(0,.slice a m.length k),(4,.slice ao (((pickL m rows).take i).length) co),(5,.P b1 0),(6,.I ((m.length:Nat):Int)),(9,.I (rows[i])),(24,.slice b rows.length kr),(25,.I ((rows.length:Nat):Int)),(26,.I i)] ?_
    refine qG (sq 0 9) ?_
    refine qP 3 (sq 3 9) [(0,.slice a m.length k),(4,.slice ao (((pickL m rows).take i).length) co),(5,.P b1 0),(6,.I ((m.length:Nat):Int)),(24,.slice b rows.length kr),(25,.I ((rows.length:Nat):Int)),(26,.I i),(37,.slice ao (((pickL m rows).take i).length) co),(38,.slice a m.length k),(39,.I (rows[i]))] ?_
    have hx18:(rows[i]).toNat<m.length:=hrm
    refine qX .seq 40 (sq 4 9) 74 28 (rows[i]) SB (m[(rows[i]).toNat]) H 1 rfl ((rows[i]).toNat) (by omega) (List.getElem?_eq_getElem hx18) ?_
    intro b19 o20 es21 hr22 H
    obtain⟨a23,k24,rfl⟩:=Shape.slice_form' hr22
    have H:=H.add (F:=Rp SB [.slice a23 ((m[(rows[i]).toNat]).length) k24] (m[(rows[i]).toNat])) hr22
    refine qL .seq 41 (sq 5 9) 28 b19 o20 0 (.slice a23 ((m[(rows[i]).toNat]).length) k24) (H.fc 1 rfl) ?_
    have H:=H.ownNil Sb 5
    have H:Hp w S [] [(b1,.cells #[.I 0] 75 (0,0))] [⟨Sb,5,.slice none 0 0,[]⟩,⟨SB,28,.slice ao (((pickL m rows).take i).length) co,(pickL m rows).take i⟩] [Rp SB [.slice a23 ((m[(rows[i]).toNat]).length) k24] (m[(rows[i]).toNat]),Fc b19 o20 [.slice a23 ((m[(rows[i]).toNat]).length) k24],Fc b11 o12 [.I (rows[i])],Rp (Shape.slice SB) [.slice a m.length k] m,Rp (Shape.slice (Shape.int .i64)) [.slice b rows.length kr] rows] _:=H
    refine RW.appendW (d:=some 42) (r:=(sq 6 9)) (T:=28) (ty:=28) (e:=5) (m:=1) (by_:=1) (v:=.slice none 0 0) (a2:=a23) (l2:=((m[(rows[i]).toNat]).length)) (c2:=k24) (zs:=m[(rows[i]).toNat]) (by as_aux_lemma=>kernel_rfl) (by as_aux_lemma=>kernel_rfl) rfl H 0 rfl 0 rfl (rfl) (by omega) ?_
    intro a25 c26 w28 H hc27
    have H:Hp w S [] [(b1,.cells #[.I 0] 75 (0,0))] [⟨Sb,5,.slice a25 ((m[(rows[i]).toNat]).length) c26,m[(rows[i]).toNat]⟩,⟨SB,28,.slice ao (((pickL m rows).take i).length) co,(pickL m rows).take i⟩] [Rp SB [.slice a23 ((m[(rows[i]).toNat]).length) k24] (m[(rows[i]).toNat]),Fc b19 o20 [.slice a23 ((m[(rows[i]).toNat]).length) k24],Fc b11 o12 [.I (rows[i])],Rp (Shape.slice SB) [.slice a m.length k] m,Rp (Shape.slice (Shape.int .i64)) [.slice b rows.length kr] rows] _:=H
    refine RW.new (κ:=.seq) (d:=some 43) (r:=(sq 7 9)) (o:=.cells #[.slice a25 ((m[(rows[i]).toNat]).length) c26] 28 (0,0)) (v:=fun b=>.slice (some ⟨b,0,none⟩) 1 1) (fun b=>by as_aux_lemma=>kernel_rfl) (nofun) H ?_
    intro b29 w30 H
    have H:Hp w S [] [(b29,.cells #[.slice a25 ((m[(rows[i]).toNat]).length) c26] 28 (0,0)),(b1,.cells #[.I 0] 75 (0,0))] [⟨SB,28,.slice ao (((pickL m rows).take i).length) co,(pickL m rows).take i⟩] [Rp SB [.slice a25 ((m[(rows[i]).toNat]).length) c26] (m[(rows[i]).toNat]),Rp SB [.slice a23 ((m[(rows[i]).toNat]).length) k24] (m[(rows[i]).toNat]),Fc b19 o20 [.slice a23 ((m[(rows[i]).toNat]).length) k24],Fc b11 o12 [.I (rows[i])],Rp (Shape.slice SB) [.slice a m.length k] m,Rp (Shape.slice (Shape.int .i64)) [.slice b rows.length kr] rows] _:=H.freezeW 0 rfl
    have H:=H.freeze 0 rfl SB ([m[(rows[i]).toNat]]:List (List (BitVec 8))) 1 (by simp[maxLen]) (by first|exact Nat.le_refl _|simp) (EsP.cons (c:=[.slice a25 ((m[(rows[i]).toNat]).length) c26]) (H.rp 0 rfl) EsP.nil)
    have H:Hp w S [] [(b1,.cells #[.I 0] 75 (0,0))] [⟨SB,28,.slice ao (((pickL m rows).take i).length) co,(pickL m rows).take i⟩] [Rp (Shape.slice SB) [.slice (some ⟨b29,0,none⟩) 1 1] ([m[(rows[i]).toNat]]:List (List (BitVec 8))),Rp SB [.slice a25 ((m[(rows[i]).toNat]).length) c26] (m[(rows[i]).toNat]),Rp SB [.slice a23 ((m[(rows[i]).toNat]).length) k24] (m[(rows[i]).toNat]),Fc b19 o20 [.slice a23 ((m[(rows[i]).toNat]).length) k24],Fc b11 o12 [.I (rows[i])],Rp (Shape.slice SB) [.slice a m.length k] m,Rp (Shape.slice (Shape.int .i64)) [.slice b rows.length kr] rows] _:=H
    refine RW.appendW (d:=some 44) (r:=(sq 8 9)) (T:=74) (ty:=74) (e:=28) (m:=1) (by_:=24) (v:=.slice ao (((pickL m rows).take i).length) co) (a2:=(some ⟨b29,0,none⟩)) (l2:=1) (c2:=1) (zs:=(pickL m rows).take (i+1)) (by as_aux_lemma=>kernel_rfl) (by as_aux_lemma=>kernel_rfl) rfl H 0 rfl 0 rfl (pickL_take (by omega) hrm) (by rw[List.length_take,pickL_len];omega) ?_
    intro a31 c32 w34 H hc33
    have H:Hp w S [] [(b1,.cells #[.I 0] 75 (0,0))] [⟨SB,28,.slice a31 (((pickL m rows).take (i+1)).length) c32,(pickL m rows).take (i+1)⟩] [Rp (Shape.slice SB) [.slice (some ⟨b29,0,none⟩) 1 1] ([m[(rows[i]).toNat]]:List (List (BitVec 8))),Rp SB [.slice a25 ((m[(rows[i]).toNat]).length) c26] (m[(rows[i]).toNat]),Rp SB [.slice a23 ((m[(rows[i]).toNat]).length) k24] (m[(rows[i]).toNat]),Fc b19 o20 [.slice a23 ((m[(rows[i]).toNat]).length) k24],Fc b11 o12 [.I (rows[i])],Rp (Shape.slice SB) [.slice a m.length k] m,Rp (Shape.slice (Shape.int .i64)) [.slice b rows.length kr] rows] _:=H
    refine qF 1 [(0,.slice a m.length k),(4,.slice a31 (((pickL m rows).take (i+1)).length) c32),(5,.P b1 0),(6,.I ((m.length:Nat):Int)),(24,.slice b rows.length kr),(25,.I ((rows.length:Nat):Int)),(26,.I i)] ?_
    refine qR 1 [.c [4,0,1,0,0,3],.l [4,0,1,0,0],.b 0,.c [5]] [(0,.slice a m.length k),(4,.slice a31 (((pickL m rows).take (i+1)).length) c32),(5,.P b1 0),(6,.I ((m.length:Nat):Int)),(24,.slice b rows.length kr),(25,.I ((rows.length:Nat):Int)),(26,.I i)] ?_
    refine qG (sq 0 2) ?_
    refine qI .seq 45 (sq 1 2) ((i:Int)+1) ?_
    refine qF 1 [(0,.slice a m.length k),(4,.slice a31 (((pickL m rows).take (i+1)).length) c32),(5,.P b1 0),(6,.I ((m.length:Nat):Int)),(24,.slice b rows.length kr),(25,.I ((rows.length:Nat):Int)),(26,.I ((i:Int)+1))] ?_
    have H:=H.pick [5,6] rfl
    exact WK.back (hback7 (i+1,a31,c32) _ ⟨H,by omega⟩ (by first|omega|(simp only[];omega))) (by as_aux_lemma=>kernel_rfl)
 ·
  refine qR 2 [.c [5,0],.c [6]] [(4,.slice ao (((pickL m rows).take i).length) co),(5,.P b1 0)] ?_
  refine qG (sq 0 3) ?_
  refine qP 2 (sq 2 3) [(4,.slice ao (((pickL m rows).take i).length) co),(5,.P b1 0)] ?_
  refine qW 75 b1 0 (sq 3 3) (.I 0) [(b1,.cells #[.I 0] 75 (0,0))] H 0 rfl rfl ?_
  intro w35 H
  refine qF 0 [(4,.slice ao (((pickL m rows).take i).length) co),(5,.P b1 0)] ?_
  refine WK.retD (v:=.tuple #[.slice ao (((pickL m rows).take i).length) co,.I 0]) Tryz.func112 (by as_aux_lemma=>kernel_rfl) (refused_defer ⟨b1,0,none⟩) (RV.res2 (x:=.tmp 4) (y:=.cell 5 75) (by as_aux_lemma=>kernel_rfl) (RV.tmp (by as_aux_lemma=>kernel_rfl)) (RV.cell (k:=0) (by as_aux_lemma=>kernel_rfl) (H.cells 0 rfl) rfl (by as_aux_lemma=>kernel_rfl))) ?_
  have hie:i=rows.length:=by omega
  have hte:(pickL m rows).take i=pickL m rows:=List.take_of_length_le (by rw[pickL_len];omega)
  rw[hte]at H⊢
  have H:=H.drop (M':=[]) (W':=[_]) (List.nil_sublist _) (List.cons_sublist_cons.2 (List.nil_sublist _))
  exact⟨_,rfl,H.done,_,_,rfl,H.pick [] rfl⟩
end Go.Proofs.YtcafjhnjhhicdaaGreatDoor
