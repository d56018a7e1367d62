import Derived.Test.YtcafjhnjhhicdaaGreatDoorSM1
namespace Go.Proofs.YtcafjhnjhhicdaaGreatDoor
open Go.BX
set_option maxHeartbeats 8000000 in
theorem clear_spec{S:Nat→Prop}{w:World}{O:List Nat}{lb lc rb rc r c d:Nat}{L R:List (List (BitVec 8))}(H0:Hp w S O [] [⟨SB,28,.slice (some ⟨lb,0,none⟩) r lc,L⟩,⟨SB,28,.slice (some ⟨rb,0,none⟩) r rc,R⟩] [] w)(hL:L.length=r)(hR:R.length=r)(hr:r≤255)(hcL:∀x∈L,x.length=c)(hcR:∀x∈R,x.length=d)(hcd:c≤255∧d≤255){at_ col:Nat}(hat:at_<r)(hcol:col<c)(hne:entAt L at_ col≠0#8):
 Calls Tryz.prog 221 #[.agg #[.slice (some ⟨lb,0,none⟩) r lc,.slice (some ⟨rb,0,none⟩) r rc],.I at_,.I col] w (Ret fun v w'=>v=.tuple #[]∧Hp w S O [] [⟨SB,28,.slice (some ⟨lb,0,none⟩) r lc,(clearL L at_ col)⟩,⟨SB,28,.slice (some ⟨rb,0,none⟩) r rc,(clearR L R at_ col)⟩] [] w'):=by
 have hLa:=hcL (L[at_]) (List.getElem_mem (by omega))
 have hRa:=hcR (R[at_]) (List.getElem_mem (by omega))
 have hnz:(((L[at_][col]).toNat:Nat):Int)≠0:=fun e=>hne ((entAt_eq (by omega) (by omega)).trans (bvz0 e))
 refine qS (fn:=Tryz.f221) (n:=99) (σ:=[(0,.agg #[.slice (some ⟨lb,0,none⟩) r lc,.slice (some ⟨rb,0,none⟩) r rc]),(1,.I at_),(2,.I col)]) Tryz.func221 ?_
 have H:=H0
 refine qR 1 [.c [0],.c [1]] [(0,.agg #[.slice (some ⟨lb,0,none⟩) r lc,.slice (some ⟨rb,0,none⟩) r rc]),(1,.I at_),(2,.I col)] ?_
 refine qG (sq 0 1) ?_
 refine qB .seq 3 (sq 1 1) #[.slice (some ⟨lb,0,none⟩) r lc,.slice (some ⟨rb,0,none⟩) r rc] 259 H ?_
 intro b1 w2 H
 refine qF 0 [(1,.I at_),(2,.I col),(3,.P b1 0)] ?_
 refine qR 1 [.c [1,0],.c [2]] [(1,.I at_),(2,.I col),(3,.P b1 0)] ?_
 refine qG (sq 0 14) ?_
 refine qP 1 (sq 1 14) [(1,.I at_),(2,.I col),(3,.P b1 0),(12,.P b1 0)] ?_
 refine qL .seq 13 (sq 2 14) 74 b1 0 0 (.slice (some ⟨lb,0,none⟩) r lc) (H.cells 0 rfl) ?_
 refine qP 1 (sq 3 14) [(1,.I at_),(2,.I col),(3,.P b1 0),(13,.slice (some ⟨lb,0,none⟩) r lc),(14,.I at_)] ?_
 have hn4:r=L.length:=by omega
 have hx3:at_<L.length:=by omega
 refine RW.indexW (κ:=.seq) (d:=some 15) (r:=(sq 4 14)) (T:=74) (e:=28) (m:=1) (ik:=.i64) (ix:=(at_:Int)) (sh:=SB) (xs:=L) (a:=(some ⟨lb,0,none⟩)) (len:=r) (cap:=lc) (by as_aux_lemma=>kernel_rfl) (by as_aux_lemma=>kernel_rfl) rfl H at_ (by omega) hx3 hn4 ?_
 intro b5 es6 ha7 hcell8 hr9
 cases ha7
 obtain⟨a10,k11,rfl⟩:=Shape.slice_form' hr9
 have H:=H.add (F:=Rp SB [.slice a10 (L[at_]).length k11] (L[at_])) hr9
 refine qL .seq 16 (sq 5 14) 28 lb (at_*1) 0 (.slice a10 (L[at_]).length k11) hcell8 ?_
 refine qP 1 (sq 6 14) [(1,.I at_),(2,.I col),(3,.P b1 0),(16,.slice a10 (L[at_]).length k11),(17,.I col)] ?_
 have hx12:col<(L[at_]).length:=by omega
 refine qX .seq 18 (sq 7 14) 28 5 (col:Int) Sb ((L[at_])[col]) H 0 rfl col (by omega) (List.getElem?_eq_getElem hx12) ?_
 intro b13 o14 es15 hr16 H
 obtain rfl:=hr16
 refine qL .seq 19 (sq 8 14) 5 b13 o14 0 (.int .u8 ((((L[at_])[col]).toNat:Nat):Int)) (H.fc 0 rfl) ?_
 refine qK .seq (some 20) (sq 9 14) 107 #[.int .u8 1,.int .u8 ((((L[at_])[col]).toNat:Nat):Int)] (div1_spec (S:=fun _=>True) ((L[at_])[col]) (by assumption)) ?_
 rintro _ w17 hE18 rfl
 have H:=H.ext hE18
 refine qF 5 [(1,.I at_),(2,.I col),(3,.P b1 0),(6,.int .u8 (((ginv ((L[at_])[col])).toNat:Nat):Int))] ?_
 refine qR 1 [.c [2,0],.c [3]] [(1,.I at_),(2,.I col),(3,.P b1 0),(6,.int .u8 (((ginv ((L[at_])[col])).toNat:Nat):Int))] ?_
 refine WK.joinW (fun w_=>Hp w S O [(b1,.cells #[.slice (some ⟨lb,0,none⟩) r lc,.slice (some ⟨rb,0,none⟩) r rc] 259 (0,0))] [⟨SB,28,.slice (some ⟨lb,0,none⟩) r lc,(L.set at_ (scaleL L[at_] (ginv (L[at_])[col])))⟩,⟨SB,28,.slice (some ⟨rb,0,none⟩) r rc,(R.set at_ (scaleL R[at_] (ginv (L[at_])[col])))⟩] [] w_) [(1,.I at_),(2,.I col),(3,.P b1 0)] [Cq Tryz.prog 221 [3]] (fun hJ19=>?_) (fun w20 H=>?_)
 ·
  refine WK.drawH1 [lb,rb] (.node (qs [0,1,2,3,4,5,6,7,8,9,11,13,14,15,16,18]) (.cons 10 (.node [] (.cons 12 (.leaf [(17,.seq),(19,.seq),(20,.qui),(21,.seq),(22,.qui),(23,.seq)]) (.cons 17 (.leaf [(12,.seq),(19,.seq),(20,.qui),(21,.seq),(22,.qui),(23,.seq)]) .nil))) (.cons 17 (.leaf [(10,.seq),(12,.seq),(19,.seq),(20,.qui),(21,.seq),(22,.qui),(23,.seq)]) .nil))) Tryz_mixed (by as_aux_lemma=>kernel_rfl) (by as_aux_lemma=>kernel_rfl) ?_
  intro w21 hw22
  have H:=H.draw
  rw[←hw22]at H
  clear hw22
  have hS:=Chg.refl w21 [lb,rb]
  refine RG.node' (qs [0,1,2,3,4,5,6,7,8,9,11,13,14,15,16,18]) (by as_aux_lemma=>kernel_rfl) ?_
  refine qHP hS 1 (qs [1,2,3,4,5,6,7,8,9,11,13,14,15,16,18]) [(1,.I at_),(2,.I col),(3,.P b1 0),(6,.int .u8 (((ginv ((L[at_])[col])).toNat:Nat):Int)),(23,.P b1 0)] ?_
  refine RH.load (d:=some 24) (r:=(qs [2,3,4,5,6,7,8,9,11,13,14,15,16,18])) (T:=74) (b:=b1) (o':=0) (k:=0) (v:=.slice (some ⟨lb,0,none⟩) r lc) (by as_aux_lemma=>kernel_rfl) hS (H.cells 0 rfl) (by intro hq;simp only[List.mem_cons,List.not_mem_nil,or_false]at hq;rcases hq with hq|hq;exact H.neMW 0 rfl 0 rfl hq;exact H.neMW 0 rfl 1 rfl hq) (by simp) rfl (by as_aux_lemma=>kernel_rfl) ?_
  refine qHP hS 2 (qs [4,5,6,7,8,9,11,13,14,15,16,18]) [(1,.I at_),(2,.I col),(3,.P b1 0),(6,.int .u8 (((ginv ((L[at_])[col])).toNat:Nat):Int)),(24,.slice (some ⟨lb,0,none⟩) r lc),(25,.I at_),(26,.P b1 1)] ?_
  refine RH.load (d:=some 27) (r:=(qs [5,6,7,8,9,11,13,14,15,16,18])) (T:=74) (b:=b1) (o':=1) (k:=1) (v:=.slice (some ⟨rb,0,none⟩) r rc) (by as_aux_lemma=>kernel_rfl) hS (H.cells 0 rfl) (by intro hq;simp only[List.mem_cons,List.not_mem_nil,or_false]at hq;rcases hq with hq|hq;exact H.neMW 0 rfl 0 rfl hq;exact H.neMW 0 rfl 1 rfl hq) (by simp) rfl (by as_aux_lemma=>kernel_rfl) ?_
  refine qHP hS 2 (qs [7,8,9,11,13,14,15,16,18]) [(1,.I at_),(2,.I col),(3,.P b1 0),(6,.int .u8 (((ginv ((L[at_])[col])).toNat:Nat):Int)),(24,.slice (some ⟨lb,0,none⟩) r lc),(25,.I at_),(27,.slice (some ⟨rb,0,none⟩) r rc),(28,.I at_),(29,.P b1 0)] ?_
  refine RH.load (d:=some 30) (r:=(qs [8,9,11,13,14,15,16,18])) (T:=74) (b:=b1) (o':=0) (k:=0) (v:=.slice (some ⟨lb,0,none⟩) r lc) (by as_aux_lemma=>kernel_rfl) hS (H.cells 0 rfl) (by intro hq;simp only[List.mem_cons,List.not_mem_nil,or_false]at hq;rcases hq with hq|hq;exact H.neMW 0 rfl 0 rfl hq;exact H.neMW 0 rfl 1 rfl hq) (by simp) rfl (by as_aux_lemma=>kernel_rfl) ?_
  refine qHP hS 1 (qs [9,11,13,14,15,16,18]) [(1,.I at_),(2,.I col),(3,.P b1 0),(6,.int .u8 (((ginv ((L[at_])[col])).toNat:Nat):Int)),(24,.slice (some ⟨lb,0,none⟩) r lc),(25,.I at_),(27,.slice (some ⟨rb,0,none⟩) r rc),(28,.I at_),(30,.slice (some ⟨lb,0,none⟩) r lc),(31,.I at_)] ?_
  have hn24:r=L.length:=by omega
  have hx23:at_<L.length:=by omega
  refine RH.indexW (d:=some 32) (r:=(qs [11,13,14,15,16,18])) (T:=74) (e:=28) (m:=1) (ik:=.i64) (ix:=(at_:Int)) (sh:=SB) (xs:=L) (a:=(some ⟨lb,0,none⟩)) (len:=r) (cap:=lc) (by as_aux_lemma=>kernel_rfl) hS (by as_aux_lemma=>kernel_rfl) rfl H at_ (by omega) hx23 hn24 ?_
  intro b25 es26 ha27 hcell28 hr29
  cases ha27
  obtain⟨a30,k31,rfl⟩:=Shape.slice_form' hr29
  have H:=H.add (F:=Rp SB [.slice a30 (L[at_]).length k31] (L[at_])) hr29
  refine qHP hS 2 (qs [14,15,16,18]) [(1,.I at_),(2,.I col),(3,.P b1 0),(6,.int .u8 (((ginv ((L[at_])[col])).toNat:Nat):Int)),(24,.slice (some ⟨lb,0,none⟩) r lc),(25,.I at_),(27,.slice (some ⟨rb,0,none⟩) r rc),(28,.I at_),(32,.pointer (some ⟨lb,at_*1,none⟩)),(34,.int .u8 (((ginv ((L[at_])[col])).toNat:Nat):Int)),(36,.P b1 1)] ?_
  refine RH.load (d:=some 37) (r:=(qs [15,16,18])) (T:=74) (b:=b1) (o':=1) (k:=1) (v:=.slice (some ⟨rb,0,none⟩) r rc) (by as_aux_lemma=>kernel_rfl) hS (H.cells 0 rfl) (by intro hq;simp only[List.mem_cons,List.not_mem_nil,or_false]at hq;rcases hq with hq|hq;exact H.neMW 0 rfl 0 rfl hq;exact H.neMW 0 rfl 1 rfl hq) (by simp) rfl (by as_aux_lemma=>kernel_rfl) ?_
  refine qHP hS 1 (qs [16,18]) [(1,.I at_),(2,.I col),(3,.P b1 0),(6,.int .u8 (((ginv ((L[at_])[col])).toNat:Nat):Int)),(24,.slice (some ⟨lb,0,none⟩) r lc),(25,.I at_),(27,.slice (some ⟨rb,0,none⟩) r rc),(28,.I at_),(32,.pointer (some ⟨lb,at_*1,none⟩)),(34,.int .u8 (((ginv ((L[at_])[col])).toNat:Nat):Int)),(37,.slice (some ⟨rb,0,none⟩) r rc),(38,.I at_)] ?_
  have H:=H.frontW 1 (W':=[⟨SB,28,.slice (some ⟨rb,0,none⟩) r rc,R⟩,⟨SB,28,.slice (some ⟨lb,0,none⟩) r lc,L⟩]) rfl
  have hn33:r=R.length:=by omega
  have hx32:at_<R.length:=by omega
  refine RH.indexW (d:=some 39) (r:=[(18,.qui)]) (T:=74) (e:=28) (m:=1) (ik:=.i64) (ix:=(at_:Int)) (sh:=SB) (xs:=R) (a:=(some ⟨rb,0,none⟩)) (len:=r) (cap:=rc) (by as_aux_lemma=>kernel_rfl) hS (by as_aux_lemma=>kernel_rfl) rfl H at_ (by omega) hx32 hn33 ?_
  intro b34 es35 ha36 hcell37 hr38
  cases ha36
  obtain⟨a39,k40,rfl⟩:=Shape.slice_form' hr38
  have H:=H.add (F:=Rp SB [.slice a39 (R[at_]).length k40] (R[at_])) hr38
  refine RH.finB hS 1 [1,2,3,24,25,27,28,32,34,39,41] [(1,.I at_),(2,.I col),(3,.P b1 0),(24,.slice (some ⟨lb,0,none⟩) r lc),(25,.I at_),(27,.slice (some ⟨rb,0,none⟩) r rc),(28,.I at_),(32,.pointer (some ⟨lb,at_*1,none⟩)),(34,.int .u8 (((ginv ((L[at_])[col])).toNat:Nat):Int)),(39,.pointer (some ⟨rb,at_*1,none⟩)),(41,.int .u8 (((ginv ((L[at_])[col])).toNat:Nat):Int))] (by as_aux_lemma=>kernel_rfl) ?_
  refine(RGB.cons' ?_ (RGB.cons' ?_ RGB.nil'))
  ·
   refine RG.node' [(10,.seq)] (by as_aux_lemma=>kernel_rfl) ?_
   have Hr:=H
   refine RH.chn hS ?_
   refine qL .chn 33 [] 28 lb (at_*1) 0 (.slice a30 (L[at_]).length k31) hcell28 ?_
   intro hS
   refine RH.finB hS 0 [1,2,3,24,25,27,28,33,34,39,41] [(1,.I at_),(2,.I col),(3,.P b1 0),(24,.slice (some ⟨lb,0,none⟩) r lc),(25,.I at_),(27,.slice (some ⟨rb,0,none⟩) r rc),(28,.I at_),(33,.slice a30 (L[at_]).length k31),(34,.int .u8 (((ginv ((L[at_])[col])).toNat:Nat):Int)),(39,.pointer (some ⟨rb,at_*1,none⟩)),(41,.int .u8 (((ginv ((L[at_])[col])).toNat:Nat):Int))] (by as_aux_lemma=>kernel_rfl) ?_
   refine(RGB.cons' ?_ (RGB.cons' ?_ RGB.nil'))
   ·
    refine RG.leaf' [(12,.seq),(17,.seq),(19,.seq),(20,.qui),(21,.seq),(22,.qui),(23,.seq)] (by as_aux_lemma=>kernel_rfl) ?_
    have Hr:=H
    refine RH.chn hS ?_
    refine qK .chn (some 35) [] 257 #[.slice a30 (L[at_]).length k31,.int .u8 (((ginv ((L[at_])[col])).toNat:Nat):Int)] (scaled_spec (row:=L[at_]) (ginv ((L[at_])[col])) (H.rp 1 rfl) (by omega)) ?_
    rintro v44 w43-H'
    have H:=H.back (M1:=[]) (W1:=[]) H'
    obtain⟨a45,c46,rfl,hc47,hm48⟩:=H.ownForm 0 rfl
    have H:Hp w S O [(b1,.cells #[.slice (some ⟨lb,0,none⟩) r lc,.slice (some ⟨rb,0,none⟩) r rc] 259 (0,0))] [⟨Sb,5,.slice a45 ((scaleL (L[at_]) (ginv ((L[at_])[col]))).length) c46,(scaleL (L[at_]) (ginv ((L[at_])[col])))⟩,⟨SB,28,.slice (some ⟨rb,0,none⟩) r rc,R⟩,⟨SB,28,.slice (some ⟨lb,0,none⟩) r lc,L⟩] [Rp SB [.slice a39 (R[at_]).length k40] (R[at_]),Rp SB [.slice a30 (L[at_]).length k31] (L[at_]),Fc b13 o14 [.int .u8 ((((L[at_])[col]).toNat:Nat):Int)],Rp SB [.slice a10 (L[at_]).length k11] (L[at_])] _:=H
    intro hS
    refine RH.chn hS ?_
    have H:=H.frontW 1 (W':=[⟨SB,28,.slice (some ⟨rb,0,none⟩) r rc,R⟩,⟨Sb,5,.slice a45 ((scaleL (L[at_]) (ginv ((L[at_])[col]))).length) c46,(scaleL (L[at_]) (ginv ((L[at_])[col])))⟩,⟨SB,28,.slice (some ⟨lb,0,none⟩) r lc,L⟩]) rfl
    obtain⟨es50,hcell51,hr52⟩:=H.ownAt at_ hx32 hn33
    obtain⟨a53,k54,rfl⟩:=Shape.slice_form' hr52
    have H:=H.add (F:=Rp SB [.slice a53 (R[at_]).length k54] (R[at_])) hr52
    refine qL .chn 40 [] 28 rb (at_*1) 0 (.slice a53 (R[at_]).length k54) hcell51 ?_
    intro hS
    refine RH.chn hS ?_
    refine qK .chn (some 42) [] 257 #[.slice a53 (R[at_]).length k54,.int .u8 (((ginv ((L[at_])[col])).toNat:Nat):Int)] (scaled_spec (row:=R[at_]) (ginv ((L[at_])[col])) (H.rp 0 rfl) (by omega)) ?_
    rintro v57 w56-H'
    have H:=H.back (M1:=[]) (W1:=[]) H'
    obtain⟨a58,c59,rfl,hc60,hm61⟩:=H.ownForm 0 rfl
    have H:Hp w S O [(b1,.cells #[.slice (some ⟨lb,0,none⟩) r lc,.slice (some ⟨rb,0,none⟩) r rc] 259 (0,0))] [⟨Sb,5,.slice a58 ((scaleL (R[at_]) (ginv ((L[at_])[col]))).length) c59,(scaleL (R[at_]) (ginv ((L[at_])[col])))⟩,⟨SB,28,.slice (some ⟨rb,0,none⟩) r rc,R⟩,⟨Sb,5,.slice a45 ((scaleL (L[at_]) (ginv ((L[at_])[col]))).length) c46,(scaleL (L[at_]) (ginv ((L[at_])[col])))⟩,⟨SB,28,.slice (some ⟨lb,0,none⟩) r lc,L⟩] [Rp SB [.slice a53 (R[at_]).length k54] (R[at_]),Rp SB [.slice a39 (R[at_]).length k40] (R[at_]),Rp SB [.slice a30 (L[at_]).length k31] (L[at_]),Fc b13 o14 [.int .u8 ((((L[at_])[col]).toNat:Nat):Int)],Rp SB [.slice a10 (L[at_]).length k11] (L[at_])] _:=H
    intro hS
    have H:=H.frontW 3 (W':=[⟨SB,28,.slice (some ⟨lb,0,none⟩) r lc,L⟩,⟨Sb,5,.slice a58 ((scaleL (R[at_]) (ginv ((L[at_])[col]))).length) c59,(scaleL (R[at_]) (ginv ((L[at_])[col])))⟩,⟨SB,28,.slice (some ⟨rb,0,none⟩) r rc,R⟩,⟨Sb,5,.slice a45 ((scaleL (L[at_]) (ginv ((L[at_])[col]))).length) c46,(scaleL (L[at_]) (ginv ((L[at_])[col])))⟩]) rfl
    have hn63:r=L.length:=by omega
    have hx62:at_<L.length:=by omega
    refine RH.indexW (d:=some 43) (r:=[(21,.seq),(22,.qui),(23,.seq)]) (T:=74) (e:=28) (m:=1) (ik:=.i64) (ix:=(at_:Int)) (sh:=SB) (xs:=L) (a:=(some ⟨lb,0,none⟩)) (len:=r) (cap:=lc) (by as_aux_lemma=>kernel_rfl) hS (by as_aux_lemma=>kernel_rfl) rfl H at_ (by omega) hx62 hn63 ?_
    intro b64 es65 ha66 hcell67 hr68
    cases ha66
    obtain⟨a69,k70,rfl⟩:=Shape.slice_form' hr68
    have H:=H.add (F:=Rp SB [.slice a69 (L[at_]).length k70] (L[at_])) hr68
    refine RH.sto ?_
    have H:Hp w S O [(b1,.cells #[.slice (some ⟨lb,0,none⟩) r lc,.slice (some ⟨rb,0,none⟩) r rc] 259 (0,0))] [⟨SB,28,.slice (some ⟨lb,0,none⟩) r lc,L⟩,⟨Sb,5,.slice a58 ((scaleL (R[at_]) (ginv ((L[at_])[col]))).length) c59,(scaleL (R[at_]) (ginv ((L[at_])[col])))⟩,⟨SB,28,.slice (some ⟨rb,0,none⟩) r rc,R⟩] [Rp SB [.slice a45 ((scaleL (L[at_]) (ginv ((L[at_])[col]))).length) c46] (scaleL (L[at_]) (ginv ((L[at_])[col]))),Rp SB [.slice a69 (L[at_]).length k70] (L[at_]),Rp SB [.slice a53 (R[at_]).length k54] (R[at_]),Rp SB [.slice a39 (R[at_]).length k40] (R[at_]),Rp SB [.slice a30 (L[at_]).length k31] (L[at_]),Fc b13 o14 [.int .u8 ((((L[at_])[col]).toNat:Nat):Int)],Rp SB [.slice a10 (L[at_]).length k11] (L[at_])] _:=H.freezeW 3 rfl
    refine RW.storeWC (d:=none) (r:=[]) (e:=28) (m:=1) (b:=lb) (k:=at_) (v:=.slice a45 ((scaleL (L[at_]) (ginv ((L[at_])[col]))).length) c46) (by as_aux_lemma=>kernel_rfl) rfl (by as_aux_lemma=>kernel_rfl) H rfl hx62 hn63 (scaleL (L[at_]) (ginv ((L[at_])[col]))) (H.rp 0 rfl) ?_
    intro w72 hch71 H
    have hS73:=hS.sto hch71 (.inr (by simp))
    refine⟨hS73,?_⟩
    have hS:=hS73
    have H:=H.frontW 2 (W':=[⟨SB,28,.slice (some ⟨rb,0,none⟩) r rc,R⟩,⟨SB,28,.slice (some ⟨lb,0,none⟩) r lc,L.set at_ (scaleL (L[at_]) (ginv ((L[at_])[col])))⟩,⟨Sb,5,.slice a58 ((scaleL (R[at_]) (ginv ((L[at_])[col]))).length) c59,(scaleL (R[at_]) (ginv ((L[at_])[col])))⟩]) rfl
    have hn75:r=R.length:=by omega
    have hx74:at_<R.length:=by omega
    refine RH.indexW (d:=some 44) (r:=[(23,.seq)]) (T:=74) (e:=28) (m:=1) (ik:=.i64) (ix:=(at_:Int)) (sh:=SB) (xs:=R) (a:=(some ⟨rb,0,none⟩)) (len:=r) (cap:=rc) (by as_aux_lemma=>kernel_rfl) hS (by as_aux_lemma=>kernel_rfl) rfl H at_ (by omega) hx74 hn75 ?_
    intro b76 es77 ha78 hcell79 hr80
    cases ha78
    obtain⟨a81,k82,rfl⟩:=Shape.slice_form' hr80
    have H:=H.add (F:=Rp SB [.slice a81 (R[at_]).length k82] (R[at_])) hr80
    refine RH.sto ?_
    have H:Hp w S O [(b1,.cells #[.slice (some ⟨lb,0,none⟩) r lc,.slice (some ⟨rb,0,none⟩) r rc] 259 (0,0))] [⟨SB,28,.slice (some ⟨rb,0,none⟩) r rc,R⟩,⟨SB,28,.slice (some ⟨lb,0,none⟩) r lc,L.set at_ (scaleL (L[at_]) (ginv ((L[at_])[col])))⟩] [Rp SB [.slice a58 ((scaleL (R[at_]) (ginv ((L[at_])[col]))).length) c59] (scaleL (R[at_]) (ginv ((L[at_])[col]))),Rp SB [.slice a81 (R[at_]).length k82] (R[at_]),Rp SB [.slice a45 ((scaleL (L[at_]) (ginv ((L[at_])[col]))).length) c46] (scaleL (L[at_]) (ginv ((L[at_])[col]))),Rp SB [.slice a69 (L[at_]).length k70] (L[at_]),Rp SB [.slice a53 (R[at_]).length k54] (R[at_]),Rp SB [.slice a39 (R[at_]).length k40] (R[at_]),Rp SB [.slice a30 (L[at_]).length k31] (L[at_]),Fc b13 o14 [.int .u8 ((((L[at_])[col]).toNat:Nat):Int)],Rp SB [.slice a10 (L[at_]).length k11] (L[at_])] _:=H.freezeW 2 rfl
    refine RW.storeWC (d:=none) (r:=[]) (e:=28) (m:=1) (b:=rb) (k:=at_) (v:=.slice a58 ((scaleL (R[at_]) (ginv ((L[at_])[col]))).length) c59) (by as_aux_lemma=>kernel_rfl) rfl (by as_aux_lemma=>kernel_rfl) H rfl hx74 hn75 (scaleL (R[at_]) (ginv ((L[at_])[col]))) (H.rp 0 rfl) ?_
    intro w84 hch83 H
    have hS85:=hS.sto hch83 (.inr (by simp))
    refine⟨hS85,?_⟩
    have hS:=hS85
    refine RH.fin hS 0 [1,2,3] [(1,.I at_),(2,.I col),(3,.P b1 0)] (by as_aux_lemma=>kernel_rfl) ?_
    have H:=H.pick [] rfl
    have H:=H.frontW 1 (W':=[⟨SB,28,.slice (some ⟨lb,0,none⟩) r lc,L.set at_ (scaleL (L[at_]) (ginv ((L[at_])[col])))⟩,⟨SB,28,.slice (some ⟨rb,0,none⟩) r rc,R.set at_ (scaleL (R[at_]) (ginv ((L[at_])[col])))⟩]) rfl
    exact hJ19 _ H
   ·
    refine RG.leaf' [(17,.seq),(12,.seq),(19,.seq),(20,.qui),(21,.seq),(22,.qui),(23,.seq)] (by as_aux_lemma=>kernel_rfl) ?_
    have Hr:=H
    refine RH.chn hS ?_
    refine qL .chn 40 [] 28 rb (at_*1) 0 (.slice a39 (R[at_]).length k40) hcell37 ?_
    intro hS
    have Hr:=H
    refine RH.chn hS ?_
    refine qK .chn (some 35) [] 257 #[.slice a30 (L[at_]).length k31,.int .u8 (((ginv ((L[at_])[col])).toNat:Nat):Int)] (scaled_spec (row:=L[at_]) (ginv ((L[at_])[col])) (H.rp 1 rfl) (by omega)) ?_
    rintro v89 w88-H'
    have H:=H.back (M1:=[]) (W1:=[]) H'
    obtain⟨a90,c91,rfl,hc92,hm93⟩:=H.ownForm 0 rfl
    have H:Hp w S O [(b1,.cells #[.slice (some ⟨lb,0,none⟩) r lc,.slice (some ⟨rb,0,none⟩) r rc] 259 (0,0))] [⟨Sb,5,.slice a90 ((scaleL (L[at_]) (ginv ((L[at_])[col]))).length) c91,(scaleL (L[at_]) (ginv ((L[at_])[col])))⟩,⟨SB,28,.slice (some ⟨rb,0,none⟩) r rc,R⟩,⟨SB,28,.slice (some ⟨lb,0,none⟩) r lc,L⟩] [Rp SB [.slice a39 (R[at_]).length k40] (R[at_]),Rp SB [.slice a30 (L[at_]).length k31] (L[at_]),Fc b13 o14 [.int .u8 ((((L[at_])[col]).toNat:Nat):Int)],Rp SB [.slice a10 (L[at_]).length k11] (L[at_])] _:=H
    intro hS
    refine RH.chn hS ?_
    refine qK .chn (some 42) [] 257 #[.slice a39 (R[at_]).length k40,.int .u8 (((ginv ((L[at_])[col])).toNat:Nat):Int)] (scaled_spec (row:=R[at_]) (ginv ((L[at_])[col])) (H.rp 0 rfl) (by omega)) ?_
    rintro v96 w95-H'
    have H:=H.back (M1:=[]) (W1:=[]) H'
    obtain⟨a97,c98,rfl,hc99,hm100⟩:=H.ownForm 0 rfl
    have H:Hp w S O [(b1,.cells #[.slice (some ⟨lb,0,none⟩) r lc,.slice (some ⟨rb,0,none⟩) r rc] 259 (0,0))] [⟨Sb,5,.slice a97 ((scaleL (R[at_]) (ginv ((L[at_])[col]))).length) c98,(scaleL (R[at_]) (ginv ((L[at_])[col])))⟩,⟨Sb,5,.slice a90 ((scaleL (L[at_]) (ginv ((L[at_])[col]))).length) c91,(scaleL (L[at_]) (ginv ((L[at_])[col])))⟩,⟨SB,28,.slice (some ⟨rb,0,none⟩) r rc,R⟩,⟨SB,28,.slice (some ⟨lb,0,none⟩) r lc,L⟩] [Rp SB [.slice a39 (R[at_]).length k40] (R[at_]),Rp SB [.slice a30 (L[at_]).length k31] (L[at_]),Fc b13 o14 [.int .u8 ((((L[at_])[col]).toNat:Nat):Int)],Rp SB [.slice a10 (L[at_]).length k11] (L[at_])] _:=H
    intro hS
    have H:=H.frontW 3 (W':=[⟨SB,28,.slice (some ⟨lb,0,none⟩) r lc,L⟩,⟨Sb,5,.slice a97 ((scaleL (R[at_]) (ginv ((L[at_])[col]))).length) c98,(scaleL (R[at_]) (ginv ((L[at_])[col])))⟩,⟨Sb,5,.slice a90 ((scaleL (L[at_]) (ginv ((L[at_])[col]))).length) c91,(scaleL (L[at_]) (ginv ((L[at_])[col])))⟩,⟨SB,28,.slice (some ⟨rb,0,none⟩) r rc,R⟩]) rfl
    have hn102:r=L.length:=by omega
    have hx101:at_<L.length:=by omega
    refine RH.indexW (d:=some 43) (r:=[(21,.seq),(22,.qui),(23,.seq)]) (T:=74) (e:=28) (m:=1) (ik:=.i64) (ix:=(at_:Int)) (sh:=SB) (xs:=L) (a:=(some ⟨lb,0,none⟩)) (len:=r) (cap:=lc) (by as_aux_lemma=>kernel_rfl) hS (by as_aux_lemma=>kernel_rfl) rfl H at_ (by omega) hx101 hn102 ?_
    intro b103 es104 ha105 hcell106 hr107
    cases ha105
    obtain⟨a108,k109,rfl⟩:=Shape.slice_form' hr107
    have H:=H.add (F:=Rp SB [.slice a108 (L[at_]).length k109] (L[at_])) hr107
    refine RH.sto ?_
    have H:Hp w S O [(b1,.cells #[.slice (some ⟨lb,0,none⟩) r lc,.slice (some ⟨rb,0,none⟩) r rc] 259 (0,0))] [⟨SB,28,.slice (some ⟨lb,0,none⟩) r lc,L⟩,⟨Sb,5,.slice a97 ((scaleL (R[at_]) (ginv ((L[at_])[col]))).length) c98,(scaleL (R[at_]) (ginv ((L[at_])[col])))⟩,⟨SB,28,.slice (some ⟨rb,0,none⟩) r rc,R⟩] [Rp SB [.slice a90 ((scaleL (L[at_]) (ginv ((L[at_])[col]))).length) c91] (scaleL (L[at_]) (ginv ((L[at_])[col]))),Rp SB [.slice a108 (L[at_]).length k109] (L[at_]),Rp SB [.slice a39 (R[at_]).length k40] (R[at_]),Rp SB [.slice a30 (L[at_]).length k31] (L[at_]),Fc b13 o14 [.int .u8 ((((L[at_])[col]).toNat:Nat):Int)],Rp SB [.slice a10 (L[at_]).length k11] (L[at_])] _:=H.freezeW 2 rfl
    refine RW.storeWC (d:=none) (r:=[]) (e:=28) (m:=1) (b:=lb) (k:=at_) (v:=.slice a90 ((scaleL (L[at_]) (ginv ((L[at_])[col]))).length) c91) (by as_aux_lemma=>kernel_rfl) rfl (by as_aux_lemma=>kernel_rfl) H rfl hx101 hn102 (scaleL (L[at_]) (ginv ((L[at_])[col]))) (H.rp 0 rfl) ?_
    intro w111 hch110 H
    have hS112:=hS.sto hch110 (.inr (by simp))
    refine⟨hS112,?_⟩
    have hS:=hS112
    have H:=H.frontW 2 (W':=[⟨SB,28,.slice (some ⟨rb,0,none⟩) r rc,R⟩,⟨SB,28,.slice (some ⟨lb,0,none⟩) r lc,L.set at_ (scaleL (L[at_]) (ginv ((L[at_])[col])))⟩,⟨Sb,5,.slice a97 ((scaleL (R[at_]) (ginv ((L[at_])[col]))).length) c98,(scaleL (R[at_]) (ginv ((L[at_])[col])))⟩]) rfl
    have hn114:r=R.length:=by omega
    have hx113:at_<R.length:=by omega
    refine RH.indexW (d:=some 44) (r:=[(23,.seq)]) (T:=74) (e:=28) (m:=1) (ik:=.i64) (ix:=(at_:Int)) (sh:=SB) (xs:=R) (a:=(some ⟨rb,0,none⟩)) (len:=r) (cap:=rc) (by as_aux_lemma=>kernel_rfl) hS (by as_aux_lemma=>kernel_rfl) rfl H at_ (by omega) hx113 hn114 ?_
    intro b115 es116 ha117 hcell118 hr119
    cases ha117
    obtain⟨a120,k121,rfl⟩:=Shape.slice_form' hr119
    have H:=H.add (F:=Rp SB [.slice a120 (R[at_]).length k121] (R[at_])) hr119
    refine RH.sto ?_
    have H:Hp w S O [(b1,.cells #[.slice (some ⟨lb,0,none⟩) r lc,.slice (some ⟨rb,0,none⟩) r rc] 259 (0,0))] [⟨SB,28,.slice (some ⟨rb,0,none⟩) r rc,R⟩,⟨SB,28,.slice (some ⟨lb,0,none⟩) r lc,L.set at_ (scaleL (L[at_]) (ginv ((L[at_])[col])))⟩] [Rp SB [.slice a97 ((scaleL (R[at_]) (ginv ((L[at_])[col]))).length) c98] (scaleL (R[at_]) (ginv ((L[at_])[col]))),Rp SB [.slice a120 (R[at_]).length k121] (R[at_]),Rp SB [.slice a90 ((scaleL (L[at_]) (ginv ((L[at_])[col]))).length) c91] (scaleL (L[at_]) (ginv ((L[at_])[col]))),Rp SB [.slice a108 (L[at_]).length k109] (L[at_]),Rp SB [.slice a39 (R[at_]).length k40] (R[at_]),Rp SB [.slice a30 (L[at_]).length k31] (L[at_]),Fc b13 o14 [.int .u8 ((((L[at_])[col]).toNat:Nat):Int)],Rp SB [.slice a10 (L[at_]).length k11] (L[at_])] _:=H.freezeW 2 rfl
    refine RW.storeWC (d:=none) (r:=[]) (e:=28) (m:=1) (b:=rb) (k:=at_) (v:=.slice a97 ((scaleL (R[at_]) (ginv ((L[at_])[col]))).length) c98) (by as_aux_lemma=>kernel_rfl) rfl (by as_aux_lemma=>kernel_rfl) H rfl hx113 hn114 (scaleL (R[at_]) (ginv ((L[at_])[col]))) (H.rp 0 rfl) ?_
    intro w123 hch122 H
    have hS124:=hS.sto hch122 (.inr (by simp))
    refine⟨hS124,?_⟩
    have hS:=hS124
    refine RH.fin hS 0 [1,2,3] [(1,.I at_),(2,.I col),(3,.P b1 0)] (by as_aux_lemma=>kernel_rfl) ?_
    have H:=H.pick [] rfl
    have H:=H.frontW 1 (W':=[⟨SB,28,.slice (some ⟨lb,0,none⟩) r lc,L.set at_ (scaleL (L[at_]) (ginv ((L[at_])[col])))⟩,⟨SB,28,.slice (some ⟨rb,0,none⟩) r rc,R.set at_ (scaleL (R[at_]) (ginv ((L[at_])[col])))⟩]) rfl
    exact hJ19 _ H
  ·
   refine RG.leaf' [(17,.seq),(10,.seq),(12,.seq),(19,.seq),(20,.qui),(21,.seq),(22,.qui),(23,.seq)] (by as_aux_lemma=>kernel_rfl) ?_
   have Hr:=H
   refine RH.chn hS ?_
   refine qL .chn 40 [] 28 rb (at_*1) 0 (.slice a39 (R[at_]).length k40) hcell37 ?_
   intro hS
   have Hr:=H
   refine RH.chn hS ?_
   refine qL .chn 33 [] 28 lb (at_*1) 0 (.slice a30 (L[at_]).length k31) hcell28 ?_
   intro hS
   have Hr:=H
   refine RH.chn hS ?_
   refine qK .chn (some 35) [] 257 #[.slice a30 (L[at_]).length k31,.int .u8 (((ginv ((L[at_])[col])).toNat:Nat):Int)] (scaled_spec (row:=L[at_]) (ginv ((L[at_])[col])) (H.rp 1 rfl) (by omega)) ?_
   rintro v129 w128-H'
   have H:=H.back (M1:=[]) (W1:=[]) H'
   obtain⟨a130,c131,rfl,hc132,hm133⟩:=H.ownForm 0 rfl
   have H:Hp w S O [(b1,.cells #[.slice (some ⟨lb,0,none⟩) r lc,.slice (some ⟨rb,0,none⟩) r rc] 259 (0,0))] [⟨Sb,5,.slice a130 ((scaleL (L[at_]) (ginv ((L[at_])[col]))).length) c131,(scaleL (L[at_]) (ginv ((L[at_])[col])))⟩,⟨SB,28,.slice (some ⟨rb,0,none⟩) r rc,R⟩,⟨SB,28,.slice (some ⟨lb,0,none⟩) r lc,L⟩] [Rp SB [.slice a39 (R[at_]).length k40] (R[at_]),Rp SB [.slice a30 (L[at_]).length k31] (L[at_]),Fc b13 o14 [.int .u8 ((((L[at_])[col]).toNat:Nat):Int)],Rp SB [.slice a10 (L[at_]).length k11] (L[at_])] _:=H
   intro hS
   refine RH.chn hS ?_
   refine qK .chn (some 42) [] 257 #[.slice a39 (R[at_]).length k40,.int .u8 (((ginv ((L[at_])[col])).toNat:Nat):Int)] (scaled_spec (row:=R[at_]) (ginv ((L[at_])[col])) (H.rp 0 rfl) (by omega)) ?_
   rintro v136 w135-H'
   have H:=H.back (M1:=[]) (W1:=[]) H'
   obtain⟨a137,c138,rfl,hc139,hm140⟩:=H.ownForm 0 rfl
   have H:Hp w S O [(b1,.cells #[.slice (some ⟨lb,0,none⟩) r lc,.slice (some ⟨rb,0,none⟩) r rc] 259 (0,0))] [⟨Sb,5,.slice a137 ((scaleL (R[at_]) (ginv ((L[at_])[col]))).length) c138,(scaleL (R[at_]) (ginv ((L[at_])[col])))⟩,⟨Sb,5,.slice a130 ((scaleL (L[at_]) (ginv ((L[at_])[col]))).length) c131,(scaleL (L[at_]) (ginv ((L[at_])[col])))⟩,⟨SB,28,.slice (some ⟨rb,0,none⟩) r rc,R⟩,⟨SB,28,.slice (some ⟨lb,0,none⟩) r lc,L⟩] [Rp SB [.slice a39 (R[at_]).length k40] (R[at_]),Rp SB [.slice a30 (L[at_]).length k31] (L[at_]),Fc b13 o14 [.int .u8 ((((L[at_])[col]).toNat:Nat):Int)],Rp SB [.slice a10 (L[at_]).length k11] (L[at_])] _:=H
   intro hS
   have H:=H.frontW 3 (W':=[⟨SB,28,.slice (some ⟨lb,0,none⟩) r lc,L⟩,⟨Sb,5,.slice a137 ((scaleL (R[at_]) (ginv ((L[at_])[col]))).length) c138,(scaleL (R[at_]) (ginv ((L[at_])[col])))⟩,⟨Sb,5,.slice a130 ((scaleL (L[at_]) (ginv ((L[at_])[col]))).length) c131,(scaleL (L[at_]) (ginv ((L[at_])[col])))⟩,⟨SB,28,.slice (some ⟨rb,0,none⟩) r rc,R⟩]) rfl
   have hn142:r=L.length:=by omega
   have hx141:at_<L.length:=by omega
   refine RH.indexW (d:=some 43) (r:=[(21,.seq),(22,.qui),(23,.seq)]) (T:=74) (e:=28) (m:=1) (ik:=.i64) (ix:=(at_:Int)) (sh:=SB) (xs:=L) (a:=(some ⟨lb,0,none⟩)) (len:=r) (cap:=lc) (by as_aux_lemma=>kernel_rfl) hS (by as_aux_lemma=>kernel_rfl) rfl H at_ (by omega) hx141 hn142 ?_
   intro b143 es144 ha145 hcell146 hr147
   cases ha145
   obtain⟨a148,k149,rfl⟩:=Shape.slice_form' hr147
   have H:=H.add (F:=Rp SB [.slice a148 (L[at_]).length k149] (L[at_])) hr147
   refine RH.sto ?_
   have H:Hp w S O [(b1,.cells #[.slice (some ⟨lb,0,none⟩) r lc,.slice (some ⟨rb,0,none⟩) r rc] 259 (0,0))] [⟨SB,28,.slice (some ⟨lb,0,none⟩) r lc,L⟩,⟨Sb,5,.slice a137 ((scaleL (R[at_]) (ginv ((L[at_])[col]))).length) c138,(scaleL (R[at_]) (ginv ((L[at_])[col])))⟩,⟨SB,28,.slice (some ⟨rb,0,none⟩) r rc,R⟩] [Rp SB [.slice a130 ((scaleL (L[at_]) (ginv ((L[at_])[col]))).length) c131] (scaleL (L[at_]) (ginv ((L[at_])[col]))),Rp SB [.slice a148 (L[at_]).length k149] (L[at_]),Rp SB [.slice a39 (R[at_]).length k40] (R[at_]),Rp SB [.slice a30 (L[at_]).length k31] (L[at_]),Fc b13 o14 [.int .u8 ((((L[at_])[col]).toNat:Nat):Int)],Rp SB [.slice a10 (L[at_]).length k11] (L[at_])] _:=H.freezeW 2 rfl
   refine RW.storeWC (d:=none) (r:=[]) (e:=28) (m:=1) (b:=lb) (k:=at_) (v:=.slice a130 ((scaleL (L[at_]) (ginv ((L[at_])[col]))).length) c131) (by as_aux_lemma=>kernel_rfl) rfl (by as_aux_lemma=>kernel_rfl) H rfl hx141 hn142 (scaleL (L[at_]) (ginv ((L[at_])[col]))) (H.rp 0 rfl) ?_
   intro w151 hch150 H
   have hS152:=hS.sto hch150 (.inr (by simp))
   refine⟨hS152,?_⟩
   have hS:=hS152
   have H:=H.frontW 2 (W':=[⟨SB,28,.slice (some ⟨rb,0,none⟩) r rc,R⟩,⟨SB,28,.slice (some ⟨lb,0,none⟩) r lc,L.set at_ (scaleL (L[at_]) (ginv ((L[at_])[col])))⟩,⟨Sb,5,.slice a137 ((scaleL (R[at_]) (ginv ((L[at_])[col]))).length) c138,(scaleL (R[at_]) (ginv ((L[at_])[col])))⟩]) rfl
   have hn154:r=R.length:=by omega
   have hx153:at_<R.length:=by omega
   refine RH.indexW (d:=some 44) (r:=[(23,.seq)]) (T:=74) (e:=28) (m:=1) (ik:=.i64) (ix:=(at_:Int)) (sh:=SB) (xs:=R) (a:=(some ⟨rb,0,none⟩)) (len:=r) (cap:=rc) (by as_aux_lemma=>kernel_rfl) hS (by as_aux_lemma=>kernel_rfl) rfl H at_ (by omega) hx153 hn154 ?_
   intro b155 es156 ha157 hcell158 hr159
   cases ha157
   obtain⟨a160,k161,rfl⟩:=Shape.slice_form' hr159
   have H:=H.add (F:=Rp SB [.slice a160 (R[at_]).length k161] (R[at_])) hr159
   refine RH.sto ?_
   have H:Hp w S O [(b1,.cells #[.slice (some ⟨lb,0,none⟩) r lc,.slice (some ⟨rb,0,none⟩) r rc] 259 (0,0))] [⟨SB,28,.slice (some ⟨rb,0,none⟩) r rc,R⟩,⟨SB,28,.slice (some ⟨lb,0,none⟩) r lc,L.set at_ (scaleL (L[at_]) (ginv ((L[at_])[col])))⟩] [Rp SB [.slice a137 ((scaleL (R[at_]) (ginv ((L[at_])[col]))).length) c138] (scaleL (R[at_]) (ginv ((L[at_])[col]))),Rp SB [.slice a160 (R[at_]).length k161] (R[at_]),Rp SB [.slice a130 ((scaleL (L[at_]) (ginv ((L[at_])[col]))).length) c131] (scaleL (L[at_]) (ginv ((L[at_])[col]))),Rp SB [.slice a148 (L[at_]).length k149] (L[at_]),Rp SB [.slice a39 (R[at_]).length k40] (R[at_]),Rp SB [.slice a30 (L[at_]).length k31] (L[at_]),Fc b13 o14 [.int .u8 ((((L[at_])[col]).toNat:Nat):Int)],Rp SB [.slice a10 (L[at_]).length k11] (L[at_])] _:=H.freezeW 2 rfl
   refine RW.storeWC (d:=none) (r:=[]) (e:=28) (m:=1) (b:=rb) (k:=at_) (v:=.slice a137 ((scaleL (R[at_]) (ginv ((L[at_])[col]))).length) c138) (by as_aux_lemma=>kernel_rfl) rfl (by as_aux_lemma=>kernel_rfl) H rfl hx153 hn154 (scaleL (R[at_]) (ginv ((L[at_])[col]))) (H.rp 0 rfl) ?_
   intro w163 hch162 H
   have hS164:=hS.sto hch162 (.inr (by simp))
   refine⟨hS164,?_⟩
   have hS:=hS164
   refine RH.fin hS 0 [1,2,3] [(1,.I at_),(2,.I col),(3,.P b1 0)] (by as_aux_lemma=>kernel_rfl) ?_
   have H:=H.pick [] rfl
   have H:=H.frontW 1 (W':=[⟨SB,28,.slice (some ⟨lb,0,none⟩) r lc,L.set at_ (scaleL (L[at_]) (ginv ((L[at_])[col])))⟩,⟨SB,28,.slice (some ⟨rb,0,none⟩) r rc,R.set at_ (scaleL (R[at_]) (ginv ((L[at_])[col])))⟩]) rfl
   exact hJ19 _ H
 ·
  refine qR 1 [.c [3,0],.c [4]] [(1,.I at_),(2,.I col),(3,.P b1 0)] ?_
  refine qG (sq 0 4) ?_
  refine qP 1 (sq 1 4) [(1,.I at_),(2,.I col),(3,.P b1 0),(45,.P b1 0)] ?_
  refine qL .seq 46 (sq 2 4) 74 b1 0 0 (.slice (some ⟨lb,0,none⟩) r lc) (H.cells 0 rfl) ?_
  refine qF 2 [(1,.I at_),(2,.I col),(3,.P b1 0),(46,.slice (some ⟨lb,0,none⟩) r lc),(47,.I ((r:Nat):Int)),(48,.I 0)] ?_
  refine qR 1 [.c [4,0],.b 0] [(1,.I at_),(2,.I col),(3,.P b1 0),(46,.slice (some ⟨lb,0,none⟩) r lc),(47,.I ((r:Nat):Int)),(48,.I 0)] ?_
  obtain⟨pl,hpl⟩:∃z,z=(scaleL L[at_] (ginv (L[at_])[col])):=⟨_,rfl⟩
  obtain⟨pr,hpr⟩:∃z,z=(scaleL R[at_] (ginv (L[at_])[col])):=⟨_,rfl⟩
  obtain⟨L1,hL1⟩:∃z,z=L.set at_ pl:=⟨_,rfl⟩
  obtain⟨R1,hR1⟩:∃z,z=R.set at_ pr:=⟨_,rfl⟩
  have hLp:∀h:at_<L1.length,L1[at_]=pl:=by subst hL1;intro h;simp
  have hRp:∀h:at_<R1.length,R1[at_]=pr:=by subst hR1;intro h;simp
  rw[←hpl,←hpr,←hL1,←hR1]at H
  have hL1l:L1.length=r:=by rw[hL1,List.length_set];exact hL
  have hR1l:R1.length=r:=by rw[hR1,List.length_set];exact hR
  have hpll:pl.length=c:=by rw[hpl,scaleL_len];exact hLa
  have hprl:pr.length=d:=by rw[hpr,scaleL_len];exact hRa
  have hc1:∀x∈L1,x.length=c:=by rw[hL1];exact set_all hcL hpll
  have hd1:∀x∈R1,x.length=d:=by rw[hR1];exact set_all hcR hprl
  have hz1:=clTo_zero L1 L1 pl at_ col
  have hz2:=clTo_zero R1 L1 pr at_ col
  rw[←hz1,←hz2]at H
  have H:Hp w S O [(b1,.cells #[.slice (some ⟨lb,0,none⟩) r lc,.slice (some ⟨rb,0,none⟩) r rc] 259 (0,0))] [⟨SB,28,.slice (some ⟨lb,0,none⟩) r lc,(clTo L1 L1 pl at_ col 0)⟩,⟨SB,28,.slice (some ⟨rb,0,none⟩) r rc,(clTo R1 L1 pr at_ col 0)⟩] [] w20:=H
  refine WK.loop (α:=Nat) (b:=cd Tryz.prog 221 [4,0,0]) (by as_aux_lemma=>kernel_rfl) (fun k=>[(1,.I at_),(2,.I col),(3,.P b1 0),(46,.slice (some ⟨lb,0,none⟩) r lc),(47,.I ((r:Nat):Int)),(48,.I k)]) (fun k w'=>Hp w S O [(b1,.cells #[.slice (some ⟨lb,0,none⟩) r lc,.slice (some ⟨rb,0,none⟩) r rc] 259 (0,0))] [⟨SB,28,.slice (some ⟨lb,0,none⟩) r lc,(clTo L1 L1 pl at_ col k)⟩,⟨SB,28,.slice (some ⟨rb,0,none⟩) r rc,(clTo R1 L1 pr at_ col k)⟩] [] w'∧k≤r) (fun k=>r-k) 0 ⟨H,Nat.zero_le _⟩ (rfl) ?_
  rintro k w166⟨H,hinv0⟩hback165
  refine qR 3 [.c [4,0,0,1,0],.c [4,0,0,2],.l [4,0,0],.b 0] [(1,.I at_),(2,.I col),(3,.P b1 0),(46,.slice (some ⟨lb,0,none⟩) r lc),(47,.I ((r:Nat):Int)),(48,.I k),(49,.bool (decide (((k:Int):Int)<((r:Nat):Int))))] ?_
  refine qD (((k:Int):Int)<((r:Nat):Int)) (fun h167=>?_) (fun h167=>?_)
  ·
   have hk1:=hc1 (L1[k]) (List.getElem_mem (by omega))
   have hk2:=hd1 (R1[k]) (List.getElem_mem (by omega))
   have hen:entAt L1 k col=(L1[k])[col]:=entAt_eq (by omega) (by omega)
   refine qR 4 [.c [4,0,0,2,0,0,0],.c [4,0,0,2,0,0,1],.b 1,.c [4,0,0,3],.l [4,0,0],.b 0] [(1,.I at_),(2,.I col),(3,.P b1 0),(46,.slice (some ⟨lb,0,none⟩) r lc),(47,.I ((r:Nat):Int)),(48,.I k)] ?_
   refine qG (sq 0 5) ?_
   refine qP 1 (sq 1 5) [(1,.I at_),(2,.I col),(3,.P b1 0),(46,.slice (some ⟨lb,0,none⟩) r lc),(47,.I ((r:Nat):Int)),(48,.I k),(50,.I k)] ?_
   have hn169:r=(clTo L1 L1 pl at_ col k).length:=by rw[clTo_len];omega
   have hx168:k<(clTo L1 L1 pl at_ col k).length:=by rw[clTo_len];omega
   refine RW.indexW (κ:=.seq) (d:=some 51) (r:=(sq 2 5)) (T:=74) (e:=28) (m:=1) (ik:=.i64) (ix:=(k:Int)) (sh:=SB) (xs:=(clTo L1 L1 pl at_ col k)) (a:=(some ⟨lb,0,none⟩)) (len:=r) (cap:=lc) (by as_aux_lemma=>kernel_rfl) (by as_aux_lemma=>kernel_rfl) rfl H k (by omega) hx168 hn169 ?_
   intro b170 es171 ha172 hcell173 hr174
   cases ha172
   rw[clTo_get (by omega) (.inl (by omega)) _]at hr174
   obtain⟨a175,k176,rfl⟩:=Shape.slice_form' hr174
   have H:=H.add (F:=Rp SB [.slice a175 (L1[k]).length k176] (L1[k])) hr174
   refine qL .seq 52 (sq 3 5) 28 lb (k*1) 0 (.slice a175 (L1[k]).length k176) hcell173 ?_
   refine qF 2 [(1,.I at_),(2,.I col),(3,.P b1 0),(8,.I k),(9,.slice a175 (L1[k]).length k176),(46,.slice (some ⟨lb,0,none⟩) r lc),(47,.I ((r:Nat):Int)),(48,.I k)] ?_
   refine qR 1 [.c [4,0,0,2,0,0,1,0],.c [4,0,0,2,0,0,2],.b 1,.c [4,0,0,3],.l [4,0,0],.b 0] [(1,.I at_),(2,.I col),(3,.P b1 0),(8,.I k),(9,.slice a175 (L1[k]).length k176),(46,.slice (some ⟨lb,0,none⟩) r lc),(47,.I ((r:Nat):Int)),(48,.I k)] ?_
   refine qG (sq 0 5) ?_
   refine qP 2 (sq 2 5) [(1,.I at_),(2,.I col),(3,.P b1 0),(8,.I k),(9,.slice a175 (L1[k]).length k176),(46,.slice (some ⟨lb,0,none⟩) r lc),(47,.I ((r:Nat):Int)),(48,.I k),(53,.slice a175 (L1[k]).length k176),(54,.I col)] ?_
   have hx177:col<(L1[k]).length:=by omega
   refine qX .seq 55 (sq 3 5) 28 5 (col:Int) Sb ((L1[k])[col]) H 0 rfl col (by omega) (List.getElem?_eq_getElem hx177) ?_
   intro b178 o179 es180 hr181 H
   obtain rfl:=hr181
   refine qL .seq 56 (sq 4 5) 5 b178 o179 0 (.int .u8 ((((L1[k])[col]).toNat:Nat):Int)) (H.fc 0 rfl) ?_
   refine qF 1 [(1,.I at_),(2,.I col),(3,.P b1 0),(8,.I k),(9,.slice a175 (L1[k]).length k176),(10,.int .u8 ((((L1[k])[col]).toNat:Nat):Int)),(46,.slice (some ⟨lb,0,none⟩) r lc),(47,.I ((r:Nat):Int)),(48,.I k)] ?_
   refine qR 1 [.c [4,0,0,2,0,0,2,0],.c [4,0,0,2,0,0,3],.b 1,.c [4,0,0,3],.l [4,0,0],.b 0] [(1,.I at_),(2,.I col),(3,.P b1 0),(8,.I k),(9,.slice a175 (L1[k]).length k176),(10,.int .u8 ((((L1[k])[col]).toNat:Nat):Int)),(46,.slice (some ⟨lb,0,none⟩) r lc),(47,.I ((r:Nat):Int)),(48,.I k)] ?_
   refine qG (sq 0 7) ?_
   refine qP 4 (sq 4 7) [(1,.I at_),(2,.I col),(3,.P b1 0),(8,.I k),(9,.slice a175 (L1[k]).length k176),(10,.int .u8 ((((L1[k])[col]).toNat:Nat):Int)),(46,.slice (some ⟨lb,0,none⟩) r lc),(47,.I ((r:Nat):Int)),(48,.I k),(60,.bool ((k:Int)!=(at_:Int)))] ?_
   refine Go.BX.tN (fun b_=>[(1,.I at_),(2,.I col),(3,.P b1 0),(8,.I k),(9,.slice a175 (L1[k]).length k176),(10,.int .u8 ((((L1[k])[col]).toNat:Nat):Int)),(46,.slice (some ⟨lb,0,none⟩) r lc),(47,.I ((r:Nat):Int)),(48,.I k),(60,.bool b_)]) (k:Int) (at_:Int) (fun h182=>?_) (fun h182=>?_)
   ·
    refine qF 3 [(1,.I at_),(2,.I col),(3,.P b1 0),(8,.I k),(9,.slice a175 (L1[k]).length k176),(10,.int .u8 ((((L1[k])[col]).toNat:Nat):Int)),(46,.slice (some ⟨lb,0,none⟩) r lc),(47,.I ((r:Nat):Int)),(48,.I k),(63,.bool (((((L1[k])[col]).toNat:Nat):Int)!=0))] ?_
    refine qN ((((L1[k])[col]).toNat:Nat):Int) 0 (fun h183=>?_) (fun h183=>?_)
    ·
     have hcz:(L1[k])[col]≠0#8:=bvz h183
     refine qR 1 [.c [4,0,0,2,0,0,3,0,0],.c [4,0,0,2,0,0,3,0,1],.b 1,.c [4,0,0,3],.l [4,0,0],.b 0] [(1,.I at_),(2,.I col),(3,.P b1 0),(8,.I k),(9,.slice a175 (L1[k]).length k176),(10,.int .u8 ((((L1[k])[col]).toNat:Nat):Int)),(46,.slice (some ⟨lb,0,none⟩) r lc),(47,.I ((r:Nat):Int)),(48,.I k)] ?_
     refine WK.drawH1 [lb] (.leaf [(0,.qui),(1,.qui),(2,.qui),(3,.qui),(4,.qui),(5,.qui),(6,.qui),(7,.qui),(9,.qui),(8,.seq),(10,.seq),(11,.qui),(12,.qui),(13,.qui),(14,.qui),(15,.seq)]) Tryz_mixed (by as_aux_lemma=>kernel_rfl) (by as_aux_lemma=>kernel_rfl) ?_
     intro w184 hw185
     have H:=H.draw
     rw[←hw185]at H
     clear hw185
     have hS:=Chg.refl w184 [lb]
     refine RG.leaf' [(0,.qui),(1,.qui),(2,.qui),(3,.qui),(4,.qui),(5,.qui),(6,.qui),(7,.qui),(9,.qui),(8,.seq),(10,.seq),(11,.qui),(12,.qui),(13,.qui),(14,.qui),(15,.seq)] (by as_aux_lemma=>kernel_rfl) ?_
     refine qHP hS 1 [(1,.qui),(2,.qui),(3,.qui),(4,.qui),(5,.qui),(6,.qui),(7,.qui),(9,.qui),(8,.seq),(10,.seq),(11,.qui),(12,.qui),(13,.qui),(14,.qui),(15,.seq)] [(1,.I at_),(2,.I col),(3,.P b1 0),(8,.I k),(9,.slice a175 (L1[k]).length k176),(10,.int .u8 ((((L1[k])[col]).toNat:Nat):Int)),(46,.slice (some ⟨lb,0,none⟩) r lc),(47,.I ((r:Nat):Int)),(48,.I k),(65,.P b1 0)] ?_
     refine RH.load (d:=some 66) (r:=[(2,.qui),(3,.qui),(4,.qui),(5,.qui),(6,.qui),(7,.qui),(9,.qui),(8,.seq),(10,.seq),(11,.qui),(12,.qui),(13,.qui),(14,.qui),(15,.seq)]) (T:=74) (b:=b1) (o':=0) (k:=0) (v:=.slice (some ⟨lb,0,none⟩) r lc) (by as_aux_lemma=>kernel_rfl) hS (H.cells 0 rfl) (by intro hq;simp only[List.mem_cons,List.not_mem_nil,or_false]at hq;exact H.neMW 0 rfl 0 rfl hq) (by simp) rfl (by as_aux_lemma=>kernel_rfl) ?_
     refine qHP hS 3 [(5,.qui),(6,.qui),(7,.qui),(9,.qui),(8,.seq),(10,.seq),(11,.qui),(12,.qui),(13,.qui),(14,.qui),(15,.seq)] [(1,.I at_),(2,.I col),(3,.P b1 0),(8,.I k),(10,.int .u8 ((((L1[k])[col]).toNat:Nat):Int)),(46,.slice (some ⟨lb,0,none⟩) r lc),(47,.I ((r:Nat):Int)),(48,.I k),(66,.slice (some ⟨lb,0,none⟩) r lc),(67,.I k),(68,.slice a175 (L1[k]).length k176),(69,.P b1 0)] ?_
     refine RH.load (d:=some 70) (r:=[(6,.qui),(7,.qui),(9,.qui),(8,.seq),(10,.seq),(11,.qui),(12,.qui),(13,.qui),(14,.qui),(15,.seq)]) (T:=74) (b:=b1) (o':=0) (k:=0) (v:=.slice (some ⟨lb,0,none⟩) r lc) (by as_aux_lemma=>kernel_rfl) hS (H.cells 0 rfl) (by intro hq;simp only[List.mem_cons,List.not_mem_nil,or_false]at hq;exact H.neMW 0 rfl 0 rfl hq) (by simp) rfl (by as_aux_lemma=>kernel_rfl) ?_
     refine qHP hS 1 [(7,.qui),(9,.qui),(8,.seq),(10,.seq),(11,.qui),(12,.qui),(13,.qui),(14,.qui),(15,.seq)] [(1,.I at_),(2,.I col),(3,.P b1 0),(8,.I k),(10,.int .u8 ((((L1[k])[col]).toNat:Nat):Int)),(46,.slice (some ⟨lb,0,none⟩) r lc),(47,.I ((r:Nat):Int)),(48,.I k),(66,.slice (some ⟨lb,0,none⟩) r lc),(67,.I k),(68,.slice a175 (L1[k]).length k176),(70,.slice (some ⟨lb,0,none⟩) r lc),(71,.I at_)] ?_
     have hn187:r=(clTo L1 L1 pl at_ col k).length:=by rw[clTo_len];omega
     have hx186:at_<(clTo L1 L1 pl at_ col k).length:=by rw[clTo_len];omega
     refine RH.indexW (d:=some 72) (r:=[(9,.qui),(8,.seq),(10,.seq),(11,.qui),(12,.qui),(13,.qui),(14,.qui),(15,.seq)]) (T:=74) (e:=28) (m:=1) (ik:=.i64) (ix:=(at_:Int)) (sh:=SB) (xs:=(clTo L1 L1 pl at_ col k)) (a:=(some ⟨lb,0,none⟩)) (len:=r) (cap:=lc) (by as_aux_lemma=>kernel_rfl) hS (by as_aux_lemma=>kernel_rfl) rfl H at_ (by omega) hx186 hn187 ?_
     intro b188 es189 ha190 hcell191 hr192
     cases ha190
     rw[(clTo_get (by omega) (.inr rfl) _).trans (hLp _)]at hr192
     obtain⟨a193,k194,rfl⟩:=Shape.slice_form' hr192
     have H:=H.add (F:=Rp SB [.slice a193 pl.length k194] pl) hr192
     refine qHP hS 1 [(8,.seq),(10,.seq),(11,.qui),(12,.qui),(13,.qui),(14,.qui),(15,.seq)] [(1,.I at_),(2,.I col),(3,.P b1 0),(8,.I k),(10,.int .u8 ((((L1[k])[col]).toNat:Nat):Int)),(46,.slice (some ⟨lb,0,none⟩) r lc),(47,.I ((r:Nat):Int)),(48,.I k),(66,.slice (some ⟨lb,0,none⟩) r lc),(67,.I k),(68,.slice a175 (L1[k]).length k176),(72,.pointer (some ⟨lb,at_*1,none⟩)),(74,.int .u8 ((((L1[k])[col]).toNat:Nat):Int))] ?_
     have Hr:=H
     refine RH.chn hS ?_
     refine qL .chn 73 [] 28 lb (at_*1) 0 (.slice a193 pl.length k194) hcell191 ?_
     intro hS
     have Hr:=H
     refine RH.chn hS ?_
     refine qK .chn (some 75) [] 108 #[.slice a175 (L1[k]).length k176,.slice a193 pl.length k194,.int .u8 ((((L1[k])[col]).toNat:Nat):Int)] (mix_spec (xs:=L1[k]) (ys:=pl) ((L1[k])[col]) (H.rp 2 rfl) (H.rp 0 rfl) (by first|omega|assumption) (by omega)) ?_
     rintro _ w197-⟨a198,k199,rfl,H'⟩
     have H:=H.back (M1:=[]) (W1:=[]) H'
     have H:Hp w S O [(b1,.cells #[.slice (some ⟨lb,0,none⟩) r lc,.slice (some ⟨rb,0,none⟩) r rc] 259 (0,0))] [⟨Sb,5,.slice a198 ((mixL (L1[k]) pl ((L1[k])[col])).length) k199,mixL (L1[k]) pl ((L1[k])[col])⟩,⟨SB,28,.slice (some ⟨lb,0,none⟩) r lc,(clTo L1 L1 pl at_ col k)⟩,⟨SB,28,.slice (some ⟨rb,0,none⟩) r rc,(clTo R1 L1 pr at_ col k)⟩] [Rp SB [.slice a193 pl.length k194] pl,Fc b178 o179 [.int .u8 ((((L1[k])[col]).toNat:Nat):Int)],Rp SB [.slice a175 (L1[k]).length k176] (L1[k])] _:=H
     intro hS
     refine qHP hS 3 [(14,.qui),(15,.seq)] [(1,.I at_),(2,.I col),(3,.P b1 0),(8,.I k),(10,.int .u8 ((((L1[k])[col]).toNat:Nat):Int)),(46,.slice (some ⟨lb,0,none⟩) r lc),(47,.I ((r:Nat):Int)),(48,.I k),(66,.slice (some ⟨lb,0,none⟩) r lc),(67,.I k),(76,.slice a198 ((mixL (L1[k]) pl ((L1[k])[col])).length) k199)] ?_
     have H:=H.frontW 1 (W':=[⟨SB,28,.slice (some ⟨lb,0,none⟩) r lc,(clTo L1 L1 pl at_ col k)⟩,⟨Sb,5,.slice a198 ((mixL (L1[k]) pl ((L1[k])[col])).length) k199,mixL (L1[k]) pl ((L1[k])[col])⟩,⟨SB,28,.slice (some ⟨rb,0,none⟩) r rc,(clTo R1 L1 pr at_ col k)⟩]) rfl
     have hn201:r=(clTo L1 L1 pl at_ col k).length:=by rw[clTo_len];omega
     have hx200:k<(clTo L1 L1 pl at_ col k).length:=by rw[clTo_len];omega
     refine RH.indexW (d:=some 78) (r:=[(15,.seq)]) (T:=74) (e:=28) (m:=1) (ik:=.i64) (ix:=(k:Int)) (sh:=SB) (xs:=(clTo L1 L1 pl at_ col k)) (a:=(some ⟨lb,0,none⟩)) (len:=r) (cap:=lc) (by as_aux_lemma=>kernel_rfl) hS (by as_aux_lemma=>kernel_rfl) rfl H k (by omega) hx200 hn201 ?_
     intro b202 es203 ha204 hcell205 hr206
     cases ha204
     rw[clTo_get (by omega) (.inl (by omega)) _]at hr206
     obtain⟨a207,k208,rfl⟩:=Shape.slice_form' hr206
     have H:=H.add (F:=Rp SB [.slice a207 (L1[k]).length k208] (L1[k])) hr206
     refine RH.sto ?_
     have H:Hp w S O [(b1,.cells #[.slice (some ⟨lb,0,none⟩) r lc,.slice (some ⟨rb,0,none⟩) r rc] 259 (0,0))] [⟨SB,28,.slice (some ⟨lb,0,none⟩) r lc,(clTo L1 L1 pl at_ col k)⟩,⟨SB,28,.slice (some ⟨rb,0,none⟩) r rc,(clTo R1 L1 pr at_ col k)⟩] [Rp SB [.slice a198 ((mixL (L1[k]) pl ((L1[k])[col])).length) k199] (mixL (L1[k]) pl ((L1[k])[col])),Rp SB [.slice a207 (L1[k]).length k208] (L1[k]),Rp SB [.slice a193 pl.length k194] pl,Fc b178 o179 [.int .u8 ((((L1[k])[col]).toNat:Nat):Int)],Rp SB [.slice a175 (L1[k]).length k176] (L1[k])] _:=H.freezeW 1 rfl
     refine RW.storeWC (d:=none) (r:=[]) (e:=28) (m:=1) (b:=lb) (k:=k) (v:=.slice a198 ((mixL (L1[k]) pl ((L1[k])[col])).length) k199) (by as_aux_lemma=>kernel_rfl) rfl (by as_aux_lemma=>kernel_rfl) H rfl hx200 hn201 (mixL (L1[k]) pl ((L1[k])[col])) (H.rp 0 rfl) ?_
     intro w210 hch209 H
     have H:=H.reW (ys:=clTo L1 L1 pl at_ col (k+1)) (clTo_hit' (by omega) (by omega) hen hcz rfl)
     have hS211:=hS.sto hch209 (.inr (by simp))
     refine⟨hS211,?_⟩
     have hS:=hS211
     refine RH.fin hS 0 [1,2,3,8,10,46,47,48] [(1,.I at_),(2,.I col),(3,.P b1 0),(8,.I k),(10,.int .u8 ((((L1[k])[col]).toNat:Nat):Int)),(46,.slice (some ⟨lb,0,none⟩) r lc),(47,.I ((r:Nat):Int)),(48,.I k)] (by as_aux_lemma=>kernel_rfl) ?_
     refine WK.drawH1 [rb] (.node (qs [0,1,2,3,4,5,6,8,9,10,11,13]) (.cons 7 (.leaf [(12,.seq),(14,.seq),(15,.qui),(16,.qui),(17,.qui),(18,.qui),(19,.seq)]) (.cons 12 (.leaf [(7,.seq),(14,.seq),(15,.qui),(16,.qui),(17,.qui),(18,.qui),(19,.seq)]) .nil))) Tryz_mixed (by as_aux_lemma=>kernel_rfl) (by as_aux_lemma=>kernel_rfl) ?_
     intro w212 hw213
     have H:=H.draw
     rw[←hw213]at H
     clear hw213
     have hS:=Chg.refl w212 [rb]
     refine RG.node' (qs [0,1,2,3,4,5,6,8,9,10,11,13]) (by as_aux_lemma=>kernel_rfl) ?_
     refine qHP hS 1 (qs [1,2,3,4,5,6,8,9,10,11,13]) [(1,.I at_),(2,.I col),(3,.P b1 0),(8,.I k),(10,.int .u8 ((((L1[k])[col]).toNat:Nat):Int)),(46,.slice (some ⟨lb,0,none⟩) r lc),(47,.I ((r:Nat):Int)),(48,.I k),(80,.P b1 1)] ?_
     refine RH.load (d:=some 81) (r:=(qs [2,3,4,5,6,8,9,10,11,13])) (T:=74) (b:=b1) (o':=1) (k:=1) (v:=.slice (some ⟨rb,0,none⟩) r rc) (by as_aux_lemma=>kernel_rfl) hS (H.cells 0 rfl) (by intro hq;simp only[List.mem_cons,List.not_mem_nil,or_false]at hq;exact H.neMW 0 rfl 1 rfl hq) (by simp) rfl (by as_aux_lemma=>kernel_rfl) ?_
     refine qHP hS 2 (qs [4,5,6,8,9,10,11,13]) [(1,.I at_),(2,.I col),(3,.P b1 0),(8,.I k),(10,.int .u8 ((((L1[k])[col]).toNat:Nat):Int)),(46,.slice (some ⟨lb,0,none⟩) r lc),(47,.I ((r:Nat):Int)),(48,.I k),(81,.slice (some ⟨rb,0,none⟩) r rc),(82,.I k),(83,.P b1 1)] ?_
     refine RH.load (d:=some 84) (r:=(qs [5,6,8,9,10,11,13])) (T:=74) (b:=b1) (o':=1) (k:=1) (v:=.slice (some ⟨rb,0,none⟩) r rc) (by as_aux_lemma=>kernel_rfl) hS (H.cells 0 rfl) (by intro hq;simp only[List.mem_cons,List.not_mem_nil,or_false]at hq;exact H.neMW 0 rfl 1 rfl hq) (by simp) rfl (by as_aux_lemma=>kernel_rfl) ?_
     refine qHP hS 1 (qs [6,8,9,10,11,13]) [(1,.I at_),(2,.I col),(3,.P b1 0),(10,.int .u8 ((((L1[k])[col]).toNat:Nat):Int)),(46,.slice (some ⟨lb,0,none⟩) r lc),(47,.I ((r:Nat):Int)),(48,.I k),(81,.slice (some ⟨rb,0,none⟩) r rc),(82,.I k),(84,.slice (some ⟨rb,0,none⟩) r rc),(85,.I k)] ?_
     have H:=H.frontW 1 (W':=[⟨SB,28,.slice (some ⟨rb,0,none⟩) r rc,(clTo R1 L1 pr at_ col k)⟩,⟨SB,28,.slice (some ⟨lb,0,none⟩) r lc,clTo L1 L1 pl at_ col (k+1)⟩]) rfl
     have hn215:r=(clTo R1 L1 pr at_ col k).length:=by rw[clTo_len];omega
     have hx214:k<(clTo R1 L1 pr at_ col k).length:=by rw[clTo_len];omega
     refine RH.indexW (d:=some 86) (r:=(qs [8,9,10,11,13])) (T:=74) (e:=28) (m:=1) (ik:=.i64) (ix:=(k:Int)) (sh:=SB) (xs:=(clTo R1 L1 pr at_ col k)) (a:=(some ⟨rb,0,none⟩)) (len:=r) (cap:=rc) (by as_aux_lemma=>kernel_rfl) hS (by as_aux_lemma=>kernel_rfl) rfl H k (by omega) hx214 hn215 ?_
     intro b216 es217 ha218 hcell219 hr220
     cases ha218
     rw[clTo_get (by omega) (.inl (by omega)) _]at hr220
     obtain⟨a221,k222,rfl⟩:=Shape.slice_form' hr220
     have H:=H.add (F:=Rp SB [.slice a221 (R1[k]).length k222] (R1[k])) hr220
     refine qHP hS 1 (qs [9,10,11,13]) [(1,.I at_),(2,.I col),(3,.P b1 0),(10,.int .u8 ((((L1[k])[col]).toNat:Nat):Int)),(46,.slice (some ⟨lb,0,none⟩) r lc),(47,.I ((r:Nat):Int)),(48,.I k),(81,.slice (some ⟨rb,0,none⟩) r rc),(82,.I k),(86,.pointer (some ⟨rb,k*1,none⟩)),(88,.P b1 1)] ?_
     refine RH.load (d:=some 89) (r:=(qs [10,11,13])) (T:=74) (b:=b1) (o':=1) (k:=1) (v:=.slice (some ⟨rb,0,none⟩) r rc) (by as_aux_lemma=>kernel_rfl) hS (H.cells 0 rfl) (by intro hq;simp only[List.mem_cons,List.not_mem_nil,or_false]at hq;exact H.neMW 0 rfl 0 rfl hq) (by simp) rfl (by as_aux_lemma=>kernel_rfl) ?_
     refine qHP hS 1 (qs [11,13]) [(1,.I at_),(2,.I col),(3,.P b1 0),(10,.int .u8 ((((L1[k])[col]).toNat:Nat):Int)),(46,.slice (some ⟨lb,0,none⟩) r lc),(47,.I ((r:Nat):Int)),(48,.I k),(81,.slice (some ⟨rb,0,none⟩) r rc),(82,.I k),(86,.pointer (some ⟨rb,k*1,none⟩)),(89,.slice (some ⟨rb,0,none⟩) r rc),(90,.I at_)] ?_
     have hn224:r=(clTo R1 L1 pr at_ col k).length:=by rw[clTo_len];omega
     have hx223:at_<(clTo R1 L1 pr at_ col k).length:=by rw[clTo_len];omega
     refine RH.indexW (d:=some 91) (r:=[(13,.qui)]) (T:=74) (e:=28) (m:=1) (ik:=.i64) (ix:=(at_:Int)) (sh:=SB) (xs:=(clTo R1 L1 pr at_ col k)) (a:=(some ⟨rb,0,none⟩)) (len:=r) (cap:=rc) (by as_aux_lemma=>kernel_rfl) hS (by as_aux_lemma=>kernel_rfl) rfl H at_ (by omega) hx223 hn224 ?_
     intro b225 es226 ha227 hcell228 hr229
     cases ha227
     rw[(clTo_get (by omega) (.inr rfl) _).trans (hRp _)]at hr229
     obtain⟨a230,k231,rfl⟩:=Shape.slice_form' hr229
     have H:=H.add (F:=Rp SB [.slice a230 pr.length k231] pr) hr229
     refine RH.finB hS 1 [1,2,3,46,47,48,81,82,86,91,93] [(1,.I at_),(2,.I col),(3,.P b1 0),(46,.slice (some ⟨lb,0,none⟩) r lc),(47,.I ((r:Nat):Int)),(48,.I k),(81,.slice (some ⟨rb,0,none⟩) r rc),(82,.I k),(86,.pointer (some ⟨rb,k*1,none⟩)),(91,.pointer (some ⟨rb,at_*1,none⟩)),(93,.int .u8 ((((L1[k])[col]).toNat:Nat):Int))] (by as_aux_lemma=>kernel_rfl) ?_
     refine(RGB.cons' ?_ (RGB.cons' ?_ RGB.nil'))
     ·
      refine RG.leaf' [(7,.seq),(12,.seq),(14,.seq),(15,.qui),(16,.qui),(17,.qui),(18,.qui),(19,.seq)] (by as_aux_lemma=>kernel_rfl) ?_
      have Hr:=H
      refine RH.chn hS ?_
      refine qL .chn 87 [] 28 rb (k*1) 0 (.slice a221 (R1[k]).length k222) hcell219 ?_
      intro hS
      have Hr:=H
      refine RH.chn hS ?_
      refine qL .chn 92 [] 28 rb (at_*1) 0 (.slice a230 pr.length k231) hcell228 ?_
      intro hS
      have Hr:=H
      refine RH.chn hS ?_
      refine qK .chn (some 94) [] 108 #[.slice a221 (R1[k]).length k222,.slice a230 pr.length k231,.int .u8 ((((L1[k])[col]).toNat:Nat):Int)] (mix_spec (xs:=R1[k]) (ys:=pr) ((L1[k])[col]) (H.rp 1 rfl) (H.rp 0 rfl) (by first|omega|assumption) (by omega)) ?_
      rintro _ w235-⟨a236,k237,rfl,H'⟩
      have H:=H.back (M1:=[]) (W1:=[]) H'
      have H:Hp w S O [(b1,.cells #[.slice (some ⟨lb,0,none⟩) r lc,.slice (some ⟨rb,0,none⟩) r rc] 259 (0,0))] [⟨Sb,5,.slice a236 ((mixL (R1[k]) pr ((L1[k])[col])).length) k237,mixL (R1[k]) pr ((L1[k])[col])⟩,⟨SB,28,.slice (some ⟨rb,0,none⟩) r rc,(clTo R1 L1 pr at_ col k)⟩,⟨SB,28,.slice (some ⟨lb,0,none⟩) r lc,clTo L1 L1 pl at_ col (k+1)⟩] [Rp SB [.slice a230 pr.length k231] pr,Rp SB [.slice a221 (R1[k]).length k222] (R1[k]),Rp SB [.slice a198 ((mixL (L1[k]) pl ((L1[k])[col])).length) k199] (mixL (L1[k]) pl ((L1[k])[col])),Rp SB [.slice a207 (L1[k]).length k208] (L1[k]),Rp SB [.slice a193 pl.length k194] pl,Fc b178 o179 [.int .u8 ((((L1[k])[col]).toNat:Nat):Int)],Rp SB [.slice a175 (L1[k]).length k176] (L1[k])] _:=H
      intro hS
      refine qHP hS 3 [(18,.qui),(19,.seq)] [(1,.I at_),(2,.I col),(3,.P b1 0),(46,.slice (some ⟨lb,0,none⟩) r lc),(47,.I ((r:Nat):Int)),(48,.I k),(81,.slice (some ⟨rb,0,none⟩) r rc),(82,.I k),(95,.slice a236 ((mixL (R1[k]) pr ((L1[k])[col])).length) k237)] ?_
      have H:=H.frontW 1 (W':=[⟨SB,28,.slice (some ⟨rb,0,none⟩) r rc,(clTo R1 L1 pr at_ col k)⟩,⟨Sb,5,.slice a236 ((mixL (R1[k]) pr ((L1[k])[col])).length) k237,mixL (R1[k]) pr ((L1[k])[col])⟩,⟨SB,28,.slice (some ⟨lb,0,none⟩) r lc,clTo L1 L1 pl at_ col (k+1)⟩]) rfl
      have hn239:r=(clTo R1 L1 pr at_ col k).length:=by rw[clTo_len];omega
      have hx238:k<(clTo R1 L1 pr at_ col k).length:=by rw[clTo_len];omega
      refine RH.indexW (d:=some 97) (r:=[(19,.seq)]) (T:=74) (e:=28) (m:=1) (ik:=.i64) (ix:=(k:Int)) (sh:=SB) (xs:=(clTo R1 L1 pr at_ col k)) (a:=(some ⟨rb,0,none⟩)) (len:=r) (cap:=rc) (by as_aux_lemma=>kernel_rfl) hS (by as_aux_lemma=>kernel_rfl) rfl H k (by omega) hx238 hn239 ?_
      intro b240 es241 ha242 hcell243 hr244
      cases ha242
      rw[clTo_get (by omega) (.inl (by omega)) _]at hr244
      obtain⟨a245,k246,rfl⟩:=Shape.slice_form' hr244
      have H:=H.add (F:=Rp SB [.slice a245 (R1[k]).length k246] (R1[k])) hr244
      refine RH.sto ?_
      have H:Hp w S O [(b1,.cells #[.slice (some ⟨lb,0,none⟩) r lc,.slice (some ⟨rb,0,none⟩) r rc] 259 (0,0))] [⟨SB,28,.slice (some ⟨rb,0,none⟩) r rc,(clTo R1 L1 pr at_ col k)⟩,⟨SB,28,.slice (some ⟨lb,0,none⟩) r lc,clTo L1 L1 pl at_ col (k+1)⟩] [Rp SB [.slice a236 ((mixL (R1[k]) pr ((L1[k])[col])).length) k237] (mixL (R1[k]) pr ((L1[k])[col])),Rp SB [.slice a245 (R1[k]).length k246] (R1[k]),Rp SB [.slice a230 pr.length k231] pr,Rp SB [.slice a221 (R1[k]).length k222] (R1[k]),Rp SB [.slice a198 ((mixL (L1[k]) pl ((L1[k])[col])).length) k199] (mixL (L1[k]) pl ((L1[k])[col])),Rp SB [.slice a207 (L1[k]).length k208] (L1[k]),Rp SB [.slice a193 pl.length k194] pl,Fc b178 o179 [.int .u8 ((((L1[k])[col]).toNat:Nat):Int)],Rp SB [.slice a175 (L1[k]).length k176] (L1[k])] _:=H.freezeW 1 rfl
      refine RW.storeWC (d:=none) (r:=[]) (e:=28) (m:=1) (b:=rb) (k:=k) (v:=.slice a236 ((mixL (R1[k]) pr ((L1[k])[col])).length) k237) (by as_aux_lemma=>kernel_rfl) rfl (by as_aux_lemma=>kernel_rfl) H rfl hx238 hn239 (mixL (R1[k]) pr ((L1[k])[col])) (H.rp 0 rfl) ?_
      intro w248 hch247 H
      have H:=H.reW (ys:=clTo R1 L1 pr at_ col (k+1)) (clTo_hit' (by omega) (by omega) hen hcz rfl)
      have hS249:=hS.sto hch247 (.inr (by simp))
      refine⟨hS249,?_⟩
      have hS:=hS249
      refine RH.fin hS 0 [1,2,3,46,47,48] [(1,.I at_),(2,.I col),(3,.P b1 0),(46,.slice (some ⟨lb,0,none⟩) r lc),(47,.I ((r:Nat):Int)),(48,.I k)] (by as_aux_lemma=>kernel_rfl) ?_
      refine qR 1 [.c [4,0,0,3],.l [4,0,0],.b 0] [(1,.I at_),(2,.I col),(3,.P b1 0),(46,.slice (some ⟨lb,0,none⟩) r lc),(47,.I ((r:Nat):Int)),(48,.I k)] ?_
      refine qG (sq 0 2) ?_
      refine qI .seq 98 (sq 1 2) ((k:Int)+1) ?_
      refine qF 1 [(1,.I at_),(2,.I col),(3,.P b1 0),(46,.slice (some ⟨lb,0,none⟩) r lc),(47,.I ((r:Nat):Int)),(48,.I ((k:Int)+1))] ?_
      have H:=H.pick [] rfl
      have H:=H.frontW 1 (W':=[⟨SB,28,.slice (some ⟨lb,0,none⟩) r lc,clTo L1 L1 pl at_ col (k+1)⟩,⟨SB,28,.slice (some ⟨rb,0,none⟩) r rc,clTo R1 L1 pr at_ col (k+1)⟩]) rfl
      exact WK.back (hback165 (k+1) _ ⟨H,by omega⟩ (by first|omega|(simp only[];omega))) (by as_aux_lemma=>kernel_rfl)
     ·
      refine RG.leaf' [(12,.seq),(7,.seq),(14,.seq),(15,.qui),(16,.qui),(17,.qui),(18,.qui),(19,.seq)] (by as_aux_lemma=>kernel_rfl) ?_
      have Hr:=H
      refine RH.chn hS ?_
      refine qL .chn 92 [] 28 rb (at_*1) 0 (.slice a230 pr.length k231) hcell228 ?_
      intro hS
      have Hr:=H
      refine RH.chn hS ?_
      refine qL .chn 87 [] 28 rb (k*1) 0 (.slice a221 (R1[k]).length k222) hcell219 ?_
      intro hS
      have Hr:=H
      refine RH.chn hS ?_
      refine qK .chn (some 94) [] 108 #[.slice a221 (R1[k]).length k222,.slice a230 pr.length k231,.int .u8 ((((L1[k])[col]).toNat:Nat):Int)] (mix_spec (xs:=R1[k]) (ys:=pr) ((L1[k])[col]) (H.rp 1 rfl) (H.rp 0 rfl) (by first|omega|assumption) (by omega)) ?_
      rintro _ w253-⟨a254,k255,rfl,H'⟩
      have H:=H.back (M1:=[]) (W1:=[]) H'
      have H:Hp w S O [(b1,.cells #[.slice (some ⟨lb,0,none⟩) r lc,.slice (some ⟨rb,0,none⟩) r rc] 259 (0,0))] [⟨Sb,5,.slice a254 ((mixL (R1[k]) pr ((L1[k])[col])).length) k255,mixL (R1[k]) pr ((L1[k])[col])⟩,⟨SB,28,.slice (some ⟨rb,0,none⟩) r rc,(clTo R1 L1 pr at_ col k)⟩,⟨SB,28,.slice (some ⟨lb,0,none⟩) r lc,clTo L1 L1 pl at_ col (k+1)⟩] [Rp SB [.slice a230 pr.length k231] pr,Rp SB [.slice a221 (R1[k]).length k222] (R1[k]),Rp SB [.slice a198 ((mixL (L1[k]) pl ((L1[k])[col])).length) k199] (mixL (L1[k]) pl ((L1[k])[col])),Rp SB [.slice a207 (L1[k]).length k208] (L1[k]),Rp SB [.slice a193 pl.length k194] pl,Fc b178 o179 [.int .u8 ((((L1[k])[col]).toNat:Nat):Int)],Rp SB [.slice a175 (L1[k]).length k176] (L1[k])] _:=H
      intro hS
      refine qHP hS 3 [(18,.qui),(19,.seq)] [(1,.I at_),(2,.I col),(3,.P b1 0),(46,.slice (some ⟨lb,0,none⟩) r lc),(47,.I ((r:Nat):Int)),(48,.I k),(81,.slice (some ⟨rb,0,none⟩) r rc),(82,.I k),(95,.slice a254 ((mixL (R1[k]) pr ((L1[k])[col])).length) k255)] ?_
      have H:=H.frontW 1 (W':=[⟨SB,28,.slice (some ⟨rb,0,none⟩) r rc,(clTo R1 L1 pr at_ col k)⟩,⟨Sb,5,.slice a254 ((mixL (R1[k]) pr ((L1[k])[col])).length) k255,mixL (R1[k]) pr ((L1[k])[col])⟩,⟨SB,28,.slice (some ⟨lb,0,none⟩) r lc,clTo L1 L1 pl at_ col (k+1)⟩]) rfl
      have hn257:r=(clTo R1 L1 pr at_ col k).length:=by rw[clTo_len];omega
      have hx256:k<(clTo R1 L1 pr at_ col k).length:=by rw[clTo_len];omega
      refine RH.indexW (d:=some 97) (r:=[(19,.seq)]) (T:=74) (e:=28) (m:=1) (ik:=.i64) (ix:=(k:Int)) (sh:=SB) (xs:=(clTo R1 L1 pr at_ col k)) (a:=(some ⟨rb,0,none⟩)) (len:=r) (cap:=rc) (by as_aux_lemma=>kernel_rfl) hS (by as_aux_lemma=>kernel_rfl) rfl H k (by omega) hx256 hn257 ?_
      intro b258 es259 ha260 hcell261 hr262
      cases ha260
      rw[clTo_get (by omega) (.inl (by omega)) _]at hr262
      obtain⟨a263,k264,rfl⟩:=Shape.slice_form' hr262
      have H:=H.add (F:=Rp SB [.slice a263 (R1[k]).length k264] (R1[k])) hr262
      refine RH.sto ?_
      have H:Hp w S O [(b1,.cells #[.slice (some ⟨lb,0,none⟩) r lc,.slice (some ⟨rb,0,none⟩) r rc] 259 (0,0))] [⟨SB,28,.slice (some ⟨rb,0,none⟩) r rc,(clTo R1 L1 pr at_ col k)⟩,⟨SB,28,.slice (some ⟨lb,0,none⟩) r lc,clTo L1 L1 pl at_ col (k+1)⟩] [Rp SB [.slice a254 ((mixL (R1[k]) pr ((L1[k])[col])).length) k255] (mixL (R1[k]) pr ((L1[k])[col])),Rp SB [.slice a263 (R1[k]).length k264] (R1[k]),Rp SB [.slice a230 pr.length k231] pr,Rp SB [.slice a221 (R1[k]).length k222] (R1[k]),Rp SB [.slice a198 ((mixL (L1[k]) pl ((L1[k])[col])).length) k199] (mixL (L1[k]) pl ((L1[k])[col])),Rp SB [.slice a207 (L1[k]).length k208] (L1[k]),Rp SB [.slice a193 pl.length k194] pl,Fc b178 o179 [.int .u8 ((((L1[k])[col]).toNat:Nat):Int)],Rp SB [.slice a175 (L1[k]).length k176] (L1[k])] _:=H.freezeW 1 rfl
      refine RW.storeWC (d:=none) (r:=[]) (e:=28) (m:=1) (b:=rb) (k:=k) (v:=.slice a254 ((mixL (R1[k]) pr ((L1[k])[col])).length) k255) (by as_aux_lemma=>kernel_rfl) rfl (by as_aux_lemma=>kernel_rfl) H rfl hx256 hn257 (mixL (R1[k]) pr ((L1[k])[col])) (H.rp 0 rfl) ?_
      intro w266 hch265 H
      have H:=H.reW (ys:=clTo R1 L1 pr at_ col (k+1)) (clTo_hit' (by omega) (by omega) hen hcz rfl)
      have hS267:=hS.sto hch265 (.inr (by simp))
      refine⟨hS267,?_⟩
      have hS:=hS267
      refine RH.fin hS 0 [1,2,3,46,47,48] [(1,.I at_),(2,.I col),(3,.P b1 0),(46,.slice (some ⟨lb,0,none⟩) r lc),(47,.I ((r:Nat):Int)),(48,.I k)] (by as_aux_lemma=>kernel_rfl) ?_
      refine qR 1 [.c [4,0,0,3],.l [4,0,0],.b 0] [(1,.I at_),(2,.I col),(3,.P b1 0),(46,.slice (some ⟨lb,0,none⟩) r lc),(47,.I ((r:Nat):Int)),(48,.I k)] ?_
      refine qG (sq 0 2) ?_
      refine qI .seq 98 (sq 1 2) ((k:Int)+1) ?_
      refine qF 1 [(1,.I at_),(2,.I col),(3,.P b1 0),(46,.slice (some ⟨lb,0,none⟩) r lc),(47,.I ((r:Nat):Int)),(48,.I ((k:Int)+1))] ?_
      have H:=H.pick [] rfl
      have H:=H.frontW 1 (W':=[⟨SB,28,.slice (some ⟨lb,0,none⟩) r lc,clTo L1 L1 pl at_ col (k+1)⟩,⟨SB,28,.slice (some ⟨rb,0,none⟩) r rc,clTo R1 L1 pr at_ col (k+1)⟩]) rfl
      exact WK.back (hback165 (k+1) _ ⟨H,by omega⟩ (by first|omega|(simp only[];omega))) (by as_aux_lemma=>kernel_rfl)
    ·
     refine qR 2 [.c [4,0,0,3],.l [4,0,0],.b 0] [(1,.I at_),(2,.I col),(3,.P b1 0),(46,.slice (some ⟨lb,0,none⟩) r lc),(47,.I ((r:Nat):Int)),(48,.I k)] ?_
     refine qG (sq 0 2) ?_
     refine qI .seq 98 (sq 1 2) ((k:Int)+1) ?_
     refine qF 1 [(1,.I at_),(2,.I col),(3,.P b1 0),(46,.slice (some ⟨lb,0,none⟩) r lc),(47,.I ((r:Nat):Int)),(48,.I ((k:Int)+1))] ?_
     have hms:k=at_∨entAt L1 k col=0#8:=by first|exact .inl (by omega)|exact .inr (hen.trans (bvz0 (by omega)))
     rw[clTo_miss (A:=L1) (p:=pl) hms,clTo_miss (A:=R1) (p:=pr) hms]at H
     have H:Hp w S O [(b1,.cells #[.slice (some ⟨lb,0,none⟩) r lc,.slice (some ⟨rb,0,none⟩) r rc] 259 (0,0))] [⟨SB,28,.slice (some ⟨lb,0,none⟩) r lc,(clTo L1 L1 pl at_ col (k+1))⟩,⟨SB,28,.slice (some ⟨rb,0,none⟩) r rc,(clTo R1 L1 pr at_ col (k+1))⟩] [Fc b178 o179 [.int .u8 ((((L1[k])[col]).toNat:Nat):Int)],Rp SB [.slice a175 (L1[k]).length k176] (L1[k])] w166:=H
     have H:=H.pick [] rfl
     exact WK.back (hback165 (k+1) _ ⟨H,by omega⟩ (by first|omega|(simp only[];omega))) (by as_aux_lemma=>kernel_rfl)
   ·
    refine qF 3 [(1,.I at_),(2,.I col),(3,.P b1 0),(8,.I k),(9,.slice a175 (L1[k]).length k176),(10,.int .u8 ((((L1[k])[col]).toNat:Nat):Int)),(46,.slice (some ⟨lb,0,none⟩) r lc),(47,.I ((r:Nat):Int)),(48,.I k),(63,.bool false)] ?_
    refine qR 3 [.c [4,0,0,3],.l [4,0,0],.b 0] [(1,.I at_),(2,.I col),(3,.P b1 0),(46,.slice (some ⟨lb,0,none⟩) r lc),(47,.I ((r:Nat):Int)),(48,.I k)] ?_
    refine qG (sq 0 2) ?_
    refine qI .seq 98 (sq 1 2) ((k:Int)+1) ?_
    refine qF 1 [(1,.I at_),(2,.I col),(3,.P b1 0),(46,.slice (some ⟨lb,0,none⟩) r lc),(47,.I ((r:Nat):Int)),(48,.I ((k:Int)+1))] ?_
    have hms:k=at_∨entAt L1 k col=0#8:=by first|exact .inl (by omega)|exact .inr (hen.trans (bvz0 (by omega)))
    rw[clTo_miss (A:=L1) (p:=pl) hms,clTo_miss (A:=R1) (p:=pr) hms]at H
    have H:Hp w S O [(b1,.cells #[.slice (some ⟨lb,0,none⟩) r lc,.slice (some ⟨rb,0,none⟩) r rc] 259 (0,0))] [⟨SB,28,.slice (some ⟨lb,0,none⟩) r lc,(clTo L1 L1 pl at_ col (k+1))⟩,⟨SB,28,.slice (some ⟨rb,0,none⟩) r rc,(clTo R1 L1 pr at_ col (k+1))⟩] [Fc b178 o179 [.int .u8 ((((L1[k])[col]).toNat:Nat):Int)],Rp SB [.slice a175 (L1[k]).length k176] (L1[k])] w166:=H
    have H:=H.pick [] rfl
    exact WK.back (hback165 (k+1) _ ⟨H,by omega⟩ (by first|omega|(simp only[];omega))) (by as_aux_lemma=>kernel_rfl)
  ·
   refine qR 1 [] [] ?_
   refine WK.fin (v:=.tuple #[]) Tryz.func221 (by as_aux_lemma=>kernel_rfl) ?_
   have hke:k=r:=by omega
   rw[hke]at H
   have hla:at_<L.length:=by omega
   have hra:at_<R.length:=by omega
   have hlc:col<(L[at_]).length:=by omega
   have e1:clTo L1 L1 pl at_ col r=clearL L at_ col:=by
    unfold clearL
    dsimp only
    rw[rowAt_eq hla,entAt_eq hla hlc,←hpl,←hL1,hL1l]
   have e2:clTo R1 L1 pr at_ col r=clearR L R at_ col:=by
    unfold clearR
    dsimp only
    rw[rowAt_eq hla,rowAt_eq hra,entAt_eq hla hlc,←hpl,←hpr,←hL1,←hR1,hR]
   rw[e1,e2]at H
   have H:=H.dropM 0
   exact⟨_,rfl,rfl,H.pick [] rfl⟩
end Go.Proofs.YtcafjhnjhhicdaaGreatDoor
