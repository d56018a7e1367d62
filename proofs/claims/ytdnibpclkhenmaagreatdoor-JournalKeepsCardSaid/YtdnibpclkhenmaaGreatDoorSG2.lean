import Derived.Test.YtdnibpclkhenmaaGreatDoorSBxA
import Derived.Test.YtdnibpclkhenmaaGreatDoorSG1
namespace Go.Proofs.YtdnibpclkhenmaaGreatDoor
open Go.BX
theorem stepIn_mk{k:Int}{f:Option Nat}{frm to:ByteArray}{at_:Int}{d:Sec}(h1:0≤k∧k≤3)(h2:0≤at_∧at_<65536)(h3:frm.size≤maxLen)(h4:to.size≤maxLen):StepIn ⟨k,f,frm,to,at_,d⟩:=⟨h1,h2,h3,h4⟩
theorem write_new{S:Nat→Prop}{w:World}{O:List Nat}{db sb nb sk c:Nat}{sa:Option Addr}{L:NameL}{steps:List StepD}{armed:Bool}{left:Int}{name:ByteArray}(hs:name.size≤maxLen){at_:Int}{xs:List (BitVec 8)}{a:Option Addr}{ca:Nat}(hnm:nmI name=1)(hat:0≤at_∧at_<65536)(hxs:xs.length=64)(hst:steps.length≤1000000000)(hgo:armed=true→1≤left∧left≤9223372036854775807)(hf:mfind name L=none)(hL:L.length<256)(H0:Hp w S O [(db,.cells #[.bool true,.map (some sb),.map (some nb),.slice sa steps.length sk,.bool armed,.I left,.bool false] 39 (0,0)),(nb,mapO Value.string ptrV L c)] [⟨stepS,143,.slice sa steps.length sk,steps⟩] [Rp SB [.slice a xs.length ca] xs] w):
 Calls Tryz.prog 118 #[.P db 0,.string name,.I at_,.slice a xs.length ca] w (Ret fun v w'=>v=.I 0∧∃(p s n:Nat)(sa':Option Addr)(sk':Nat),Hp w S O ((db,.cells #[.bool true,.map (some sb),.map (some nb),.slice sa' (((steps++[(⟨0,some p,(⟨#[]⟩:ByteArray),name,0,zeroSec⟩:StepD)]++[(⟨3,some p,(⟨#[]⟩:ByteArray),(⟨#[]⟩:ByteArray),at_,secOf xs⟩:StepD)])).length) sk',.bool armed,.I (lf armed left),.bool false] 39 (0,0))::(nb,mapO Value.string ptrV (mset name (some p) c L) (mclk name c L))::fileH (putB at_ (secOf xs) ⟨p,s,n,[],0,[],0,0⟩)) [⟨stepS,143,.slice sa' ((steps++[(⟨0,some p,(⟨#[]⟩:ByteArray),name,0,zeroSec⟩:StepD)]++[(⟨3,some p,(⟨#[]⟩:ByteArray),(⟨#[]⟩:ByteArray),at_,secOf xs⟩:StepD)])).length sk',(steps++[(⟨0,some p,(⟨#[]⟩:ByteArray),name,0,zeroSec⟩:StepD)]++[(⟨3,some p,(⟨#[]⟩:ByteArray),(⟨#[]⟩:ByteArray),at_,secOf xs⟩:StepD)])⟩] [] w'):=by
 refine uS1 Tryz.func118 ?_
 have H:=H0
 refine uR 4 [.c [1,0,0],.c [1,0,1],.c [2]] ?_
 refine qG (sq 0 3) ?_
 refine uP 1 ?_
 refine uK (state_spec (S:=fun _=>True) (made:=true) (dead:=false) (H.viewM 0 rfl (by simp))) ?_
 rintro _ _ y rfl
 have H:=H.ext y
 refine uF 1 ?_
 refine uR 6 [.c [2,0,0],.c [2,0,1],.c [3]] ?_
 refine qG (sq 0 16) ?_
 refine uP 1 ?_
 refine uK (named_spec (S:=fun _=>True) name hs) ?_
 rintro _ _ A rfl
 have H:=H.ext A
 refine uP 2 ?_
 refine uT 21 (!(decide (nmI name=1))) (fun h=>?_) (fun h=>?_)
 ·
  replace h:(decide (nmI name=1))=false:=by revert h;cases(decide (nmI name=1))<;>simp
  replace h:=of_decide_eq_false h
  omega
 ·
  replace h:(decide (nmI name=1))=true:=by revert h;cases(decide (nmI name=1))<;>simp
  replace h:=of_decide_eq_true h
  refine uP 4 ?_
  refine uD 25 ((at_:Int)<0) (fun D=>?_) (fun D=>?_)
  ·
   omega
  ·
   refine uP 4 ?_
   refine uD 29 ((at_:Int)≥65536) (fun F=>?_) (fun F=>?_)
   ·
    omega
   ·
    refine uF 4 ?_
    refine qN ((xs.length:Nat):Int) 64 (fun G=>?_) (fun G=>?_)
    ·
     omega
    ·
     refine uR 2 [.c [3,0],.c [4]] ?_
     refine qG (sq 0 11) ?_
     refine qP 3 (sq 3 11) [(0,.P db 0),(1,.string name),(2,.I at_),(3,.slice a xs.length ca),(37,.P db 2)] ?_
     refine uV 36 2 (H.cells 0 rfl) ?_
     refine uP 1 ?_
     refine RW.mapGetF (κ:=.seq) (d:=some 40) (r:=(sq 6 11)) (T:=36) (mk:=Value.string) (vk:=ptrV) (Kt:=9) (E:=139) (z:=none) name true (none) (v:=.tuple #[.pointer none,.bool false]) (by as_aux_lemma=>kernel_rfl) H 1 rfl (KeyOk.str (by as_aux_lemma=>kernel_rfl)) (by as_aux_lemma=>kernel_rfl) (fun w_=>zeroE_run (by as_aux_lemma=>kernel_rfl) w_) (hf) rfl ?_
     refine uF 5 ?_
     refine uR 2 [.c [4,0,0],.c [4,0,1],.c [5]] ?_
     refine qG (sq 0 10) ?_
     refine uP 6 ?_
     refine uV 36 2 (H.cells 0 rfl) ?_
     refine RW.mapLen (κ:=.seq) (d:=some 50) (r:=(sq 8 10)) (T:=36) (ts:=#[36]) (t:=3) (mk:=Value.string) (vk:=ptrV) (Kt:=9) (E:=139) (by as_aux_lemma=>kernel_rfl) H 1 rfl (by as_aux_lemma=>kernel_rfl) (by as_aux_lemma=>kernel_rfl) ?_
     refine uF 2 ?_
     refine qD ((((L.length:Nat):Int):Int)≥256) (fun J=>?_) (fun J=>?_)
     ·
      omega
     ·
      refine uR 3 [.c [5,0,0],.c [5,0,1],.c [6]] ?_
      refine qG (sq 0 2) ?_
      refine uP 1 ?_
      refine uKS (spent_go hgo ((H.lend (M1:=[_]) (W1:=[])).pick [] rfl)) ?_
      rintro _ _⟨rfl,H'⟩
      have H:=H.back (M1:=[_]) (W1:=[]) H'
      have H:Hp w S O [(db,.cells #[.bool true,.map (some sb),.map (some nb),.slice sa steps.length sk,.bool armed,.I (lf armed left),.bool false] 39 (0,0)),_] [_] [_] _:=H
      refine uF 0 ?_
      refine uR 7 [.c [6,0,1,0,0],.c [6,0,1,0,1],.c [7]] ?_
      refine qG (sq 0 5) ?_
      refine RW.new (κ:=.seq) (d:=some 57) (r:=(sq 1 5)) (o:=mapO (Value.int .i64) secVal ([]:List (Int×Sec×Nat)) 0) (v:=fun b_=>.map (some b_)) (fun _=>by as_aux_lemma=>kernel_rfl) (nofun) H ?_
      intro f _ H
      refine RW.new (κ:=.seq) (d:=some 58) (r:=(sq 2 5)) (o:=mapO (Value.int .i64) secVal ([]:List (Int×Sec×Nat)) 0) (v:=fun b_=>.map (some b_)) (fun _=>by as_aux_lemma=>kernel_rfl) (nofun) H ?_
      intro g _ H
      refine uP 1 ?_
      refine uC #[.map (some f),.map (some g),.I 0] 147 H ?_
      intro e _ H
      refine qF 1 [(0,.P db 0),(1,.string name),(2,.I at_),(3,.slice a xs.length ca),(10,.P e 0)] ?_
      refine uR 1 [.c [6,0,1,0,1,0],.c [6,0,1,0,2],.c [7]] ?_
      refine qG (sq 0 7) ?_
      refine uP 3 ?_
      refine uV 36 2 (H.cells 3 rfl) ?_
      refine uP 2 ?_
      refine RW.mapSet (d:=none) (r:=(sq 7 7)) (T:=36) (mk:=Value.string) (vk:=ptrV) (Kt:=9) (E:=139) (M':=[(e,.cells #[.map (some f),.map (some g),.I 0] 147 (0,0)),(g,mapO (Value.int .i64) secVal ([]:List (Int×Sec×Nat)) 0),(f,mapO (Value.int .i64) secVal ([]:List (Int×Sec×Nat)) 0),(db,.cells #[.bool true,.map (some sb),.map (some nb),.slice sa steps.length sk,.bool armed,.I (lf armed left),.bool false] 39 (0,0)),(nb,mapO Value.string ptrV (mset name (some e) c L) (mclk name c L))]) name (some e) (by as_aux_lemma=>kernel_rfl) H 4 rfl (KeyOk.str (by as_aux_lemma=>kernel_rfl)) (by as_aux_lemma=>kernel_rfl) rfl ?_
      intro _ _ H
      refine uF 0 ?_
      refine qG (sq 0 13) ?_
      refine uP 4 ?_
      refine uV 37 3 (H.cells 3 rfl) ?_
      refine uP 3 ?_
      refine RW.new (κ:=.seq) (d:=some 75) (r:=(sq 9 13)) (o:=.cells (stepC (⟨0,(some e),(⟨#[]⟩:ByteArray),name,0,zeroSec⟩:StepD)).toArray 143 (0,0)) (v:=fun b=>.slice (some ⟨b,0,none⟩) 1 1) (fun b=>by as_aux_lemma=>kernel_rfl) (nofun) H ?_
      intro B _ H
      have H:=H.freeze 0 rfl stepS [(⟨0,(some e),(⟨#[]⟩:ByteArray),name,0,zeroSec⟩:StepD)] 1 (by simp[maxLen]) (by first|exact Nat.le_refl _|simp) (EsP.cons (c:=stepC (⟨0,(some e),(⟨#[]⟩:ByteArray),name,0,zeroSec⟩:StepD)) ⟨rfl,stepIn_mk (by decide) (by first|decide|omega) (Nat.zero_le _) (by first|exact Nat.zero_le _|assumption)⟩ EsP.nil)
      have H:Hp w S O [_,_,_,_,_] [_] [Rp (Shape.slice stepS) [.slice (some ⟨B,0,none⟩) 1 1] ([(⟨0,(some e),(⟨#[]⟩:ByteArray),name,0,zeroSec⟩:StepD)]),_] _:=H
      refine uA 37 37 120 (steps++([(⟨0,(some e),(⟨#[]⟩:ByteArray),name,0,zeroSec⟩:StepD)])) H 0 rfl 0 rfl (rfl) (by simp;omega) ?_
      intro k l _ H _
      have H:Hp w S O [_,_,_,_,_] [⟨stepS,143,.slice k ((steps++([(⟨0,(some e),(⟨#[]⟩:ByteArray),name,0,zeroSec⟩:StepD)])).length) l,steps++([(⟨0,(some e),(⟨#[]⟩:ByteArray),name,0,zeroSec⟩:StepD)])⟩] [_,_] _:=H
      refine uP 2 ?_
      refine uW 37 3 #[.bool true,.map (some sb),.map (some nb),.slice k ((steps++([(⟨0,(some e),(⟨#[]⟩:ByteArray),name,0,zeroSec⟩:StepD)])).length) l,.bool armed,.I (lf armed left),.bool false] H 3 rfl ?_
      intro _ H
      refine uF 0 ?_
      refine uR 1 [.c [7,0],.c [8]] ?_
      refine qG (sq 0 5) ?_
      refine uP 1 ?_
      obtain⟨_,_,ha_,j⟩:=bytes_cells (H.viewF 1 rfl) (N:=64) (by omega) (by decide)
      refine RW.arrAt (κ:=.seq) (d:=some 80) (r:=(sq 2 5)) (T:=141) (E:=5) (N:=64) (a:=a) (len:=xs.length) (cap:=ca) (by as_aux_lemma=>kernel_rfl) (by as_aux_lemma=>kernel_rfl) (by omega) ?_
      rw[ha_]
      refine uV 141 0 j ?_
      refine uC ((secC zeroSec).toArray) 141 H ?_
      intro i _ H
      refine uW 141 0 (secC (secOf xs)).toArray H 0 rfl ?_
      intro m H
      refine qF 0 [(0,.P db 0),(2,.I at_),(10,.P e 0),(12,.P i 0)] ?_
      refine uR 1 [.c [8,0],.c [9]] ?_
      refine WK.draw1 6 (qs [0,1,2,3,4,5]) [(0,.qui),(1,.qui),(2,.qui),(3,.qui),(4,.qui),(5,.qui),(6,.seq)] Tryz_mixed (by as_aux_lemma=>kernel_rfl) (by as_aux_lemma=>kernel_rfl) (by as_aux_lemma=>kernel_rfl) ?_
      have H:=H.draw
      generalize({m with drawn:=m.drawn+1}:World)=K at H⊢
      refine uP 3 ?_
      refine uV 145 1 (H.cells 1 rfl) ?_
      refine uP 1 ?_
      refine uV 141 0 (H.cells 0 rfl) ?_
      refine RW.mapSet (d:=none) (r:=[]) (T:=145) (mk:=(Value.int .i64)) (vk:=secVal) (Kt:=3) (E:=141) (M':=[(i,.cells (secC (secOf xs)).toArray 141 (0,0)),(e,.cells #[.map (some f),.map (some g),.I 0] 147 (0,0)),(g,mapO (Value.int .i64) secVal (mset at_ (secOf xs) 0 ([]:List (Int×Sec×Nat))) (mclk at_ 0 ([]:List (Int×Sec×Nat)))),(f,mapO (Value.int .i64) secVal ([]:List (Int×Sec×Nat)) 0),(db,.cells #[.bool true,.map (some sb),.map (some nb),.slice k ((steps++([(⟨0,(some e),(⟨#[]⟩:ByteArray),name,0,zeroSec⟩:StepD)])).length) l,.bool armed,.I (lf armed left),.bool false] 39 (0,0)),(nb,mapO Value.string ptrV (mset name (some e) c L) (mclk name c L))]) at_ (secOf xs) (by as_aux_lemma=>kernel_rfl) H 2 rfl (KeyOk.int (by as_aux_lemma=>kernel_rfl)) (by as_aux_lemma=>kernel_rfl) rfl ?_
      intro _ _ H
      refine uF 0 ?_
      refine uR 1 [.c [9,0],.c [10]] ?_
      refine qG (sq 0 11) ?_
      refine uP 4 ?_
      refine uV 3 2 (H.cells 1 rfl) ?_
      refine uP 1 ?_
      refine uI (at_+1) ?_
      refine uP 3 ?_
      refine uW 3 2 #[.map (some f),.map (some g),.I (if at_+1>0 then at_+1 else 0)] H 1 rfl ?_
      intro q H
      refine uF 0 ?_
      refine qR 1 [.c [10,0],.c [11]] [(0,.P db 0),(2,.I at_),(10,.P e 0),(12,.P i 0)] ?_
      refine WK.drawP1 10 [0,1,2,3,5,6] [(104,.I at_),(103,.P e 0),(101,.P db 3),(100,.P db 0),(99,.P db 0),(98,.P db 0),(0,.P db 0),(2,.I at_),(10,.P e 0),(12,.P i 0)] [(4,.qui),(7,.qui),(8,.qui),(9,.chn)] [(4,.qui),(7,.qui),(8,.qui),(9,.chn),(10,.seq),(11,.seq),(12,.seq),(13,.seq)] Tryz_mixed (by as_aux_lemma=>kernel_rfl) (by as_aux_lemma=>kernel_rfl) (by as_aux_lemma=>kernel_rfl) (by as_aux_lemma=>kernel_rfl) ?_
      have H:=H.draw
      generalize({q with drawn:=q.drawn+1}:World)=M at H⊢
      refine uV 37 3 (H.cells 4 rfl) ?_
      refine uV 141 0 (H.cells 0 rfl) ?_
      refine uP 1 ?_
      refine RW.new (κ:=.chn) (d:=some 107) (r:=[(10,.seq),(11,.seq),(12,.seq),(13,.seq)]) (o:=.cells (stepC (⟨3,(some e),(⟨#[]⟩:ByteArray),(⟨#[]⟩:ByteArray),at_,secOf xs⟩:StepD)).toArray 143 (0,0)) (v:=fun b=>.slice (some ⟨b,0,none⟩) 1 1) (fun b=>by as_aux_lemma=>kernel_rfl) (nofun) H ?_
      intro C _ H
      have H:=H.freeze 0 rfl stepS [(⟨3,(some e),(⟨#[]⟩:ByteArray),(⟨#[]⟩:ByteArray),at_,secOf xs⟩:StepD)] 1 (by simp[maxLen]) (by first|exact Nat.le_refl _|simp) (EsP.cons (c:=stepC (⟨3,(some e),(⟨#[]⟩:ByteArray),(⟨#[]⟩:ByteArray),at_,secOf xs⟩:StepD)) ⟨rfl,stepIn_mk (by decide) (by first|decide|omega) (Nat.zero_le _) (by first|exact Nat.zero_le _|assumption)⟩ EsP.nil)
      have H:Hp w S O [_,_,_,_,_,_] [_] [Rp (Shape.slice stepS) [.slice (some ⟨C,0,none⟩) 1 1] ([(⟨3,(some e),(⟨#[]⟩:ByteArray),(⟨#[]⟩:ByteArray),at_,secOf xs⟩:StepD)]),_,_] _:=H
      refine uA 37 37 120 ((steps++([(⟨0,(some e),(⟨#[]⟩:ByteArray),name,0,zeroSec⟩:StepD)]))++([(⟨3,(some e),(⟨#[]⟩:ByteArray),(⟨#[]⟩:ByteArray),at_,secOf xs⟩:StepD)])) H 0 rfl 0 rfl (rfl) (by simp;omega) ?_
      intro u x _ H _
      have H:Hp w S O [_,_,_,_,_,_] [⟨stepS,143,.slice u (((steps++([(⟨0,(some e),(⟨#[]⟩:ByteArray),name,0,zeroSec⟩:StepD)]))++([(⟨3,(some e),(⟨#[]⟩:ByteArray),(⟨#[]⟩:ByteArray),at_,secOf xs⟩:StepD)])).length) x,(steps++([(⟨0,(some e),(⟨#[]⟩:ByteArray),name,0,zeroSec⟩:StepD)]))++([(⟨3,(some e),(⟨#[]⟩:ByteArray),(⟨#[]⟩:ByteArray),at_,secOf xs⟩:StepD)])⟩] [_,_,_] _:=H
      refine uP 2 ?_
      refine uW 37 3 #[.bool true,.map (some sb),.map (some nb),.slice u (((steps++([(⟨0,(some e),(⟨#[]⟩:ByteArray),name,0,zeroSec⟩:StepD)]))++([(⟨3,(some e),(⟨#[]⟩:ByteArray),(⟨#[]⟩:ByteArray),at_,secOf xs⟩:StepD)])).length) x,.bool armed,.I (lf armed left),.bool false] H 4 rfl ?_
      intro _ H
      refine uF 0 ?_
      refine uR 2 [.c [12]] ?_
      refine qT (.I 0) Tryz.func118 ?_
      have H:=H.pick [] rfl
      have H:=H.frontM 2 rfl
      have H:=H.frontM 3 rfl
      have H:=H.frontM 3 rfl
      have H:=H.frontM 5 rfl
      have H:=H.frontM 5 rfl
      have H:=H.dropM 5
      exact⟨_,rfl,rfl,e,f,g,_,_,H⟩
theorem write_old{S:Nat→Prop}{w:World}{O:List Nat}{db sb nb sk c:Nat}{sa:Option Addr}{L:NameL}{steps:List StepD}{armed:Bool}{left:Int}{name:ByteArray}(hs:name.size≤maxLen){at_:Int}{xs:List (BitVec 8)}{a:Option Addr}{ca:Nat}{p s n xc yc:Nat}{X Y:List (Int×Sec×Nat)}{size:Int}(hnm:nmI name=1)(hat:0≤at_∧at_<65536)(hxs:xs.length=64)(hst:steps.length≤1000000000)(hgo:armed=true→1≤left∧left≤9223372036854775807)(hf:mfind name L=some (some p))(H0:Hp w S O [(db,.cells #[.bool true,.map (some sb),.map (some nb),.slice sa steps.length sk,.bool armed,.I left,.bool false] 39 (0,0)),(nb,mapO Value.string ptrV L c),(p,.cells #[.map (some s),.map (some n),.I size] 147 (0,0)),(s,mapO (Value.int .i64) secVal X xc),(n,mapO (Value.int .i64) secVal Y yc)] [⟨stepS,143,.slice sa steps.length sk,steps⟩] [Rp SB [.slice a xs.length ca] xs] w):
 Calls Tryz.prog 118 #[.P db 0,.string name,.I at_,.slice a xs.length ca] w (Ret fun v w'=>v=.I 0∧∃(sa':Option Addr)(sk':Nat),Hp w S O ((db,.cells #[.bool true,.map (some sb),.map (some nb),.slice sa' (((steps++[(⟨3,some p,(⟨#[]⟩:ByteArray),(⟨#[]⟩:ByteArray),at_,secOf xs⟩:StepD)])).length) sk',.bool armed,.I (lf armed left),.bool false] 39 (0,0))::(nb,mapO Value.string ptrV L c)::fileH (putB at_ (secOf xs) ⟨p,s,n,X,xc,Y,yc,size⟩)) [⟨stepS,143,.slice sa' ((steps++[(⟨3,some p,(⟨#[]⟩:ByteArray),(⟨#[]⟩:ByteArray),at_,secOf xs⟩:StepD)])).length sk',(steps++[(⟨3,some p,(⟨#[]⟩:ByteArray),(⟨#[]⟩:ByteArray),at_,secOf xs⟩:StepD)])⟩] [] w'):=by
 refine uS1 Tryz.func118 ?_
 have H:=H0
 refine uR 4 [.c [1,0,0],.c [1,0,1],.c [2]] ?_
 refine qG (sq 0 3) ?_
 refine uP 1 ?_
 refine uK (state_spec (S:=fun _=>True) (made:=true) (dead:=false) (H.viewM 0 rfl (by simp))) ?_
 rintro _ _ l rfl
 have H:=H.ext l
 refine uF 1 ?_
 refine uR 6 [.c [2,0,0],.c [2,0,1],.c [3]] ?_
 refine qG (sq 0 16) ?_
 refine uP 1 ?_
 refine uK (named_spec (S:=fun _=>True) name hs) ?_
 rintro _ _ m rfl
 have H:=H.ext m
 refine uP 2 ?_
 refine uT 21 (!(decide (nmI name=1))) (fun e=>?_) (fun e=>?_)
 ·
  replace e:(decide (nmI name=1))=false:=by revert e;cases(decide (nmI name=1))<;>simp
  replace e:=of_decide_eq_false e
  omega
 ·
  replace e:(decide (nmI name=1))=true:=by revert e;cases(decide (nmI name=1))<;>simp
  replace e:=of_decide_eq_true e
  refine uP 4 ?_
  refine uD 25 ((at_:Int)<0) (fun t=>?_) (fun t=>?_)
  ·
   omega
  ·
   refine uP 4 ?_
   refine uD 29 ((at_:Int)≥65536) (fun u=>?_) (fun u=>?_)
   ·
    omega
   ·
    refine uF 4 ?_
    refine qN ((xs.length:Nat):Int) 64 (fun x=>?_) (fun x=>?_)
    ·
     omega
    ·
     refine uR 2 [.c [3,0],.c [4]] ?_
     refine qG (sq 0 11) ?_
     refine qP 3 (sq 3 11) [(0,.P db 0),(1,.string name),(2,.I at_),(3,.slice a xs.length ca),(37,.P db 2)] ?_
     refine uV 36 2 (H.cells 0 rfl) ?_
     refine uP 1 ?_
     refine RW.mapGetF (κ:=.seq) (d:=some 40) (r:=(sq 6 11)) (T:=36) (mk:=Value.string) (vk:=ptrV) (Kt:=9) (E:=139) (z:=none) name true ((some (some p))) (v:=.tuple #[.P p 0,.bool true]) (by as_aux_lemma=>kernel_rfl) H 1 rfl (KeyOk.str (by as_aux_lemma=>kernel_rfl)) (by as_aux_lemma=>kernel_rfl) (fun w_=>zeroE_run (by as_aux_lemma=>kernel_rfl) w_) (hf) rfl ?_
     refine uF 5 ?_
     refine uR 7 [.c [5,0,0],.c [5,0,1],.c [6]] ?_
     refine qG (sq 0 2) ?_
     refine uP 1 ?_
     refine uKS (spent_go hgo ((H.lend (M1:=[_]) (W1:=[])).pick [] rfl)) ?_
     rintro _ _⟨rfl,H'⟩
     have H:=H.back (M1:=[_]) (W1:=[]) H'
     have H:Hp w S O [(db,.cells #[.bool true,.map (some sb),.map (some nb),.slice sa steps.length sk,.bool armed,.I (lf armed left),.bool false] 39 (0,0)),_,_,_,_] [_] [_] _:=H
     refine uF 0 ?_
     refine uR 8 [.c [7,0],.c [8]] ?_
     refine qG (sq 0 5) ?_
     refine uP 1 ?_
     obtain⟨_,_,ha_,g⟩:=bytes_cells (H.viewF 0 rfl) (N:=64) (by omega) (by decide)
     refine RW.arrAt (κ:=.seq) (d:=some 80) (r:=(sq 2 5)) (T:=141) (E:=5) (N:=64) (a:=a) (len:=xs.length) (cap:=ca) (by as_aux_lemma=>kernel_rfl) (by as_aux_lemma=>kernel_rfl) (by omega) ?_
     rw[ha_]
     refine uV 141 0 g ?_
     refine uC ((secC zeroSec).toArray) 141 H ?_
     intro f _ H
     refine uW 141 0 (secC (secOf xs)).toArray H 0 rfl ?_
     intro h H
     refine uF 0 ?_
     refine uR 1 [.c [8,0],.c [9]] ?_
     refine WK.draw1 6 (qs [0,1,2,3,4,5]) [(0,.qui),(1,.qui),(2,.qui),(3,.qui),(4,.qui),(5,.qui),(6,.seq)] Tryz_mixed (by as_aux_lemma=>kernel_rfl) (by as_aux_lemma=>kernel_rfl) (by as_aux_lemma=>kernel_rfl) ?_
     have H:=H.draw
     generalize({h with drawn:=h.drawn+1}:World)=y at H⊢
     refine uP 3 ?_
     refine uV 145 1 (H.cells 3 rfl) ?_
     refine qP 1 [(5,.qui),(6,.seq)] [(0,.P db 0),(2,.I at_),(10,.P p 0),(12,.P f 0),(85,.map (some n)),(86,.I at_)] ?_
     refine uV 141 0 (H.cells 0 rfl) ?_
     refine RW.mapSet (d:=none) (r:=[]) (T:=145) (mk:=(Value.int .i64)) (vk:=secVal) (Kt:=3) (E:=141) (M':=[(f,.cells (secC (secOf xs)).toArray 141 (0,0)),(db,.cells #[.bool true,.map (some sb),.map (some nb),.slice sa steps.length sk,.bool armed,.I (lf armed left),.bool false] 39 (0,0)),(nb,mapO Value.string ptrV L c),(p,.cells #[.map (some s),.map (some n),.I size] 147 (0,0)),(s,mapO (Value.int .i64) secVal X xc),(n,mapO (Value.int .i64) secVal (mset at_ (secOf xs) yc Y) (mclk at_ yc Y))]) at_ (secOf xs) (by as_aux_lemma=>kernel_rfl) H 5 rfl (KeyOk.int (by as_aux_lemma=>kernel_rfl)) (by as_aux_lemma=>kernel_rfl) rfl ?_
     intro _ _ H
     refine uF 0 ?_
     refine uR 1 [.c [9,0],.c [10]] ?_
     refine qG (sq 0 11) ?_
     refine uP 4 ?_
     refine uV 3 2 (H.cells 3 rfl) ?_
     refine uP 1 ?_
     refine uI (at_+1) ?_
     refine uP 3 ?_
     refine uW 3 2 #[.map (some s),.map (some n),.I (if at_+1>size then at_+1 else size)] H 3 rfl ?_
     intro i H
     refine uF 0 ?_
     refine qR 1 [.c [10,0],.c [11]] [(0,.P db 0),(2,.I at_),(10,.P p 0),(12,.P f 0)] ?_
     refine WK.drawP1 10 [0,1,2,3,5,6] [(104,.I at_),(103,.P p 0),(101,.P db 3),(100,.P db 0),(99,.P db 0),(98,.P db 0),(0,.P db 0),(2,.I at_),(10,.P p 0),(12,.P f 0)] [(4,.qui),(7,.qui),(8,.qui),(9,.chn)] [(4,.qui),(7,.qui),(8,.qui),(9,.chn),(10,.seq),(11,.seq),(12,.seq),(13,.seq)] Tryz_mixed (by as_aux_lemma=>kernel_rfl) (by as_aux_lemma=>kernel_rfl) (by as_aux_lemma=>kernel_rfl) (by as_aux_lemma=>kernel_rfl) ?_
     have H:=H.draw
     generalize({i with drawn:=i.drawn+1}:World)=A at H⊢
     refine uV 37 3 (H.cells 1 rfl) ?_
     refine uV 141 0 (H.cells 0 rfl) ?_
     refine uP 1 ?_
     refine RW.new (κ:=.chn) (d:=some 107) (r:=[(10,.seq),(11,.seq),(12,.seq),(13,.seq)]) (o:=.cells (stepC (⟨3,(some p),(⟨#[]⟩:ByteArray),(⟨#[]⟩:ByteArray),at_,secOf xs⟩:StepD)).toArray 143 (0,0)) (v:=fun b=>.slice (some ⟨b,0,none⟩) 1 1) (fun b=>by as_aux_lemma=>kernel_rfl) (nofun) H ?_
     intro q _ H
     have H:=H.freeze 0 rfl stepS [(⟨3,(some p),(⟨#[]⟩:ByteArray),(⟨#[]⟩:ByteArray),at_,secOf xs⟩:StepD)] 1 (by simp[maxLen]) (by first|exact Nat.le_refl _|simp) (EsP.cons (c:=stepC (⟨3,(some p),(⟨#[]⟩:ByteArray),(⟨#[]⟩:ByteArray),at_,secOf xs⟩:StepD)) ⟨rfl,stepIn_mk (by decide) (by first|decide|omega) (Nat.zero_le _) (by first|exact Nat.zero_le _|assumption)⟩ EsP.nil)
     have H:Hp w S O [_,_,_,_,_,_] [_] [Rp (Shape.slice stepS) [.slice (some ⟨q,0,none⟩) 1 1] ([(⟨3,(some p),(⟨#[]⟩:ByteArray),(⟨#[]⟩:ByteArray),at_,secOf xs⟩:StepD)]),_] _:=H
     refine uA 37 37 120 (steps++([(⟨3,(some p),(⟨#[]⟩:ByteArray),(⟨#[]⟩:ByteArray),at_,secOf xs⟩:StepD)])) H 0 rfl 0 rfl (rfl) (by simp;omega) ?_
     intro j k _ H _
     have H:Hp w S O [_,_,_,_,_,_] [⟨stepS,143,.slice j ((steps++([(⟨3,(some p),(⟨#[]⟩:ByteArray),(⟨#[]⟩:ByteArray),at_,secOf xs⟩:StepD)])).length) k,steps++([(⟨3,(some p),(⟨#[]⟩:ByteArray),(⟨#[]⟩:ByteArray),at_,secOf xs⟩:StepD)])⟩] [_,_] _:=H
     refine uP 2 ?_
     refine uW 37 3 #[.bool true,.map (some sb),.map (some nb),.slice j ((steps++([(⟨3,(some p),(⟨#[]⟩:ByteArray),(⟨#[]⟩:ByteArray),at_,secOf xs⟩:StepD)])).length) k,.bool armed,.I (lf armed left),.bool false] H 1 rfl ?_
     intro _ H
     refine uF 0 ?_
     refine uR 2 [.c [12]] ?_
     refine qT (.I 0) Tryz.func118 ?_
     have H:=H.pick [] rfl
     have H:=H.frontM 5 rfl
     have H:=H.frontM 5 rfl
     have H:=H.frontM 5 rfl
     have H:=H.frontM 5 rfl
     have H:=H.frontM 5 rfl
     have H:=H.dropM 5
     exact⟨_,rfl,rfl,_,_,H⟩
theorem write_bad{S:Nat→Prop}{w:World}{O:List Nat}{db sk sn:Nat}{nv:Option Nat}{sv:Option Nat}{sa:Option Addr}{armed:Bool}{left:Int}{name:ByteArray}(hs:name.size≤maxLen){at_:Int}{xs:List (BitVec 8)}{a:Option Addr}{ca:Nat}(hat:-9223372036854775808≤at_∧at_≤9223372036854775807)(hb:nmI name≠1∨at_<0∨65536≤at_∨xs.length≠64)(H0:Hp w S O [(db,.cells #[.bool true,.map sv,.map nv,.slice sa sn sk,.bool armed,.I left,.bool false] 39 (0,0))] [] [Rp SB [.slice a xs.length ca] xs] w):
 Calls Tryz.prog 118 #[.P db 0,.string name,.I at_,.slice a xs.length ca] w (Ret fun v w'=>v=.I 2∧Hp w S O [(db,.cells #[.bool true,.map sv,.map nv,.slice sa sn sk,.bool armed,.I left,.bool false] 39 (0,0))] [] [] w'):=by
 refine uS1 Tryz.func118 ?_
 have H:=H0
 refine uR 4 [.c [1,0,0],.c [1,0,1],.c [2]] ?_
 refine qG (sq 0 3) ?_
 refine uP 1 ?_
 refine uK (state_spec (S:=fun _=>True) (made:=true) (dead:=false) (H.viewM 0 rfl (by simp))) ?_
 rintro _ _ d rfl
 have H:=H.ext d
 refine uF 1 ?_
 refine uR 6 [.c [2,0,0],.c [2,0,1],.c [3]] ?_
 refine qG (sq 0 16) ?_
 refine uP 1 ?_
 refine uK (named_spec (S:=fun _=>True) name hs) ?_
 rintro _ _ e rfl
 have H:=H.ext e
 refine uP 2 ?_
 refine uT 21 (!(decide (nmI name=1))) (fun b=>?_) (fun b=>?_)
 ·
  replace b:(decide (nmI name=1))=false:=by revert b;cases(decide (nmI name=1))<;>simp
  replace b:=of_decide_eq_false b
  refine uF 12 ?_
  refine uR 3 [.c [2,0,1,0,1],.c [3]] ?_
  refine qT (.I 2) Tryz.func118 ?_
  have H:=H.pick [] rfl
  exact⟨_,rfl,rfl,H⟩
 ·
  replace b:(decide (nmI name=1))=true:=by revert b;cases(decide (nmI name=1))<;>simp
  replace b:=of_decide_eq_true b
  refine uP 4 ?_
  refine uD 25 ((at_:Int)<0) (fun f=>?_) (fun f=>?_)
  ·
   refine uF 8 ?_
   refine qR 3 [.c [2,0,1,0,1],.c [3]] [(8,.I 2)] ?_
   refine qT (.I 2) Tryz.func118 ?_
   have H:=H.pick [] rfl
   exact⟨_,rfl,rfl,H⟩
  ·
   refine uP 4 ?_
   refine uD 29 ((at_:Int)≥65536) (fun g=>?_) (fun g=>?_)
   ·
    refine uF 4 ?_
    refine uR 3 [.c [2,0,1,0,1],.c [3]] ?_
    refine qT (.I 2) Tryz.func118 ?_
    have H:=H.pick [] rfl
    exact⟨_,rfl,rfl,H⟩
   ·
    refine uF 4 ?_
    refine qN ((xs.length:Nat):Int) 64 (fun h=>?_) (fun h=>?_)
    ·
     refine uR 2 [.c [2,0,1,0,1],.c [3]] ?_
     refine qT (.I 2) Tryz.func118 ?_
     have H:=H.pick [] rfl
     exact⟨_,rfl,rfl,H⟩
    ·
     omega
theorem write_full{S:Nat→Prop}{w:World}{O:List Nat}{db nb sk c sn:Nat}{sv:Option Nat}{sa:Option Addr}{L:NameL}{armed:Bool}{left:Int}{name:ByteArray}(hs:name.size≤maxLen){at_:Int}{xs:List (BitVec 8)}{a:Option Addr}{ca:Nat}(hnm:nmI name=1)(hat:0≤at_∧at_<65536)(hxs:xs.length=64)(hf:mfind name L=none)(hL:256≤L.length)(H0:Hp w S O [(db,.cells #[.bool true,.map sv,.map (some nb),.slice sa sn sk,.bool armed,.I left,.bool false] 39 (0,0)),(nb,mapO Value.string ptrV L c)] [] [Rp SB [.slice a xs.length ca] xs] w):
 Calls Tryz.prog 118 #[.P db 0,.string name,.I at_,.slice a xs.length ca] w (Ret fun v w'=>v=.I 72∧Hp w S O [(db,.cells #[.bool true,.map sv,.map (some nb),.slice sa sn sk,.bool armed,.I left,.bool false] 39 (0,0)),(nb,mapO Value.string ptrV L c)] [] [] w'):=by
 refine uS1 Tryz.func118 ?_
 have H:=H0
 refine uR 4 [.c [1,0,0],.c [1,0,1],.c [2]] ?_
 refine qG (sq 0 3) ?_
 refine uP 1 ?_
 refine uK (state_spec (S:=fun _=>True) (made:=true) (dead:=false) (H.viewM 0 rfl (by simp))) ?_
 rintro _ _ e rfl
 have H:=H.ext e
 refine uF 1 ?_
 refine uR 6 [.c [2,0,0],.c [2,0,1],.c [3]] ?_
 refine qG (sq 0 16) ?_
 refine uP 1 ?_
 refine uK (named_spec (S:=fun _=>True) name hs) ?_
 rintro _ _ f rfl
 have H:=H.ext f
 refine uP 2 ?_
 refine uT 21 (!(decide (nmI name=1))) (fun b=>?_) (fun b=>?_)
 ·
  replace b:(decide (nmI name=1))=false:=by revert b;cases(decide (nmI name=1))<;>simp
  replace b:=of_decide_eq_false b
  omega
 ·
  replace b:(decide (nmI name=1))=true:=by revert b;cases(decide (nmI name=1))<;>simp
  replace b:=of_decide_eq_true b
  refine uP 4 ?_
  refine uD 25 ((at_:Int)<0) (fun g=>?_) (fun g=>?_)
  ·
   omega
  ·
   refine uP 4 ?_
   refine uD 29 ((at_:Int)≥65536) (fun h=>?_) (fun h=>?_)
   ·
    omega
   ·
    refine uF 4 ?_
    refine qN ((xs.length:Nat):Int) 64 (fun i=>?_) (fun i=>?_)
    ·
     omega
    ·
     refine uR 2 [.c [3,0],.c [4]] ?_
     refine qG (sq 0 11) ?_
     refine qP 3 (sq 3 11) [(0,.P db 0),(1,.string name),(2,.I at_),(3,.slice a xs.length ca),(37,.P db 2)] ?_
     refine uV 36 2 (H.cells 0 rfl) ?_
     refine uP 1 ?_
     refine RW.mapGetF (κ:=.seq) (d:=some 40) (r:=(sq 6 11)) (T:=36) (mk:=Value.string) (vk:=ptrV) (Kt:=9) (E:=139) (z:=none) name true (none) (v:=.tuple #[.pointer none,.bool false]) (by as_aux_lemma=>kernel_rfl) H 1 rfl (KeyOk.str (by as_aux_lemma=>kernel_rfl)) (by as_aux_lemma=>kernel_rfl) (fun w_=>zeroE_run (by as_aux_lemma=>kernel_rfl) w_) (hf) rfl ?_
     refine uF 5 ?_
     refine uR 2 [.c [4,0,0],.c [4,0,1],.c [5]] ?_
     refine qG (sq 0 10) ?_
     refine uP 6 ?_
     refine uV 36 2 (H.cells 0 rfl) ?_
     refine RW.mapLen (κ:=.seq) (d:=some 50) (r:=(sq 8 10)) (T:=36) (ts:=#[36]) (t:=3) (mk:=Value.string) (vk:=ptrV) (Kt:=9) (E:=139) (by as_aux_lemma=>kernel_rfl) H 1 rfl (by as_aux_lemma=>kernel_rfl) (by as_aux_lemma=>kernel_rfl) ?_
     refine uF 2 ?_
     refine qD ((((L.length:Nat):Int):Int)≥256) (fun j=>?_) (fun j=>?_)
     ·
      refine uR 2 [.c [4,0,1,0,1],.c [5]] ?_
      refine qT (.I 72) Tryz.func118 ?_
      have H:=H.pick [] rfl
      exact⟨_,rfl,rfl,H⟩
     ·
      omega
theorem write_stopN{S:Nat→Prop}{w:World}{O:List Nat}{db nb sk c sn:Nat}{sv:Option Nat}{sa:Option Addr}{L:NameL}{left:Int}{name:ByteArray}(hs:name.size≤maxLen){at_:Int}{xs:List (BitVec 8)}{a:Option Addr}{ca:Nat}(hnm:nmI name=1)(hat:0≤at_∧at_<65536)(hxs:xs.length=64)(hgo:left<1∧-9223372036854775808<left)(hf:mfind name L=none)(hL:L.length<256)(H0:Hp w S O [(db,.cells #[.bool true,.map sv,.map (some nb),.slice sa sn sk,.bool true,.I left,.bool false] 39 (0,0)),(nb,mapO Value.string ptrV L c)] [] [Rp SB [.slice a xs.length ca] xs] w):
 Calls Tryz.prog 118 #[.P db 0,.string name,.I at_,.slice a xs.length ca] w (Ret fun v w'=>v=.I 70∧Hp w S O [(db,.cells #[.bool true,.map sv,.map (some nb),.slice sa sn sk,.bool true,.I (left-1),.bool true] 39 (0,0)),(nb,mapO Value.string ptrV L c)] [] [] w'):=by
 refine uS1 Tryz.func118 ?_
 have H:=H0
 refine uR 4 [.c [1,0,0],.c [1,0,1],.c [2]] ?_
 refine qG (sq 0 3) ?_
 refine uP 1 ?_
 refine uK (state_spec (S:=fun _=>True) (made:=true) (dead:=false) (H.viewM 0 rfl (by simp))) ?_
 rintro _ _ e rfl
 have H:=H.ext e
 refine uF 1 ?_
 refine uR 6 [.c [2,0,0],.c [2,0,1],.c [3]] ?_
 refine qG (sq 0 16) ?_
 refine uP 1 ?_
 refine uK (named_spec (S:=fun _=>True) name hs) ?_
 rintro _ _ f rfl
 have H:=H.ext f
 refine uP 2 ?_
 refine uT 21 (!(decide (nmI name=1))) (fun b=>?_) (fun b=>?_)
 ·
  replace b:(decide (nmI name=1))=false:=by revert b;cases(decide (nmI name=1))<;>simp
  replace b:=of_decide_eq_false b
  omega
 ·
  replace b:(decide (nmI name=1))=true:=by revert b;cases(decide (nmI name=1))<;>simp
  replace b:=of_decide_eq_true b
  refine uP 4 ?_
  refine uD 25 ((at_:Int)<0) (fun g=>?_) (fun g=>?_)
  ·
   omega
  ·
   refine uP 4 ?_
   refine uD 29 ((at_:Int)≥65536) (fun h=>?_) (fun h=>?_)
   ·
    omega
   ·
    refine uF 4 ?_
    refine qN ((xs.length:Nat):Int) 64 (fun i=>?_) (fun i=>?_)
    ·
     omega
    ·
     refine uR 2 [.c [3,0],.c [4]] ?_
     refine qG (sq 0 11) ?_
     refine qP 3 (sq 3 11) [(0,.P db 0),(1,.string name),(2,.I at_),(3,.slice a xs.length ca),(37,.P db 2)] ?_
     refine uV 36 2 (H.cells 0 rfl) ?_
     refine uP 1 ?_
     refine RW.mapGetF (κ:=.seq) (d:=some 40) (r:=(sq 6 11)) (T:=36) (mk:=Value.string) (vk:=ptrV) (Kt:=9) (E:=139) (z:=none) name true (none) (v:=.tuple #[.pointer none,.bool false]) (by as_aux_lemma=>kernel_rfl) H 1 rfl (KeyOk.str (by as_aux_lemma=>kernel_rfl)) (by as_aux_lemma=>kernel_rfl) (fun w_=>zeroE_run (by as_aux_lemma=>kernel_rfl) w_) (hf) rfl ?_
     refine uF 5 ?_
     refine uR 2 [.c [4,0,0],.c [4,0,1],.c [5]] ?_
     refine qG (sq 0 10) ?_
     refine uP 6 ?_
     refine uV 36 2 (H.cells 0 rfl) ?_
     refine RW.mapLen (κ:=.seq) (d:=some 50) (r:=(sq 8 10)) (T:=36) (ts:=#[36]) (t:=3) (mk:=Value.string) (vk:=ptrV) (Kt:=9) (E:=139) (by as_aux_lemma=>kernel_rfl) H 1 rfl (by as_aux_lemma=>kernel_rfl) (by as_aux_lemma=>kernel_rfl) ?_
     refine uF 2 ?_
     refine qD ((((L.length:Nat):Int):Int)≥256) (fun j=>?_) (fun j=>?_)
     ·
      omega
     ·
      refine uR 3 [.c [5,0,0],.c [5,0,1],.c [6]] ?_
      refine qG (sq 0 2) ?_
      refine uP 1 ?_
      refine uKS (spent_stop hgo ((H.lend (M1:=[_]) (W1:=[])).pick [] rfl)) ?_
      rintro _ _⟨rfl,H'⟩
      have H:=H.back (M1:=[_]) (W1:=[]) H'
      have H:Hp w S O [_,_] [] [_] _:=H
      refine uF 0 ?_
      refine uR 3 [.c [5,0,1,0,1],.c [6]] ?_
      refine qT (.I 70) Tryz.func118 ?_
      have H:=H.pick [] rfl
      exact⟨_,rfl,rfl,H⟩
theorem write_stopO{S:Nat→Prop}{w:World}{O:List Nat}{db nb sk c sn:Nat}{sv:Option Nat}{sa:Option Addr}{L:NameL}{left:Int}{name:ByteArray}(hs:name.size≤maxLen){at_:Int}{xs:List (BitVec 8)}{a:Option Addr}{ca:Nat}(hnm:nmI name=1)(hat:0≤at_∧at_<65536)(hxs:xs.length=64)(hgo:left<1∧-9223372036854775808<left){p:Nat}(hf:mfind name L=some (some p))(H0:Hp w S O [(db,.cells #[.bool true,.map sv,.map (some nb),.slice sa sn sk,.bool true,.I left,.bool false] 39 (0,0)),(nb,mapO Value.string ptrV L c)] [] [Rp SB [.slice a xs.length ca] xs] w):
 Calls Tryz.prog 118 #[.P db 0,.string name,.I at_,.slice a xs.length ca] w (Ret fun v w'=>v=.I 70∧Hp w S O [(db,.cells #[.bool true,.map sv,.map (some nb),.slice sa sn sk,.bool true,.I (left-1),.bool true] 39 (0,0)),(nb,mapO Value.string ptrV L c)] [] [] w'):=by
 refine uS1 Tryz.func118 ?_
 have H:=H0
 refine uR 4 [.c [1,0,0],.c [1,0,1],.c [2]] ?_
 refine qG (sq 0 3) ?_
 refine uP 1 ?_
 refine uK (state_spec (S:=fun _=>True) (made:=true) (dead:=false) (H.viewM 0 rfl (by simp))) ?_
 rintro _ _ e rfl
 have H:=H.ext e
 refine uF 1 ?_
 refine uR 6 [.c [2,0,0],.c [2,0,1],.c [3]] ?_
 refine qG (sq 0 16) ?_
 refine uP 1 ?_
 refine uK (named_spec (S:=fun _=>True) name hs) ?_
 rintro _ _ f rfl
 have H:=H.ext f
 refine uP 2 ?_
 refine uT 21 (!(decide (nmI name=1))) (fun b=>?_) (fun b=>?_)
 ·
  replace b:(decide (nmI name=1))=false:=by revert b;cases(decide (nmI name=1))<;>simp
  replace b:=of_decide_eq_false b
  omega
 ·
  replace b:(decide (nmI name=1))=true:=by revert b;cases(decide (nmI name=1))<;>simp
  replace b:=of_decide_eq_true b
  refine uP 4 ?_
  refine uD 25 ((at_:Int)<0) (fun g=>?_) (fun g=>?_)
  ·
   omega
  ·
   refine uP 4 ?_
   refine uD 29 ((at_:Int)≥65536) (fun h=>?_) (fun h=>?_)
   ·
    omega
   ·
    refine uF 4 ?_
    refine qN ((xs.length:Nat):Int) 64 (fun i=>?_) (fun i=>?_)
    ·
     omega
    ·
     refine uR 2 [.c [3,0],.c [4]] ?_
     refine qG (sq 0 11) ?_
     refine qP 3 (sq 3 11) [(0,.P db 0),(1,.string name),(2,.I at_),(3,.slice a xs.length ca),(37,.P db 2)] ?_
     refine uV 36 2 (H.cells 0 rfl) ?_
     refine uP 1 ?_
     refine RW.mapGetF (κ:=.seq) (d:=some 40) (r:=(sq 6 11)) (T:=36) (mk:=Value.string) (vk:=ptrV) (Kt:=9) (E:=139) (z:=none) name true ((some (some p))) (v:=.tuple #[.P p 0,.bool true]) (by as_aux_lemma=>kernel_rfl) H 1 rfl (KeyOk.str (by as_aux_lemma=>kernel_rfl)) (by as_aux_lemma=>kernel_rfl) (fun w_=>zeroE_run (by as_aux_lemma=>kernel_rfl) w_) (hf) rfl ?_
     refine uF 5 ?_
     refine uR 7 [.c [5,0,0],.c [5,0,1],.c [6]] ?_
     refine qG (sq 0 2) ?_
     refine uP 1 ?_
     refine uKS (spent_stop hgo ((H.lend (M1:=[_]) (W1:=[])).pick [] rfl)) ?_
     rintro _ _⟨rfl,H'⟩
     have H:=H.back (M1:=[_]) (W1:=[]) H'
     have H:Hp w S O [_,_] [] [_] _:=H
     refine uF 0 ?_
     refine uR 3 [.c [5,0,1,0,1],.c [6]] ?_
     refine qT (.I 70) Tryz.func118 ?_
     have H:=H.pick [] rfl
     exact⟨_,rfl,rfl,H⟩
end Go.Proofs.YtdnibpclkhenmaaGreatDoor
