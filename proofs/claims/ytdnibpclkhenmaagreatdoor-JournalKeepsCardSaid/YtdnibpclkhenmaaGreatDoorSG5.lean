import Derived.Test.YtdnibpclkhenmaaGreatDoorSBxA
import Derived.Test.YtdnibpclkhenmaaGreatDoorSG4
namespace Go.Proofs.YtdnibpclkhenmaaGreatDoor
open Go.BX
abbrev SecM:=List (Int×Sec×Nat)
theorem mem_filesH{fs:List FileD}{f:FileD}(h:f∈fs):(f.p,Obj.cells #[.map (some f.s),.map (some f.n),.I f.size] 147 (0,0))∈filesH fs:=List.mem_flatMap.2 ⟨f,h,List.mem_cons_self ..⟩
def putX(X:SecM×Nat)(s:StepD):SecM×Nat:=(mset s.at_ s.data X.2 X.1,mclk s.at_ X.2 X.1)
def isOf(p:Nat)(s:StepD):Bool:=decide (s.kind=3∧s.file=some p)
def notOf(p:Nat)(s:StepD):Bool:=decide (s.kind=3∧s.file≠some p)
def syncX(p:Nat)(X:SecM×Nat)(l:List StepD):SecM×Nat:=(l.filter (isOf p)).foldl putX X
def leftS(p:Nat)(l:List StepD):List StepD:=l.filter (notOf p)
theorem mapN_skip{L:NameL×Nat}{s:StepD}(h:s.kind=3):mapN L s=L:=by
 unfold mapN
 rw[if_neg (by omega),if_neg (by omega),if_neg (by omega)]
theorem take_snoc{α:Type}{l:List α}{k:Nat}(h:k<l.length):l.take (k+1)=l.take k++[l[k]]:=List.take_succ_eq_append_getElem h
theorem syncN_step{L:NameL×Nat}{l:List StepD}{k:Nat}(h:k<l.length):(l.take (k+1)).foldl mapN L=mapN ((l.take k).foldl mapN L) l[k]:=by
 rw[take_snoc h,List.foldl_append];rfl
theorem syncN_skip{L:NameL×Nat}{l:List StepD}{k:Nat}(h:k<l.length)(hk:l[k].kind=3):(l.take (k+1)).foldl mapN L=(l.take k).foldl mapN L:=by
 rw[syncN_step h,mapN_skip hk]
theorem syncX_no{p:Nat}{X:SecM×Nat}{l:List StepD}{k:Nat}(h:k<l.length)(hk:¬(l[k].kind=3∧l[k].file=some p)):syncX p X (l.take (k+1))=syncX p X (l.take k):=by
 unfold syncX
 rw[take_snoc h,List.filter_append,show List.filter (isOf p) [l[k]]=[]by rw[List.filter_cons_of_neg (by unfold isOf;simpa using hk)];rfl,List.append_nil]
theorem syncX_yes{p:Nat}{X:SecM×Nat}{l:List StepD}{k:Nat}(h:k<l.length)(hk:l[k].kind=3∧l[k].file=some p):syncX p X (l.take (k+1))=putX (syncX p X (l.take k)) l[k]:=by
 unfold syncX
 rw[take_snoc h,List.filter_append,show List.filter (isOf p) [l[k]]=[l[k]]by rw[List.filter_cons_of_pos (by unfold isOf;simpa using hk)];rfl,List.foldl_append];rfl
theorem leftS_no{p:Nat}{l:List StepD}{k:Nat}(h:k<l.length)(hk:¬(l[k].kind=3∧l[k].file≠some p)):leftS p (l.take (k+1))=leftS p (l.take k):=by
 unfold leftS
 rw[take_snoc h,List.filter_append,show List.filter (notOf p) [l[k]]=[]by rw[List.filter_cons_of_neg (by unfold notOf;simpa using hk)];rfl,List.append_nil]
theorem leftS_yes{p:Nat}{l:List StepD}{k:Nat}(h:k<l.length)(hk:l[k].kind=3∧l[k].file≠some p):leftS p (l.take (k+1))=leftS p (l.take k)++[l[k]]:=by
 unfold leftS
 rw[take_snoc h,List.filter_append,show List.filter (notOf p) [l[k]]=[l[k]]by rw[List.filter_cons_of_pos (by unfold notOf;simpa using hk)];rfl]
theorem leftS_le(p:Nat)(l:List StepD)(k:Nat):(leftS p (l.take k)).length≤l.length:=Nat.le_trans (List.length_filter_le _ _) (by rw[List.length_take];omega)
set_option maxHeartbeats 2000000 in
theorem sync_go{S:Nat→Prop}{w:World}{O:List Nat}{db sb nb p s n sk c lc xc yc:Nat}{sa:Option Addr}{L A:NameL}{X Y:SecM}{size:Int}{rest:List FileD}{steps:List StepD}{armed:Bool}{left:Int}{name:ByteArray}(hst:steps.length≤1000000000)(hgo:armed=true→1≤left∧left≤9223372036854775807)(hf:mfind name L=some (some p))(hv:∀x∈steps,x.kind=3→∃q,x.file=some q∧(q=p∨∃f∈rest,f.p=q))(hin:∀x∈steps,StepIn x)(H0:Hp w S O ((db,.cells #[.bool true,.map (some sb),.map (some nb),.slice sa steps.length sk,.bool armed,.I left,.bool false] 39 (0,0))::(nb,mapO Value.string ptrV L c)::(sb,mapO Value.string ptrV A lc)::(p,.cells #[.map (some s),.map (some n),.I size] 147 (0,0))::(s,mapO (Value.int .i64) secVal X xc)::(n,mapO (Value.int .i64) secVal Y yc)::(filesH rest)) [⟨stepS,143,.slice sa steps.length sk,steps⟩] [] w):
 Calls Tryz.prog 60 #[.P db 0,.string name] w (Ret fun v w'=>v=.I 0∧∃(sa':Option Addr)(sk':Nat),Hp w S O ((db,.cells #[.bool true,.map (some sb),.map (some nb),.slice sa' (leftS p steps).length sk',.bool armed,.I (lf armed left),.bool false] 39 (0,0))::(nb,mapO Value.string ptrV L c)::(sb,mapO Value.string ptrV ((steps.foldl mapN (A,lc)).1) ((steps.foldl mapN (A,lc)).2))::(p,.cells #[.map (some s),.map (some n),.I size] 147 (0,0))::(s,mapO (Value.int .i64) secVal ((syncX p (X,xc) steps).1) ((syncX p (X,xc) steps).2))::(n,mapO (Value.int .i64) secVal Y yc)::(filesH rest)) [⟨stepS,143,.slice sa' (leftS p steps).length sk',(leftS p steps)⟩] [] w'):=by
 refine uS1 Tryz.func60 ?_
 have H:=H0
 refine uR 3 [.c [1,0],.c [2]] ?_
 refine qG (sq 0 8) ?_
 refine uP 2 ?_
 refine uKS (found_some hf ((H.lend (M1:=[_,_]) (W1:=[])).pick [] rfl)) ?_
 rintro _ w1⟨rfl,H'⟩
 have H:=H.back (M1:=[_,_]) (W1:=[]) H'
 have H:Hp w S O (_::_::_::_::_::_::_) [_] [] _:=H
 refine uF 5 ?_
 refine uR 7 [.c [3,0,0],.c [3,0,1],.c [4]] ?_
 refine qG (sq 0 2) ?_
 refine uP 1 ?_
 refine uKS (spent_go hgo ((H.lend (M1:=[_]) (W1:=[])).pick [] rfl)) ?_
 rintro _ w3⟨rfl,H'⟩
 have H:=H.back (M1:=[_]) (W1:=[]) H'
 have H:Hp w S O ((db,.cells #[.bool true,.map (some sb),.map (some nb),.slice sa steps.length sk,.bool armed,.I (lf armed left),.bool false] 39 (0,0))::_::_::_::_::_::_) [_] [] _:=H
 refine uF 0 ?_
 refine uR 6 [.c [5,0,0],.c [5,0,1],.c [6]] ?_
 refine qG (sq 0 6) ?_
 refine uP 3 ?_
 refine uV 37 3 (H.cells 0 rfl) ?_
 refine uF 2 ?_
 refine uR 1 [.c [5,0,1,0],.b 0,.c [6]] ?_
 have H:=H.ownNil stepS 143
 have H:Hp w S O (_::_::(sb,mapO Value.string ptrV (((steps.take 0).foldl mapN (A,lc)).1) (((steps.take 0).foldl mapN (A,lc)).2))::_::(s,mapO (Value.int .i64) secVal ((syncX p (X,xc) (steps.take 0)).1) ((syncX p (X,xc) (steps.take 0)).2))::_::_) [⟨stepS,143,.slice none ((leftS p (steps.take 0)).length) 0,(leftS p (steps.take 0))⟩,_] [] _:=H
 refine uL (α:=Nat×Option Addr×Nat) (g:=60) (p:=[5,0,1,0,0]) (fun(k,la,lk)=>[(0,.P db 0),(5,.P p 0),(7,.slice la ((leftS p (steps.take k)).length) lk),(24,.slice sa steps.length sk),(25,.I ((steps.length:Nat):Int)),(26,.I k)]) (fun(k,la,lk)w'=>Hp w S O ((db,.cells #[.bool true,.map (some sb),.map (some nb),.slice sa steps.length sk,.bool armed,.I (lf armed left),.bool false] 39 (0,0))::(nb,mapO Value.string ptrV L c)::(sb,mapO Value.string ptrV (((steps.take k).foldl mapN (A,lc)).1) (((steps.take k).foldl mapN (A,lc)).2))::(p,.cells #[.map (some s),.map (some n),.I size] 147 (0,0))::(s,mapO (Value.int .i64) secVal ((syncX p (X,xc) (steps.take k)).1) ((syncX p (X,xc) (steps.take k)).2))::(n,mapO (Value.int .i64) secVal Y yc)::(filesH rest)) [⟨stepS,143,.slice la ((leftS p (steps.take k)).length) lk,(leftS p (steps.take k))⟩,⟨stepS,143,.slice sa steps.length sk,steps⟩] [] w'∧k≤steps.length) (fun(k,la,lk)=>steps.length-k) (0,none,0) ⟨H,Nat.zero_le _⟩ ?_
 rintro⟨k,la,lk⟩w5⟨H,hinv0⟩hback4
 refine uR 3 [.c [5,0,1,0,0,1,0],.c [5,0,1,0,0,2],.l [5,0,1,0,0],.b 0,.c [6]] ?_
 refine qD (((k:Int):Int)<((steps.length:Nat):Int)) (fun h6=>?_) (fun h6=>?_)
 ·
  refine uR 4 [.c [5,0,1,0,0,2,0,0,0],.c [5,0,1,0,0,2,0,0,1],.b 1,.c [5,0,1,0,0,3],.l [5,0,1,0,0],.b 0,.c [6]] ?_
  refine qG (sq 0 4) ?_
  have H:=H.frontW 1 rfl
  have hn8:steps.length=steps.length:=rfl
  have hx7:k<steps.length:=by omega
  refine RW.indexW (κ:=.seq) (d:=some 28) (r:=(sq 1 4)) (T:=37) (e:=143) (m:=69) (ik:=.i64) (ix:=(k:Int)) (sh:=stepS) (xs:=steps) (a:=sa) (len:=steps.length) (cap:=sk) (by as_aux_lemma=>kernel_rfl) (by as_aux_lemma=>kernel_rfl) rfl H k (by omega) hx7 hn8 ?_
  intro b9 es10 ha11 hcell12 hr13
  obtain⟨rfl,hst14⟩:=hr13
  refine uV 143 0 hcell12 ?_
  refine uC ((stepC (⟨0,none,(⟨#[]⟩:ByteArray),(⟨#[]⟩:ByteArray),0,zeroSec⟩:StepD)).toArray) 143 H ?_
  intro b15 w16 H
  refine qW 143 b15 0 (sq 4 4) (.agg (stepC (steps[k])).toArray) ((b15,.cells (stepC (steps[k])).toArray 143 (0,0))::(db,.cells #[.bool true,.map (some sb),.map (some nb),.slice sa steps.length sk,.bool armed,.I (lf armed left),.bool false] 39 (0,0))::(nb,mapO Value.string ptrV L c)::(sb,mapO Value.string ptrV (((steps.take k).foldl mapN (A,lc)).1) (((steps.take k).foldl mapN (A,lc)).2))::(p,.cells #[.map (some s),.map (some n),.I size] 147 (0,0))::(s,mapO (Value.int .i64) secVal ((syncX p (X,xc) (steps.take k)).1) ((syncX p (X,xc) (steps.take k)).2))::(n,mapO (Value.int .i64) secVal Y yc)::(filesH rest)) H 0 rfl rfl ?_
  intro w17 H
  refine uF 0 ?_
  refine uR 2 [.c [5,0,1,0,0,2,0,0,1,0,0],.c [5,0,1,0,0,2,0,0,1,0,1],.b 2,.b 1,.c [5,0,1,0,0,3],.l [5,0,1,0,0],.b 0,.c [6]] ?_
  refine qG (sq 0 4) ?_
  refine uP 1 ?_
  refine uV 138 0 (H.cells 0 rfl) ?_
  refine uF 2 ?_
  refine qN ((steps[k]).kind) 3 (fun h18=>?_) (fun h18=>?_)
  ·
   refine WK.draw1 5 (qs [0,1,2,3,4]) [(0,.qui),(1,.qui),(2,.qui),(3,.qui),(4,.qui),(5,.seq)] Tryz_mixed (by as_aux_lemma=>kernel_rfl) (by as_aux_lemma=>kernel_rfl) (by as_aux_lemma=>kernel_rfl) ?_
   have H:=H.draw
   generalize({w17 with drawn:=w17.drawn+1}:World)=w19 at H⊢
   refine uV 143 0 (H.cells 0 rfl) ?_
   refine uP 3 ?_
   refine uV 36 1 (H.cells 1 rfl) ?_
   have H:=H.frontM 3 rfl
   refine uKS (name_spec (steps[k]) ((H.lend (M1:=[_]) (W1:=[])).pick [] rfl)) ?_
   rintro _ w20⟨rfl,H'⟩
   have H:=H.back (M1:=[_]) (W1:=[]) H'
   have H:Hp w S O ((sb,mapO Value.string ptrV ((mapN (((steps.take k).foldl mapN (A,lc)).1,((steps.take k).foldl mapN (A,lc)).2) (steps[k])).1) ((mapN (((steps.take k).foldl mapN (A,lc)).1,((steps.take k).foldl mapN (A,lc)).2) (steps[k])).2))::_::_::_::_::_::_::_) [_,_] [] _:=H
   refine uF 0 ?_
   refine uR 2 [.c [5,0,1,0,0,3],.l [5,0,1,0,0],.b 0,.c [6]] ?_
   refine qG (sq 0 2) ?_
   refine uI ((k:Int)+1) ?_
   refine qF 1 [(0,.P db 0),(5,.P p 0),(7,.slice la ((leftS p (steps.take k)).length) lk),(24,.slice sa steps.length sk),(25,.I ((steps.length:Nat):Int)),(26,.I ((k:Int)+1))] ?_
   have H:=H.frontW 1 (W':=[⟨stepS,143,.slice la ((leftS p (steps.take k)).length) lk,(leftS p (steps.take k))⟩,⟨stepS,143,.slice sa steps.length sk,steps⟩]) rfl
   have H:=H.frontM 6 (M':=((n,mapO (Value.int .i64) secVal Y yc)::(sb,mapO Value.string ptrV ((mapN (((steps.take k).foldl mapN (A,lc)).1,((steps.take k).foldl mapN (A,lc)).2) (steps[k])).1) ((mapN (((steps.take k).foldl mapN (A,lc)).1,((steps.take k).foldl mapN (A,lc)).2) (steps[k])).2))::(b15,.cells (stepC (steps[k])).toArray 143 (0,0))::(db,.cells #[.bool true,.map (some sb),.map (some nb),.slice sa steps.length sk,.bool armed,.I (lf armed left),.bool false] 39 (0,0))::(nb,mapO Value.string ptrV L c)::(p,.cells #[.map (some s),.map (some n),.I size] 147 (0,0))::(s,mapO (Value.int .i64) secVal ((syncX p (X,xc) (steps.take k)).1) ((syncX p (X,xc) (steps.take k)).2))::(filesH rest))) rfl
   have H:=H.frontM 6 (M':=((s,mapO (Value.int .i64) secVal ((syncX p (X,xc) (steps.take k)).1) ((syncX p (X,xc) (steps.take k)).2))::(n,mapO (Value.int .i64) secVal Y yc)::(sb,mapO Value.string ptrV ((mapN (((steps.take k).foldl mapN (A,lc)).1,((steps.take k).foldl mapN (A,lc)).2) (steps[k])).1) ((mapN (((steps.take k).foldl mapN (A,lc)).1,((steps.take k).foldl mapN (A,lc)).2) (steps[k])).2))::(b15,.cells (stepC (steps[k])).toArray 143 (0,0))::(db,.cells #[.bool true,.map (some sb),.map (some nb),.slice sa steps.length sk,.bool armed,.I (lf armed left),.bool false] 39 (0,0))::(nb,mapO Value.string ptrV L c)::(p,.cells #[.map (some s),.map (some n),.I size] 147 (0,0))::(filesH rest))) rfl
   have H:=H.frontM 6 (M':=((p,.cells #[.map (some s),.map (some n),.I size] 147 (0,0))::(s,mapO (Value.int .i64) secVal ((syncX p (X,xc) (steps.take k)).1) ((syncX p (X,xc) (steps.take k)).2))::(n,mapO (Value.int .i64) secVal Y yc)::(sb,mapO Value.string ptrV ((mapN (((steps.take k).foldl mapN (A,lc)).1,((steps.take k).foldl mapN (A,lc)).2) (steps[k])).1) ((mapN (((steps.take k).foldl mapN (A,lc)).1,((steps.take k).foldl mapN (A,lc)).2) (steps[k])).2))::(b15,.cells (stepC (steps[k])).toArray 143 (0,0))::(db,.cells #[.bool true,.map (some sb),.map (some nb),.slice sa steps.length sk,.bool armed,.I (lf armed left),.bool false] 39 (0,0))::(nb,mapO Value.string ptrV L c)::(filesH rest))) rfl
   have H:=H.frontM 3 (M':=((sb,mapO Value.string ptrV ((mapN (((steps.take k).foldl mapN (A,lc)).1,((steps.take k).foldl mapN (A,lc)).2) (steps[k])).1) ((mapN (((steps.take k).foldl mapN (A,lc)).1,((steps.take k).foldl mapN (A,lc)).2) (steps[k])).2))::(p,.cells #[.map (some s),.map (some n),.I size] 147 (0,0))::(s,mapO (Value.int .i64) secVal ((syncX p (X,xc) (steps.take k)).1) ((syncX p (X,xc) (steps.take k)).2))::(n,mapO (Value.int .i64) secVal Y yc)::(b15,.cells (stepC (steps[k])).toArray 143 (0,0))::(db,.cells #[.bool true,.map (some sb),.map (some nb),.slice sa steps.length sk,.bool armed,.I (lf armed left),.bool false] 39 (0,0))::(nb,mapO Value.string ptrV L c)::(filesH rest))) rfl
   have H:=H.frontM 6 (M':=((nb,mapO Value.string ptrV L c)::(sb,mapO Value.string ptrV ((mapN (((steps.take k).foldl mapN (A,lc)).1,((steps.take k).foldl mapN (A,lc)).2) (steps[k])).1) ((mapN (((steps.take k).foldl mapN (A,lc)).1,((steps.take k).foldl mapN (A,lc)).2) (steps[k])).2))::(p,.cells #[.map (some s),.map (some n),.I size] 147 (0,0))::(s,mapO (Value.int .i64) secVal ((syncX p (X,xc) (steps.take k)).1) ((syncX p (X,xc) (steps.take k)).2))::(n,mapO (Value.int .i64) secVal Y yc)::(b15,.cells (stepC (steps[k])).toArray 143 (0,0))::(db,.cells #[.bool true,.map (some sb),.map (some nb),.slice sa steps.length sk,.bool armed,.I (lf armed left),.bool false] 39 (0,0))::(filesH rest))) rfl
   have H:=H.frontM 6 (M':=((db,.cells #[.bool true,.map (some sb),.map (some nb),.slice sa steps.length sk,.bool armed,.I (lf armed left),.bool false] 39 (0,0))::(nb,mapO Value.string ptrV L c)::(sb,mapO Value.string ptrV ((mapN (((steps.take k).foldl mapN (A,lc)).1,((steps.take k).foldl mapN (A,lc)).2) (steps[k])).1) ((mapN (((steps.take k).foldl mapN (A,lc)).1,((steps.take k).foldl mapN (A,lc)).2) (steps[k])).2))::(p,.cells #[.map (some s),.map (some n),.I size] 147 (0,0))::(s,mapO (Value.int .i64) secVal ((syncX p (X,xc) (steps.take k)).1) ((syncX p (X,xc) (steps.take k)).2))::(n,mapO (Value.int .i64) secVal Y yc)::(b15,.cells (stepC (steps[k])).toArray 143 (0,0))::(filesH rest))) rfl
   have H:=H.frontM 6 (M':=((b15,.cells (stepC (steps[k])).toArray 143 (0,0))::(db,.cells #[.bool true,.map (some sb),.map (some nb),.slice sa steps.length sk,.bool armed,.I (lf armed left),.bool false] 39 (0,0))::(nb,mapO Value.string ptrV L c)::(sb,mapO Value.string ptrV ((mapN (((steps.take k).foldl mapN (A,lc)).1,((steps.take k).foldl mapN (A,lc)).2) (steps[k])).1) ((mapN (((steps.take k).foldl mapN (A,lc)).1,((steps.take k).foldl mapN (A,lc)).2) (steps[k])).2))::(p,.cells #[.map (some s),.map (some n),.I size] 147 (0,0))::(s,mapO (Value.int .i64) secVal ((syncX p (X,xc) (steps.take k)).1) ((syncX p (X,xc) (steps.take k)).2))::(n,mapO (Value.int .i64) secVal Y yc)::(filesH rest))) rfl
   have H:=H.dropM 0
   have eA:((steps.take (k+1)).foldl mapN (A,lc))=mapN ((steps.take k).foldl mapN (A,lc)) steps[k]:=syncN_step hx7
   have eX:=syncX_no (p:=p) (X:=(X,xc)) hx7 (fun hh=>absurd hh.1 h18)
   have eL:=leftS_no (p:=p) hx7 (fun hh=>absurd hh.1 h18)
   have H:Hp w S O ((db,.cells #[.bool true,.map (some sb),.map (some nb),.slice sa steps.length sk,.bool armed,.I (lf armed left),.bool false] 39 (0,0))::(nb,mapO Value.string ptrV L c)::(sb,mapO Value.string ptrV (((steps.take (k+1)).foldl mapN (A,lc)).1) (((steps.take (k+1)).foldl mapN (A,lc)).2))::(p,.cells #[.map (some s),.map (some n),.I size] 147 (0,0))::(s,mapO (Value.int .i64) secVal ((syncX p (X,xc) (steps.take (k+1))).1) ((syncX p (X,xc) (steps.take (k+1))).2))::(n,mapO (Value.int .i64) secVal Y yc)::(filesH rest)) [⟨stepS,143,.slice la ((leftS p (steps.take (k+1))).length) lk,(leftS p (steps.take (k+1)))⟩,⟨stepS,143,.slice sa steps.length sk,steps⟩] [] w20:=by rw[eA,eX,eL];exact H
   rw[←eL]
   exact uB (hback4 (k+1,la,lk) _ ⟨H,by omega⟩ (by first|omega|(simp only[];omega)))
  ·
   obtain⟨q,hq,hqm⟩:=hv steps[k] (List.getElem_mem hx7) h18
   refine uR 1 [.c [5,0,1,0,0,2,0,0,1,0,1,1,0],.c [5,0,1,0,0,2,0,0,1,0,1,1,1],.b 2,.b 1,.c [5,0,1,0,0,3],.l [5,0,1,0,0],.b 0,.c [6]] ?_
   refine qG (sq 0 5) ?_
   refine uP 1 ?_
   refine qL .seq 46 (sq 2 5) 139 b15 1 1 (ptrV ((steps[k]).file)) (H.cells 0 rfl) ?_
   rw[show ptrV ((steps[k]).file)=.P q 0 from by rw[hq];rfl]
   refine uP 1 ?_
   obtain⟨cq_,hcq21⟩:∃cq_,(q,Obj.cells cq_ 147 (0,0))∈(((b15,.cells (stepC (steps[k])).toArray 143 (0,0))::(db,.cells #[.bool true,.map (some sb),.map (some nb),.slice sa steps.length sk,.bool armed,.I (lf armed left),.bool false] 39 (0,0))::(nb,mapO Value.string ptrV L c)::(sb,mapO Value.string ptrV (((steps.take k).foldl mapN (A,lc)).1) (((steps.take k).foldl mapN (A,lc)).2))::(p,.cells #[.map (some s),.map (some n),.I size] 147 (0,0))::(s,mapO (Value.int .i64) secVal ((syncX p (X,xc) (steps.take k)).1) ((syncX p (X,xc) (steps.take k)).2))::(n,mapO (Value.int .i64) secVal Y yc)::(filesH rest)):Heap):=by
    rcases hqm with hq_|⟨f_,hf_,hq_⟩
    ·subst hq_;exact⟨_,List.mem_of_getElem? (i:=4) rfl⟩
    ·subst hq_;exact⟨_,List.mem_cons_of_mem _ (List.mem_cons_of_mem _ (List.mem_cons_of_mem _ (List.mem_cons_of_mem _ (List.mem_cons_of_mem _ (List.mem_cons_of_mem _ (List.mem_cons_of_mem _ (mem_filesH hf_)))))))⟩
   refine RW.ptrEq (κ:=.seq) (d:=some 48) (r:=(sq 4 5)) (T:=139) (E:=147) (p:=p) (q:=q) (by as_aux_lemma=>kernel_rfl) (by as_aux_lemma=>kernel_rfl) (by as_aux_lemma=>kernel_rfl) H (List.mem_of_getElem? (i:=4) rfl) hcq21 ?_
   refine uF 1 ?_
   refine qD (q=p) (fun h22=>?_) (fun h22=>?_)
   ·
    refine WK.draw1 8 (qs [0,1,2,3,4,5,6,7]) [(0,.qui),(1,.qui),(2,.qui),(3,.qui),(4,.qui),(5,.qui),(6,.qui),(7,.qui),(8,.seq)] Tryz_mixed (by as_aux_lemma=>kernel_rfl) (by as_aux_lemma=>kernel_rfl) (by as_aux_lemma=>kernel_rfl) ?_
    have H:=H.draw
    generalize({w17 with drawn:=w17.drawn+1}:World)=w23 at H⊢
    refine uP 3 ?_
    refine uV 145 0 (H.cells 4 rfl) ?_
    refine uP 1 ?_
    refine uV 3 4 (H.cells 0 rfl) ?_
    refine uP 1 ?_
    refine uV 141 5 (H.cells 0 rfl) ?_
    refine RW.mapSet (d:=none) (r:=[]) (T:=145) (mk:=(Value.int .i64)) (vk:=secVal) (Kt:=3) (E:=141) (M':=((b15,.cells (stepC (steps[k])).toArray 143 (0,0))::(db,.cells #[.bool true,.map (some sb),.map (some nb),.slice sa steps.length sk,.bool armed,.I (lf armed left),.bool false] 39 (0,0))::(nb,mapO Value.string ptrV L c)::(sb,mapO Value.string ptrV (((steps.take k).foldl mapN (A,lc)).1) (((steps.take k).foldl mapN (A,lc)).2))::(p,.cells #[.map (some s),.map (some n),.I size] 147 (0,0))::(s,mapO (Value.int .i64) secVal (mset ((steps[k]).at_) ((steps[k]).data) ((syncX p (X,xc) (steps.take k)).2) ((syncX p (X,xc) (steps.take k)).1)) (mclk ((steps[k]).at_) ((syncX p (X,xc) (steps.take k)).2) ((syncX p (X,xc) (steps.take k)).1)))::(n,mapO (Value.int .i64) secVal Y yc)::(filesH rest))) ((steps[k]).at_) ((steps[k]).data) (by as_aux_lemma=>kernel_rfl) H 5 rfl (KeyOk.int (by as_aux_lemma=>kernel_rfl)) (by as_aux_lemma=>kernel_rfl) rfl ?_
    intro w24 hCw24 H
    refine uF 0 ?_
    refine uR 2 [.c [5,0,1,0,0,3],.l [5,0,1,0,0],.b 0,.c [6]] ?_
    refine qG (sq 0 2) ?_
    refine uI ((k:Int)+1) ?_
    refine qF 1 [(0,.P db 0),(5,.P p 0),(7,.slice la ((leftS p (steps.take k)).length) lk),(24,.slice sa steps.length sk),(25,.I ((steps.length:Nat):Int)),(26,.I ((k:Int)+1))] ?_
    have H:=H.frontW 1 (W':=[⟨stepS,143,.slice la ((leftS p (steps.take k)).length) lk,(leftS p (steps.take k))⟩,⟨stepS,143,.slice sa steps.length sk,steps⟩]) rfl
    have H:=H.dropM 0
    have eA:=syncN_skip (L:=(A,lc)) hx7 h18
    have eX:=syncX_yes (p:=p) (X:=(X,xc)) hx7 ⟨h18,by rw[hq,h22]⟩
    have eL:=leftS_no (p:=p) hx7 (fun hh=>hh.2 (by rw[hq,h22]))
    have H:Hp w S O ((db,.cells #[.bool true,.map (some sb),.map (some nb),.slice sa steps.length sk,.bool armed,.I (lf armed left),.bool false] 39 (0,0))::(nb,mapO Value.string ptrV L c)::(sb,mapO Value.string ptrV (((steps.take (k+1)).foldl mapN (A,lc)).1) (((steps.take (k+1)).foldl mapN (A,lc)).2))::(p,.cells #[.map (some s),.map (some n),.I size] 147 (0,0))::(s,mapO (Value.int .i64) secVal ((syncX p (X,xc) (steps.take (k+1))).1) ((syncX p (X,xc) (steps.take (k+1))).2))::(n,mapO (Value.int .i64) secVal Y yc)::(filesH rest)) [⟨stepS,143,.slice la ((leftS p (steps.take (k+1))).length) lk,(leftS p (steps.take (k+1)))⟩,⟨stepS,143,.slice sa steps.length sk,steps⟩] [] w24:=by rw[eA,eX,eL];exact H
    rw[←eL]
    exact uB (hback4 (k+1,la,lk) _ ⟨H,by omega⟩ (by first|omega|(simp only[];omega)))
   ·
    refine qG (sq 0 5) ?_
    refine uP 1 ?_
    refine uV 143 0 (H.cells 0 rfl) ?_
    refine RW.new (κ:=.seq) (d:=some 32) (r:=(sq 3 5)) (o:=.cells (stepC (steps[k])).toArray 143 (0,0)) (v:=fun b=>.slice (some ⟨b,0,none⟩) 1 1) (fun b=>by as_aux_lemma=>kernel_rfl) (nofun) H ?_
    intro b25 w26 H
    have H:=H.freeze 0 rfl stepS [steps[k]] 1 (by simp[maxLen]) (by first|exact Nat.le_refl _|simp) (EsP.cons (c:=stepC (steps[k])) ⟨rfl,hin _ (List.getElem_mem hx7)⟩ EsP.nil)
    have H:Hp w S O (_::_::_::_::_::_::_::_) [_,_] [Rp (Shape.slice stepS) [.slice (some ⟨b25,0,none⟩) 1 1] ([steps[k]])] _:=H
    refine uA 37 37 120 ((leftS p (steps.take k))++([steps[k]])) H 1 rfl 0 rfl (rfl) (by have:=leftS_le p steps k;simp;omega) ?_
    intro a27 c28 w30 H hc29
    have H:Hp w S O (_::_::_::_::_::_::_::_) [_,⟨stepS,143,.slice a27 (((leftS p (steps.take k))++([steps[k]])).length) c28,(leftS p (steps.take k))++([steps[k]])⟩] [_] _:=H
    refine uF 1 ?_
    refine uR 2 [.c [5,0,1,0,0,3],.l [5,0,1,0,0],.b 0,.c [6]] ?_
    refine qG (sq 0 2) ?_
    refine uI ((k:Int)+1) ?_
    refine uF 1 ?_
    have H:=H.frontW 1 rfl
    have H:=H.pick [] rfl
    have H:=H.dropM 0
    have eA:=syncN_skip (L:=(A,lc)) hx7 h18
    have eX:=syncX_no (p:=p) (X:=(X,xc)) hx7 (fun hh=>h22 (by have:=hq.symm.trans hh.2;simpa using this))
    have eL:=leftS_yes (p:=p) hx7 ⟨h18,fun hh=>h22 (by have:=hq.symm.trans hh;simpa using this)⟩
    have H:Hp w S O ((db,.cells #[.bool true,.map (some sb),.map (some nb),.slice sa steps.length sk,.bool armed,.I (lf armed left),.bool false] 39 (0,0))::(nb,mapO Value.string ptrV L c)::(sb,mapO Value.string ptrV (((steps.take (k+1)).foldl mapN (A,lc)).1) (((steps.take (k+1)).foldl mapN (A,lc)).2))::(p,.cells #[.map (some s),.map (some n),.I size] 147 (0,0))::(s,mapO (Value.int .i64) secVal ((syncX p (X,xc) (steps.take (k+1))).1) ((syncX p (X,xc) (steps.take (k+1))).2))::(n,mapO (Value.int .i64) secVal Y yc)::(filesH rest)) [⟨stepS,143,.slice a27 ((leftS p (steps.take (k+1))).length) c28,(leftS p (steps.take (k+1)))⟩,⟨stepS,143,.slice sa steps.length sk,steps⟩] [] w30:=by rw[eA,eX,eL];exact H
    rw[←eL]
    exact uB (hback4 (k+1,a27,c28) _ ⟨H,by omega⟩ (by first|omega|(simp only[];omega)))
 ·
  refine uR 2 [.c [6,0],.c [7]] ?_
  refine qG (sq 0 5) ?_
  refine uP 4 ?_
  refine qW 37 db 3 (sq 5 5) (.slice la ((leftS p (steps.take k)).length) lk) ((db,.cells #[.bool true,.map (some sb),.map (some nb),.slice la ((leftS p (steps.take k)).length) lk,.bool armed,.I (lf armed left),.bool false] 39 (0,0))::(nb,mapO Value.string ptrV L c)::(sb,mapO Value.string ptrV (((steps.take k).foldl mapN (A,lc)).1) (((steps.take k).foldl mapN (A,lc)).2))::(p,.cells #[.map (some s),.map (some n),.I size] 147 (0,0))::(s,mapO (Value.int .i64) secVal ((syncX p (X,xc) (steps.take k)).1) ((syncX p (X,xc) (steps.take k)).2))::(n,mapO (Value.int .i64) secVal Y yc)::(filesH rest)) H 0 rfl rfl ?_
  intro w31 H
  refine uF 0 ?_
  refine uR 2 [.c [8]] ?_
  refine qT (.I 0) Tryz.func60 ?_
  have H:=H.dropW 1
  have hk9:steps.take k=steps:=List.take_of_length_le (by omega)
  rw[hk9]at H
  exact⟨_,rfl,rfl,_,_,H⟩
end Go.Proofs.YtdnibpclkhenmaaGreatDoor
