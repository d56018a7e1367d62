import Derived.Test.YtdnibpclkhenmaaGreatDoorSBxA
import Derived.Test.YtdnibpclkhenmaaGreatDoorSG3
namespace Go.Proofs.YtdnibpclkhenmaaGreatDoor
open Go.BX
theorem change_spec{S:Nat→Prop}{w:World}{O:List Nat}{db sb nb sk c:Nat}{sa:Option Addr}{L:NameL}{steps:List StepD}{armed:Bool}{left:Int}(hst:steps.length≤1000000000){x:StepD}(hx:StepIn x)(H0:Hp w S O ((db,.cells #[.bool true,.map (some sb),.map (some nb),.slice sa steps.length sk,.bool armed,.I left,.bool false] 39 (0,0))::(nb,mapO Value.string ptrV L c)::[]) [⟨stepS,143,.slice sa steps.length sk,steps⟩] [] w):
 Calls Tryz.prog 166 #[.P db 0,.agg (stepC x).toArray] w (Ret fun v w'=>v=.tuple #[]∧∃(sa':Option Addr)(sk':Nat),Hp w S O [(db,.cells #[.bool true,.map (some sb),.map (some nb),.slice sa' (steps++[x]).length sk',.bool armed,.I left,.bool false] 39 (0,0)),(nb,mapO Value.string ptrV ((mapN (L,c) x).1) ((mapN (L,c) x).2))] [⟨stepS,143,.slice sa' (steps++[x]).length sk',steps++[x]⟩] [] w'):=by
 refine uS1 Tryz.func166 ?_
 have H:=H0
 refine uR 1 [.c [0],.c [1]] ?_
 refine qG (sq 0 1) ?_
 refine uC ((stepC x).toArray) 143 H ?_
 intro a e H
 refine uF 0 ?_
 refine uR 1 [.c [1,0],.c [2]] ?_
 refine WK.draw1 5 (qs [0,1,2,3,4]) [(0,.qui),(1,.qui),(2,.qui),(3,.qui),(4,.qui),(5,.seq)] Tryz_mixed (by as_aux_lemma=>kernel_rfl) (by as_aux_lemma=>kernel_rfl) (by as_aux_lemma=>kernel_rfl) ?_
 have H:=H.draw
 generalize({e with drawn:=e.drawn+1}:World)=j at H⊢
 refine uV 143 0 (H.cells 0 rfl) ?_
 refine uP 3 ?_
 refine uV 36 2 (H.cells 1 rfl) ?_
 have H:=H.frontM 2 rfl
 refine uKS (name_spec x ((H.lend (M1:=[_]) (W1:=[])).pick [] rfl)) ?_
 rintro _ f⟨rfl,H'⟩
 have H:=H.back (M1:=[_]) (W1:=[]) H'
 have H:Hp w S O [_,_,_] [_] [] _:=H
 refine qF 0 [(0,.P db 0),(3,.P a 0)] ?_
 refine WK.drawP1 7 [0,1,2,3] [(13,.P db 3),(12,.P db 0),(11,.P db 0),(10,.P db 0),(0,.P db 0),(3,.P a 0)] [(4,.qui),(5,.qui),(6,.chn)] [(4,.qui),(5,.qui),(6,.chn),(7,.seq),(8,.seq),(9,.seq),(10,.seq)] Tryz_mixed (by as_aux_lemma=>kernel_rfl) (by as_aux_lemma=>kernel_rfl) (by as_aux_lemma=>kernel_rfl) (by as_aux_lemma=>kernel_rfl) ?_
 have H:=H.draw
 generalize({f with drawn:=f.drawn+1}:World)=k at H⊢
 refine uV 37 3 (H.cells 2 rfl) ?_
 refine uV 143 0 (H.cells 1 rfl) ?_
 refine RW.new (κ:=.chn) (d:=some 16) (r:=[(7,.seq),(8,.seq),(9,.seq),(10,.seq)]) (o:=.cells (stepC x).toArray 143 (0,0)) (v:=fun b=>.slice (some ⟨b,0,none⟩) 1 1) (fun b=>by as_aux_lemma=>kernel_rfl) (nofun) H ?_
 intro i _ H
 have H:=H.freeze 0 rfl stepS [x] 1 (by simp[maxLen]) (by first|exact Nat.le_refl _|simp) (EsP.cons (c:=stepC x) ⟨rfl,hx⟩ EsP.nil)
 have H:Hp w S O [_,_,_] [_] [Rp (Shape.slice stepS) [.slice (some ⟨i,0,none⟩) 1 1] [x]] _:=H
 refine uA 37 37 120 (steps++[x]) H 0 rfl 0 rfl (rfl) (by simp;omega) ?_
 intro g h _ H _
 have H:Hp w S O [_,_,_] [⟨stepS,143,.slice g (steps++[x]).length h,steps++[x]⟩] [_] _:=H
 refine uP 2 ?_
 refine uW 37 3 #[.bool true,.map (some sb),.map (some nb),.slice g (steps++[x]).length h,.bool armed,.I left,.bool false] H 2 rfl ?_
 intro _ H
 refine uF 0 ?_
 refine WK.fin (v:=.tuple #[]) Tryz.func166 (by as_aux_lemma=>kernel_rfl) ?_
 have H:=H.pick [] rfl
 have H:=H.frontM 2 rfl
 have H:=H.dropM 2
 exact⟨_,rfl,rfl,_,_,H⟩
theorem remove_go{S:Nat→Prop}{w:World}{O:List Nat}{db sb nb sk c:Nat}{sa:Option Addr}{L:NameL}{steps:List StepD}{armed:Bool}{left:Int}{name:ByteArray}(hst:steps.length≤1000000000)(hgo:armed=true→1≤left∧left≤9223372036854775807){p:Nat}(hf:mfind name L=some (some p))(hs:name.size≤maxLen)(H0:Hp w S O ((db,.cells #[.bool true,.map (some sb),.map (some nb),.slice sa steps.length sk,.bool armed,.I left,.bool false] 39 (0,0))::(nb,mapO Value.string ptrV L c)::[]) [⟨stepS,143,.slice sa steps.length sk,steps⟩] [] w):
 Calls Tryz.prog 113 #[.P db 0,.string name] w (Ret fun v w'=>v=.I 0∧∃(sa':Option Addr)(sk':Nat),Hp w S O [(db,.cells #[.bool true,.map (some sb),.map (some nb),.slice sa' ((steps++[(⟨2,none,name,(⟨#[]⟩:ByteArray),0,zeroSec⟩:StepD)]).length) sk',.bool armed,.I (lf armed left),.bool false] 39 (0,0)),(nb,mapO Value.string ptrV ((mapN (L,c) (⟨2,none,name,(⟨#[]⟩:ByteArray),0,zeroSec⟩:StepD)).1) ((mapN (L,c) (⟨2,none,name,(⟨#[]⟩:ByteArray),0,zeroSec⟩:StepD)).2))] [⟨stepS,143,.slice sa' (steps++[(⟨2,none,name,(⟨#[]⟩:ByteArray),0,zeroSec⟩:StepD)]).length sk',steps++[(⟨2,none,name,(⟨#[]⟩:ByteArray),0,zeroSec⟩:StepD)]⟩] [] w'):=by
 refine uS1 Tryz.func113 ?_
 have H:=H0
 refine uR 4 [.c [1,0,0],.c [1,0,1],.c [2]] ?_
 refine qG (sq 0 8) ?_
 refine uP 2 ?_
 refine uKS (found_some hf ((H.lend (M1:=[_,_]) (W1:=[])).pick [] rfl)) ?_
 rintro _ _⟨rfl,H'⟩
 have H:=H.back (M1:=[_,_]) (W1:=[]) H'
 have H:Hp w S O [_,_] [_] [] _:=H
 refine uF 5 ?_
 refine uR 6 [.c [2,0,0],.c [2,0,1],.c [3]] ?_
 refine qG (sq 0 2) ?_
 refine uP 1 ?_
 refine uKS (spent_go hgo ((H.lend (M1:=[_]) (W1:=[])).pick [] rfl)) ?_
 rintro _ _⟨rfl,H'⟩
 have H:=H.back (M1:=[_]) (W1:=[]) H'
 have H:Hp w S O [(db,.cells #[.bool true,.map (some sb),.map (some nb),.slice sa steps.length sk,.bool armed,.I (lf armed left),.bool false] 39 (0,0)),_] [_] [] _:=H
 refine uF 0 ?_
 refine uR 3 [.c [3,0],.c [4]] ?_
 refine qG (sq 0 4) ?_
 refine uP 3 ?_
 refine RW.callS (d:=some 21) (r:=(sq 4 4)) (g:=166) (args:=#[.P db 0,.agg (stepC (⟨2,none,name,(⟨#[]⟩:ByteArray),0,zeroSec⟩:StepD)).toArray]) (by as_aux_lemma=>kernel_rfl) (change_spec hst (stepIn_mk (by decide) (by decide) (by first|assumption|exact Nat.zero_le _) (by first|assumption|exact Nat.zero_le _)) ((H.lend (M1:=[_,_]) (W1:=[_])).pick [] rfl)) ?_
 rintro _ _⟨rfl,a,b,H'⟩
 have H:=H.back (M1:=[_,_]) (W1:=[_]) H'
 have H:Hp w S O [(db,.cells #[.bool true,.map (some sb),.map (some nb),.slice a ((steps++[(⟨2,none,name,(⟨#[]⟩:ByteArray),0,zeroSec⟩:StepD)]).length) b,.bool armed,.I (lf armed left),.bool false] 39 (0,0)),_] [⟨stepS,143,.slice a ((steps++[(⟨2,none,name,(⟨#[]⟩:ByteArray),0,zeroSec⟩:StepD)]).length) b,steps++[(⟨2,none,name,(⟨#[]⟩:ByteArray),0,zeroSec⟩:StepD)]⟩] [] _:=H
 refine uF 0 ?_
 refine uR 2 [.c [5]] ?_
 refine qT (.I 0) Tryz.func113 ?_
 exact⟨_,rfl,rfl,_,_,H⟩
theorem remove_none{S:Nat→Prop}{w:World}{O:List Nat}{db nb sk c sn:Nat}{sv:Option Nat}{sa:Option Addr}{L:NameL}{armed:Bool}{left:Int}{name:ByteArray}(hf:mfind name L=none)(H0:Hp w S O ((db,.cells #[.bool true,.map sv,.map (some nb),.slice sa sn sk,.bool armed,.I left,.bool false] 39 (0,0))::(nb,mapO Value.string ptrV L c)::[]) [] [] w):
 Calls Tryz.prog 113 #[.P db 0,.string name] w (Ret fun v w'=>v=.I 71∧Hp w S O [(db,.cells #[.bool true,.map sv,.map (some nb),.slice sa sn sk,.bool armed,.I left,.bool false] 39 (0,0)),(nb,mapO Value.string ptrV L c)] [] [] w'):=by
 refine uS1 Tryz.func113 ?_
 have H:=H0
 refine uR 4 [.c [1,0,0],.c [1,0,1],.c [2]] ?_
 refine qG (sq 0 8) ?_
 refine uP 2 ?_
 refine uKS (found_none hf ((H.lend (M1:=[_,_]) (W1:=[])).pick [] rfl)) ?_
 rintro _ _⟨rfl,H'⟩
 have H:=H.back (M1:=[_,_]) (W1:=[]) H'
 have H:Hp w S O [_,_] [] [] _:=H
 refine uF 5 ?_
 refine uR 5 [.c [1,0,2,0,1],.c [2]] ?_
 refine qT (.I 71) Tryz.func113 ?_
 exact⟨_,rfl,rfl,H⟩
theorem remove_stop{S:Nat→Prop}{w:World}{O:List Nat}{db nb sk c sn:Nat}{sv:Option Nat}{sa:Option Addr}{L:NameL}{left:Int}{name:ByteArray}(hgo:left<1∧-9223372036854775808<left){p:Nat}(hf:mfind name L=some (some p))(H0:Hp w S O ((db,.cells #[.bool true,.map sv,.map (some nb),.slice sa sn sk,.bool true,.I left,.bool false] 39 (0,0))::(nb,mapO Value.string ptrV L c)::[]) [] [] w):
 Calls Tryz.prog 113 #[.P db 0,.string name] w (Ret fun v w'=>v=.I 70∧Hp w S O [(db,.cells #[.bool true,.map sv,.map (some nb),.slice sa sn sk,.bool true,.I (left-1),.bool true] 39 (0,0)),(nb,mapO Value.string ptrV L c)] [] [] w'):=by
 refine uS1 Tryz.func113 ?_
 have H:=H0
 refine uR 4 [.c [1,0,0],.c [1,0,1],.c [2]] ?_
 refine qG (sq 0 8) ?_
 refine uP 2 ?_
 refine uKS (found_some hf ((H.lend (M1:=[_,_]) (W1:=[])).pick [] rfl)) ?_
 rintro _ _⟨rfl,H'⟩
 have H:=H.back (M1:=[_,_]) (W1:=[]) H'
 have H:Hp w S O [_,_] [] [] _:=H
 refine uF 5 ?_
 refine uR 6 [.c [2,0,0],.c [2,0,1],.c [3]] ?_
 refine qG (sq 0 2) ?_
 refine uP 1 ?_
 refine uKS (spent_stop hgo ((H.lend (M1:=[_]) (W1:=[])).pick [] rfl)) ?_
 rintro _ _⟨rfl,H'⟩
 have H:=H.back (M1:=[_]) (W1:=[]) H'
 have H:Hp w S O [_,_] [] [] _:=H
 refine uF 0 ?_
 refine uR 3 [.c [2,0,1,0,1],.c [3]] ?_
 refine qT (.I 70) Tryz.func113 ?_
 exact⟨_,rfl,rfl,H⟩
theorem sync_none{S:Nat→Prop}{w:World}{O:List Nat}{db nb sk c sn:Nat}{sv:Option Nat}{sa:Option Addr}{L:NameL}{armed:Bool}{left:Int}{name:ByteArray}(hf:mfind name L=none)(H0:Hp w S O ((db,.cells #[.bool true,.map sv,.map (some nb),.slice sa sn sk,.bool armed,.I left,.bool false] 39 (0,0))::(nb,mapO Value.string ptrV L c)::[]) [] [] w):
 Calls Tryz.prog 60 #[.P db 0,.string name] w (Ret fun v w'=>v=.I 71∧Hp w S O [(db,.cells #[.bool true,.map sv,.map (some nb),.slice sa sn sk,.bool armed,.I left,.bool false] 39 (0,0)),(nb,mapO Value.string ptrV L c)] [] [] w'):=by
 refine uS1 Tryz.func60 ?_
 have H:=H0
 refine uR 3 [.c [1,0],.c [2]] ?_
 refine qG (sq 0 8) ?_
 refine uP 2 ?_
 refine uKS (found_none hf ((H.lend (M1:=[_,_]) (W1:=[])).pick [] rfl)) ?_
 rintro _ _⟨rfl,H'⟩
 have H:=H.back (M1:=[_,_]) (W1:=[]) H'
 have H:Hp w S O [_,_] [] [] _:=H
 refine uF 5 ?_
 refine uR 6 [.c [2,0,1,0,1],.c [3]] ?_
 refine qT (.I 71) Tryz.func60 ?_
 exact⟨_,rfl,rfl,H⟩
theorem sync_stop{S:Nat→Prop}{w:World}{O:List Nat}{db nb sk c sn:Nat}{sv:Option Nat}{sa:Option Addr}{L:NameL}{left:Int}{name:ByteArray}(hgo:left<1∧-9223372036854775808<left){p:Nat}(hf:mfind name L=some (some p))(H0:Hp w S O ((db,.cells #[.bool true,.map sv,.map (some nb),.slice sa sn sk,.bool true,.I left,.bool false] 39 (0,0))::(nb,mapO Value.string ptrV L c)::[]) [] [] w):
 Calls Tryz.prog 60 #[.P db 0,.string name] w (Ret fun v w'=>v=.I 70∧Hp w S O [(db,.cells #[.bool true,.map sv,.map (some nb),.slice sa sn sk,.bool true,.I (left-1),.bool true] 39 (0,0)),(nb,mapO Value.string ptrV L c)] [] [] w'):=by
 refine uS1 Tryz.func60 ?_
 have H:=H0
 refine uR 3 [.c [1,0],.c [2]] ?_
 refine qG (sq 0 8) ?_
 refine uP 2 ?_
 refine uKS (found_some hf ((H.lend (M1:=[_,_]) (W1:=[])).pick [] rfl)) ?_
 rintro _ _⟨rfl,H'⟩
 have H:=H.back (M1:=[_,_]) (W1:=[]) H'
 have H:Hp w S O [_,_] [] [] _:=H
 refine uF 5 ?_
 refine uR 7 [.c [3,0,0],.c [3,0,1],.c [4]] ?_
 refine qG (sq 0 2) ?_
 refine uP 1 ?_
 refine uKS (spent_stop hgo ((H.lend (M1:=[_]) (W1:=[])).pick [] rfl)) ?_
 rintro _ _⟨rfl,H'⟩
 have H:=H.back (M1:=[_]) (W1:=[]) H'
 have H:Hp w S O [_,_] [] [] _:=H
 refine uF 0 ?_
 refine uR 3 [.c [3,0,1,0,1],.c [4]] ?_
 refine qT (.I 70) Tryz.func60 ?_
 exact⟨_,rfl,rfl,H⟩
theorem rename_none{S:Nat→Prop}{w:World}{O:List Nat}{db nb sk c sn:Nat}{sv:Option Nat}{sa:Option Addr}{L:NameL}{armed:Bool}{left:Int}{name:ByteArray}{to:ByteArray}(hf:mfind name L=none)(H0:Hp w S O ((db,.cells #[.bool true,.map sv,.map (some nb),.slice sa sn sk,.bool armed,.I left,.bool false] 39 (0,0))::(nb,mapO Value.string ptrV L c)::[]) [] [] w):
 Calls Tryz.prog 114 #[.P db 0,.string name,.string to] w (Ret fun v w'=>v=.I 71∧Hp w S O [(db,.cells #[.bool true,.map sv,.map (some nb),.slice sa sn sk,.bool armed,.I left,.bool false] 39 (0,0)),(nb,mapO Value.string ptrV L c)] [] [] w'):=by
 refine uS1 Tryz.func114 ?_
 have H:=H0
 refine uR 4 [.c [1,0,0],.c [1,0,1],.c [2]] ?_
 refine qG (sq 0 8) ?_
 refine uP 2 ?_
 refine uKS (found_none hf ((H.lend (M1:=[_,_]) (W1:=[])).pick [] rfl)) ?_
 rintro _ _⟨rfl,H'⟩
 have H:=H.back (M1:=[_,_]) (W1:=[]) H'
 have H:Hp w S O [_,_] [] [] _:=H
 refine uF 5 ?_
 refine uR 5 [.c [1,0,2,0,1],.c [2]] ?_
 refine qT (.I 71) Tryz.func114 ?_
 exact⟨_,rfl,rfl,H⟩
theorem rename_stop{S:Nat→Prop}{w:World}{O:List Nat}{db nb sk c sn:Nat}{sv:Option Nat}{sa:Option Addr}{L:NameL}{left:Int}{name:ByteArray}(hgo:left<1∧-9223372036854775808<left){p:Nat}(hf:mfind name L=some (some p)){to:ByteArray}(ht:to.size≤maxLen)(hto:nmI to=1)(H0:Hp w S O ((db,.cells #[.bool true,.map sv,.map (some nb),.slice sa sn sk,.bool true,.I left,.bool false] 39 (0,0))::(nb,mapO Value.string ptrV L c)::[]) [] [] w):
 Calls Tryz.prog 114 #[.P db 0,.string name,.string to] w (Ret fun v w'=>v=.I 70∧Hp w S O [(db,.cells #[.bool true,.map sv,.map (some nb),.slice sa sn sk,.bool true,.I (left-1),.bool true] 39 (0,0)),(nb,mapO Value.string ptrV L c)] [] [] w'):=by
 refine uS1 Tryz.func114 ?_
 have H:=H0
 refine uR 4 [.c [1,0,0],.c [1,0,1],.c [2]] ?_
 refine qG (sq 0 8) ?_
 refine uP 2 ?_
 refine uKS (found_some hf ((H.lend (M1:=[_,_]) (W1:=[])).pick [] rfl)) ?_
 rintro _ _⟨rfl,H'⟩
 have H:=H.back (M1:=[_,_]) (W1:=[]) H'
 have H:Hp w S O [_,_] [] [] _:=H
 refine uF 5 ?_
 refine uR 6 [.c [2,0,0],.c [2,0,1],.c [3]] ?_
 refine qG (sq 0 3) ?_
 refine uP 1 ?_
 refine uK (named_spec (S:=fun _=>True) to ht) ?_
 rintro _ _ b rfl
 have H:=H.ext b
 refine uF 1 ?_
 refine qC (!(decide (nmI to=1))) (fun a=>?_) (fun a=>?_)
 ·
  replace a:(decide (nmI to=1))=false:=by revert a;cases(decide (nmI to=1))<;>simp
  replace a:=of_decide_eq_false a
  omega
 ·
  replace a:(decide (nmI to=1))=true:=by revert a;cases(decide (nmI to=1))<;>simp
  replace a:=of_decide_eq_true a
  refine uR 3 [.c [3,0,0],.c [3,0,1],.c [4]] ?_
  refine qG (sq 0 2) ?_
  refine uP 1 ?_
  refine uKS (spent_stop hgo ((H.lend (M1:=[_]) (W1:=[])).pick [] rfl)) ?_
  rintro _ _⟨rfl,H'⟩
  have H:=H.back (M1:=[_]) (W1:=[]) H'
  have H:Hp w S O [_,_] [] [] _:=H
  refine uF 0 ?_
  refine uR 3 [.c [3,0,1,0,1],.c [4]] ?_
  refine qT (.I 70) Tryz.func114 ?_
  exact⟨_,rfl,rfl,H⟩
theorem rename_bad{S:Nat→Prop}{w:World}{O:List Nat}{db nb sk c sn:Nat}{sv:Option Nat}{sa:Option Addr}{L:NameL}{armed:Bool}{left:Int}{name:ByteArray}{p:Nat}(hf:mfind name L=some (some p)){to:ByteArray}(ht:to.size≤maxLen)(hto:nmI to≠1)(H0:Hp w S O ((db,.cells #[.bool true,.map sv,.map (some nb),.slice sa sn sk,.bool armed,.I left,.bool false] 39 (0,0))::(nb,mapO Value.string ptrV L c)::[]) [] [] w):
 Calls Tryz.prog 114 #[.P db 0,.string name,.string to] w (Ret fun v w'=>v=.I 2∧Hp w S O [(db,.cells #[.bool true,.map sv,.map (some nb),.slice sa sn sk,.bool armed,.I left,.bool false] 39 (0,0)),(nb,mapO Value.string ptrV L c)] [] [] w'):=by
 refine uS1 Tryz.func114 ?_
 have H:=H0
 refine uR 4 [.c [1,0,0],.c [1,0,1],.c [2]] ?_
 refine qG (sq 0 8) ?_
 refine uP 2 ?_
 refine uKS (found_some hf ((H.lend (M1:=[_,_]) (W1:=[])).pick [] rfl)) ?_
 rintro _ _⟨rfl,H'⟩
 have H:=H.back (M1:=[_,_]) (W1:=[]) H'
 have H:Hp w S O [_,_] [] [] _:=H
 refine uF 5 ?_
 refine uR 6 [.c [2,0,0],.c [2,0,1],.c [3]] ?_
 refine qG (sq 0 3) ?_
 refine uP 1 ?_
 refine uK (named_spec (S:=fun _=>True) to ht) ?_
 rintro _ _ b rfl
 have H:=H.ext b
 refine uF 1 ?_
 refine qC (!(decide (nmI to=1))) (fun a=>?_) (fun a=>?_)
 ·
  replace a:(decide (nmI to=1))=false:=by revert a;cases(decide (nmI to=1))<;>simp
  replace a:=of_decide_eq_false a
  refine uR 2 [.c [2,0,1,0,1],.c [3]] ?_
  refine qT (.I 2) Tryz.func114 ?_
  exact⟨_,rfl,rfl,H⟩
 ·
  replace a:(decide (nmI to=1))=true:=by revert a;cases(decide (nmI to=1))<;>simp
  replace a:=of_decide_eq_true a
  omega
theorem rename_same{S:Nat→Prop}{w:World}{O:List Nat}{db nb sk c sn:Nat}{sv:Option Nat}{sa:Option Addr}{L:NameL}{armed:Bool}{left:Int}{name:ByteArray}(hgo:armed=true→1≤left∧left≤9223372036854775807){p:Nat}(hf:mfind name L=some (some p)){to:ByteArray}(ht:to.size≤maxLen)(hto:nmI to=1)(hft:name.toList=to.toList)(H0:Hp w S O ((db,.cells #[.bool true,.map sv,.map (some nb),.slice sa sn sk,.bool armed,.I left,.bool false] 39 (0,0))::(nb,mapO Value.string ptrV L c)::[]) [] [] w):
 Calls Tryz.prog 114 #[.P db 0,.string name,.string to] w (Ret fun v w'=>v=.I 0∧Hp w S O [(db,.cells #[.bool true,.map sv,.map (some nb),.slice sa sn sk,.bool armed,.I (lf armed left),.bool false] 39 (0,0)),(nb,mapO Value.string ptrV L c)] [] [] w'):=by
 refine uS1 Tryz.func114 ?_
 have H:=H0
 refine uR 4 [.c [1,0,0],.c [1,0,1],.c [2]] ?_
 refine qG (sq 0 8) ?_
 refine uP 2 ?_
 refine uKS (found_some hf ((H.lend (M1:=[_,_]) (W1:=[])).pick [] rfl)) ?_
 rintro _ _⟨rfl,H'⟩
 have H:=H.back (M1:=[_,_]) (W1:=[]) H'
 have H:Hp w S O [_,_] [] [] _:=H
 refine uF 5 ?_
 refine uR 6 [.c [2,0,0],.c [2,0,1],.c [3]] ?_
 refine qG (sq 0 3) ?_
 refine uP 1 ?_
 refine uK (named_spec (S:=fun _=>True) to ht) ?_
 rintro _ _ d rfl
 have H:=H.ext d
 refine uF 1 ?_
 refine qC (!(decide (nmI to=1))) (fun b=>?_) (fun b=>?_)
 ·
  replace b:(decide (nmI to=1))=false:=by revert b;cases(decide (nmI to=1))<;>simp
  replace b:=of_decide_eq_false b
  omega
 ·
  replace b:(decide (nmI to=1))=true:=by revert b;cases(decide (nmI to=1))<;>simp
  replace b:=of_decide_eq_true b
  refine uR 3 [.c [3,0,0],.c [3,0,1],.c [4]] ?_
  refine qG (sq 0 2) ?_
  refine uP 1 ?_
  refine uKS (spent_go hgo ((H.lend (M1:=[_]) (W1:=[])).pick [] rfl)) ?_
  rintro _ _⟨rfl,H'⟩
  have H:=H.back (M1:=[_]) (W1:=[]) H'
  have H:Hp w S O [_,_] [] [] _:=H
  refine uF 0 ?_
  refine uR 5 [.c [4,0,1],.c [5]] ?_
  refine qC (!(name.toList==to.toList)) (fun a=>?_) (fun a=>?_)
  ·
   replace a:(name.toList==to.toList)=false:=by revert a;cases(name.toList==to.toList)<;>simp
   replace a:=ne_of_beq_false a
   exact absurd hft a
  ·
   replace a:(name.toList==to.toList)=true:=by revert a;cases(name.toList==to.toList)<;>simp
   replace a:=eq_of_beq a
   refine qR 3 [.c [6]] [(6,.I 0)] ?_
   refine qT (.I 0) Tryz.func114 ?_
   exact⟨_,rfl,rfl,H⟩
theorem rename_go{S:Nat→Prop}{w:World}{O:List Nat}{db sb nb sk c:Nat}{sa:Option Addr}{L:NameL}{steps:List StepD}{armed:Bool}{left:Int}{name:ByteArray}(hst:steps.length≤1000000000)(hgo:armed=true→1≤left∧left≤9223372036854775807){p:Nat}(hf:mfind name L=some (some p))(hs:name.size≤maxLen){to:ByteArray}(ht:to.size≤maxLen)(hto:nmI to=1)(hft:name.toList≠to.toList)(H0:Hp w S O ((db,.cells #[.bool true,.map (some sb),.map (some nb),.slice sa steps.length sk,.bool armed,.I left,.bool false] 39 (0,0))::(nb,mapO Value.string ptrV L c)::[]) [⟨stepS,143,.slice sa steps.length sk,steps⟩] [] w):
 Calls Tryz.prog 114 #[.P db 0,.string name,.string to] w (Ret fun v w'=>v=.I 0∧∃(sa':Option Addr)(sk':Nat),Hp w S O [(db,.cells #[.bool true,.map (some sb),.map (some nb),.slice sa' ((steps++[(⟨1,none,name,to,0,zeroSec⟩:StepD)]).length) sk',.bool armed,.I (lf armed left),.bool false] 39 (0,0)),(nb,mapO Value.string ptrV ((mapN (L,c) (⟨1,none,name,to,0,zeroSec⟩:StepD)).1) ((mapN (L,c) (⟨1,none,name,to,0,zeroSec⟩:StepD)).2))] [⟨stepS,143,.slice sa' (steps++[(⟨1,none,name,to,0,zeroSec⟩:StepD)]).length sk',steps++[(⟨1,none,name,to,0,zeroSec⟩:StepD)]⟩] [] w'):=by
 refine uS1 Tryz.func114 ?_
 have H:=H0
 refine uR 4 [.c [1,0,0],.c [1,0,1],.c [2]] ?_
 refine qG (sq 0 8) ?_
 refine uP 2 ?_
 refine uKS (found_some hf ((H.lend (M1:=[_,_]) (W1:=[])).pick [] rfl)) ?_
 rintro _ _⟨rfl,H'⟩
 have H:=H.back (M1:=[_,_]) (W1:=[]) H'
 have H:Hp w S O [_,_] [_] [] _:=H
 refine uF 5 ?_
 refine uR 6 [.c [2,0,0],.c [2,0,1],.c [3]] ?_
 refine qG (sq 0 3) ?_
 refine uP 1 ?_
 refine uK (named_spec (S:=fun _=>True) to ht) ?_
 rintro _ _ f rfl
 have H:=H.ext f
 refine uF 1 ?_
 refine qC (!(decide (nmI to=1))) (fun b=>?_) (fun b=>?_)
 ·
  replace b:(decide (nmI to=1))=false:=by revert b;cases(decide (nmI to=1))<;>simp
  replace b:=of_decide_eq_false b
  omega
 ·
  replace b:(decide (nmI to=1))=true:=by revert b;cases(decide (nmI to=1))<;>simp
  replace b:=of_decide_eq_true b
  refine uR 3 [.c [3,0,0],.c [3,0,1],.c [4]] ?_
  refine qG (sq 0 2) ?_
  refine uP 1 ?_
  refine uKS (spent_go hgo ((H.lend (M1:=[_]) (W1:=[])).pick [] rfl)) ?_
  rintro _ _⟨rfl,H'⟩
  have H:=H.back (M1:=[_]) (W1:=[]) H'
  have H:Hp w S O [(db,.cells #[.bool true,.map (some sb),.map (some nb),.slice sa steps.length sk,.bool armed,.I (lf armed left),.bool false] 39 (0,0)),_] [_] [] _:=H
  refine uF 0 ?_
  refine uR 5 [.c [4,0,1],.c [5]] ?_
  refine qC (!(name.toList==to.toList)) (fun a=>?_) (fun a=>?_)
  ·
   replace a:(name.toList==to.toList)=false:=by revert a;cases(name.toList==to.toList)<;>simp
   replace a:=ne_of_beq_false a
   refine qG (sq 0 5) ?_
   refine qP 4 (sq 4 5) [(26,.P db 0),(29,.agg (stepC (⟨1,none,name,to,0,zeroSec⟩:StepD)).toArray)] ?_
   refine RW.callS (d:=some 30) (r:=(sq 5 5)) (g:=166) (args:=#[.P db 0,.agg (stepC (⟨1,none,name,to,0,zeroSec⟩:StepD)).toArray]) (by as_aux_lemma=>kernel_rfl) (change_spec hst (stepIn_mk (by decide) (by decide) (by first|assumption|exact Nat.zero_le _) (by first|assumption|exact Nat.zero_le _)) ((H.lend (M1:=[_,_]) (W1:=[_])).pick [] rfl)) ?_
   rintro _ _⟨rfl,h,e,H'⟩
   have H:=H.back (M1:=[_,_]) (W1:=[_]) H'
   have H:Hp w S O [(db,.cells #[.bool true,.map (some sb),.map (some nb),.slice h ((steps++[(⟨1,none,name,to,0,zeroSec⟩:StepD)]).length) e,.bool armed,.I (lf armed left),.bool false] 39 (0,0)),_] [⟨stepS,143,.slice h ((steps++[(⟨1,none,name,to,0,zeroSec⟩:StepD)]).length) e,steps++[(⟨1,none,name,to,0,zeroSec⟩:StepD)]⟩] [] _:=H
   refine uF 0 ?_
   refine uR 2 [.c [6]] ?_
   refine qT (.I 0) Tryz.func114 ?_
   exact⟨_,rfl,rfl,_,_,H⟩
  ·
   replace a:(name.toList==to.toList)=true:=by revert a;cases(name.toList==to.toList)<;>simp
   replace a:=eq_of_beq a
   exact absurd a hft
end Go.Proofs.YtdnibpclkhenmaaGreatDoor
