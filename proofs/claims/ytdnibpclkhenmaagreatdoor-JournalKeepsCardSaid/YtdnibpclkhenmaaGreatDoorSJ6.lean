import Derived.Test.YtdnibpclkhenmaaGreatDoorSBxA
import Derived.Test.YtdnibpclkhenmaaGreatDoorSJ4
import Derived.Test.YtdnibpclkhenmaaGreatDoorSL2
import Derived.Test.YtdnibpclkhenmaaGreatDoorSP0
namespace Go.Proofs.YtdnibpclkhenmaaGreatDoor
open Go.BX
theorem numbered_spec{S:Nat→Prop}{w:World}{jb db:Nat}{nm:ByteArray}{x2 x3 x4 x5 x6 x7:Value}{x kd:ByteArray}(hj:(Fc jb 0 [.P db 0,.string nm,x2,x3,x4,x5,x6,x7]).p S w)(hx:FForm x)(hp:PlainB nm)(hk:kd=kS∨kd=kC):
 Calls Tryz.prog 106 #[.P jb 0,.string x,.string kd] w (Ret fun v w'=>Ext w w'∧v=.tuple #[.I ((numB nm kd x:Nat):Int),.bool (decide (0<numB nm kd x))]):=by
 have m:nm.size≤16:=hp.1
 have o:kd.size=1:=by rcases hk with rfl|rfl<;>rfl
 have q:({data:=#[46]}:ByteArray).size=1:=rfl
 have h:(nm++({data:=#[46]}:ByteArray)).size=nm.size+1:=by rw[ByteArray.size_append];rfl
 have t:(nm++({data:=#[46]}:ByteArray)++kd).size=nm.size+1+kd.size:=by rw[ByteArray.size_append,h]
 refine uS1 Tryz.func106 ?_
 have H:=Hp.startF (w:=w) (S:=S) (G:=[Fc jb 0 [.P db 0,.string nm,x2,x3,x4,x5,x6,x7]]) (.cons hj .nil)
 refine uR 3 [.c [1,0],.c [2]] ?_
 refine qG (sq 0 14) ?_
 refine uP 4 ?_
 refine uV 9 1 (H.fc 0 rfl) ?_
 refine RW.readS (κ:=.seq) (d:=some 18) (r:=(sq 6 14)) (s:=semV (Op.stringOp .add nm (⟨#[46]⟩:ByteArray))) (v:=.string (nm++(⟨#[46]⟩:ByteArray))) (by as_aux_lemma=>kernel_rfl) (fun w' _=>semV_run (run_string_add_sum w' _ _ (by omega))) ?_
 refine uP 1 ?_
 refine RW.readS (κ:=.seq) (d:=some 20) (r:=(sq 8 14)) (s:=semV (Op.stringOp .add (nm++(⟨#[46]⟩:ByteArray)) kd)) (v:=.string ((nm++(⟨#[46]⟩:ByteArray))++kd)) (by as_aux_lemma=>kernel_rfl) (fun w' _=>semV_run (run_string_add_sum w' _ _ (by omega))) ?_
 refine uK (cut_c hx hp hk) ?_
 rintro _ _ e(⟨f,k,l,i,rfl⟩|⟨j,_,rfl⟩)
 ·
  have H:=H.ext e
  refine uF 5 ?_
  refine uR 6 [.c [3,0],.c [4]] ?_
  refine qG (sq 0 7) ?_
  refine uP 1 ?_
  refine uK (atoi_c l) ?_
  rintro _ _ g rfl
  have H:=H.ext g
  refine uF 5 ?_
  refine uR 2 [.c [5]] ?_
  refine qT (.tuple #[.I f,.bool (decide (((f:Int):Int)>0))]) Tryz.func106 ?_
  have a:numB nm kd x=f:=by rw[i];exact numB_yes hp hk k
  exact⟨_,rfl,H.done,by rw[a];exact congrArg (fun b=>Value.tuple #[_,.bool b]) (decide_eq_decide.2 (by omega))⟩
 ·
  have H:=H.ext e
  refine uF 5 ?_
  refine uR 6 [.c [2,0,1,0,1],.c [3]] ?_
  refine qT (.tuple #[.I 0,.bool false]) Tryz.func106 ?_
  have a:=numB_no fun n _=>j n
  exact⟨_,rfl,H.done,by rw[a];rfl⟩
theorem jfile_spec{S:Nat→Prop}{w:World}{jb db:Nat}{nm:ByteArray}{x2 x3 x4 x5 x6 x7:Value}{kd:ByteArray}{n:Nat}(hj:(Fc jb 0 [.P db 0,.string nm,x2,x3,x4,x5,x6,x7]).p S w)(hq:(Fz jQ).p S w)(hn:n≤1000000)(hp:PlainB nm)(hk:kd=kS∨kd=kC):
 Calls Tryz.prog 58 #[.P jb 0,.string kd,.I n] w (Ret fun v w'=>Ext w w'∧v=.string (fN nm kd n)):=by
 have e:nm.size≤16:=hp.1
 have f:kd.size=1:=by rcases hk with rfl|rfl<;>rfl
 have g:({data:=#[46]}:ByteArray).size=1:=rfl
 have a:(nm++({data:=#[46]}:ByteArray)).size=nm.size+1:=by rw[ByteArray.size_append];rfl
 have h:(nm++({data:=#[46]}:ByteArray)++kd).size=nm.size+1+kd.size:=by rw[ByteArray.size_append,a]
 have i:(digB n).size≤7:=dig_len hn
 refine uS1 Tryz.func58 ?_
 have H:=Hp.startF (w:=w) (S:=S) (G:=[Fc jb 0 [.P db 0,.string nm,x2,x3,x4,x5,x6,x7],Fz jQ]) (.cons hj (.cons hq .nil))
 refine uR 3 [.c [1,0],.c [2]] ?_
 refine WK.draw1 11 [(0,.qui),(1,.qui),(2,.qui),(3,.qui),(4,.qui),(5,.qui),(6,.qui),(7,.qui),(8,.chn),(9,.qui),(10,.qui)] [(0,.qui),(1,.qui),(2,.qui),(3,.qui),(4,.qui),(5,.qui),(6,.qui),(7,.qui),(8,.chn),(9,.qui),(10,.qui)] Tryz_mixed (by as_aux_lemma=>kernel_rfl) (by as_aux_lemma=>kernel_rfl) (by as_aux_lemma=>kernel_rfl) ?_
 have H:=H.draw
 generalize({w with drawn:=w.drawn+1}:World)=j at H⊢
 refine uP 3 ?_
 refine uV 9 1 (H.fc 0 rfl) ?_
 refine RW.readS (κ:=.qui) (d:=some 11) (r:=[(5,.qui),(6,.qui),(7,.qui),(8,.chn),(9,.qui),(10,.qui)]) (s:=semV (Op.stringOp .add nm (⟨#[46]⟩:ByteArray))) (v:=.string (nm++(⟨#[46]⟩:ByteArray))) (by as_aux_lemma=>kernel_rfl) (fun w' _=>semV_run (run_string_add_sum w' _ _ (by omega))) ?_
 refine uP 1 ?_
 refine RW.readS (κ:=.qui) (d:=some 13) (r:=[(7,.qui),(8,.chn),(9,.qui),(10,.qui)]) (s:=semV (Op.stringOp .add (nm++(⟨#[46]⟩:ByteArray)) kd)) (v:=.string ((nm++(⟨#[46]⟩:ByteArray))++kd)) (by as_aux_lemma=>kernel_rfl) (fun w' _=>semV_run (run_string_add_sum w' _ _ (by omega))) ?_
 refine uP 1 ?_
 refine uK (itoa_c (n:=n) (by omega) (Fz.of (H.fact 1 rfl))) ?_
 rintro _ _ b rfl
 have H:=H.ext b
 refine RW.readS (κ:=.qui) (d:=some 16) (r:=[(10,.qui)]) (s:=semV (Op.stringOp .add ((nm++(⟨#[46]⟩:ByteArray))++kd) (digB n))) (v:=.string (((nm++(⟨#[46]⟩:ByteArray))++kd)++(digB n))) (by as_aux_lemma=>kernel_rfl) (fun w' _=>semV_run (run_string_add_sum w' _ _ (by omega))) ?_
 refine uF 1 ?_
 refine qT (.string (((nm++(⟨#[46]⟩:ByteArray))++kd)++(digB n))) Tryz.func58 ?_
 exact⟨_,rfl,H.done,rfl⟩
theorem told_spec{S:Nat→Prop}{w:World}  :
 Calls Tryz.prog 110 #[.I 70] w (Ret fun v w'=>Ext w w'∧∃eb,v=.iface 200 (.P eb 0)∧Hp w S [] [(eb,.cells #[.I 70] 204 (0,0))] [] [] w'):=by
 refine uS1 Tryz.func110 ?_
 have H:=Hp.startF (w:=w) (S:=S) (G:=[]) .nil
 refine uR 8 [.c [2,0],.c [3]] ?_
 refine qG (sq 0 5) ?_
 refine uP 2 ?_
 refine uC #[.I 70] 204 H ?_
 intro a _ H
 refine uF 2 ?_
 refine qT (.iface 200 (.P a 0)) Tryz.func110 ?_
 exact⟨_,rfl,H.done,_,rfl,H⟩
theorem told_zero{S:Nat→Prop}{w:World}  :
 Calls Tryz.prog 110 #[.I 0] w (Ret fun v w'=>Ext w w'∧v=.nilIface):=by
 refine uS1 Tryz.func110 ?_
 have H:=Hp.startF (w:=w) (S:=S) (G:=[]) .nil
 refine uR 8 [.c [1,0,1,0,1],.c [2]] ?_
 refine qT .nilIface Tryz.func110 ?_
 exact⟨_,rfl,H.done,rfl⟩
theorem jnumber_spec{S:Nat→Prop}{w:World}{O:List Nat}{eb:Nat}(H0:Hp w S O [(eb,.cells #[.I 70] 204 (0,0))] [] [Fz jQ] w):
 Calls Tryz.prog 53 #[.iface 200 (.P eb 0)] w (Ret fun v w'=>v=.I 70∧Hp w S O [(eb,.cells #[.I 70] 204 (0,0))] [] [] w'):=by
 refine uS1 Tryz.func53 ?_
 have H:=H0
 refine uR 4 [.c [1,0,0],.c [1,0,1],.c [2]] ?_
 refine qG (sq 0 3) ?_
 refine uP 1 ?_
 refine uK (stop_c (Fz.of (H.fact 0 rfl))) ?_
 rintro _ _ a b
 have H:=H.ext a
 refine uK (is_stop H b (Fz.of (H.fact 0 rfl))) ?_
 rintro _ _ d rfl
 have H:=H.ext d
 refine uF 0 ?_
 refine uR 3 [.c [1,0,1,0,1],.c [2]] ?_
 refine qT (.I 70) Tryz.func53 ?_
 exact⟨_,rfl,rfl,H.pick [] rfl⟩
end Go.Proofs.YtdnibpclkhenmaaGreatDoor
