import Derived.Test.YtcafjhnjhhicdaaGreatDoorSC2
import Derived.Test.YtcafjhnjhhicdaaGreatDoorSK6
import Derived.Test.YtcafjhnjhhicdaaGreatDoorST1
namespace Go.Proofs.YtcafjhnjhhicdaaGreatDoor
open Go.BX
theorem bytes_none{S:Nat→Prop}{w:World}  :
 Calls Tryz.prog 39 #[.string (⟨#[45]⟩:ByteArray)] w (Ret fun v w'=>Ext w w'∧v=.tuple #[.slice none 0 0,.nilIface]):=by
 refine qS (fn:=Tryz.f39) (n:=51) (σ:=[(0,.string (⟨#[45]⟩:ByteArray))]) Tryz.func39 ?_
 have H:=Hp.startF (w:=w) (S:=S) (G:=[]) .nil
 refine qR 5 [.c [1,0,1],.c [2]] [(0,.string (⟨#[45]⟩:ByteArray)),(9,.bool ((⟨#[45]⟩:ByteArray).toList==(⟨#[45]⟩:ByteArray).toList))] ?_
 refine qE ((⟨#[45]⟩:ByteArray).toList) ((⟨#[45]⟩:ByteArray).toList) (fun h1=>?_) (fun h1=>?_)
 ·
  refine qR 2 [.c [1,0,1,0,1],.c [2]] [(2,.slice none 0 0),(3,.nilIface)] ?_
  refine qT (.tuple #[.slice none 0 0,.nilIface]) Tryz.func39 ?_
  exact⟨_,rfl,H.done,rfl⟩
 ·
  exact absurd rfl h1
theorem bytes_c{S:Nat→Prop}{w:World}{xs:List (BitVec 8)}(hxl:xs.length≤1000000):Calls Tryz.prog 39 #[.string (hexB xs)] w (Ret fun v w'=>Ext w w'∧∃(a':Option Addr)(c':Nat),v=.tuple #[.slice a' xs.length c',.nilIface]∧SB.rep (Nw S w) w' [.slice a' xs.length c'] xs):=by
 by_cases hx: xs.length = 0
 · rw[hexB_none hx]
   refine(bytes_none (S :=S) (w:=w)).mono fun e w' hh=>?_
   obtain⟨v,rfl,hE,rfl⟩:=hh
   rw[hx,List.length_eq_zero_iff.1 hx]
   exact⟨_,rfl,hE,_,_, rfl, Shape.slice_nil⟩
 · rw[hexB_some hx]
   refine(bytes_some (S := S) (w:=w) hx hxl).mono fun e w' hh=>?_
   obtain⟨v,rfl,hE,a,c,rfl,H⟩:=hh
   have H:=H.freezeW 0 rfl
   exact⟨_,rfl,hE,_,_,rfl,H.out (H.rp 0 rfl)⟩
theorem code_spec{S:Nat→Prop}{w:World}{xs:List (BitVec 8)}{k n cb:Nat}{a:Option Addr}{c:Nat}(h:(Rp (Shape.slice Shape.str) [.slice a 3 c] ([digB k,digB n,hexB xs]:List ByteArray)).p S w)(hk:1≤k)(hkn:k≤n)(hn:n≤9)(hxl:xs.length≤200)(hq:(Fz cQ).p S w):
 Calls Tryz.prog 15 #[.P cb 0,.slice a 3 c] w (Ret fun v w'=>Ext w w'∧v=.tuple #[.string (outB (enc xs k n)),.nilIface]):=by
 have hel:=enc_len (xs:=xs) hkn
 have hea:=encD_all (xs:=xs) (k:=k) (n:=n)
 have hLs:=lenOf_le (size:=xs.length) (k:=k) (by omega)
 have hkn9:∀m∈([k,n]:List Nat),m≤1000000:=two_le (by omega) (by omega)
 have hnl:([k,n]:List Nat).length≤1000000:=by simp
 refine qS (fn:=Tryz.f15) (n:=65) (σ:=[(0,.P cb 0),(1,.slice a 3 c)]) Tryz.func15 ?_
 have H:=Hp.startF (w:=w) (S:=S) (G:=[Rp (Shape.slice Shape.str) [.slice a 3 c] ([digB k,digB n,hexB xs]:List ByteArray),Fz cQ]) (.rp h (.cons hq .nil))
 refine qR 4 [.c [1,0,0],.c [1,0,1],.c [2]] [(1,.slice a 3 c)] ?_
 refine qG (sq 0 3) ?_
 refine qP 1 (sq 1 3) [(1,.slice a 3 c),(15,.slice a 3 c)] ?_
 refine qK .seq (some 16) (sq 2 3) 37 #[.slice a 3 c,.I 3] (many_ok (S:=fun _=>True) 3 rfl) ?_
 rintro _ w1 hE2 rfl
 have H:=H.ext hE2
 refine qF 1 [(1,.slice a 3 c),(6,.nilIface)] ?_
 refine qR 5 [.c [2,0],.c [3]] [(1,.slice a 3 c)] ?_
 refine qG (sq 0 8) ?_
 refine qP 1 (sq 1 8) [(1,.slice a 3 c),(21,.slice a 3 c)] ?_
 refine RW.slice (κ:=.seq) (d:=some 22) (r:=(sq 2 8)) (T:=22) (e:=9) (sh:=Shape.str) (a:=a) (len:=3) (cap:=c) (zs:=(([k,n]:List Nat).map digB)) (lv:=none) (hv:=(some (.I 2))) (by as_aux_lemma=>kernel_rfl) (by as_aux_lemma=>kernel_rfl) H 0 rfl 0 2 .nil (.mk (by omega)) (by simp) (by simp) (rfl) ?_
 intro a3 H
 refine qK .seq (some 23) (sq 3 8) 38 #[.slice a3 ((([k,n]:List Nat).map digB).length) c] (numbers_spec (S:=Av S w [] (idsOf [] [])) (ns:=([k,n]:List Nat)) (H.rp 0 rfl) hkn9 hnl (H.fact 2 rfl)) ?_
 rintro _ w4-⟨a5,c6,rfl,H'⟩
 have H:=H.back (M1:=[]) (W1:=[]) H'
 have H:Hp w S [] [] [⟨Shape.int .i64,3,.slice a5 ((nums ([k,n]:List Nat)).length) c6,(nums ([k,n]:List Nat))⟩] [Rp (Shape.slice Shape.str) [.slice a3 ((([k,n]:List Nat).map digB).length) c] (([k,n]:List Nat).map digB),Rp (Shape.slice Shape.str) [.slice a 3 c] ([digB k,digB n,hexB xs]:List ByteArray),Fz cQ] _:=H
 have H:Hp w S [] [] [⟨Shape.int .i64,3,.slice a5 2 c6,([(k:Int),(n:Int)]:List Int)⟩] [Rp (Shape.slice Shape.str) [.slice a3 ((([k,n]:List Nat).map digB).length) c] (([k,n]:List Nat).map digB),Rp (Shape.slice Shape.str) [.slice a 3 c] ([digB k,digB n,hexB xs]:List ByteArray),Fz cQ] _:=H
 have H:Hp w S [] [] [] [Rp (Shape.slice (Shape.int .i64)) [.slice a5 2 c6] ([(k:Int),(n:Int)]:List Int),Rp (Shape.slice Shape.str) [.slice a3 ((([k,n]:List Nat).map digB).length) c] (([k,n]:List Nat).map digB),Rp (Shape.slice Shape.str) [.slice a 3 c] ([digB k,digB n,hexB xs]:List ByteArray),Fz cQ] _:=H.freezeW 0 rfl
 refine qF 5 [(1,.slice a 3 c),(7,.slice a5 2 c6),(8,.nilIface)] ?_
 refine qR 6 [.c [4,0],.c [5]] [(1,.slice a 3 c),(7,.slice a5 2 c6)] ?_
 have H:=H.pick [0,2,3] rfl
 refine qG (sq 0 9) ?_
 refine qP 1 (sq 1 9) [(7,.slice a5 2 c6),(30,.slice a 3 c)] ?_
 have hx7:2<([digB k,digB n,hexB xs]:List ByteArray).length:=by simp
 refine qX .seq 31 (sq 2 9) 22 9 2 Shape.str (hexB xs) H 1 rfl 2 (by omega) (rfl) ?_
 intro b8 o9 es10 hr11 H
 obtain⟨rfl,hshr11⟩:=hr11
 refine qL .seq 32 (sq 3 9) 9 b8 o9 0 (.string (hexB xs)) (H.fc 0 rfl) ?_
 refine qK .seq (some 33) (sq 4 9) 39 #[.string (hexB xs)] (bytes_c (S:=Av S w [] (idsOf [] [])) (xs:=xs) (by omega)) ?_
 rintro _ w12 hE15⟨a13,c14,rfl,hr16⟩
 have H:=H.addN hE15 (F:=Rp SB [.slice a13 xs.length c14] xs) hr16
 refine qF 5 [(7,.slice a5 2 c6),(8,.nilIface),(9,.slice a13 xs.length c14)] ?_
 refine qR 6 [.c [6,0],.c [7]] [(7,.slice a5 2 c6),(9,.slice a13 xs.length c14)] ?_
 have H:=H.pick [0,2,4] rfl
 refine WK.draw1 13 [(0,.qui),(1,.qui),(2,.qui),(3,.qui),(4,.qui),(5,.qui),(6,.qui),(7,.chn),(8,.qui),(9,.qui),(10,.qui),(11,.qui),(12,.qui)] [(0,.qui),(1,.qui),(2,.qui),(3,.qui),(4,.qui),(5,.qui),(6,.qui),(7,.chn),(8,.qui),(9,.qui),(10,.qui),(11,.qui),(12,.qui)] Tryz_mixed (by as_aux_lemma=>kernel_rfl) (by as_aux_lemma=>kernel_rfl) (by as_aux_lemma=>kernel_rfl) ?_
 have H:=H.draw
 generalize({w12 with drawn:=w12.drawn+1}:World)=w17 at H⊢
 refine qP 2 [(2,.qui),(3,.qui),(4,.qui),(5,.qui),(6,.qui),(7,.chn),(8,.qui),(9,.qui),(10,.qui),(11,.qui),(12,.qui)] [(7,.slice a5 2 c6),(40,.slice a13 xs.length c14),(41,.slice a5 2 c6)] ?_
 have hx18:0<([(k:Int),(n:Int)]:List Int).length:=by simp
 refine qX .qui 42 [(3,.qui),(4,.qui),(5,.qui),(6,.qui),(7,.chn),(8,.qui),(9,.qui),(10,.qui),(11,.qui),(12,.qui)] 69 3 0 (Shape.int .i64) (k:Int) H 1 rfl 0 (by omega) (rfl) ?_
 intro b19 o20 es21 hr22 H
 have hb23:=Shape.i64_bd hr22
 obtain⟨rfl,-⟩:=hr22
 refine qL .qui 43 [(4,.qui),(5,.qui),(6,.qui),(7,.chn),(8,.qui),(9,.qui),(10,.qui),(11,.qui),(12,.qui)] 3 b19 o20 0 (.I k) (H.fc 0 rfl) ?_
 refine qP 1 [(5,.qui),(6,.qui),(7,.chn),(8,.qui),(9,.qui),(10,.qui),(11,.qui),(12,.qui)] [(40,.slice a13 xs.length c14),(43,.I k),(44,.slice a5 2 c6)] ?_
 have hx24:1<([(k:Int),(n:Int)]:List Int).length:=by simp
 refine qX .qui 45 [(6,.qui),(7,.chn),(8,.qui),(9,.qui),(10,.qui),(11,.qui),(12,.qui)] 69 3 1 (Shape.int .i64) (n:Int) H 2 rfl 1 (by omega) (rfl) ?_
 intro b25 o26 es27 hr28 H
 have hb29:=Shape.i64_bd hr28
 obtain⟨rfl,-⟩:=hr28
 refine qL .qui 46 [(7,.chn),(8,.qui),(9,.qui),(10,.qui),(11,.qui),(12,.qui)] 3 b25 o26 0 (.I n) (H.fc 0 rfl) ?_
 refine qK .chn (some 47) (qs [8,9,10,11,12]) 40 #[.slice a13 xs.length c14,.I k,.I n] (encode_ok (xs:=xs) k n (H.rp 2 rfl) (by omega) hk hkn (by omega)) ?_
 rintro _ w30 hE33⟨a31,c32,rfl,hr34⟩
 have H:=H.addN hE33 (F:=Rp (Shape.slice SB) [.slice a31 (enc xs k n).length c32] (enc xs k n)) hr34
 refine qF 5 [(10,.slice a31 (enc xs k n).length c32),(11,.I 0)] ?_
 refine qR 6 [.c [8,0,1,0],.b 0,.c [9]] [(11,.I 0),(12,.string (⟨#[]⟩:ByteArray)),(50,.slice a31 (enc xs k n).length c32),(51,.I (((enc xs k n).length:Nat):Int)),(52,.I 0)] ?_
 refine WK.loop (α:=Nat) (b:=cd Tryz.prog 15 [8,0,1,0,0]) (by as_aux_lemma=>kernel_rfl) (fun i=>[(11,.I 0),(12,.string (outB ((enc xs k n).take i))),(50,.slice a31 (enc xs k n).length c32),(51,.I (((enc xs k n).length:Nat):Int)),(52,.I i)]) (fun i w'=>Hp w S [] [] [] [Rp (Shape.slice SB) [.slice a31 (enc xs k n).length c32] (enc xs k n),Fc b25 o26 [.I n],Fc b19 o20 [.I k],Rp SB [.slice a13 xs.length c14] xs,Rp (Shape.slice (Shape.int .i64)) [.slice a5 2 c6] ([(k:Int),(n:Int)]:List Int),Fz cQ] w'∧i≤n) (fun i=>n-i) 0 ⟨H,Nat.zero_le _⟩ (rfl) ?_
 rintro i w36⟨H,hinv0⟩hback35
 refine qR 3 [.c [8,0,1,0,0,1,0],.c [8,0,1,0,0,2],.l [8,0,1,0,0],.b 0,.c [9]] [(11,.I 0),(12,.string (outB ((enc xs k n).take i))),(50,.slice a31 (enc xs k n).length c32),(51,.I (((enc xs k n).length:Nat):Int)),(52,.I i),(53,.bool (decide (((i:Int):Int)<(((enc xs k n).length:Nat):Int))))] ?_
 refine qD (((i:Int):Int)<(((enc xs k n).length:Nat):Int)) (fun h37=>?_) (fun h37=>?_)
 ·
  refine qR 4 [.c [8,0,1,0,0,2,0,0,0],.c [8,0,1,0,0,2,0,0,1],.b 1,.c [8,0,1,0,0,3],.l [8,0,1,0,0],.b 0,.c [9]] [(11,.I 0),(12,.string (outB ((enc xs k n).take i))),(50,.slice a31 (enc xs k n).length c32),(51,.I (((enc xs k n).length:Nat):Int)),(52,.I i)] ?_
  refine qG (sq 0 3) ?_
  have hx38:i<(enc xs k n).length:=by omega
  refine qX .seq 54 (sq 1 3) 74 28 (i:Int) SB ((enc xs k n)[i]) H 0 rfl i (by omega) (List.getElem?_eq_getElem hx38) ?_
  intro b39 o40 es41 hr42 H
  obtain⟨a43,k44,rfl⟩:=Shape.slice_form' hr42
  have H:=H.add (F:=Rp SB [.slice a43 (((enc xs k n)[i]).length) k44] ((enc xs k n)[i])) hr42
  refine qL .seq 55 (sq 2 3) 28 b39 o40 0 (.slice a43 (((enc xs k n)[i]).length) k44) (H.fc 1 rfl) ?_
  refine qF 1 [(11,.I 0),(12,.string (outB ((enc xs k n).take i))),(14,.slice a43 (((enc xs k n)[i]).length) k44),(50,.slice a31 (enc xs k n).length c32),(51,.I (((enc xs k n).length:Nat):Int)),(52,.I i)] ?_
  have H:=H.pick [0,2,3,4,5,6,7] rfl
  refine qG (sq 0 6) ?_
  refine qP 2 (sq 2 6) [(11,.I 0),(12,.string (outB ((enc xs k n).take i))),(50,.slice a31 (enc xs k n).length c32),(51,.I (((enc xs k n).length:Nat):Int)),(52,.I i),(56,.string (outB ((enc xs k n).take i))),(57,.slice a43 (((enc xs k n)[i]).length) k44)] ?_
  refine qK .seq (some 58) (sq 3 6) 41 #[.slice a43 (((enc xs k n)[i]).length) k44] (hex_c (xs:=(enc xs k n)[i]) (H.rp 0 rfl) (by rw[hea _ (List.getElem_mem _)];omega)) ?_
  rintro _ w45 hE46 rfl
  have H:=H.ext hE46
  refine RW.readS (κ:=.seq) (d:=some 59) (r:=(sq 4 6)) (s:=semV (Op.stringOp .add (hexB ((enc xs k n)[i])) (⟨#[10]⟩:ByteArray))) (v:=.string ((hexB ((enc xs k n)[i]))++(⟨#[10]⟩:ByteArray))) (by as_aux_lemma=>kernel_rfl) (fun w' _=>semV_run (run_string_add_sum w' _ _ (one_len (hea _ (List.getElem_mem _)) (by omega)))) ?_
  refine RW.readS (κ:=.seq) (d:=some 60) (r:=(sq 5 6)) (s:=semV (Op.stringOp .add (outB ((enc xs k n).take i)) ((hexB ((enc xs k n)[i]))++(⟨#[10]⟩:ByteArray)))) (v:=.string ((outB ((enc xs k n).take i))++((hexB ((enc xs k n)[i]))++(⟨#[10]⟩:ByteArray)))) (by as_aux_lemma=>kernel_rfl) (fun w' _=>semV_run (run_string_add_sum w' _ _ (out_len hea (by omega) (by omega) (by omega)))) ?_
  refine qF 1 [(11,.I 0),(12,.string ((outB ((enc xs k n).take i))++((hexB ((enc xs k n)[i]))++(⟨#[10]⟩:ByteArray)))),(50,.slice a31 (enc xs k n).length c32),(51,.I (((enc xs k n).length:Nat):Int)),(52,.I i)] ?_
  refine qR 1 [.c [8,0,1,0,0,3],.l [8,0,1,0,0],.b 0,.c [9]] [(11,.I 0),(12,.string ((outB ((enc xs k n).take i))++((hexB ((enc xs k n)[i]))++(⟨#[10]⟩:ByteArray)))),(50,.slice a31 (enc xs k n).length c32),(51,.I (((enc xs k n).length:Nat):Int)),(52,.I i)] ?_
  have H:=H.pick [1,2,3,4,5,6] rfl
  refine qG (sq 0 2) ?_
  refine qI .seq 61 (sq 1 2) ((i:Int)+1) ?_
  refine qF 1 [(11,.I 0),(12,.string ((outB ((enc xs k n).take i))++((hexB ((enc xs k n)[i]))++(⟨#[10]⟩:ByteArray)))),(50,.slice a31 (enc xs k n).length c32),(51,.I (((enc xs k n).length:Nat):Int)),(52,.I ((i:Int)+1))] ?_
  exact WK.back (hback35 (i+1) _ ⟨H,by omega⟩ (by first|omega|(simp only[];omega))) (by rw[←outB_succ (show i<(enc xs k n).length by omega)];kernel_rfl)
 ·
  refine qR 2 [.c [9,0],.c [10]] [(11,.I 0),(12,.string (outB ((enc xs k n).take i)))] ?_
  refine qG (sq 0 5) ?_
  refine qP 2 (sq 2 5) [(62,.string (outB ((enc xs k n).take i))),(63,.I 0)] ?_
  refine qK .seq (some 64) (sq 3 5) 42 #[.I 0] (refused_ok (S:=fun _=>True)) ?_
  rintro _ w47 hE48 rfl
  have H:=H.ext hE48
  refine qF 2 [(4,.string (outB ((enc xs k n).take i))),(5,.nilIface)] ?_
  refine qT (.tuple #[.string (outB ((enc xs k n).take i)),.nilIface]) Tryz.func15 ?_
  have hie:i=(enc xs k n).length:=by omega
  rw[hie,List.take_of_length_le (Nat.le_refl _)]
  exact⟨_,rfl,H.done,rfl⟩
end Go.Proofs.YtcafjhnjhhicdaaGreatDoor
