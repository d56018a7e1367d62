import Derived.Test.YtcafjhnjhhicdaaGreatDoorSK4
import Derived.Test.YtcafjhnjhhicdaaGreatDoorSK3
import Derived.Test.YtcafjhnjhhicdaaGreatDoorSG3
namespace Go.Proofs.YtcafjhnjhhicdaaGreatDoor
open Go.BX
theorem member0{S:Nat→Prop}{w:World}{O:List Nat}{cb:Nat}{al:Option Addr}{cl:Nat}  (H0:Hp w S O [(cb,.cells #[.bool true,.int .u64 1,.slice none 0 0,.pointer none] 38 (0,0))] [] [Rp (Shape.slice Shape.str) [.slice al 2 cl] (([1,5]:List Nat).map digB),Fz cQ] w):
 Calls Tryz.prog 17 #[.P cb 0,.slice al 2 cl] w (Ret fun v w'=>∃(a':Option Addr)(c':Nat),v=.tuple #[.string (⟨#[111,107,10]⟩:ByteArray),.nilIface]∧Hp w S O [(cb,.cells #[.bool true,.int .u64 2,.slice a' 1 c',.pointer none] 38 (0,0))] [] [Rp (Shape.slice memS) [.slice a' 1 c'] ([(⟨1,5⟩:Mem)]:List Mem)] w'):=by
 refine qS (fn:=Tryz.f17) (n:=40) (σ:=[(0,.P cb 0),(1,.slice al 2 cl)]) Tryz.func17 ?_
 have H:=H0
 refine qR 3 [.c [1,0],.c [2]] [(0,.P cb 0),(1,.slice al 2 cl)] ?_
 refine qG (sq 0 7) ?_
 refine qP 1 (sq 1 7) [(0,.P cb 0),(11,.slice al 2 cl)] ?_
 refine qK .seq (some 12) (sq 2 7) 45 #[.slice al 2 cl,.I 2] (exactly_spec (S:=Av S w O (idsOf [(cb,.cells #[.bool true,.int .u64 1,.slice none 0 0,.pointer none] 38 (0,0))] [])) (ns:=([1,5]:List Nat)) 2 rfl (H.rp 0 rfl) (by decide) (by decide) (H.fact 1 rfl)) ?_
 rintro _ w1-⟨a2,c3,rfl,H'⟩
 have H:=H.back (M1:=[]) (W1:=[]) H'
 have H:Hp w S O [(cb,.cells #[.bool true,.int .u64 1,.slice none 0 0,.pointer none] 38 (0,0))] [⟨Shape.int .i64,3,.slice a2 ((nums ([1,5]:List Nat)).length) c3,(nums ([1,5]:List Nat))⟩] [Rp (Shape.slice Shape.str) [.slice al 2 cl] (([1,5]:List Nat).map digB),Fz cQ] _:=H
 have H:Hp w S O [(cb,.cells #[.bool true,.int .u64 1,.slice none 0 0,.pointer none] 38 (0,0))] [⟨Shape.int .i64,3,.slice a2 2 c3,([1,5]:List Int)⟩] [Rp (Shape.slice Shape.str) [.slice al 2 cl] (([1,5]:List Nat).map digB),Fz cQ] _:=H
 have H:Hp w S O [(cb,.cells #[.bool true,.int .u64 1,.slice none 0 0,.pointer none] 38 (0,0))] [] [Rp (Shape.slice (Shape.int .i64)) [.slice a2 2 c3] ([1,5]:List Int),Rp (Shape.slice Shape.str) [.slice al 2 cl] (([1,5]:List Nat).map digB),Fz cQ] _:=H.freezeW 0 rfl
 refine qF 5 [(0,.P cb 0),(6,.slice a2 2 c3),(7,.nilIface)] ?_
 refine qR 6 [.c [3,0],.c [4]] [(0,.P cb 0),(6,.slice a2 2 c3)] ?_
 have H:=H.pick [0,2] rfl
 refine WK.drawH1 [] (.node (qs [0,1,2,3,4,5,6,7,8,9]) (.cons 10 (.leaf [(11,.qui),(12,.qui),(13,.qui),(14,.seq),(15,.seq),(16,.qui)]) (.cons 14 (.leaf [(10,.seq),(11,.qui),(12,.qui),(13,.qui),(15,.seq),(16,.qui)]) .nil))) Tryz_mixed (by as_aux_lemma=>kernel_rfl) (by as_aux_lemma=>kernel_rfl) ?_
 intro w4 hw5
 have H:=H.draw
 rw[←hw5]at H
 clear hw5
 have hS:=Chg.refl w4 []
 refine RG.node' (qs [0,1,2,3,4,5,6,7,8,9]) (by as_aux_lemma=>kernel_rfl) ?_
 refine qHP hS 3 (qs [3,4,5,6,7,8,9]) [(0,.P cb 0),(6,.slice a2 2 c3),(21,.P cb 1)] ?_
 refine RH.load (d:=some 22) (r:=(qs [4,5,6,7,8,9])) (T:=35) (b:=cb) (o':=1) (k:=1) (v:=.agg #[.int .u64 1,.slice none 0 0]) (by as_aux_lemma=>kernel_rfl) hS (H.cells 0 rfl) (by simp) (by simp) rfl (by as_aux_lemma=>kernel_rfl) ?_
 refine qHP hS 1 (qs [5,6,7,8,9]) [(0,.P cb 0),(6,.slice a2 2 c3),(22,.agg #[.int .u64 1,.slice none 0 0]),(23,.slice a2 2 c3)] ?_
 have hx6:0<([1,5]:List Int).length:=by decide
 refine RH.index (d:=some 24) (r:=(qs [6,7,8,9])) (T:=69) (e:=3) (ik:=.i64) (ix:=0) (sh:=(Shape.int .i64)) (x:=1) (by as_aux_lemma=>kernel_rfl) hS (by as_aux_lemma=>kernel_rfl) H 0 rfl 0 (by omega) (rfl) ?_
 intro b7 o8 es9 hr10 H
 have hb11:=Shape.i64_bd hr10
 obtain⟨rfl,-⟩:=hr10
 have H:Hp w S O [(cb,.cells #[.bool true,.int .u64 1,.slice none 0 0,.pointer none] 38 (0,0))] [] [Fc b7 o8 [.I 1],Rp (Shape.slice (Shape.int .i64)) [.slice a2 2 c3] ([1,5]:List Int),Fz cQ] _:=H
 refine RH.load (d:=some 25) (r:=(qs [7,8,9])) (T:=3) (b:=b7) (o':=o8) (k:=0) (v:=.I 1) (by as_aux_lemma=>kernel_rfl) hS (H.fc 0 rfl) (by simp) (by simp) rfl (by as_aux_lemma=>kernel_rfl) ?_
 refine qHP hS 1 (qs [8,9]) [(0,.P cb 0),(22,.agg #[.int .u64 1,.slice none 0 0]),(25,.I 1),(26,.slice a2 2 c3)] ?_
 have hx12:1<([1,5]:List Int).length:=by decide
 refine RH.index (d:=some 27) (r:=[(9,.qui)]) (T:=69) (e:=3) (ik:=.i64) (ix:=1) (sh:=(Shape.int .i64)) (x:=5) (by as_aux_lemma=>kernel_rfl) hS (by as_aux_lemma=>kernel_rfl) H 1 rfl 1 (by omega) (rfl) ?_
 intro b13 o14 es15 hr16 H
 have hb17:=Shape.i64_bd hr16
 obtain⟨rfl,-⟩:=hr16
 have H:Hp w S O [(cb,.cells #[.bool true,.int .u64 1,.slice none 0 0,.pointer none] 38 (0,0))] [] [Fc b13 o14 [.I 5],Fc b7 o8 [.I 1],Rp (Shape.slice (Shape.int .i64)) [.slice a2 2 c3] ([1,5]:List Int),Fz cQ] _:=H
 refine RH.load (d:=some 28) (r:=[]) (T:=3) (b:=b13) (o':=o14) (k:=0) (v:=.I 5) (by as_aux_lemma=>kernel_rfl) hS (H.fc 0 rfl) (by simp) (by simp) rfl (by as_aux_lemma=>kernel_rfl) ?_
 refine RH.finB hS 0 [0,22,25,28] [(0,.P cb 0),(22,.agg #[.int .u64 1,.slice none 0 0]),(25,.I 1),(28,.I 5)] (by as_aux_lemma=>kernel_rfl) ?_
 refine(RGB.cons' ?_ (RGB.cons' ?_ RGB.nil'))
 ·
  refine RG.leaf' [(10,.seq),(11,.qui),(12,.qui),(13,.qui),(14,.seq),(15,.seq),(16,.qui)] (by as_aux_lemma=>kernel_rfl) ?_
  have Hr:=H
  refine RH.chn hS ?_
  refine qK .chn (some 29) [] 46 #[.agg #[.int .u64 1,.slice none 0 0],.I 1,.I 5] (with0 (S:=Av S w O (idsOf [(cb,.cells #[.bool true,.int .u64 1,.slice none 0 0,.pointer none] 38 (0,0))] []))) ?_
  rintro _ w19 hE22⟨a20,c21,rfl,hr23⟩
  have H:=H.addN hE22 (F:=Rp (Shape.slice memS) [.slice a20 1 c21] ([(⟨1,5⟩:Mem)]:List Mem)) hr23
  intro hS
  refine qHP hS 3 [(14,.seq),(15,.seq),(16,.qui)] [(0,.P cb 0),(30,.agg #[.int .u64 2,.slice a20 1 c21]),(31,.I 0)] ?_
  refine RH.chn hS ?_
  refine RW.newC (κ:=.chn) (d:=some 8) (r:=[]) (o:=.cells #[.int .u64 0,.slice none 0 0] 35 (0,0)) (v:=fun b=>.P b 0) (fun b=>by as_aux_lemma=>kernel_rfl) (nofun) H ?_
  intro b25 w26 hnw24 H
  have hnb27:=Nat.le_trans hS.size hnw24
  intro hS
  refine RH.sto ?_
  refine qWC 35 b25 0 [] (.agg #[.int .u64 2,.slice a20 1 c21]) [(b25,.cells #[.int .u64 2,.slice a20 1 c21] 35 (0,0)),(cb,.cells #[.bool true,.int .u64 1,.slice none 0 0,.pointer none] 38 (0,0))] H 0 rfl rfl ?_
  intro w29 hch28 H
  have hS30:=hS.sto hch28 (.inl hnb27)
  refine⟨hS30,?_⟩
  have hS:=hS30
  refine RH.fin hS 1 [0,8,9] [(0,.P cb 0),(8,.P b25 0),(9,.I 0)] (by as_aux_lemma=>kernel_rfl) ?_
  refine qR 4 [.c [4,0,1,0],.c [5]] [(0,.P cb 0),(8,.P b25 0),(9,.I 0)] ?_
  have H:=H.pick [0,4] rfl
  refine qG (sq 0 5) ?_
  refine qP 1 (sq 1 5) [(8,.P b25 0),(9,.I 0),(34,.P cb 0)] ?_
  refine qL .seq 35 (sq 2 5) 35 b25 0 0 (.agg #[.int .u64 2,.slice a20 1 c21]) (H.cells 0 rfl) ?_
  refine qP 2 (sq 4 5) [(9,.I 0),(35,.agg #[.int .u64 2,.slice a20 1 c21]),(37,.P cb 1)] ?_
  refine qW 35 cb 1 (sq 5 5) (.agg #[.int .u64 2,.slice a20 1 c21]) [(b25,.cells #[.int .u64 2,.slice a20 1 c21] 35 (0,0)),(cb,.cells #[.bool true,.int .u64 2,.slice a20 1 c21,.pointer none] 38 (0,0))] H 1 rfl rfl ?_
  intro w31 H
  refine qF 0 [(9,.I 0)] ?_
  refine qR 1 [.c [5,0],.c [6]] [(9,.I 0)] ?_
  have H:=H.dropM 0
  refine qG (sq 0 4) ?_
  refine qP 1 (sq 1 4) [(38,.I 0)] ?_
  refine qK .seq (some 39) (sq 2 4) 42 #[.I 0] (refused_ok (S:=fun _=>True)) ?_
  rintro _ w32 hE33 rfl
  have H:=H.ext hE33
  refine qF 2 [(4,.string (⟨#[111,107,10]⟩:ByteArray)),(5,.nilIface)] ?_
  refine qT (.tuple #[.string (⟨#[111,107,10]⟩:ByteArray),.nilIface]) Tryz.func17 ?_
  have H:=H.drop (M':=[(cb,.cells #[.bool true,.int .u64 2,.slice a20 1 c21,.pointer none] 38 (0,0))]) (W':=[]) (by repeat(first|exact List.Sublist.refl _|exact List.nil_sublist _|apply List.Sublist.cons_cons|apply List.Sublist.cons)) (by repeat(first|exact List.Sublist.refl _|exact List.nil_sublist _|apply List.Sublist.cons_cons|apply List.Sublist.cons))
  exact⟨_,rfl,_,_,rfl,H.pick [0] rfl⟩
 ·
  refine RG.leaf' [(14,.seq),(10,.seq),(11,.qui),(12,.qui),(13,.qui),(15,.seq),(16,.qui)] (by as_aux_lemma=>kernel_rfl) ?_
  have Hr:=H
  refine RH.chn hS ?_
  refine RW.newC (κ:=.chn) (d:=some 8) (r:=[]) (o:=.cells #[.int .u64 0,.slice none 0 0] 35 (0,0)) (v:=fun b=>.P b 0) (fun b=>by as_aux_lemma=>kernel_rfl) (nofun) H ?_
  intro b35 w36 hnw34 H
  have hnb37:=Nat.le_trans hS.size hnw34
  intro hS
  refine RH.chn hS ?_
  refine qK .chn (some 29) [] 46 #[.agg #[.int .u64 1,.slice none 0 0],.I 1,.I 5] (with0 (S:=Av S w O (idsOf [(b35,.cells #[.int .u64 0,.slice none 0 0] 35 (0,0)),(cb,.cells #[.bool true,.int .u64 1,.slice none 0 0,.pointer none] 38 (0,0))] []))) ?_
  rintro _ w39 hE42⟨a40,c41,rfl,hr43⟩
  have H:=H.addN hE42 (F:=Rp (Shape.slice memS) [.slice a40 1 c41] ([(⟨1,5⟩:Mem)]:List Mem)) hr43
  intro hS
  refine qHP hS 3 [(15,.seq),(16,.qui)] [(0,.P cb 0),(8,.P b35 0),(30,.agg #[.int .u64 2,.slice a40 1 c41]),(31,.I 0)] ?_
  refine RH.sto ?_
  refine qWC 35 b35 0 [] (.agg #[.int .u64 2,.slice a40 1 c41]) [(b35,.cells #[.int .u64 2,.slice a40 1 c41] 35 (0,0)),(cb,.cells #[.bool true,.int .u64 1,.slice none 0 0,.pointer none] 38 (0,0))] H 0 rfl rfl ?_
  intro w45 hch44 H
  have hS46:=hS.sto hch44 (.inl hnb37)
  refine⟨hS46,?_⟩
  have hS:=hS46
  refine RH.fin hS 1 [0,8,9] [(0,.P cb 0),(8,.P b35 0),(9,.I 0)] (by as_aux_lemma=>kernel_rfl) ?_
  refine qR 4 [.c [4,0,1,0],.c [5]] [(0,.P cb 0),(8,.P b35 0),(9,.I 0)] ?_
  have H:=H.pick [0,4] rfl
  refine qG (sq 0 5) ?_
  refine qP 1 (sq 1 5) [(8,.P b35 0),(9,.I 0),(34,.P cb 0)] ?_
  refine qL .seq 35 (sq 2 5) 35 b35 0 0 (.agg #[.int .u64 2,.slice a40 1 c41]) (H.cells 0 rfl) ?_
  refine qP 2 (sq 4 5) [(9,.I 0),(35,.agg #[.int .u64 2,.slice a40 1 c41]),(37,.P cb 1)] ?_
  refine qW 35 cb 1 (sq 5 5) (.agg #[.int .u64 2,.slice a40 1 c41]) [(b35,.cells #[.int .u64 2,.slice a40 1 c41] 35 (0,0)),(cb,.cells #[.bool true,.int .u64 2,.slice a40 1 c41,.pointer none] 38 (0,0))] H 1 rfl rfl ?_
  intro w47 H
  refine qF 0 [(9,.I 0)] ?_
  refine qR 1 [.c [5,0],.c [6]] [(9,.I 0)] ?_
  have H:=H.dropM 0
  refine qG (sq 0 4) ?_
  refine qP 1 (sq 1 4) [(38,.I 0)] ?_
  refine qK .seq (some 39) (sq 2 4) 42 #[.I 0] (refused_ok (S:=fun _=>True)) ?_
  rintro _ w48 hE49 rfl
  have H:=H.ext hE49
  refine qF 2 [(4,.string (⟨#[111,107,10]⟩:ByteArray)),(5,.nilIface)] ?_
  refine qT (.tuple #[.string (⟨#[111,107,10]⟩:ByteArray),.nilIface]) Tryz.func17 ?_
  have H:=H.drop (M':=[(cb,.cells #[.bool true,.int .u64 2,.slice a40 1 c41,.pointer none] 38 (0,0))]) (W':=[]) (by repeat(first|exact List.Sublist.refl _|exact List.nil_sublist _|apply List.Sublist.cons_cons|apply List.Sublist.cons)) (by repeat(first|exact List.Sublist.refl _|exact List.nil_sublist _|apply List.Sublist.cons_cons|apply List.Sublist.cons))
  exact⟨_,rfl,_,_,rfl,H.pick [0] rfl⟩
theorem show1{S:Nat→Prop}{w:World}{O:List Nat}{cb:Nat}{al:Option Addr}{cl:Nat}{am:Option Addr}{cm:Nat}(H0:Hp w S O [(cb,.cells #[.bool true,.int .u64 2,.slice am 1 cm,.pointer none] 38 (0,0))] [] [Rp (Shape.slice Shape.str) [.slice al 0 cl] ([]:List ByteArray),Fz cQ,Rp (Shape.slice memS) [.slice am 1 cm] ([(⟨1,5⟩:Mem)]:List Mem)] w):
 Calls Tryz.prog 18 #[.P cb 0,.slice al 0 cl] w (Ret fun v w'=>v=.tuple #[.string (⟨#[101,112,111,99,104,32,50,32,49,58,53,10]⟩:ByteArray),.nilIface]∧Hp w S O [(cb,.cells #[.bool true,.int .u64 2,.slice am 1 cm,.pointer none] 38 (0,0))] [] [Rp (Shape.slice memS) [.slice am 1 cm] ([(⟨1,5⟩:Mem)]:List Mem)] w'):=by
 refine qS (fn:=Tryz.f18) (n:=42) (σ:=[(0,.P cb 0),(1,.slice al 0 cl)]) Tryz.func18 ?_
 have H:=H0
 refine qR 3 [.c [1,0],.c [2]] [(0,.P cb 0),(1,.slice al 0 cl)] ?_
 refine qG (sq 0 8) ?_
 refine qP 4 (sq 4 8) [(0,.P cb 0),(1,.slice al 0 cl),(12,.P cb 1)] ?_
 refine qL .seq 13 (sq 5 8) 32 cb 1 1 (.int .u64 2) (H.cells 0 rfl) ?_
 refine qK .seq (some 14) (sq 6 8) 47 #[.int .u64 2,.I 10] fmt2 ?_
 rintro _ w1 hE2 rfl
 have H:=H.ext hE2
 refine RW.readS (κ:=.seq) (d:=some 15) (r:=(sq 7 8)) (s:=semV (Op.stringOp .add (⟨#[101,112,111,99,104,32]⟩:ByteArray) (⟨#[50]⟩:ByteArray))) (v:=.string ((⟨#[101,112,111,99,104,32]⟩:ByteArray)++(⟨#[50]⟩:ByteArray))) (by as_aux_lemma=>kernel_rfl) (fun w' _=>semV_run (run_string_add_sum w' _ _ (of_decide_eq_true (by kernel_rfl)))) ?_
 refine qF 1 [(0,.P cb 0),(1,.slice al 0 cl),(6,.string ((⟨#[101,112,111,99,104,32]⟩:ByteArray)++(⟨#[50]⟩:ByteArray)))] ?_
 refine qR 2 [.c [2,0,0],.c [2,0,1],.c [3]] [(0,.P cb 0),(1,.slice al 0 cl),(6,.string ((⟨#[101,112,111,99,104,32]⟩:ByteArray)++(⟨#[50]⟩:ByteArray)))] ?_
 refine qG (sq 0 7) ?_
 refine qP 4 (sq 4 7) [(1,.slice al 0 cl),(6,.string ((⟨#[101,112,111,99,104,32]⟩:ByteArray)++(⟨#[50]⟩:ByteArray))),(19,.P cb 2)] ?_
 refine qL .seq 20 (sq 5 7) 33 cb 2 2 (.slice am 1 cm) (H.cells 0 rfl) ?_
 refine qF 2 [(1,.slice al 0 cl),(6,.string ((⟨#[101,112,111,99,104,32]⟩:ByteArray)++(⟨#[50]⟩:ByteArray))),(20,.slice am 1 cm),(21,.I 1),(22,.I 0)] ?_
 refine qR 1 [.c [2,0,1,0],.b 0,.c [3]] [(1,.slice al 0 cl),(6,.string ((⟨#[101,112,111,99,104,32]⟩:ByteArray)++(⟨#[50]⟩:ByteArray))),(20,.slice am 1 cm),(21,.I 1),(22,.I 0)] ?_
 refine WK.enter (b:=cd Tryz.prog 18 [2,0,1,0,0]) (by as_aux_lemma=>kernel_rfl) ?_
 refine qR 8 [.c [2,0,1,0,0,2,0,0,0],.c [2,0,1,0,0,2,0,0,1],.b 1,.c [2,0,1,0,0,3],.l [2,0,1,0,0],.b 0,.c [3]] [(1,.slice al 0 cl),(6,.string ((⟨#[101,112,111,99,104,32]⟩:ByteArray)++(⟨#[50]⟩:ByteArray))),(20,.slice am 1 cm),(21,.I 1),(22,.I 0)] ?_
 refine qG (sq 0 4) ?_
 have hx3:0<([(⟨1,5⟩:Mem)]:List Mem).length:=by decide
 refine qX .seq 24 (sq 1 4) 33 92 0 memS (⟨1,5⟩:Mem) H 2 rfl 0 (by omega) (rfl) ?_
 intro b4 o5 es6 hr7 H
 obtain⟨rfl,hf9,hf10⟩:=mem_open hr7
 have H:Hp w S O [(cb,.cells #[.bool true,.int .u64 2,.slice am 1 cm,.pointer none] 38 (0,0))] [] [Fc b4 o5 [.I 1,.I 5],Rp (Shape.slice Shape.str) [.slice al 0 cl] ([]:List ByteArray),Fz cQ,Rp (Shape.slice memS) [.slice am 1 cm] ([(⟨1,5⟩:Mem)]:List Mem)] _:=H
 refine qL .seq 25 (sq 2 4) 92 b4 o5 0 (.agg #[.I 1,.I 5]) (H.fc 0 rfl) ?_
 refine qB .seq 8 (sq 3 4) #[.I 0,.I 0] 92 H ?_
 intro b11 w12 H
 refine qW 92 b11 0 (sq 4 4) (.agg #[.I 1,.I 5]) [(b11,.cells #[.I 1,.I 5] 92 (0,0)),(cb,.cells #[.bool true,.int .u64 2,.slice am 1 cm,.pointer none] 38 (0,0))] H 0 rfl rfl ?_
 intro w13 H
 refine qF 0 [(1,.slice al 0 cl),(6,.string ((⟨#[101,112,111,99,104,32]⟩:ByteArray)++(⟨#[50]⟩:ByteArray))),(8,.P b11 0),(20,.slice am 1 cm),(21,.I 1),(22,.I 0)] ?_
 have H:=H.pick [1,2,3] rfl
 refine WK.draw1 12 [(0,.qui),(1,.qui),(2,.qui),(6,.qui),(7,.qui),(3,.chn),(4,.qui),(5,.qui),(8,.chn),(9,.qui),(10,.qui),(11,.qui)] [(0,.qui),(1,.qui),(2,.qui),(6,.qui),(7,.qui),(3,.chn),(4,.qui),(5,.qui),(8,.chn),(9,.qui),(10,.qui),(11,.qui)] Tryz_mixed (by as_aux_lemma=>kernel_rfl) (by as_aux_lemma=>kernel_rfl) (by as_aux_lemma=>kernel_rfl) ?_
 have H:=H.draw
 generalize({w13 with drawn:=w13.drawn+1}:World)=w14 at H⊢
 refine qP 2 [(2,.qui),(6,.qui),(7,.qui),(3,.chn),(4,.qui),(5,.qui),(8,.chn),(9,.qui),(10,.qui),(11,.qui)] [(1,.slice al 0 cl),(6,.string ((⟨#[101,112,111,99,104,32]⟩:ByteArray)++(⟨#[50]⟩:ByteArray))),(8,.P b11 0),(20,.slice am 1 cm),(21,.I 1),(22,.I 0),(26,.string ((⟨#[101,112,111,99,104,32]⟩:ByteArray)++(⟨#[50]⟩:ByteArray))),(27,.P b11 0)] ?_
 refine qL .qui 28 [(6,.qui),(7,.qui),(3,.chn),(4,.qui),(5,.qui),(8,.chn),(9,.qui),(10,.qui),(11,.qui)] 3 b11 0 0 (.I 1) (H.cells 0 rfl) ?_
 refine qP 1 [(7,.qui),(3,.chn),(4,.qui),(5,.qui),(8,.chn),(9,.qui),(10,.qui),(11,.qui)] [(1,.slice al 0 cl),(6,.string ((⟨#[101,112,111,99,104,32]⟩:ByteArray)++(⟨#[50]⟩:ByteArray))),(20,.slice am 1 cm),(21,.I 1),(22,.I 0),(26,.string ((⟨#[101,112,111,99,104,32]⟩:ByteArray)++(⟨#[50]⟩:ByteArray))),(28,.I 1),(32,.P b11 1)] ?_
 refine qL .qui 33 [(3,.chn),(4,.qui),(5,.qui),(8,.chn),(9,.qui),(10,.qui),(11,.qui)] 3 b11 1 1 (.I 5) (H.cells 0 rfl) ?_
 refine qK .chn (some 29) [(4,.qui),(5,.qui),(8,.chn),(9,.qui),(10,.qui),(11,.qui)] 31 #[.I 1] (itoa_l (n:=1) (by decide) dig1 (Fz.of (H.fact 1 rfl))) ?_
 rintro _ w15 hE16 rfl
 have H:=H.ext hE16
 refine RW.readS (κ:=.qui) (d:=some 30) (r:=[(5,.qui),(8,.chn),(9,.qui),(10,.qui),(11,.qui)]) (s:=semV (Op.stringOp .add (⟨#[32]⟩:ByteArray) (⟨#[49]⟩:ByteArray))) (v:=.string ((⟨#[32]⟩:ByteArray)++(⟨#[49]⟩:ByteArray))) (by as_aux_lemma=>kernel_rfl) (fun w' _=>semV_run (run_string_add_sum w' _ _ (of_decide_eq_true (by kernel_rfl)))) ?_
 refine RW.readS (κ:=.qui) (d:=some 31) (r:=[(8,.chn),(9,.qui),(10,.qui),(11,.qui)]) (s:=semV (Op.stringOp .add ((⟨#[32]⟩:ByteArray)++(⟨#[49]⟩:ByteArray)) (⟨#[58]⟩:ByteArray))) (v:=.string (((⟨#[32]⟩:ByteArray)++(⟨#[49]⟩:ByteArray))++(⟨#[58]⟩:ByteArray))) (by as_aux_lemma=>kernel_rfl) (fun w' _=>semV_run (run_string_add_sum w' _ _ (of_decide_eq_true (by kernel_rfl)))) ?_
 refine qK .chn (some 34) (qs [9,10,11]) 31 #[.I 5] (itoa_l (n:=5) (by decide) dig5 (Fz.of (H.fact 1 rfl))) ?_
 rintro _ w17 hE18 rfl
 have H:=H.ext hE18
 refine RW.readS (κ:=.qui) (d:=some 35) (r:=(qs [10,11])) (s:=semV (Op.stringOp .add (((⟨#[32]⟩:ByteArray)++(⟨#[49]⟩:ByteArray))++(⟨#[58]⟩:ByteArray)) (⟨#[53]⟩:ByteArray))) (v:=.string ((((⟨#[32]⟩:ByteArray)++(⟨#[49]⟩:ByteArray))++(⟨#[58]⟩:ByteArray))++(⟨#[53]⟩:ByteArray))) (by as_aux_lemma=>kernel_rfl) (fun w' _=>semV_run (run_string_add_sum w' _ _ (of_decide_eq_true (by kernel_rfl)))) ?_
 refine RW.readS (κ:=.qui) (d:=some 36) (r:=[(11,.qui)]) (s:=semV (Op.stringOp .add ((⟨#[101,112,111,99,104,32]⟩:ByteArray)++(⟨#[50]⟩:ByteArray)) ((((⟨#[32]⟩:ByteArray)++(⟨#[49]⟩:ByteArray))++(⟨#[58]⟩:ByteArray))++(⟨#[53]⟩:ByteArray)))) (v:=.string (((⟨#[101,112,111,99,104,32]⟩:ByteArray)++(⟨#[50]⟩:ByteArray))++((((⟨#[32]⟩:ByteArray)++(⟨#[49]⟩:ByteArray))++(⟨#[58]⟩:ByteArray))++(⟨#[53]⟩:ByteArray)))) (by as_aux_lemma=>kernel_rfl) (fun w' _=>semV_run (run_string_add_sum w' _ _ (of_decide_eq_true (by kernel_rfl)))) ?_
 refine qF 1 [(1,.slice al 0 cl),(6,.string (((⟨#[101,112,111,99,104,32]⟩:ByteArray)++(⟨#[50]⟩:ByteArray))++((((⟨#[32]⟩:ByteArray)++(⟨#[49]⟩:ByteArray))++(⟨#[58]⟩:ByteArray))++(⟨#[53]⟩:ByteArray)))),(20,.slice am 1 cm),(21,.I 1),(22,.I 0)] ?_
 refine qR 2 [.l [2,0,1,0,0],.b 0,.c [3]] [(1,.slice al 0 cl),(6,.string (((⟨#[101,112,111,99,104,32]⟩:ByteArray)++(⟨#[50]⟩:ByteArray))++((((⟨#[32]⟩:ByteArray)++(⟨#[49]⟩:ByteArray))++(⟨#[58]⟩:ByteArray))++(⟨#[53]⟩:ByteArray)))),(20,.slice am 1 cm),(21,.I 1),(22,.I 1)] ?_
 refine WK.again ?_
 refine qR 6 [.c [3,0],.c [4]] [(1,.slice al 0 cl),(6,.string (((⟨#[101,112,111,99,104,32]⟩:ByteArray)++(⟨#[50]⟩:ByteArray))++((((⟨#[32]⟩:ByteArray)++(⟨#[49]⟩:ByteArray))++(⟨#[58]⟩:ByteArray))++(⟨#[53]⟩:ByteArray))))] ?_
 have H:=H.dropM 0
 refine qG (sq 0 6) ?_
 refine qP 1 (sq 1 6) [(1,.slice al 0 cl),(38,.string (((⟨#[101,112,111,99,104,32]⟩:ByteArray)++(⟨#[50]⟩:ByteArray))++((((⟨#[32]⟩:ByteArray)++(⟨#[49]⟩:ByteArray))++(⟨#[58]⟩:ByteArray))++(⟨#[53]⟩:ByteArray))))] ?_
 refine RW.readS (κ:=.seq) (d:=some 39) (r:=(sq 2 6)) (s:=semV (Op.stringOp .add (((⟨#[101,112,111,99,104,32]⟩:ByteArray)++(⟨#[50]⟩:ByteArray))++((((⟨#[32]⟩:ByteArray)++(⟨#[49]⟩:ByteArray))++(⟨#[58]⟩:ByteArray))++(⟨#[53]⟩:ByteArray))) (⟨#[10]⟩:ByteArray))) (v:=.string ((((⟨#[101,112,111,99,104,32]⟩:ByteArray)++(⟨#[50]⟩:ByteArray))++((((⟨#[32]⟩:ByteArray)++(⟨#[49]⟩:ByteArray))++(⟨#[58]⟩:ByteArray))++(⟨#[53]⟩:ByteArray)))++(⟨#[10]⟩:ByteArray))) (by as_aux_lemma=>kernel_rfl) (fun w' _=>semV_run (run_string_add_sum w' _ _ (of_decide_eq_true (by kernel_rfl)))) ?_
 refine qP 1 (sq 3 6) [(39,.string ((((⟨#[101,112,111,99,104,32]⟩:ByteArray)++(⟨#[50]⟩:ByteArray))++((((⟨#[32]⟩:ByteArray)++(⟨#[49]⟩:ByteArray))++(⟨#[58]⟩:ByteArray))++(⟨#[53]⟩:ByteArray)))++(⟨#[10]⟩:ByteArray))),(40,.slice al 0 cl)] ?_
 refine qK .seq (some 41) (sq 4 6) 37 #[.slice al 0 cl,.I 0] (many_ok (S:=fun _=>True) 0 rfl) ?_
 rintro _ w19 hE20 rfl
 have H:=H.ext hE20
 refine qF 2 [(4,.string ((((⟨#[101,112,111,99,104,32]⟩:ByteArray)++(⟨#[50]⟩:ByteArray))++((((⟨#[32]⟩:ByteArray)++(⟨#[49]⟩:ByteArray))++(⟨#[58]⟩:ByteArray))++(⟨#[53]⟩:ByteArray)))++(⟨#[10]⟩:ByteArray))),(5,.nilIface)] ?_
 refine qT (.tuple #[.string ((((⟨#[101,112,111,99,104,32]⟩:ByteArray)++(⟨#[50]⟩:ByteArray))++((((⟨#[32]⟩:ByteArray)++(⟨#[49]⟩:ByteArray))++(⟨#[58]⟩:ByteArray))++(⟨#[53]⟩:ByteArray)))++(⟨#[10]⟩:ByteArray)),.nilIface]) Tryz.func18 ?_
 have H:=H.drop (M':=[(cb,.cells #[.bool true,.int .u64 2,.slice am 1 cm,.pointer none] 38 (0,0))]) (W':=[]) (by repeat(first|exact List.Sublist.refl _|exact List.nil_sublist _|apply List.Sublist.cons_cons|apply List.Sublist.cons)) (by repeat(first|exact List.Sublist.refl _|exact List.nil_sublist _|apply List.Sublist.cons_cons|apply List.Sublist.cons))
 exact⟨_,rfl,rfl,H.pick [2] rfl⟩
theorem row1{S:Nat→Prop}{w:World}{a:Option Addr}{c:Nat}(h:(Rp (Shape.slice (Shape.int .i64)) [.slice a 1 c] ([1]:List Int)).p S w)(hq:(Fz cQ).p S w):
 Calls Tryz.prog 50 #[.slice a 1 c] w (Ret fun v w'=>Ext w w'∧v=.string (⟨#[32,49]⟩:ByteArray)):=by
 refine qS (fn:=Tryz.f50) (n:=19) (σ:=[(0,.slice a 1 c)]) Tryz.func50 ?_
 have H:=Hp.startF (w:=w) (S:=S) (G:=[Rp (Shape.slice (Shape.int .i64)) [.slice a 1 c] ([1]:List Int),Fz cQ]) (.rp h (.cons hq .nil))
 refine qR 8 [.c [2,0,1,0],.b 0,.c [3]] [(3,.string (⟨#[]⟩:ByteArray)),(6,.slice a 1 c),(7,.I 1),(8,.I 0)] ?_
 refine WK.enter (b:=cd Tryz.prog 50 [2,0,1,0,0]) (by as_aux_lemma=>kernel_rfl) ?_
 refine qR 8 [.c [2,0,1,0,0,2,0,0,0],.c [2,0,1,0,0,2,0,0,1],.b 1,.c [2,0,1,0,0,3],.l [2,0,1,0,0],.b 0,.c [3]] [(3,.string (⟨#[]⟩:ByteArray)),(6,.slice a 1 c),(7,.I 1),(8,.I 0)] ?_
 refine qG (sq 0 3) ?_
 have hx1:0<([1]:List Int).length:=by decide
 refine qX .seq 10 (sq 1 3) 69 3 0 (Shape.int .i64) 1 H 0 rfl 0 (by omega) (rfl) ?_
 intro b2 o3 es4 hr5 H
 have hb6:=Shape.i64_bd hr5
 obtain⟨rfl,-⟩:=hr5
 have H:Hp w S [] [] [] [Fc b2 o3 [.I 1],Rp (Shape.slice (Shape.int .i64)) [.slice a 1 c] ([1]:List Int),Fz cQ] _:=H
 refine qL .seq 11 (sq 2 3) 3 b2 o3 0 (.I 1) (H.fc 0 rfl) ?_
 refine qF 1 [(3,.string (⟨#[]⟩:ByteArray)),(5,.I 1),(6,.slice a 1 c),(7,.I 1),(8,.I 0)] ?_
 have H:=H.pick [1,2] rfl
 refine qG (sq 0 6) ?_
 refine qP 2 (sq 2 6) [(3,.string (⟨#[]⟩:ByteArray)),(6,.slice a 1 c),(7,.I 1),(8,.I 0),(12,.string (⟨#[]⟩:ByteArray)),(13,.I 1)] ?_
 refine qK .seq (some 14) (sq 3 6) 31 #[.I 1] (itoa_l (n:=1) (by decide) dig1 (Fz.of (H.fact 1 rfl))) ?_
 rintro _ w7 hE8 rfl
 have H:=H.ext hE8
 refine RW.readS (κ:=.seq) (d:=some 15) (r:=(sq 4 6)) (s:=semV (Op.stringOp .add (⟨#[32]⟩:ByteArray) (⟨#[49]⟩:ByteArray))) (v:=.string ((⟨#[32]⟩:ByteArray)++(⟨#[49]⟩:ByteArray))) (by as_aux_lemma=>kernel_rfl) (fun w' _=>semV_run (run_string_add_sum w' _ _ (of_decide_eq_true (by kernel_rfl)))) ?_
 refine RW.readS (κ:=.seq) (d:=some 16) (r:=(sq 5 6)) (s:=semV (Op.stringOp .add (⟨#[]⟩:ByteArray) ((⟨#[32]⟩:ByteArray)++(⟨#[49]⟩:ByteArray)))) (v:=.string ((⟨#[]⟩:ByteArray)++((⟨#[32]⟩:ByteArray)++(⟨#[49]⟩:ByteArray)))) (by as_aux_lemma=>kernel_rfl) (fun w' _=>semV_run (run_string_add_sum w' _ _ (of_decide_eq_true (by kernel_rfl)))) ?_
 refine qF 1 [(3,.string ((⟨#[]⟩:ByteArray)++((⟨#[32]⟩:ByteArray)++(⟨#[49]⟩:ByteArray)))),(6,.slice a 1 c),(7,.I 1),(8,.I 0)] ?_
 refine qR 2 [.l [2,0,1,0,0],.b 0,.c [3]] [(3,.string ((⟨#[]⟩:ByteArray)++((⟨#[32]⟩:ByteArray)++(⟨#[49]⟩:ByteArray)))),(6,.slice a 1 c),(7,.I 1),(8,.I 1)] ?_
 refine WK.again ?_
 refine qR 7 [.c [4]] [(2,.string ((⟨#[]⟩:ByteArray)++((⟨#[32]⟩:ByteArray)++(⟨#[49]⟩:ByteArray))))] ?_
 refine qT (.string ((⟨#[]⟩:ByteArray)++((⟨#[32]⟩:ByteArray)++(⟨#[49]⟩:ByteArray)))) Tryz.func50 ?_
 exact⟨_,rfl,H.done,rfl⟩
theorem place1{S:Nat→Prop}{w:World}{O:List Nat}{cb:Nat}{al:Option Addr}{cl:Nat}{am:Option Addr}{cm:Nat}(H0:Hp w S O [(cb,.cells #[.bool true,.int .u64 2,.slice am 1 cm,.pointer none] 38 (0,0))] [] [Rp (Shape.slice Shape.str) [.slice al 2 cl] (([0,1]:List Nat).map digB),Fz cQ,Rp (Shape.slice memS) [.slice am 1 cm] ([(⟨1,5⟩:Mem)]:List Mem)] w):
 Calls Tryz.prog 19 #[.P cb 0,.slice al 2 cl] w (Ret fun v w'=>v=.tuple #[.string (⟨#[49,10]⟩:ByteArray),.nilIface]∧Hp w S O [(cb,.cells #[.bool true,.int .u64 2,.slice am 1 cm,.pointer none] 38 (0,0))] [] [Rp (Shape.slice memS) [.slice am 1 cm] ([(⟨1,5⟩:Mem)]:List Mem)] w'):=by
 refine qS (fn:=Tryz.f19) (n:=38) (σ:=[(0,.P cb 0),(1,.slice al 2 cl)]) Tryz.func19 ?_
 have H:=H0
 refine qR 3 [.c [1,0],.c [2]] [(0,.P cb 0),(1,.slice al 2 cl)] ?_
 refine qG (sq 0 7) ?_
 refine qP 1 (sq 1 7) [(0,.P cb 0),(11,.slice al 2 cl)] ?_
 refine qK .seq (some 12) (sq 2 7) 45 #[.slice al 2 cl,.I 2] (exactly_spec (S:=Av S w O (idsOf [(cb,.cells #[.bool true,.int .u64 2,.slice am 1 cm,.pointer none] 38 (0,0))] [])) (ns:=([0,1]:List Nat)) 2 rfl (H.rp 0 rfl) (by decide) (by decide) (H.fact 1 rfl)) ?_
 rintro _ w1-⟨a2,c3,rfl,H'⟩
 have H:=H.back (M1:=[]) (W1:=[]) H'
 have H:Hp w S O [(cb,.cells #[.bool true,.int .u64 2,.slice am 1 cm,.pointer none] 38 (0,0))] [⟨Shape.int .i64,3,.slice a2 ((nums ([0,1]:List Nat)).length) c3,(nums ([0,1]:List Nat))⟩] [Rp (Shape.slice Shape.str) [.slice al 2 cl] (([0,1]:List Nat).map digB),Fz cQ,Rp (Shape.slice memS) [.slice am 1 cm] ([(⟨1,5⟩:Mem)]:List Mem)] _:=H
 have H:Hp w S O [(cb,.cells #[.bool true,.int .u64 2,.slice am 1 cm,.pointer none] 38 (0,0))] [⟨Shape.int .i64,3,.slice a2 2 c3,([0,1]:List Int)⟩] [Rp (Shape.slice Shape.str) [.slice al 2 cl] (([0,1]:List Nat).map digB),Fz cQ,Rp (Shape.slice memS) [.slice am 1 cm] ([(⟨1,5⟩:Mem)]:List Mem)] _:=H
 have H:Hp w S O [(cb,.cells #[.bool true,.int .u64 2,.slice am 1 cm,.pointer none] 38 (0,0))] [] [Rp (Shape.slice (Shape.int .i64)) [.slice a2 2 c3] ([0,1]:List Int),Rp (Shape.slice Shape.str) [.slice al 2 cl] (([0,1]:List Nat).map digB),Fz cQ,Rp (Shape.slice memS) [.slice am 1 cm] ([(⟨1,5⟩:Mem)]:List Mem)] _:=H.freezeW 0 rfl
 refine qF 5 [(0,.P cb 0),(6,.slice a2 2 c3),(7,.nilIface)] ?_
 refine qR 6 [.c [3,0],.c [4]] [(0,.P cb 0),(6,.slice a2 2 c3)] ?_
 have H:=H.pick [0,2,3] rfl
 refine WK.draw1 16 [(0,.qui),(1,.qui),(2,.qui),(3,.qui),(4,.qui),(5,.qui),(6,.qui),(7,.qui),(8,.qui),(9,.qui),(10,.chn),(11,.qui),(12,.qui),(13,.qui),(14,.qui),(15,.qui)] [(0,.qui),(1,.qui),(2,.qui),(3,.qui),(4,.qui),(5,.qui),(6,.qui),(7,.qui),(8,.qui),(9,.qui),(10,.chn),(11,.qui),(12,.qui),(13,.qui),(14,.qui),(15,.qui)] Tryz_mixed (by as_aux_lemma=>kernel_rfl) (by as_aux_lemma=>kernel_rfl) (by as_aux_lemma=>kernel_rfl) ?_
 have H:=H.draw
 generalize({w1 with drawn:=w1.drawn+1}:World)=w4 at H⊢
 refine qP 3 [(3,.qui),(4,.qui),(5,.qui),(6,.qui),(7,.qui),(8,.qui),(9,.qui),(10,.chn),(11,.qui),(12,.qui),(13,.qui),(14,.qui),(15,.qui)] [(6,.slice a2 2 c3),(21,.P cb 1)] ?_
 refine qL .qui 22 [(4,.qui),(5,.qui),(6,.qui),(7,.qui),(8,.qui),(9,.qui),(10,.chn),(11,.qui),(12,.qui),(13,.qui),(14,.qui),(15,.qui)] 35 cb 1 1 (.agg #[.int .u64 2,.slice am 1 cm]) (H.cells 0 rfl) ?_
 refine qP 1 [(5,.qui),(6,.qui),(7,.qui),(8,.qui),(9,.qui),(10,.chn),(11,.qui),(12,.qui),(13,.qui),(14,.qui),(15,.qui)] [(6,.slice a2 2 c3),(22,.agg #[.int .u64 2,.slice am 1 cm]),(23,.slice a2 2 c3)] ?_
 have hx5:0<([0,1]:List Int).length:=by decide
 refine qX .qui 24 [(6,.qui),(7,.qui),(8,.qui),(9,.qui),(10,.chn),(11,.qui),(12,.qui),(13,.qui),(14,.qui),(15,.qui)] 69 3 0 (Shape.int .i64) 0 H 0 rfl 0 (by omega) (rfl) ?_
 intro b6 o7 es8 hr9 H
 have hb10:=Shape.i64_bd hr9
 obtain⟨rfl,-⟩:=hr9
 have H:Hp w S O [(cb,.cells #[.bool true,.int .u64 2,.slice am 1 cm,.pointer none] 38 (0,0))] [] [Fc b6 o7 [.I 0],Rp (Shape.slice (Shape.int .i64)) [.slice a2 2 c3] ([0,1]:List Int),Fz cQ,Rp (Shape.slice memS) [.slice am 1 cm] ([(⟨1,5⟩:Mem)]:List Mem)] _:=H
 refine qL .qui 25 [(7,.qui),(8,.qui),(9,.qui),(10,.chn),(11,.qui),(12,.qui),(13,.qui),(14,.qui),(15,.qui)] 3 b6 o7 0 (.I 0) (H.fc 0 rfl) ?_
 refine qP 1 [(8,.qui),(9,.qui),(10,.chn),(11,.qui),(12,.qui),(13,.qui),(14,.qui),(15,.qui)] [(22,.agg #[.int .u64 2,.slice am 1 cm]),(25,.I 0),(26,.slice a2 2 c3)] ?_
 have hx11:1<([0,1]:List Int).length:=by decide
 refine qX .qui 27 [(9,.qui),(10,.chn),(11,.qui),(12,.qui),(13,.qui),(14,.qui),(15,.qui)] 69 3 1 (Shape.int .i64) 1 H 1 rfl 1 (by omega) (rfl) ?_
 intro b12 o13 es14 hr15 H
 have hb16:=Shape.i64_bd hr15
 obtain⟨rfl,-⟩:=hr15
 have H:Hp w S O [(cb,.cells #[.bool true,.int .u64 2,.slice am 1 cm,.pointer none] 38 (0,0))] [] [Fc b12 o13 [.I 1],Fc b6 o7 [.I 0],Rp (Shape.slice (Shape.int .i64)) [.slice a2 2 c3] ([0,1]:List Int),Fz cQ,Rp (Shape.slice memS) [.slice am 1 cm] ([(⟨1,5⟩:Mem)]:List Mem)] _:=H
 refine qL .qui 28 [(10,.chn),(11,.qui),(12,.qui),(13,.qui),(14,.qui),(15,.qui)] 3 b12 o13 0 (.I 1) (H.fc 0 rfl) ?_
 refine qK .chn (some 29) (qs [11,12,13,14,15]) 48 #[.agg #[.int .u64 2,.slice am 1 cm],.I 0,.I 1] (nodes1 (S:=Av S w O (idsOf [(cb,.cells #[.bool true,.int .u64 2,.slice am 1 cm,.pointer none] 38 (0,0))] [])) (H.rp 4 rfl)) ?_
 rintro _ w17 hE20⟨a18,c19,rfl,hr21⟩
 have H:=H.addN hE20 (F:=Rp (Shape.slice (Shape.int .i64)) [.slice a18 1 c19] ([1]:List Int)) hr21
 refine qF 5 [(8,.slice a18 1 c19),(9,.I 0)] ?_
 refine qR 1 [.c [4,0],.c [5]] [(8,.slice a18 1 c19),(9,.I 0)] ?_
 have H:=H.pick [0,4,5] rfl
 refine qG (sq 0 8) ?_
 refine qP 1 (sq 1 8) [(9,.I 0),(32,.slice a18 1 c19)] ?_
 refine qK .seq (some 33) (sq 2 8) 50 #[.slice a18 1 c19] (row1 (H.rp 0 rfl) (H.fact 1 rfl)) ?_
 rintro _ w22 hE23 rfl
 have H:=H.ext hE23
 refine qK .seq (some 34) (sq 3 8) 49 #[.string (⟨#[32,49]⟩:ByteArray),.string (⟨#[32]⟩:ByteArray)] trim1 ?_
 rintro _ w24 hE25 rfl
 have H:=H.ext hE25
 refine RW.readS (κ:=.seq) (d:=some 35) (r:=(sq 4 8)) (s:=semV (Op.stringOp .add (⟨#[49]⟩:ByteArray) (⟨#[10]⟩:ByteArray))) (v:=.string ((⟨#[49]⟩:ByteArray)++(⟨#[10]⟩:ByteArray))) (by as_aux_lemma=>kernel_rfl) (fun w' _=>semV_run (run_string_add_sum w' _ _ (of_decide_eq_true (by kernel_rfl)))) ?_
 refine qP 1 (sq 5 8) [(35,.string ((⟨#[49]⟩:ByteArray)++(⟨#[10]⟩:ByteArray))),(36,.I 0)] ?_
 refine qK .seq (some 37) (sq 6 8) 42 #[.I 0] (refused_ok (S:=fun _=>True)) ?_
 rintro _ w26 hE27 rfl
 have H:=H.ext hE27
 refine qF 2 [(4,.string ((⟨#[49]⟩:ByteArray)++(⟨#[10]⟩:ByteArray))),(5,.nilIface)] ?_
 refine qT (.tuple #[.string ((⟨#[49]⟩:ByteArray)++(⟨#[10]⟩:ByteArray)),.nilIface]) Tryz.func19 ?_
 have H:=H.drop (M':=[(cb,.cells #[.bool true,.int .u64 2,.slice am 1 cm,.pointer none] 38 (0,0))]) (W':=[]) (by repeat(first|exact List.Sublist.refl _|exact List.nil_sublist _|apply List.Sublist.cons_cons|apply List.Sublist.cons)) (by repeat(first|exact List.Sublist.refl _|exact List.nil_sublist _|apply List.Sublist.cons_cons|apply List.Sublist.cons))
 exact⟨_,rfl,rfl,H.pick [2] rfl⟩
theorem maps0{S:Nat→Prop}{w:World}  :
 Calls Tryz.prog 125 #[.agg #[.I 0,.I 0,.I 0,.int .u64 0,.slice none 0 0,.int .u64 0,.slice none 0 0,.slice none 0 0,.slice none 0 0,.slice none 0 0,.slice none 0 0,.slice none 0 0,.slice none 0 0,.int .u64 0]] w (Ret fun v w'=>Ext w w'∧v=.bool false):=by
 refine qS (fn:=Tryz.f125) (n:=103) (σ:=[(0,.agg #[.I 0,.I 0,.I 0,.int .u64 0,.slice none 0 0,.int .u64 0,.slice none 0 0,.slice none 0 0,.slice none 0 0,.slice none 0 0,.slice none 0 0,.slice none 0 0,.slice none 0 0,.int .u64 0])]) Tryz.func125 ?_
 have H:=Hp.startF (w:=w) (S:=S) (G:=[]) .nil
 refine qR 1 [.c [0],.c [1]] [(0,.agg #[.I 0,.I 0,.I 0,.int .u64 0,.slice none 0 0,.int .u64 0,.slice none 0 0,.slice none 0 0,.slice none 0 0,.slice none 0 0,.slice none 0 0,.slice none 0 0,.slice none 0 0,.int .u64 0])] ?_
 refine qG (sq 0 2) ?_
 refine qB .seq 1 (sq 1 2) #[.I 0,.I 0,.I 0,.int .u64 0,.slice none 0 0,.int .u64 0,.slice none 0 0,.slice none 0 0,.slice none 0 0,.slice none 0 0,.slice none 0 0,.slice none 0 0,.slice none 0 0,.int .u64 0] 102 H ?_
 intro b1 w2 H
 refine qF 1 [(1,.P b1 0)] ?_
 refine qR 2 [.c [1,0,0],.c [1,0,1],.c [2]] [(1,.P b1 0)] ?_
 refine qG (sq 0 39) ?_
 refine qP 1 (sq 1 39) [(1,.P b1 0),(3,.P b1 0)] ?_
 refine qL .seq 4 (sq 2 39) 3 b1 0 0 (.I 0) (H.cells 0 rfl) ?_
 refine qF 37 [(1,.P b1 0),(41,.bool true)] ?_
 refine qR 3 [.c [1,0,1,0,1],.c [2]] [(2,.bool false)] ?_
 refine qT (.bool false) Tryz.func125 ?_
 exact⟨_,rfl,H.done,rfl⟩
theorem may0{S:Nat→Prop}{w:World}  :
 Calls Tryz.prog 87 #[.agg #[.I 0,.I 0,.I 0,.int .u64 0,.slice none 0 0,.int .u64 0,.slice none 0 0,.slice none 0 0,.slice none 0 0,.slice none 0 0,.slice none 0 0,.slice none 0 0,.slice none 0 0,.int .u64 0]] w (Ret fun v w'=>Ext w w'∧v=.bool false):=by
 refine qS (fn:=Tryz.f87) (n:=112) (σ:=[(0,.agg #[.I 0,.I 0,.I 0,.int .u64 0,.slice none 0 0,.int .u64 0,.slice none 0 0,.slice none 0 0,.slice none 0 0,.slice none 0 0,.slice none 0 0,.slice none 0 0,.slice none 0 0,.int .u64 0])]) Tryz.func87 ?_
 have H:=Hp.startF (w:=w) (S:=S) (G:=[]) .nil
 refine qR 1 [.c [0],.c [1]] [(0,.agg #[.I 0,.I 0,.I 0,.int .u64 0,.slice none 0 0,.int .u64 0,.slice none 0 0,.slice none 0 0,.slice none 0 0,.slice none 0 0,.slice none 0 0,.slice none 0 0,.slice none 0 0,.int .u64 0])] ?_
 refine qG (sq 0 2) ?_
 refine qB .seq 1 (sq 1 2) #[.I 0,.I 0,.I 0,.int .u64 0,.slice none 0 0,.int .u64 0,.slice none 0 0,.slice none 0 0,.slice none 0 0,.slice none 0 0,.slice none 0 0,.slice none 0 0,.slice none 0 0,.int .u64 0] 102 H ?_
 intro b1 w2 H
 refine qF 1 [(1,.P b1 0)] ?_
 refine qR 2 [.c [1,0,0],.c [1,0,1],.c [2]] [(1,.P b1 0)] ?_
 refine qG (sq 0 3) ?_
 refine qL .seq 9 (sq 1 3) 102 b1 0 0 (.agg #[.I 0,.I 0,.I 0,.int .u64 0,.slice none 0 0,.int .u64 0,.slice none 0 0,.slice none 0 0,.slice none 0 0,.slice none 0 0,.slice none 0 0,.slice none 0 0,.slice none 0 0,.int .u64 0]) (H.cells 0 rfl) ?_
 refine qK .seq (some 10) (sq 2 3) 125 #[.agg #[.I 0,.I 0,.I 0,.int .u64 0,.slice none 0 0,.int .u64 0,.slice none 0 0,.slice none 0 0,.slice none 0 0,.slice none 0 0,.slice none 0 0,.slice none 0 0,.slice none 0 0,.int .u64 0]] (maps0 (S:=fun _=>True)) ?_
 rintro _ w3 hE4 rfl
 have H:=H.ext hE4
 refine qF 1 [(1,.P b1 0),(11,.bool true)] ?_
 refine qR 3 [.c [1,0,1,0,1],.c [2]] [(2,.bool false)] ?_
 refine qT (.bool false) Tryz.func87 ?_
 exact⟨_,rfl,H.done,rfl⟩
theorem mlist0{S:Nat→Prop}{w:World}  :
 Calls Tryz.prog 55 #[.agg #[.I 0,.I 0,.I 0,.int .u64 0,.slice none 0 0,.int .u64 0,.slice none 0 0,.slice none 0 0,.slice none 0 0,.slice none 0 0,.slice none 0 0,.slice none 0 0,.slice none 0 0,.int .u64 0]] w (Ret fun v w'=>Ext w w'∧v=.slice none 0 0):=by
 refine qS (fn:=Tryz.f55) (n:=23) (σ:=[(0,.agg #[.I 0,.I 0,.I 0,.int .u64 0,.slice none 0 0,.int .u64 0,.slice none 0 0,.slice none 0 0,.slice none 0 0,.slice none 0 0,.slice none 0 0,.slice none 0 0,.slice none 0 0,.int .u64 0])]) Tryz.func55 ?_
 have H:=Hp.startF (w:=w) (S:=S) (G:=[]) .nil
 refine qR 1 [.c [0],.c [1]] [(0,.agg #[.I 0,.I 0,.I 0,.int .u64 0,.slice none 0 0,.int .u64 0,.slice none 0 0,.slice none 0 0,.slice none 0 0,.slice none 0 0,.slice none 0 0,.slice none 0 0,.slice none 0 0,.int .u64 0])] ?_
 refine qG (sq 0 2) ?_
 refine qB .seq 1 (sq 1 2) #[.I 0,.I 0,.I 0,.int .u64 0,.slice none 0 0,.int .u64 0,.slice none 0 0,.slice none 0 0,.slice none 0 0,.slice none 0 0,.slice none 0 0,.slice none 0 0,.slice none 0 0,.int .u64 0] 102 H ?_
 intro b1 w2 H
 refine qF 1 [(1,.P b1 0)] ?_
 refine qR 2 [.c [1,0,0],.c [1,0,1],.c [2]] [(1,.P b1 0)] ?_
 refine qG (sq 0 3) ?_
 refine qL .seq 6 (sq 1 3) 102 b1 0 0 (.agg #[.I 0,.I 0,.I 0,.int .u64 0,.slice none 0 0,.int .u64 0,.slice none 0 0,.slice none 0 0,.slice none 0 0,.slice none 0 0,.slice none 0 0,.slice none 0 0,.slice none 0 0,.int .u64 0]) (H.cells 0 rfl) ?_
 refine qK .seq (some 7) (sq 2 3) 87 #[.agg #[.I 0,.I 0,.I 0,.int .u64 0,.slice none 0 0,.int .u64 0,.slice none 0 0,.slice none 0 0,.slice none 0 0,.slice none 0 0,.slice none 0 0,.slice none 0 0,.slice none 0 0,.int .u64 0]] (may0 (S:=fun _=>True)) ?_
 rintro _ w3 hE4 rfl
 have H:=H.ext hE4
 refine qF 1 [(1,.P b1 0),(8,.bool true)] ?_
 refine qR 3 [.c [1,0,1,0,1],.c [2]] [(2,.slice none 0 0)] ?_
 refine qT (.slice none 0 0) Tryz.func55 ?_
 exact⟨_,rfl,H.done,rfl⟩
theorem or0{S:Nat→Prop}{w:World}  :
 Calls Tryz.prog 56 #[.string (⟨#[]⟩:ByteArray)] w (Ret fun v w'=>Ext w w'∧v=.string (⟨#[110,111,110,101,10]⟩:ByteArray)):=by
 refine qS (fn:=Tryz.f56) (n:=6) (σ:=[(0,.string (⟨#[]⟩:ByteArray))]) Tryz.func56 ?_
 have H:=Hp.startF (w:=w) (S:=S) (G:=[]) .nil
 refine qR 5 [.c [1,0,1],.c [2]] [(0,.string (⟨#[]⟩:ByteArray)),(4,.bool ((⟨#[]⟩:ByteArray).toList==(⟨#[]⟩:ByteArray).toList))] ?_
 refine qE ((⟨#[]⟩:ByteArray).toList) ((⟨#[]⟩:ByteArray).toList) (fun h1=>?_) (fun h1=>?_)
 ·
  refine qR 2 [.c [1,0,1,0,1],.c [2]] [(2,.string (⟨#[110,111,110,101,10]⟩:ByteArray))] ?_
  refine qT (.string (⟨#[110,111,110,101,10]⟩:ByteArray)) Tryz.func56 ?_
  exact⟨_,rfl,H.done,rfl⟩
 ·
  exact absurd rfl h1
theorem has0{S:Nat→Prop}{w:World}{cb:Nat}{al:Option Addr}{cl:Nat}{x0 x1 x2:Value}(hF:(Fc cb 0 [x0,x1,x2,.pointer none]).p S w):
 Calls Tryz.prog 54 #[.P cb 0,.slice al 0 cl,.I 0] w (Ret fun v w'=>Ext w w'∧v=.tuple #[.agg #[.I 0,.I 0,.I 0,.int .u64 0,.slice none 0 0,.int .u64 0,.slice none 0 0,.slice none 0 0,.slice none 0 0,.slice none 0 0,.slice none 0 0,.slice none 0 0,.slice none 0 0,.int .u64 0],.iface 46 (.I 151)]):=by
 refine qS (fn:=Tryz.f54) (n:=29) (σ:=[(0,.P cb 0),(1,.slice al 0 cl),(2,.I 0)]) Tryz.func54 ?_
 have H:=Hp.startF (w:=w) (S:=S) (G:=[Fc cb 0 [x0,x1,x2,.pointer none]]) (.cons hF .nil)
 refine qR 1 [.c [0],.c [1]] [(0,.P cb 0),(1,.slice al 0 cl),(2,.I 0)] ?_
 refine qG (sq 0 2) ?_
 refine qB .seq 6 (sq 1 2) #[.I 0,.I 0,.I 0,.int .u64 0,.slice none 0 0,.int .u64 0,.slice none 0 0,.slice none 0 0,.slice none 0 0,.slice none 0 0,.slice none 0 0,.slice none 0 0,.slice none 0 0,.int .u64 0] 102 H ?_
 intro b1 w2 H
 refine qF 1 [(0,.P cb 0),(1,.slice al 0 cl),(2,.I 0),(6,.P b1 0)] ?_
 refine qR 2 [.c [1,0,0],.c [1,0,1],.c [2]] [(0,.P cb 0),(1,.slice al 0 cl),(2,.I 0),(6,.P b1 0)] ?_
 refine qG (sq 0 4) ?_
 refine qP 2 (sq 2 4) [(0,.P cb 0),(6,.P b1 0),(9,.slice al 0 cl),(10,.I 0)] ?_
 refine qK .seq (some 11) (sq 3 4) 37 #[.slice al 0 cl,.I 0] (many_ok (S:=fun _=>True) 0 rfl) ?_
 rintro _ w3 hE4 rfl
 have H:=H.ext hE4
 refine qF 1 [(0,.P cb 0),(6,.P b1 0),(8,.nilIface)] ?_
 refine qR 6 [.c [2,0,0],.c [2,0,1],.c [3]] [(0,.P cb 0),(6,.P b1 0)] ?_
 refine qG (sq 0 5) ?_
 refine qP 3 (sq 3 5) [(0,.P cb 0),(6,.P b1 0),(18,.P cb 3)] ?_
 refine qL .seq 19 (sq 4 5) 36 cb 3 3 (.pointer none) (H.fc 0 rfl) ?_
 refine qF 1 [(0,.P cb 0),(6,.P b1 0),(20,.bool true)] ?_
 refine qR 2 [.c [2,0,1,0,0],.c [2,0,1,0,1],.c [3]] [(6,.P b1 0)] ?_
 have H:=H.pick [] rfl
 refine qG (sq 0 4) ?_
 refine qP 2 (sq 2 4) [(6,.P b1 0),(21,.agg #[.I 0,.I 0,.I 0,.int .u64 0,.slice none 0 0,.int .u64 0,.slice none 0 0,.slice none 0 0,.slice none 0 0,.slice none 0 0,.slice none 0 0,.slice none 0 0,.slice none 0 0,.int .u64 0]),(22,.iface 46 (.I 151))] ?_
 refine qW 102 b1 0 (sq 3 4) (.agg #[.I 0,.I 0,.I 0,.int .u64 0,.slice none 0 0,.int .u64 0,.slice none 0 0,.slice none 0 0,.slice none 0 0,.slice none 0 0,.slice none 0 0,.slice none 0 0,.slice none 0 0,.int .u64 0]) [(b1,.cells #[.I 0,.I 0,.I 0,.int .u64 0,.slice none 0 0,.int .u64 0,.slice none 0 0,.slice none 0 0,.slice none 0 0,.slice none 0 0,.slice none 0 0,.slice none 0 0,.slice none 0 0,.int .u64 0] 102 (0,0))] H 0 rfl rfl ?_
 intro w5 H
 refine qF 1 [(6,.P b1 0),(7,.iface 46 (.I 151))] ?_
 refine qRB (.tuple #[.agg #[.I 0,.I 0,.I 0,.int .u64 0,.slice none 0 0,.int .u64 0,.slice none 0 0,.slice none 0 0,.slice none 0 0,.slice none 0 0,.slice none 0 0,.slice none 0 0,.slice none 0 0,.int .u64 0],.iface 46 (.I 151)]) Tryz.func54 (v2 (.cell 6 102) (.tmp 7) (vC (H.cells 0 rfl)) vT) ?_
 exact⟨_,rfl,H.done,rfl⟩
theorem list0{S:Nat→Prop}{w:World}{O:List Nat}{cb:Nat}{al:Option Addr}{cl:Nat}{x0 x1 x2:Value}(H0:Hp w S O [(cb,.cells #[x0,x1,x2,.pointer none] 38 (0,0))] [] [Rp (Shape.slice Shape.str) [.slice al 0 cl] ([]:List ByteArray),Fz cQ] w):
 Calls Tryz.prog 28 #[.P cb 0,.slice al 0 cl] w (Ret fun v w'=>v=.tuple #[.string (⟨#[110,111,110,101,10]⟩:ByteArray),.iface 46 (.I 151)]∧Hp w S O [(cb,.cells #[x0,x1,x2,.pointer none] 38 (0,0))] [] [] w'):=by
 refine qS (fn:=Tryz.f28) (n:=32) (σ:=[(0,.P cb 0),(1,.slice al 0 cl)]) Tryz.func28 ?_
 have H:=H0
 refine qR 3 [.c [1,0],.c [2]] [(0,.P cb 0),(1,.slice al 0 cl)] ?_
 refine qG (sq 0 9) ?_
 refine qP 2 (sq 2 9) [(12,.P cb 0),(13,.slice al 0 cl)] ?_
 refine qK .seq (some 14) (sq 3 9) 54 #[.P cb 0,.slice al 0 cl,.I 0] (has0 (H.viewM 0 rfl (by simp))) ?_
 rintro _ w1 hE2 rfl
 have H:=H.ext hE2
 refine qP 3 (sq 6 9) [(15,.agg #[.I 0,.I 0,.I 0,.int .u64 0,.slice none 0 0,.int .u64 0,.slice none 0 0,.slice none 0 0,.slice none 0 0,.slice none 0 0,.slice none 0 0,.slice none 0 0,.slice none 0 0,.int .u64 0]),(16,.iface 46 (.I 151))] ?_
 refine qB .seq 6 (sq 7 9) #[.I 0,.I 0,.I 0,.int .u64 0,.slice none 0 0,.int .u64 0,.slice none 0 0,.slice none 0 0,.slice none 0 0,.slice none 0 0,.slice none 0 0,.slice none 0 0,.slice none 0 0,.int .u64 0] 102 H ?_
 intro b3 w4 H
 refine qW 102 b3 0 (sq 8 9) (.agg #[.I 0,.I 0,.I 0,.int .u64 0,.slice none 0 0,.int .u64 0,.slice none 0 0,.slice none 0 0,.slice none 0 0,.slice none 0 0,.slice none 0 0,.slice none 0 0,.slice none 0 0,.int .u64 0]) [(b3,.cells #[.I 0,.I 0,.I 0,.int .u64 0,.slice none 0 0,.int .u64 0,.slice none 0 0,.slice none 0 0,.slice none 0 0,.slice none 0 0,.slice none 0 0,.slice none 0 0,.slice none 0 0,.int .u64 0] 102 (0,0)),(cb,.cells #[x0,x1,x2,.pointer none] 38 (0,0))] H 0 rfl rfl ?_
 intro w5 H
 refine qF 1 [(6,.P b3 0),(7,.iface 46 (.I 151))] ?_
 refine qR 4 [.c [3,0,0],.c [3,0,1],.c [4]] [(6,.P b3 0),(7,.iface 46 (.I 151)),(8,.string (⟨#[]⟩:ByteArray))] ?_
 have H:=H.pick [1] rfl
 refine qG (sq 0 4) ?_
 refine qL .seq 17 (sq 1 4) 102 b3 0 0 (.agg #[.I 0,.I 0,.I 0,.int .u64 0,.slice none 0 0,.int .u64 0,.slice none 0 0,.slice none 0 0,.slice none 0 0,.slice none 0 0,.slice none 0 0,.slice none 0 0,.slice none 0 0,.int .u64 0]) (H.cells 0 rfl) ?_
 refine qK .seq (some 18) (sq 2 4) 55 #[.agg #[.I 0,.I 0,.I 0,.int .u64 0,.slice none 0 0,.int .u64 0,.slice none 0 0,.slice none 0 0,.slice none 0 0,.slice none 0 0,.slice none 0 0,.slice none 0 0,.slice none 0 0,.int .u64 0]] (mlist0 (S:=fun _=>True)) ?_
 rintro _ w6 hE7 rfl
 have H:=H.ext hE7
 refine qF 2 [(7,.iface 46 (.I 151)),(8,.string (⟨#[]⟩:ByteArray)),(18,.slice none 0 0),(19,.I 0),(20,.I 0)] ?_
 refine qR 1 [.c [3,0,1,0],.b 0,.c [4]] [(7,.iface 46 (.I 151)),(8,.string (⟨#[]⟩:ByteArray)),(18,.slice none 0 0),(19,.I 0),(20,.I 0)] ?_
 refine WK.enter (b:=cd Tryz.prog 28 [3,0,1,0,0]) (by as_aux_lemma=>kernel_rfl) ?_
 refine qR 6 [.c [4,0],.c [5]] [(7,.iface 46 (.I 151)),(8,.string (⟨#[]⟩:ByteArray))] ?_
 have H:=H.dropM 0
 refine qG (sq 0 5) ?_
 refine qP 1 (sq 1 5) [(7,.iface 46 (.I 151)),(29,.string (⟨#[]⟩:ByteArray))] ?_
 refine qK .seq (some 30) (sq 2 5) 56 #[.string (⟨#[]⟩:ByteArray)] (or0 (S:=fun _=>True)) ?_
 rintro _ w8 hE9 rfl
 have H:=H.ext hE9
 refine qF 3 [(4,.string (⟨#[110,111,110,101,10]⟩:ByteArray)),(5,.iface 46 (.I 151))] ?_
 refine qT (.tuple #[.string (⟨#[110,111,110,101,10]⟩:ByteArray),.iface 46 (.I 151)]) Tryz.func28 ?_
 have H:=H.drop (M':=[(cb,.cells #[x0,x1,x2,.pointer none] 38 (0,0))]) (W':=[]) (by repeat(first|exact List.Sublist.refl _|exact List.nil_sublist _|apply List.Sublist.cons_cons|apply List.Sublist.cons)) (by repeat(first|exact List.Sublist.refl _|exact List.nil_sublist _|apply List.Sublist.cons_cons|apply List.Sublist.cons))
 exact⟨_,rfl,rfl,H.pick [] rfl⟩
theorem bytes61{S:Nat→Prop}{w:World}  :
 Calls Tryz.prog 39 #[.string (⟨#[54,49]⟩:ByteArray)] w (Ret fun v w'=>Ext w w'∧∃(a':Option Addr)(c':Nat),v=.tuple #[.slice a' 1 c',.nilIface]∧SB.rep (Nw S w) w' [.slice a' 1 c'] ([97#8]:List (BitVec 8))):=by
 refine qS (fn:=Tryz.f39) (n:=51) (σ:=[(0,.string (⟨#[54,49]⟩:ByteArray))]) Tryz.func39 ?_
 have H:=Hp.startF (w:=w) (S:=S) (G:=[]) .nil
 refine qR 5 [.c [1,0,1],.c [2]] [(0,.string (⟨#[54,49]⟩:ByteArray)),(9,.bool ((⟨#[54,49]⟩:ByteArray).toList==(⟨#[45]⟩:ByteArray).toList))] ?_
 refine qE ((⟨#[54,49]⟩:ByteArray).toList) ((⟨#[45]⟩:ByteArray).toList) (fun h1=>?_) (fun h1=>?_)
 ·
  exact absurd (toList_inj h1) (by decide)
 ·
  refine qR 7 [.c [3,0,1,0],.b 0,.c [4]] [(0,.string (⟨#[54,49]⟩:ByteArray)),(4,.slice none 0 0),(5,.I 0)] ?_
  refine WK.enter (b:=cd Tryz.prog 39 [3,0,1,0,0]) (by as_aux_lemma=>kernel_rfl) ?_
  refine qR 8 [.c [3,0,1,0,0,1,0,0,0],.c [3,0,1,0,0,1,0,0,1],.b 1,.c [3,0,1,0,0,2],.l [3,0,1,0,0],.b 0,.c [4]] [(0,.string (⟨#[54,49]⟩:ByteArray)),(4,.slice none 0 0),(5,.I 0)] ?_
  refine WK.draw1 11 [(0,.qui),(1,.qui),(2,.qui),(4,.qui),(5,.qui),(6,.qui),(7,.qui),(3,.chn),(8,.chn),(9,.qui),(10,.qui)] [(0,.qui),(1,.qui),(2,.qui),(4,.qui),(5,.qui),(6,.qui),(7,.qui),(3,.chn),(8,.chn),(9,.qui),(10,.qui)] Tryz_mixed (by as_aux_lemma=>kernel_rfl) (by as_aux_lemma=>kernel_rfl) (by as_aux_lemma=>kernel_rfl) ?_
  have H:=H.draw
  generalize({w with drawn:=w.drawn+1}:World)=w2 at H⊢
  refine qP 2 [(2,.qui),(4,.qui),(5,.qui),(6,.qui),(7,.qui),(3,.chn),(8,.chn),(9,.qui),(10,.qui)] [(0,.string (⟨#[54,49]⟩:ByteArray)),(4,.slice none 0 0),(5,.I 0),(17,.string (⟨#[54,49]⟩:ByteArray)),(18,.I 0)] ?_
  refine RW.strAt (κ:=.qui) (d:=some 19) (r:=[(4,.qui),(5,.qui),(6,.qui),(7,.qui),(3,.chn),(8,.chn),(9,.qui),(10,.qui)]) (T:=9) (s:=(⟨#[54,49]⟩:ByteArray)) (k:=.i64) (t:=0) 0 (by as_aux_lemma=>kernel_rfl) (by as_aux_lemma=>kernel_rfl) (by omega) (by decide) ?_
  refine qP 3 [(7,.qui),(3,.chn),(8,.chn),(9,.qui),(10,.qui)] [(0,.string (⟨#[54,49]⟩:ByteArray)),(4,.slice none 0 0),(5,.I 0),(19,.int .u8 54),(21,.string (⟨#[54,49]⟩:ByteArray)),(23,.I 1)] ?_
  refine RW.strAt (κ:=.qui) (d:=some 24) (r:=[(3,.chn),(8,.chn),(9,.qui),(10,.qui)]) (T:=9) (s:=(⟨#[54,49]⟩:ByteArray)) (k:=.i64) (t:=1) 1 (by as_aux_lemma=>kernel_rfl) (by as_aux_lemma=>kernel_rfl) (by omega) (by decide) ?_
  refine qK .chn (some 20) [(8,.chn),(9,.qui),(10,.qui)] 68 #[.string (⟨#[48,49,50,51,52,53,54,55,56,57,97,98,99,100,101,102]⟩:ByteArray),.int .u8 54] (hexat_c (x:=6) (by kernel_rfl)) ?_
  rintro _ w3 hE4 rfl
  have H:=H.ext hE4
  refine qK .chn (some 25) (qs [9,10]) 68 #[.string (⟨#[48,49,50,51,52,53,54,55,56,57,97,98,99,100,101,102]⟩:ByteArray),.int .u8 49] (hexat_c (x:=1) (by kernel_rfl)) ?_
  rintro _ w5 hE6 rfl
  have H:=H.ext hE6
  refine qF 2 [(0,.string (⟨#[54,49]⟩:ByteArray)),(4,.slice none 0 0),(5,.I 0),(6,.I 6),(7,.I 1)] ?_
  refine qR 5 [.c [3,0,1,0,0,1,0,0,2],.b 1,.c [3,0,1,0,0,2],.l [3,0,1,0,0],.b 0,.c [4]] [(0,.string (⟨#[54,49]⟩:ByteArray)),(4,.slice none 0 0),(5,.I 0),(6,.I 6),(7,.I 1)] ?_
  refine qG (sq 0 9) ?_
  refine qP 6 (sq 6 9) [(0,.string (⟨#[54,49]⟩:ByteArray)),(4,.slice none 0 0),(5,.I 0),(33,.slice none 0 0),(38,.int .u8 97)] ?_
  refine RW.new (κ:=.seq) (d:=some 39) (r:=(sq 7 9)) (o:=.cells #[.int .u8 97] 5 (0,0)) (v:=fun b=>.slice (some ⟨b,0,none⟩) 1 1) (fun b=>by as_aux_lemma=>kernel_rfl) (nofun) H ?_
  intro b7 w8 H
  have H:=H.ownNil Sb 5
  have H:Hp w S [] [(b7,.cells #[.int .u8 97] 5 (0,0))] [⟨Sb,5,.slice none 0 0,[]⟩] [] _:=H
  have H:=H.freeze 0 rfl Sb ([97#8]:List (BitVec 8)) 1 (by simp[maxLen]) (by first|exact Nat.le_refl _|simp) (EsP.cons (c:=[.int .u8 97]) (Shape.bv_lit (x:=97#8) (by decide)) EsP.nil)
  have H:Hp w S [] [] [⟨Sb,5,.slice none 0 0,[]⟩] [Rp SB [.slice (some ⟨b7,0,none⟩) 1 1] ([97#8]:List (BitVec 8))] _:=H
  refine RW.appendW (d:=some 40) (r:=(sq 8 9)) (T:=28) (ty:=28) (e:=5) (m:=1) (by_:=1) (v:=.slice none 0 0) (a2:=(some ⟨b7,0,none⟩)) (l2:=1) (c2:=1) (zs:=([97#8]:List (BitVec 8))) (by as_aux_lemma=>kernel_rfl) (by as_aux_lemma=>kernel_rfl) rfl H 0 rfl 0 rfl (rfl) (by simp<;>omega) ?_
  intro a9 c10 w12 H hc11
  have H:Hp w S [] [] [⟨Sb,5,.slice a9 1 c10,([97#8]:List (BitVec 8))⟩] [Rp SB [.slice (some ⟨b7,0,none⟩) 1 1] ([97#8]:List (BitVec 8))] _:=H
  refine qF 1 [(0,.string (⟨#[54,49]⟩:ByteArray)),(4,.slice a9 1 c10),(5,.I 0)] ?_
  refine qR 2 [.l [3,0,1,0,0],.b 0,.c [4]] [(0,.string (⟨#[54,49]⟩:ByteArray)),(4,.slice a9 1 c10),(5,.I 2)] ?_
  refine WK.again ?_
  refine qR 7 [.c [4,0,0],.c [4,0,1],.c [5]] [(0,.string (⟨#[54,49]⟩:ByteArray)),(4,.slice a9 1 c10)] ?_
  have H:=H.pick [] rfl
  refine qG (sq 0 8) ?_
  refine qP 3 (sq 3 8) [(0,.string (⟨#[54,49]⟩:ByteArray)),(4,.slice a9 1 c10),(43,.bool ((⟨#[54,49]⟩:ByteArray).toList==(⟨#[]⟩:ByteArray).toList))] ?_
  refine tE (fun b_=>[(0,.string (⟨#[54,49]⟩:ByteArray)),(4,.slice a9 1 c10),(43,.bool b_)]) ((⟨#[54,49]⟩:ByteArray).toList) ((⟨#[]⟩:ByteArray).toList) (fun h13=>?_) (fun h13=>?_)
  ·
   exact absurd (toList_inj h13) (by decide)
  ·
   refine qF 5 [(4,.slice a9 1 c10),(48,.bool false)] ?_
   refine qR 4 [.c [6]] [(2,.slice a9 1 c10),(3,.nilIface)] ?_
   refine qT (.tuple #[.slice a9 1 c10,.nilIface]) Tryz.func39 ?_
   have H:Hp w S [] [] [] [Rp SB [.slice a9 1 c10] ([97#8]:List (BitVec 8))] _:=H.freezeW 0 rfl
   exact⟨_,rfl,H.done,_,_,rfl,H.out (H.rp 0 rfl)⟩
theorem enc61{S:Nat→Prop}{w:World}{a:Option Addr}{c:Nat}(h:SB.rep S w [.slice a 1 c] ([97#8]:List (BitVec 8))):
 Calls Tryz.prog 40 #[.slice a 1 c,.I 1,.I 1] w (Ret fun v w'=>Ext w w'∧∃(a':Option Addr)(c':Nat),v=.tuple #[.slice a' 1 c',.I 0]∧(Shape.slice SB).rep (Nw S w) w' [.slice a' 1 c'] ([[97#8]]:List (List (BitVec 8)))):=by
 have h9:=encode_ok (xs:=([97#8]:List (BitVec 8))) 1 1 h (by decide) (by decide) (by decide) (by decide)
 rw[show enc ([97#8]:List (BitVec 8)) 1 1=([[97#8]]:List (List (BitVec 8)))by kernel_rfl]at h9
 exact h9
theorem code0{S:Nat→Prop}{w:World}{O:List Nat}{cb:Nat}{al:Option Addr}{cl:Nat}{x0 x1 x2:Value}(H0:Hp w S O [(cb,.cells #[x0,x1,x2,.pointer none] 38 (0,0))] [] [Rp (Shape.slice Shape.str) [.slice al 3 cl] ([digB 1,digB 1,(⟨#[54,49]⟩:ByteArray)]),Fz cQ] w):
 Calls Tryz.prog 15 #[.P cb 0,.slice al 3 cl] w (Ret fun v w'=>v=.tuple #[.string (⟨#[54,49,10]⟩:ByteArray),.nilIface]∧Hp w S O [(cb,.cells #[x0,x1,x2,.pointer none] 38 (0,0))] [] [] w'):=by
 refine qS (fn:=Tryz.f15) (n:=65) (σ:=[(0,.P cb 0),(1,.slice al 3 cl)]) Tryz.func15 ?_
 have H:=H0
 refine qR 4 [.c [1,0,0],.c [1,0,1],.c [2]] [(1,.slice al 3 cl)] ?_
 refine qG (sq 0 3) ?_
 refine qP 1 (sq 1 3) [(1,.slice al 3 cl),(15,.slice al 3 cl)] ?_
 refine qK .seq (some 16) (sq 2 3) 37 #[.slice al 3 cl,.I 3] (many_ok (S:=fun _=>True) 3 rfl) ?_
 rintro _ w1 hE2 rfl
 have H:=H.ext hE2
 refine qF 1 [(1,.slice al 3 cl),(6,.nilIface)] ?_
 refine qR 5 [.c [2,0],.c [3]] [(1,.slice al 3 cl)] ?_
 refine qG (sq 0 8) ?_
 refine qP 1 (sq 1 8) [(1,.slice al 3 cl),(21,.slice al 3 cl)] ?_
 refine RW.slice (κ:=.seq) (d:=some 22) (r:=(sq 2 8)) (T:=22) (e:=9) (sh:=Shape.str) (a:=al) (len:=3) (cap:=cl) (zs:=(([1,1]:List Nat).map digB)) (lv:=none) (hv:=(some (.I 2))) (by as_aux_lemma=>kernel_rfl) (by as_aux_lemma=>kernel_rfl) H 0 rfl 0 2 .nil (.mk (by omega)) (by decide) (by decide) (rfl) ?_
 intro a3 H
 refine qK .seq (some 23) (sq 3 8) 38 #[.slice a3 ((([1,1]:List Nat).map digB).length) cl] (numbers_spec (S:=Av S w O (idsOf [(cb,.cells #[x0,x1,x2,.pointer none] 38 (0,0))] [])) (ns:=([1,1]:List Nat)) (H.rp 0 rfl) (by decide) (by decide) (H.fact 2 rfl)) ?_
 rintro _ w4-⟨a5,c6,rfl,H'⟩
 have H:=H.back (M1:=[]) (W1:=[]) H'
 have H:Hp w S O [(cb,.cells #[x0,x1,x2,.pointer none] 38 (0,0))] [⟨Shape.int .i64,3,.slice a5 ((nums ([1,1]:List Nat)).length) c6,(nums ([1,1]:List Nat))⟩] [Rp (Shape.slice Shape.str) [.slice a3 ((([1,1]:List Nat).map digB).length) cl] (([1,1]:List Nat).map digB),Rp (Shape.slice Shape.str) [.slice al 3 cl] ([digB 1,digB 1,(⟨#[54,49]⟩:ByteArray)]),Fz cQ] _:=H
 have H:Hp w S O [(cb,.cells #[x0,x1,x2,.pointer none] 38 (0,0))] [⟨Shape.int .i64,3,.slice a5 2 c6,([1,1]:List Int)⟩] [Rp (Shape.slice Shape.str) [.slice a3 ((([1,1]:List Nat).map digB).length) cl] (([1,1]:List Nat).map digB),Rp (Shape.slice Shape.str) [.slice al 3 cl] ([digB 1,digB 1,(⟨#[54,49]⟩:ByteArray)]),Fz cQ] _:=H
 have H:Hp w S O [(cb,.cells #[x0,x1,x2,.pointer none] 38 (0,0))] [] [Rp (Shape.slice (Shape.int .i64)) [.slice a5 2 c6] ([1,1]:List Int),Rp (Shape.slice Shape.str) [.slice a3 ((([1,1]:List Nat).map digB).length) cl] (([1,1]:List Nat).map digB),Rp (Shape.slice Shape.str) [.slice al 3 cl] ([digB 1,digB 1,(⟨#[54,49]⟩:ByteArray)]),Fz cQ] _:=H.freezeW 0 rfl
 refine qF 5 [(1,.slice al 3 cl),(7,.slice a5 2 c6),(8,.nilIface)] ?_
 refine qR 6 [.c [4,0],.c [5]] [(1,.slice al 3 cl),(7,.slice a5 2 c6)] ?_
 have H:=H.pick [0,2,3] rfl
 refine qG (sq 0 9) ?_
 refine qP 1 (sq 1 9) [(7,.slice a5 2 c6),(30,.slice al 3 cl)] ?_
 have hx7:2<([digB 1,digB 1,(⟨#[54,49]⟩:ByteArray)]).length:=by decide
 refine qX .seq 31 (sq 2 9) 22 9 2 Shape.str (⟨#[54,49]⟩:ByteArray) H 1 rfl 2 (by omega) (rfl) ?_
 intro b8 o9 es10 hr11 H
 obtain⟨rfl,hshr11⟩:=hr11
 have H:Hp w S O [(cb,.cells #[x0,x1,x2,.pointer none] 38 (0,0))] [] [Fc b8 o9 [.string (⟨#[54,49]⟩:ByteArray)],Rp (Shape.slice (Shape.int .i64)) [.slice a5 2 c6] ([1,1]:List Int),Rp (Shape.slice Shape.str) [.slice al 3 cl] ([digB 1,digB 1,(⟨#[54,49]⟩:ByteArray)]),Fz cQ] _:=H
 refine qL .seq 32 (sq 3 9) 9 b8 o9 0 (.string (⟨#[54,49]⟩:ByteArray)) (H.fc 0 rfl) ?_
 refine qK .seq (some 33) (sq 4 9) 39 #[.string (⟨#[54,49]⟩:ByteArray)] (bytes61 (S:=Av S w O (idsOf [(cb,.cells #[x0,x1,x2,.pointer none] 38 (0,0))] []))) ?_
 rintro _ w12 hE15⟨a13,c14,rfl,hr16⟩
 have H:=H.addN hE15 (F:=Rp SB [.slice a13 1 c14] ([97#8]:List (BitVec 8))) hr16
 refine qF 5 [(7,.slice a5 2 c6),(8,.nilIface),(9,.slice a13 1 c14)] ?_
 refine qR 6 [.c [6,0],.c [7]] [(7,.slice a5 2 c6),(9,.slice a13 1 c14)] ?_
 have H:=H.pick [0,2,4] rfl
 refine WK.draw1 13 [(0,.qui),(1,.qui),(2,.qui),(3,.qui),(4,.qui),(5,.qui),(6,.qui),(7,.chn),(8,.qui),(9,.qui),(10,.qui),(11,.qui),(12,.qui)] [(0,.qui),(1,.qui),(2,.qui),(3,.qui),(4,.qui),(5,.qui),(6,.qui),(7,.chn),(8,.qui),(9,.qui),(10,.qui),(11,.qui),(12,.qui)] Tryz_mixed (by as_aux_lemma=>kernel_rfl) (by as_aux_lemma=>kernel_rfl) (by as_aux_lemma=>kernel_rfl) ?_
 have H:=H.draw
 generalize({w12 with drawn:=w12.drawn+1}:World)=w17 at H⊢
 refine qP 2 [(2,.qui),(3,.qui),(4,.qui),(5,.qui),(6,.qui),(7,.chn),(8,.qui),(9,.qui),(10,.qui),(11,.qui),(12,.qui)] [(7,.slice a5 2 c6),(40,.slice a13 1 c14),(41,.slice a5 2 c6)] ?_
 have hx18:0<([1,1]:List Int).length:=by decide
 refine qX .qui 42 [(3,.qui),(4,.qui),(5,.qui),(6,.qui),(7,.chn),(8,.qui),(9,.qui),(10,.qui),(11,.qui),(12,.qui)] 69 3 0 (Shape.int .i64) 1 H 1 rfl 0 (by omega) (rfl) ?_
 intro b19 o20 es21 hr22 H
 have hb23:=Shape.i64_bd hr22
 obtain⟨rfl,-⟩:=hr22
 have H:Hp w S O [(cb,.cells #[x0,x1,x2,.pointer none] 38 (0,0))] [] [Fc b19 o20 [.I 1],Rp SB [.slice a13 1 c14] ([97#8]:List (BitVec 8)),Rp (Shape.slice (Shape.int .i64)) [.slice a5 2 c6] ([1,1]:List Int),Fz cQ] _:=H
 refine qL .qui 43 [(4,.qui),(5,.qui),(6,.qui),(7,.chn),(8,.qui),(9,.qui),(10,.qui),(11,.qui),(12,.qui)] 3 b19 o20 0 (.I 1) (H.fc 0 rfl) ?_
 refine qP 1 [(5,.qui),(6,.qui),(7,.chn),(8,.qui),(9,.qui),(10,.qui),(11,.qui),(12,.qui)] [(40,.slice a13 1 c14),(43,.I 1),(44,.slice a5 2 c6)] ?_
 have hx24:1<([1,1]:List Int).length:=by decide
 refine qX .qui 45 [(6,.qui),(7,.chn),(8,.qui),(9,.qui),(10,.qui),(11,.qui),(12,.qui)] 69 3 1 (Shape.int .i64) 1 H 2 rfl 1 (by omega) (rfl) ?_
 intro b25 o26 es27 hr28 H
 have hb29:=Shape.i64_bd hr28
 obtain⟨rfl,-⟩:=hr28
 have H:Hp w S O [(cb,.cells #[x0,x1,x2,.pointer none] 38 (0,0))] [] [Fc b25 o26 [.I 1],Fc b19 o20 [.I 1],Rp SB [.slice a13 1 c14] ([97#8]:List (BitVec 8)),Rp (Shape.slice (Shape.int .i64)) [.slice a5 2 c6] ([1,1]:List Int),Fz cQ] _:=H
 refine qL .qui 46 [(7,.chn),(8,.qui),(9,.qui),(10,.qui),(11,.qui),(12,.qui)] 3 b25 o26 0 (.I 1) (H.fc 0 rfl) ?_
 refine qK .chn (some 47) (qs [8,9,10,11,12]) 40 #[.slice a13 1 c14,.I 1,.I 1] (enc61 (S:=Av S w O (idsOf [(cb,.cells #[x0,x1,x2,.pointer none] 38 (0,0))] [])) (H.rp 2 rfl)) ?_
 rintro _ w30 hE33⟨a31,c32,rfl,hr34⟩
 have H:=H.addN hE33 (F:=Rp (Shape.slice SB) [.slice a31 1 c32] ([[97#8]]:List (List (BitVec 8)))) hr34
 refine qF 5 [(10,.slice a31 1 c32),(11,.I 0)] ?_
 refine qR 6 [.c [8,0,1,0],.b 0,.c [9]] [(11,.I 0),(12,.string (⟨#[]⟩:ByteArray)),(50,.slice a31 1 c32),(51,.I 1),(52,.I 0)] ?_
 refine WK.enter (b:=cd Tryz.prog 15 [8,0,1,0,0]) (by as_aux_lemma=>kernel_rfl) ?_
 refine qR 8 [.c [8,0,1,0,0,2,0,0,0],.c [8,0,1,0,0,2,0,0,1],.b 1,.c [8,0,1,0,0,3],.l [8,0,1,0,0],.b 0,.c [9]] [(11,.I 0),(12,.string (⟨#[]⟩:ByteArray)),(50,.slice a31 1 c32),(51,.I 1),(52,.I 0)] ?_
 have H:=H.pick [0,5] rfl
 refine qG (sq 0 3) ?_
 have hx35:0<([[97#8]]:List (List (BitVec 8))).length:=by decide
 refine qX .seq 54 (sq 1 3) 74 28 0 SB [97#8] H 0 rfl 0 (by omega) (rfl) ?_
 intro b36 o37 es38 hr39 H
 obtain⟨a40,k41,rfl⟩:=Shape.slice_form' hr39
 have H:Hp w S O [(cb,.cells #[x0,x1,x2,.pointer none] 38 (0,0))] [] [Fc b36 o37 [.slice a40 ([97#8].length) k41],Rp (Shape.slice SB) [.slice a31 1 c32] ([[97#8]]:List (List (BitVec 8))),Fz cQ] _:=H
 have H:=H.add (F:=Rp SB [.slice a40 ([97#8].length) k41] [97#8]) hr39
 refine qL .seq 55 (sq 2 3) 28 b36 o37 0 (.slice a40 ([97#8].length) k41) (H.fc 1 rfl) ?_
 refine qF 1 [(11,.I 0),(12,.string (⟨#[]⟩:ByteArray)),(14,.slice a40 ([97#8].length) k41),(50,.slice a31 1 c32),(51,.I 1),(52,.I 0)] ?_
 have H:=H.pick [0,2,3] rfl
 refine qG (sq 0 6) ?_
 refine qP 2 (sq 2 6) [(11,.I 0),(12,.string (⟨#[]⟩:ByteArray)),(50,.slice a31 1 c32),(51,.I 1),(52,.I 0),(56,.string (⟨#[]⟩:ByteArray)),(57,.slice a40 ([97#8].length) k41)] ?_
 refine qK .seq (some 58) (sq 3 6) 41 #[.slice a40 ([97#8].length) k41] (hex_c (xs:=[97#8]) (H.rp 0 rfl) (by decide)) ?_
 rintro _ w42 hE43 rfl
 have H:=H.ext hE43
 refine RW.readS (κ:=.seq) (d:=some 59) (r:=(sq 4 6)) (s:=semV (Op.stringOp .add (hexB [97#8]) (⟨#[10]⟩:ByteArray))) (v:=.string ((hexB [97#8])++(⟨#[10]⟩:ByteArray))) (by as_aux_lemma=>kernel_rfl) (fun w' _=>semV_run (run_string_add_sum w' _ _ (of_decide_eq_true (by kernel_rfl)))) ?_
 refine RW.readS (κ:=.seq) (d:=some 60) (r:=(sq 5 6)) (s:=semV (Op.stringOp .add (⟨#[]⟩:ByteArray) ((hexB [97#8])++(⟨#[10]⟩:ByteArray)))) (v:=.string ((⟨#[]⟩:ByteArray)++((hexB [97#8])++(⟨#[10]⟩:ByteArray)))) (by as_aux_lemma=>kernel_rfl) (fun w' _=>semV_run (run_string_add_sum w' _ _ (of_decide_eq_true (by kernel_rfl)))) ?_
 refine qF 1 [(11,.I 0),(12,.string ((⟨#[]⟩:ByteArray)++((hexB [97#8])++(⟨#[10]⟩:ByteArray)))),(50,.slice a31 1 c32),(51,.I 1),(52,.I 0)] ?_
 refine qR 2 [.l [8,0,1,0,0],.b 0,.c [9]] [(11,.I 0),(12,.string ((⟨#[]⟩:ByteArray)++((hexB [97#8])++(⟨#[10]⟩:ByteArray)))),(50,.slice a31 1 c32),(51,.I 1),(52,.I 1)] ?_
 refine WK.again ?_
 refine qR 6 [.c [9,0],.c [10]] [(11,.I 0),(12,.string ((⟨#[]⟩:ByteArray)++((hexB [97#8])++(⟨#[10]⟩:ByteArray))))] ?_
 have H:=H.pick [2] rfl
 refine qG (sq 0 5) ?_
 refine qP 2 (sq 2 5) [(62,.string ((⟨#[]⟩:ByteArray)++((hexB [97#8])++(⟨#[10]⟩:ByteArray)))),(63,.I 0)] ?_
 refine qK .seq (some 64) (sq 3 5) 42 #[.I 0] (refused_ok (S:=fun _=>True)) ?_
 rintro _ w44 hE45 rfl
 have H:=H.ext hE45
 refine qF 2 [(4,.string ((⟨#[]⟩:ByteArray)++((hexB [97#8])++(⟨#[10]⟩:ByteArray)))),(5,.nilIface)] ?_
 refine qT (.tuple #[.string ((⟨#[]⟩:ByteArray)++((hexB [97#8])++(⟨#[10]⟩:ByteArray))),.nilIface]) Tryz.func15 ?_
 have H:=H.drop (M':=[(cb,.cells #[x0,x1,x2,.pointer none] 38 (0,0))]) (W':=[]) (by repeat(first|exact List.Sublist.refl _|exact List.nil_sublist _|apply List.Sublist.cons_cons|apply List.Sublist.cons)) (by repeat(first|exact List.Sublist.refl _|exact List.nil_sublist _|apply List.Sublist.cons_cons|apply List.Sublist.cons))
 exact⟨_,rfl,rfl,H.pick [] rfl⟩
theorem error151{S:Nat→Prop}{w:World}(hq:(Fz cQ).p S w):
 Calls Tryz.prog 12 #[.I 151] w (Ret fun v w'=>Ext w w'∧v=.string (⟨#[101,114,114,111,114,32,49,53,49,10]⟩:ByteArray)):=by
 refine qS (fn:=Tryz.f12) (n:=7) (σ:=[(0,.I 151)]) Tryz.func12 ?_
 have H:=Hp.startF (w:=w) (S:=S) (G:=[Fz cQ]) (.cons hq .nil)
 refine qR 3 [.c [1,0],.c [2]] [(0,.I 151)] ?_
 refine qG (sq 0 5) ?_
 refine qP 1 (sq 1 5) [(3,.I 151)] ?_
 refine qK .seq (some 4) (sq 2 5) 31 #[.I 151] (itoa_l (n:=151) (by decide) dig151 (Fz.of (H.fact 0 rfl))) ?_
 rintro _ w1 hE2 rfl
 have H:=H.ext hE2
 refine RW.readS (κ:=.seq) (d:=some 5) (r:=(sq 3 5)) (s:=semV (Op.stringOp .add (⟨#[101,114,114,111,114,32]⟩:ByteArray) (⟨#[49,53,49]⟩:ByteArray))) (v:=.string ((⟨#[101,114,114,111,114,32]⟩:ByteArray)++(⟨#[49,53,49]⟩:ByteArray))) (by as_aux_lemma=>kernel_rfl) (fun w' _=>semV_run (run_string_add_sum w' _ _ (of_decide_eq_true (by kernel_rfl)))) ?_
 refine RW.readS (κ:=.seq) (d:=some 6) (r:=(sq 4 5)) (s:=semV (Op.stringOp .add ((⟨#[101,114,114,111,114,32]⟩:ByteArray)++(⟨#[49,53,49]⟩:ByteArray)) (⟨#[10]⟩:ByteArray))) (v:=.string (((⟨#[101,114,114,111,114,32]⟩:ByteArray)++(⟨#[49,53,49]⟩:ByteArray))++(⟨#[10]⟩:ByteArray))) (by as_aux_lemma=>kernel_rfl) (fun w' _=>semV_run (run_string_add_sum w' _ _ (of_decide_eq_true (by kernel_rfl)))) ?_
 refine qF 1 [(2,.string (((⟨#[101,114,114,111,114,32]⟩:ByteArray)++(⟨#[49,53,49]⟩:ByteArray))++(⟨#[10]⟩:ByteArray)))] ?_
 refine qT (.string (((⟨#[101,114,114,111,114,32]⟩:ByteArray)++(⟨#[49,53,49]⟩:ByteArray))++(⟨#[10]⟩:ByteArray))) Tryz.func12 ?_
 exact⟨_,rfl,H.done,rfl⟩
theorem error270{S:Nat→Prop}{w:World}(hq:(Fz cQ).p S w):
 Calls Tryz.prog 12 #[.I 270] w (Ret fun v w'=>Ext w w'∧v=.string (⟨#[101,114,114,111,114,32,50,55,48,10]⟩:ByteArray)):=by
 refine qS (fn:=Tryz.f12) (n:=7) (σ:=[(0,.I 270)]) Tryz.func12 ?_
 have H:=Hp.startF (w:=w) (S:=S) (G:=[Fz cQ]) (.cons hq .nil)
 refine qR 3 [.c [1,0],.c [2]] [(0,.I 270)] ?_
 refine qG (sq 0 5) ?_
 refine qP 1 (sq 1 5) [(3,.I 270)] ?_
 refine qK .seq (some 4) (sq 2 5) 31 #[.I 270] (itoa_l (n:=270) (by decide) dig270 (Fz.of (H.fact 0 rfl))) ?_
 rintro _ w1 hE2 rfl
 have H:=H.ext hE2
 refine RW.readS (κ:=.seq) (d:=some 5) (r:=(sq 3 5)) (s:=semV (Op.stringOp .add (⟨#[101,114,114,111,114,32]⟩:ByteArray) (⟨#[50,55,48]⟩:ByteArray))) (v:=.string ((⟨#[101,114,114,111,114,32]⟩:ByteArray)++(⟨#[50,55,48]⟩:ByteArray))) (by as_aux_lemma=>kernel_rfl) (fun w' _=>semV_run (run_string_add_sum w' _ _ (of_decide_eq_true (by kernel_rfl)))) ?_
 refine RW.readS (κ:=.seq) (d:=some 6) (r:=(sq 4 5)) (s:=semV (Op.stringOp .add ((⟨#[101,114,114,111,114,32]⟩:ByteArray)++(⟨#[50,55,48]⟩:ByteArray)) (⟨#[10]⟩:ByteArray))) (v:=.string (((⟨#[101,114,114,111,114,32]⟩:ByteArray)++(⟨#[50,55,48]⟩:ByteArray))++(⟨#[10]⟩:ByteArray))) (by as_aux_lemma=>kernel_rfl) (fun w' _=>semV_run (run_string_add_sum w' _ _ (of_decide_eq_true (by kernel_rfl)))) ?_
 refine qF 1 [(2,.string (((⟨#[101,114,114,111,114,32]⟩:ByteArray)++(⟨#[50,55,48]⟩:ByteArray))++(⟨#[10]⟩:ByteArray)))] ?_
 refine qT (.string (((⟨#[101,114,114,111,114,32]⟩:ByteArray)++(⟨#[50,55,48]⟩:ByteArray))++(⟨#[10]⟩:ByteArray))) Tryz.func12 ?_
 exact⟨_,rfl,H.done,rfl⟩
end Go.Proofs.YtcafjhnjhhicdaaGreatDoor
