import Derived.Test.YtcafjhnjhhicdaaGreatDoorSK2
namespace Go.Proofs.YtcafjhnjhhicdaaGreatDoor
open Go.BX
theorem pcheck0{S:Nat→Prop}{w:World}  :
 Calls Tryz.prog 77 #[.agg #[.int .u64 1,.slice none 0 0]] w (Ret fun v w'=>Ext w w'∧v=.I 0):=by
 refine qS (fn:=Tryz.f77) (n:=39) (σ:=[(0,.agg #[.int .u64 1,.slice none 0 0])]) Tryz.func77 ?_
 have H:=Hp.startF (w:=w) (S:=S) (G:=[]) .nil
 refine qR 1 [.c [0],.c [1]] [(0,.agg #[.int .u64 1,.slice none 0 0])] ?_
 refine qG (sq 0 2) ?_
 refine qB .seq 1 (sq 1 2) #[.int .u64 1,.slice none 0 0] 35 H ?_
 intro b1 w2 H
 refine qF 1 [(1,.P b1 0)] ?_
 refine qR 2 [.c [1,0,0],.c [1,0,1],.c [2]] [(1,.P b1 0)] ?_
 refine qG (sq 0 4) ?_
 refine qP 1 (sq 1 4) [(1,.P b1 0),(6,.P b1 1)] ?_
 refine qL .seq 7 (sq 2 4) 33 b1 1 1 (.slice none 0 0) (H.cells 0 rfl) ?_
 refine qF 2 [(1,.P b1 0),(9,.bool false)] ?_
 refine qR 6 [.c [3,0,0],.c [3,0,1],.c [4]] [(1,.P b1 0),(3,.I 0)] ?_
 refine qG (sq 0 4) ?_
 refine qP 1 (sq 1 4) [(3,.I 0),(10,.P b1 1)] ?_
 refine qL .seq 11 (sq 2 4) 33 b1 1 1 (.slice none 0 0) (H.cells 0 rfl) ?_
 refine qF 2 [(3,.I 0),(11,.slice none 0 0),(12,.I 0),(13,.I 0)] ?_
 refine qR 1 [.c [3,0,1,0],.b 0,.c [4]] [(3,.I 0),(11,.slice none 0 0),(12,.I 0),(13,.I 0)] ?_
 refine WK.enter (b:=cd Tryz.prog 77 [3,0,1,0,0]) (by as_aux_lemma=>kernel_rfl) ?_
 refine qR 7 [.c [5]] [(2,.I 0)] ?_
 refine qT (.I 0) Tryz.func77 ?_
 exact⟨_,rfl,H.done,rfl⟩
theorem pcheck1{S:Nat→Prop}{w:World}{a:Option Addr}{c:Nat}(hM:(Rp (Shape.slice memS) [.slice a 1 c] ([(⟨1,5⟩:Mem)]:List Mem)).p S w):
 Calls Tryz.prog 77 #[.agg #[.int .u64 2,.slice a 1 c]] w (Ret fun v w'=>Ext w w'∧v=.I 0):=by
 refine qS (fn:=Tryz.f77) (n:=39) (σ:=[(0,.agg #[.int .u64 2,.slice a 1 c])]) Tryz.func77 ?_
 have H:=Hp.startF (w:=w) (S:=S) (G:=[Rp (Shape.slice memS) [.slice a 1 c] ([(⟨1,5⟩:Mem)]:List Mem)]) (.rp hM .nil)
 refine qR 1 [.c [0],.c [1]] [(0,.agg #[.int .u64 2,.slice a 1 c])] ?_
 refine qG (sq 0 2) ?_
 refine qB .seq 1 (sq 1 2) #[.int .u64 2,.slice a 1 c] 35 H ?_
 intro b1 w2 H
 refine qF 1 [(1,.P b1 0)] ?_
 refine qR 2 [.c [1,0,0],.c [1,0,1],.c [2]] [(1,.P b1 0)] ?_
 refine qG (sq 0 4) ?_
 refine qP 1 (sq 1 4) [(1,.P b1 0),(6,.P b1 1)] ?_
 refine qL .seq 7 (sq 2 4) 33 b1 1 1 (.slice a 1 c) (H.cells 0 rfl) ?_
 refine qF 2 [(1,.P b1 0),(9,.bool false)] ?_
 refine qR 6 [.c [3,0,0],.c [3,0,1],.c [4]] [(1,.P b1 0),(3,.I 0)] ?_
 refine qG (sq 0 4) ?_
 refine qP 1 (sq 1 4) [(3,.I 0),(10,.P b1 1)] ?_
 refine qL .seq 11 (sq 2 4) 33 b1 1 1 (.slice a 1 c) (H.cells 0 rfl) ?_
 refine qF 2 [(3,.I 0),(11,.slice a 1 c),(12,.I 1),(13,.I 0)] ?_
 refine qR 1 [.c [3,0,1,0],.b 0,.c [4]] [(3,.I 0),(11,.slice a 1 c),(12,.I 1),(13,.I 0)] ?_
 refine WK.enter (b:=cd Tryz.prog 77 [3,0,1,0,0]) (by as_aux_lemma=>kernel_rfl) ?_
 refine qR 8 [.c [3,0,1,0,0,2,0,0,0],.c [3,0,1,0,0,2,0,0,1],.b 1,.c [3,0,1,0,0,3],.l [3,0,1,0,0],.b 0,.c [4]] [(3,.I 0),(11,.slice a 1 c),(12,.I 1),(13,.I 0)] ?_
 have H:=H.dropM 0
 refine qG (sq 0 4) ?_
 have hx3:0<([(⟨1,5⟩:Mem)]:List Mem).length:=by decide
 refine qX .seq 15 (sq 1 4) 33 92 0 memS (⟨1,5⟩:Mem) H 0 rfl 0 (by omega) (rfl) ?_
 intro b4 o5 es6 hr7 H
 obtain⟨rfl,hf9,hf10⟩:=mem_open hr7
 have H:Hp w S [] [] [] [Fc b4 o5 [.I 1,.I 5],Rp (Shape.slice memS) [.slice a 1 c] ([(⟨1,5⟩:Mem)]:List Mem)] _:=H
 refine qL .seq 16 (sq 2 4) 92 b4 o5 0 (.agg #[.I 1,.I 5]) (H.fc 0 rfl) ?_
 refine qB .seq 5 (sq 3 4) #[.I 0,.I 0] 92 H ?_
 intro b11 w12 H
 refine qW 92 b11 0 (sq 4 4) (.agg #[.I 1,.I 5]) [(b11,.cells #[.I 1,.I 5] 92 (0,0))] H 0 rfl rfl ?_
 intro w13 H
 refine qF 0 [(3,.I 0),(5,.P b11 0),(11,.slice a 1 c),(12,.I 1),(13,.I 0)] ?_
 refine qR 2 [.c [3,0,1,0,0,2,0,0,1,0,0],.c [3,0,1,0,0,2,0,0,1,0,1],.c [3,0,1,0,0,2,0,0,2],.b 1,.c [3,0,1,0,0,3],.l [3,0,1,0,0],.b 0,.c [4]] [(3,.I 0),(5,.P b11 0),(11,.slice a 1 c),(12,.I 1),(13,.I 0)] ?_
 have H:=H.pick [1] rfl
 refine qG (sq 0 19) ?_
 refine qP 1 (sq 1 19) [(3,.I 0),(5,.P b11 0),(11,.slice a 1 c),(12,.I 1),(13,.I 0),(17,.P b11 0)] ?_
 refine qL .seq 18 (sq 2 19) 3 b11 0 0 (.I 1) (H.cells 0 rfl) ?_
 refine qP 4 (sq 6 19) [(5,.P b11 0),(11,.slice a 1 c),(12,.I 1),(13,.I 0),(21,.bool false),(22,.P b11 0)] ?_
 refine qL .seq 23 (sq 7 19) 3 b11 0 0 (.I 1) (H.cells 0 rfl) ?_
 refine qP 4 (sq 11 19) [(5,.P b11 0),(11,.slice a 1 c),(12,.I 1),(13,.I 0),(26,.bool false),(27,.P b11 1)] ?_
 refine qL .seq 28 (sq 12 19) 3 b11 1 1 (.I 5) (H.cells 0 rfl) ?_
 refine qP 4 (sq 16 19) [(5,.P b11 0),(11,.slice a 1 c),(12,.I 1),(13,.I 0),(31,.bool false),(32,.P b11 1)] ?_
 refine qL .seq 33 (sq 17 19) 3 b11 1 1 (.I 5) (H.cells 0 rfl) ?_
 refine qF 2 [(5,.P b11 0),(11,.slice a 1 c),(12,.I 1),(13,.I 0),(35,.bool false)] ?_
 refine qR 2 [.c [3,0,1,0,0,2,0,0,2],.b 1,.c [3,0,1,0,0,3],.l [3,0,1,0,0],.b 0,.c [4]] [(5,.P b11 0),(11,.slice a 1 c),(12,.I 1),(13,.I 0)] ?_
 refine qG (sq 0 3) ?_
 refine qP 1 (sq 1 3) [(11,.slice a 1 c),(12,.I 1),(13,.I 0),(36,.P b11 0)] ?_
 refine qL .seq 37 (sq 2 3) 3 b11 0 0 (.I 1) (H.cells 0 rfl) ?_
 refine qF 1 [(3,.I 1),(11,.slice a 1 c),(12,.I 1),(13,.I 0)] ?_
 refine qR 2 [.l [3,0,1,0,0],.b 0,.c [4]] [(3,.I 1),(11,.slice a 1 c),(12,.I 1),(13,.I 1)] ?_
 refine WK.again ?_
 refine qR 7 [.c [5]] [(2,.I 0)] ?_
 refine qT (.I 0) Tryz.func77 ?_
 exact⟨_,rfl,H.done,rfl⟩
theorem weights1{S:Nat→Prop}{w:World}  :
 Calls Tryz.prog 121 #[.agg #[.I 1,.I 5]] w (Ret fun v w'=>Ext w w'∧v=.bool true):=by
 refine qS (fn:=Tryz.f121) (n:=6) (σ:=[(0,.agg #[.I 1,.I 5])]) Tryz.func121 ?_
 have H:=Hp.startF (w:=w) (S:=S) (G:=[]) .nil
 refine qR 1 [.c [0],.c [1]] [(0,.agg #[.I 1,.I 5])] ?_
 refine qG (sq 0 2) ?_
 refine qB .seq 1 (sq 1 2) #[.I 1,.I 5] 92 H ?_
 intro b1 w2 H
 refine qF 1 [(1,.P b1 0)] ?_
 refine qR 1 [.c [1,0],.c [2]] [(1,.P b1 0)] ?_
 refine qG (sq 0 4) ?_
 refine qP 1 (sq 1 4) [(3,.P b1 1)] ?_
 refine qL .seq 4 (sq 2 4) 3 b1 1 1 (.I 5) (H.cells 0 rfl) ?_
 refine qF 2 [(2,.bool true)] ?_
 refine qT (.bool true) Tryz.func121 ?_
 exact⟨_,rfl,H.done,rfl⟩
theorem count0{S:Nat→Prop}{w:World}{b:Nat}:
 Calls Tryz.prog 78 #[.agg #[.int .u64 1,.slice none 0 0],.func (.func 79) #[] #[.P b 0]] w (Ret fun v w'=>Ext w w'∧v=.I 0):=by
 refine qS (fn:=Tryz.f78) (n:=22) (σ:=[(0,.agg #[.int .u64 1,.slice none 0 0]),(1,.func (.func 79) #[] #[.P b 0])]) Tryz.func78 ?_
 have H:=Hp.startF (w:=w) (S:=S) (G:=[]) .nil
 refine qR 1 [.c [0],.c [1]] [(0,.agg #[.int .u64 1,.slice none 0 0]),(1,.func (.func 79) #[] #[.P b 0])] ?_
 refine qG (sq 0 2) ?_
 refine qB .seq 2 (sq 1 2) #[.int .u64 1,.slice none 0 0] 35 H ?_
 intro b1 w2 H
 refine qF 1 [(1,.func (.func 79) #[] #[.P b 0]),(2,.P b1 0)] ?_
 refine qR 4 [.c [2,0,0],.c [2,0,1],.c [3]] [(1,.func (.func 79) #[] #[.P b 0]),(2,.P b1 0),(5,.I 0)] ?_
 refine qG (sq 0 4) ?_
 refine qP 1 (sq 1 4) [(1,.func (.func 79) #[] #[.P b 0]),(5,.I 0),(8,.P b1 1)] ?_
 refine qL .seq 9 (sq 2 4) 33 b1 1 1 (.slice none 0 0) (H.cells 0 rfl) ?_
 refine qF 2 [(1,.func (.func 79) #[] #[.P b 0]),(5,.I 0),(9,.slice none 0 0),(10,.I 0),(11,.I 0)] ?_
 refine qR 1 [.c [2,0,1,0],.b 0,.c [3]] [(1,.func (.func 79) #[] #[.P b 0]),(5,.I 0),(9,.slice none 0 0),(10,.I 0),(11,.I 0)] ?_
 refine WK.enter (b:=cd Tryz.prog 78 [2,0,1,0,0]) (by as_aux_lemma=>kernel_rfl) ?_
 refine qR 7 [.c [4]] [(4,.I 0)] ?_
 refine qT (.I 0) Tryz.func78 ?_
 exact⟨_,rfl,H.done,rfl⟩
theorem count1{S:Nat→Prop}{w:World}{a:Option Addr}{c:Nat}(hM:(Rp (Shape.slice memS) [.slice a 1 c] ([(⟨1,5⟩:Mem)]:List Mem)).p S w):
 Calls Tryz.prog 78 #[.agg #[.int .u64 2,.slice a 1 c],.func (.func 121) #[] #[]] w (Ret fun v w'=>Ext w w'∧v=.I 1):=by
 refine qS (fn:=Tryz.f78) (n:=22) (σ:=[(0,.agg #[.int .u64 2,.slice a 1 c]),(1,.func (.func 121) #[] #[])]) Tryz.func78 ?_
 have H:=Hp.startF (w:=w) (S:=S) (G:=[Rp (Shape.slice memS) [.slice a 1 c] ([(⟨1,5⟩:Mem)]:List Mem)]) (.rp hM .nil)
 refine qR 1 [.c [0],.c [1]] [(0,.agg #[.int .u64 2,.slice a 1 c]),(1,.func (.func 121) #[] #[])] ?_
 refine qG (sq 0 2) ?_
 refine qB .seq 2 (sq 1 2) #[.int .u64 2,.slice a 1 c] 35 H ?_
 intro b1 w2 H
 refine qF 1 [(1,.func (.func 121) #[] #[]),(2,.P b1 0)] ?_
 refine qR 4 [.c [2,0,0],.c [2,0,1],.c [3]] [(1,.func (.func 121) #[] #[]),(2,.P b1 0),(5,.I 0)] ?_
 refine qG (sq 0 4) ?_
 refine qP 1 (sq 1 4) [(1,.func (.func 121) #[] #[]),(5,.I 0),(8,.P b1 1)] ?_
 refine qL .seq 9 (sq 2 4) 33 b1 1 1 (.slice a 1 c) (H.cells 0 rfl) ?_
 refine qF 2 [(1,.func (.func 121) #[] #[]),(5,.I 0),(9,.slice a 1 c),(10,.I 1),(11,.I 0)] ?_
 refine qR 1 [.c [2,0,1,0],.b 0,.c [3]] [(1,.func (.func 121) #[] #[]),(5,.I 0),(9,.slice a 1 c),(10,.I 1),(11,.I 0)] ?_
 refine WK.enter (b:=cd Tryz.prog 78 [2,0,1,0,0]) (by as_aux_lemma=>kernel_rfl) ?_
 refine qR 8 [.c [2,0,1,0,0,2,0,0,0],.c [2,0,1,0,0,2,0,0,1],.b 1,.c [2,0,1,0,0,3],.l [2,0,1,0,0],.b 0,.c [3]] [(1,.func (.func 121) #[] #[]),(5,.I 0),(9,.slice a 1 c),(10,.I 1),(11,.I 0)] ?_
 have H:=H.dropM 0
 refine qG (sq 0 4) ?_
 have hx3:0<([(⟨1,5⟩:Mem)]:List Mem).length:=by decide
 refine qX .seq 13 (sq 1 4) 33 92 0 memS (⟨1,5⟩:Mem) H 0 rfl 0 (by omega) (rfl) ?_
 intro b4 o5 es6 hr7 H
 obtain⟨rfl,hf9,hf10⟩:=mem_open hr7
 have H:Hp w S [] [] [] [Fc b4 o5 [.I 1,.I 5],Rp (Shape.slice memS) [.slice a 1 c] ([(⟨1,5⟩:Mem)]:List Mem)] _:=H
 refine qL .seq 14 (sq 2 4) 92 b4 o5 0 (.agg #[.I 1,.I 5]) (H.fc 0 rfl) ?_
 refine qB .seq 7 (sq 3 4) #[.I 0,.I 0] 92 H ?_
 intro b11 w12 H
 refine qW 92 b11 0 (sq 4 4) (.agg #[.I 1,.I 5]) [(b11,.cells #[.I 1,.I 5] 92 (0,0))] H 0 rfl rfl ?_
 intro w13 H
 refine qF 0 [(1,.func (.func 121) #[] #[]),(5,.I 0),(7,.P b11 0),(9,.slice a 1 c),(10,.I 1),(11,.I 0)] ?_
 refine qR 1 [.c [2,0,1,0,0,2,0,0,1,0],.c [2,0,1,0,0,2,0,0,2],.b 1,.c [2,0,1,0,0,3],.l [2,0,1,0,0],.b 0,.c [3]] [(1,.func (.func 121) #[] #[]),(5,.I 0),(7,.P b11 0),(9,.slice a 1 c),(10,.I 1),(11,.I 0)] ?_
 have H:=H.pick [1] rfl
 refine qG (sq 0 3) ?_
 refine qP 1 (sq 1 3) [(1,.func (.func 121) #[] #[]),(5,.I 0),(7,.P b11 0),(9,.slice a 1 c),(10,.I 1),(11,.I 0),(15,.func (.func 121) #[] #[])] ?_
 refine qL .seq 16 (sq 2 3) 92 b11 0 0 (.agg #[.I 1,.I 5]) (H.cells 0 rfl) ?_
 refine qK .seq (some 17) (sq 3 3) 121 #[.agg #[.I 1,.I 5]] (weights1 (S:=fun _=>True)) ?_
 rintro _ w14 hE15 rfl
 have H:=H.ext hE15
 refine qF 0 [(1,.func (.func 121) #[] #[]),(5,.I 0),(9,.slice a 1 c),(10,.I 1),(11,.I 0),(17,.bool true)] ?_
 refine qR 4 [.l [2,0,1,0,0],.b 0,.c [3]] [(1,.func (.func 121) #[] #[]),(5,.I 1),(9,.slice a 1 c),(10,.I 1),(11,.I 1)] ?_
 refine WK.again ?_
 refine qR 7 [.c [4]] [(4,.I 1)] ?_
 refine qT (.I 1) Tryz.func78 ?_
 exact⟨_,rfl,H.done,rfl⟩
theorem weights_spec{S:Nat→Prop}{w:World}{a:Option Addr}{c:Nat}(hM:(Rp (Shape.slice memS) [.slice a 1 c] ([(⟨1,5⟩:Mem)]:List Mem)).p S w):
 Calls Tryz.prog 83 #[.agg #[.int .u64 2,.slice a 1 c]] w (Ret fun v w'=>Ext w w'∧v=.I 1):=by
 refine qS (fn:=Tryz.f83) (n:=5) (σ:=[(0,.agg #[.int .u64 2,.slice a 1 c])]) Tryz.func83 ?_
 have H:=Hp.startF (w:=w) (S:=S) (G:=[Rp (Shape.slice memS) [.slice a 1 c] ([(⟨1,5⟩:Mem)]:List Mem)]) (.rp hM .nil)
 refine qR 1 [.c [0],.c [1]] [(0,.agg #[.int .u64 2,.slice a 1 c])] ?_
 refine qG (sq 0 2) ?_
 refine qB .seq 1 (sq 1 2) #[.int .u64 2,.slice a 1 c] 35 H ?_
 intro b1 w2 H
 refine qF 1 [(1,.P b1 0)] ?_
 refine qR 1 [.c [1,0],.c [2]] [(1,.P b1 0)] ?_
 refine qG (sq 0 3) ?_
 refine qL .seq 3 (sq 1 3) 35 b1 0 0 (.agg #[.int .u64 2,.slice a 1 c]) (H.cells 0 rfl) ?_
 refine qK .seq (some 4) (sq 2 3) 78 #[.agg #[.int .u64 2,.slice a 1 c],.func (.func 121) #[] #[]] (count1 (H.rp 0 rfl)) ?_
 rintro _ w3 hE4 rfl
 have H:=H.ext hE4
 refine qF 1 [(2,.I 1)] ?_
 refine qT (.I 1) Tryz.func83 ?_
 exact⟨_,rfl,H.done,rfl⟩
theorem mclone0{S:Nat→Prop}{w:World}  :
 Calls Tryz.prog 80 #[.slice none 0 0] w (Ret fun v w'=>Ext w w'∧v=.slice none 0 0):=by
 refine qS (fn:=Tryz.f80) (n:=8) (σ:=[(0,.slice none 0 0)]) Tryz.func80 ?_
 have H:=Hp.startF (w:=w) (S:=S) (G:=[]) .nil
 refine qR 8 [.c [1,0,1,0,1],.c [2]] [(2,.slice none 0 0)] ?_
 refine qT (.slice none 0 0) Tryz.func80 ?_
 exact⟨_,rfl,H.done,rfl⟩
theorem minsert0{S:Nat→Prop}{w:World}{a:Option Addr}{c:Nat}(hM:(Rp (Shape.slice memS) [.slice a 1 c] ([(⟨1,5⟩:Mem)]:List Mem)).p S w):
 Calls Tryz.prog 81 #[.slice none 0 0,.I 0,.slice a 1 c] w (Ret fun v w'=>Ext w w'∧∃(a':Option Addr)(c':Nat),v=.slice a' 1 c'∧(Shape.slice memS).rep (Nw S w) w' [.slice a' 1 c'] ([(⟨1,5⟩:Mem)]:List Mem)):=by
 refine qS (fn:=Tryz.f81) (n:=95) (σ:=[(0,.slice none 0 0),(1,.I 0),(2,.slice a 1 c)]) Tryz.func81 ?_
 have H:=Hp.startF (w:=w) (S:=S) (G:=[Rp (Shape.slice memS) [.slice a 1 c] ([(⟨1,5⟩:Mem)]:List Mem)]) (.rp hM .nil)
 refine qR 3 [.c [1,0],.c [2]] [(0,.slice none 0 0),(1,.I 0),(2,.slice a 1 c)] ?_
 refine qG (sq 0 3) ?_
 refine qP 2 (sq 2 3) [(0,.slice none 0 0),(1,.I 0),(2,.slice a 1 c),(10,.slice none 0 0),(11,.I 0)] ?_
 refine RW.readS (κ:=.seq) (d:=some 12) (r:=(sq 3 3)) (s:=semV (Instr.sliceAt 33 (.slice none 0 0) (some (.I 0)) none none)) (v:=.slice none 0 0) (by as_aux_lemma=>kernel_rfl) (fun w' _=>semV_run (sliceAt_run (e:=92) (m:=2) (by as_aux_lemma=>kernel_rfl) (lo:=0) (hi:=0) (.mk (by omega)) .nil (by omega) (by omega))) ?_
 refine qF 0 [(0,.slice none 0 0),(1,.I 0),(2,.slice a 1 c)] ?_
 refine qR 14 [.c [5,0,1,0,0],.c [5,0,1,0,1],.c [6]] [(0,.slice none 0 0),(2,.slice a 1 c)] ?_
 refine qG (sq 0 4) ?_
 refine qP 2 (sq 2 4) [(23,.slice none 0 0),(24,.slice a 1 c)] ?_
 have H:=H.ownNil memS 92
 have H:Hp w S [] [] [⟨memS,92,.slice none 0 0,[]⟩] [Rp (Shape.slice memS) [.slice a 1 c] ([(⟨1,5⟩:Mem)]:List Mem)] _:=H
 refine RW.appendW (d:=some 25) (r:=(sq 3 4)) (T:=33) (ty:=33) (e:=92) (m:=2) (by_:=16) (v:=.slice none 0 0) (a2:=a) (l2:=1) (c2:=c) (zs:=([(⟨1,5⟩:Mem)]:List Mem)) (by as_aux_lemma=>kernel_rfl) (by as_aux_lemma=>kernel_rfl) rfl H 0 rfl 0 rfl (rfl) (by simp<;>omega) ?_
 intro a1 c2 w4 H hc3
 have H:Hp w S [] [] [⟨memS,92,.slice a1 1 c2,([(⟨1,5⟩:Mem)]:List Mem)⟩] [Rp (Shape.slice memS) [.slice a 1 c] ([(⟨1,5⟩:Mem)]:List Mem)] _:=H
 refine qF 1 [(6,.slice a1 1 c2)] ?_
 refine qT (.slice a1 1 c2) Tryz.func81 ?_
 have H:Hp w S [] [] [] [Rp (Shape.slice memS) [.slice a1 1 c2] ([(⟨1,5⟩:Mem)]:List Mem),Rp (Shape.slice memS) [.slice a 1 c] ([(⟨1,5⟩:Mem)]:List Mem)] _:=H.freezeW 0 rfl
 exact⟨_,rfl,H.done,_,_,rfl,H.out (H.rp 0 rfl)⟩
theorem with0{S:Nat→Prop}{w:World}  :
 Calls Tryz.prog 46 #[.agg #[.int .u64 1,.slice none 0 0],.I 1,.I 5] w (Ret fun v w'=>Ext w w'∧∃(a':Option Addr)(c':Nat),v=.tuple #[.agg #[.int .u64 2,.slice a' 1 c'],.I 0]∧(Shape.slice memS).rep (Nw S w) w' [.slice a' 1 c'] ([(⟨1,5⟩:Mem)]:List Mem)):=by
 refine qS (fn:=Tryz.f46) (n:=67) (σ:=[(0,.agg #[.int .u64 1,.slice none 0 0]),(1,.I 1),(2,.I 5)]) Tryz.func46 ?_
 have H:=Hp.startF (w:=w) (S:=S) (G:=[]) .nil
 refine qR 1 [.c [0],.c [1]] [(0,.agg #[.int .u64 1,.slice none 0 0]),(1,.I 1),(2,.I 5)] ?_
 refine qG (sq 0 4) ?_
 refine qB .seq 3 (sq 1 4) #[.int .u64 1,.slice none 0 0] 35 H ?_
 intro b1 w2 H
 refine qB .seq 4 (sq 2 4) #[.I 1] 3 H ?_
 intro b3 w4 H
 refine qB .seq 6 (sq 3 4) #[.int .u64 0,.slice none 0 0] 35 H ?_
 intro b5 w6 H
 refine qF 1 [(2,.I 5),(3,.P b1 0),(4,.P b3 0),(6,.P b5 0)] ?_
 refine qR 3 [.c [1,0,0,0],.c [1,0,0,1],.b 0,.c [2]] [(2,.I 5),(3,.P b1 0),(4,.P b3 0),(6,.P b5 0)] ?_
 refine qG (sq 0 4) ?_
 refine qL .seq 11 (sq 1 4) 35 b1 0 0 (.agg #[.int .u64 1,.slice none 0 0]) (H.cells 2 rfl) ?_
 refine qK .seq (some 12) (sq 2 4) 77 #[.agg #[.int .u64 1,.slice none 0 0]] (pcheck0 (S:=fun _=>True)) ?_
 rintro _ w7 hE8 rfl
 have H:=H.ext hE8
 refine qF 2 [(2,.I 5),(3,.P b1 0),(4,.P b3 0),(6,.P b5 0),(10,.bool false)] ?_
 refine qR 2 [.c [1,0,0,1,1,0],.c [1,0,0,1,1,1],.b 0,.c [2]] [(2,.I 5),(3,.P b1 0),(4,.P b3 0),(6,.P b5 0)] ?_
 refine qG (sq 0 15) ?_
 refine qL .seq 16 (sq 1 15) 3 b3 0 0 (.I 1) (H.cells 1 rfl) ?_
 refine qP 2 (sq 3 15) [(2,.I 5),(3,.P b1 0),(4,.P b3 0),(6,.P b5 0),(18,.bool false)] ?_
 refine qL .seq 19 (sq 4 15) 3 b3 0 0 (.I 1) (H.cells 1 rfl) ?_
 refine qF 11 [(2,.I 5),(3,.P b1 0),(4,.P b3 0),(6,.P b5 0),(15,.bool false)] ?_
 refine qR 4 [.c [2,0],.c [3]] [(2,.I 5),(3,.P b1 0),(4,.P b3 0),(6,.P b5 0)] ?_
 refine qG (sq 0 4) ?_
 refine qL .seq 31 (sq 1 4) 35 b1 0 0 (.agg #[.int .u64 1,.slice none 0 0]) (H.cells 2 rfl) ?_
 refine qP 1 (sq 2 4) [(2,.I 5),(3,.P b1 0),(4,.P b3 0),(6,.P b5 0),(31,.agg #[.int .u64 1,.slice none 0 0]),(32,.func (.func 79) #[] #[.P b3 0])] ?_
 refine qK .seq (some 33) (sq 3 4) 78 #[.agg #[.int .u64 1,.slice none 0 0],.func (.func 79) #[] #[.P b3 0]] (count0 (S:=fun _=>True)) ?_
 rintro _ w9 hE10 rfl
 have H:=H.ext hE10
 refine qF 1 [(2,.I 5),(3,.P b1 0),(4,.P b3 0),(6,.P b5 0),(8,.I 0)] ?_
 refine qR 1 [.c [3,0],.c [4]] [(2,.I 5),(3,.P b1 0),(4,.P b3 0),(6,.P b5 0),(8,.I 0)] ?_
 refine qG (sq 0 4) ?_
 refine qP 1 (sq 1 4) [(2,.I 5),(3,.P b1 0),(4,.P b3 0),(6,.P b5 0),(8,.I 0),(34,.P b1 1)] ?_
 refine qL .seq 35 (sq 2 4) 33 b1 1 1 (.slice none 0 0) (H.cells 2 rfl) ?_
 refine qK .seq (some 36) (sq 3 4) 80 #[.slice none 0 0] (mclone0 (S:=fun _=>True)) ?_
 rintro _ w11 hE12 rfl
 have H:=H.ext hE12
 refine qF 1 [(2,.I 5),(3,.P b1 0),(4,.P b3 0),(6,.P b5 0),(8,.I 0),(9,.slice none 0 0)] ?_
 refine qR 2 [.c [4,0,0],.c [4,0,1],.c [5]] [(2,.I 5),(3,.P b1 0),(4,.P b3 0),(6,.P b5 0),(8,.I 0),(9,.slice none 0 0)] ?_
 refine WK.draw1 13 (qs [0,1,2,3,4,5,6,7,8,9,10,11,12]) (qs [0,1,2,3,4,5,6,7,8,9,10,11,12]) Tryz_mixed (by as_aux_lemma=>kernel_rfl) (by as_aux_lemma=>kernel_rfl) (by as_aux_lemma=>kernel_rfl) ?_
 have H:=H.draw
 generalize({w11 with drawn:=w11.drawn+1}:World)=w13 at H⊢
 refine qF 13 [(2,.I 5),(3,.P b1 0),(4,.P b3 0),(6,.P b5 0),(8,.I 0),(9,.slice none 0 0),(49,.bool false)] ?_
 refine qR 1 [.c [4,0,1,1],.c [5]] [(2,.I 5),(3,.P b1 0),(4,.P b3 0),(6,.P b5 0),(8,.I 0),(9,.slice none 0 0)] ?_
 refine qG (sq 0 8) ?_
 refine qP 2 (sq 2 8) [(2,.I 5),(3,.P b1 0),(4,.P b3 0),(6,.P b5 0),(9,.slice none 0 0),(55,.slice none 0 0),(56,.I 0)] ?_
 refine qL .seq 57 (sq 3 8) 3 b3 0 0 (.I 1) (H.cells 1 rfl) ?_
 refine qP 2 (sq 5 8) [(3,.P b1 0),(6,.P b5 0),(9,.slice none 0 0),(55,.slice none 0 0),(56,.I 0),(59,.agg #[.I 1,.I 5])] ?_
 refine RW.new (κ:=.seq) (d:=some 60) (r:=(sq 6 8)) (o:=.cells #[.I 1,.I 5] 92 (0,0)) (v:=fun b=>.slice (some ⟨b,0,none⟩) 1 1) (fun b=>by as_aux_lemma=>kernel_rfl) (nofun) H ?_
 intro b14 w15 H
 have H:=H.freeze 0 rfl memS ([⟨1,5⟩]:List Mem) 1 (by simp[maxLen]) (by first|exact Nat.le_refl _|simp) (EsP.cons (c:=[.I 1,.I 5]) (mem_mk (Shape.int_mk (by decide)) (Shape.int_mk (by decide))) EsP.nil)
 have H:Hp w S [] [(b5,.cells #[.int .u64 0,.slice none 0 0] 35 (0,0)),(b3,.cells #[.I 1] 3 (0,0)),(b1,.cells #[.int .u64 1,.slice none 0 0] 35 (0,0))] [] [Rp (Shape.slice memS) [.slice (some ⟨b14,0,none⟩) 1 1] ([⟨1,5⟩]:List Mem)] _:=H
 refine qK .seq (some 61) (sq 7 8) 81 #[.slice none 0 0,.I 0,.slice (some ⟨b14,0,none⟩) 1 1] (minsert0 (S:=Av S w [] (idsOf [(b5,.cells #[.int .u64 0,.slice none 0 0] 35 (0,0)),(b3,.cells #[.I 1] 3 (0,0)),(b1,.cells #[.int .u64 1,.slice none 0 0] 35 (0,0))] [])) (H.rp 0 rfl)) ?_
 rintro _ w16 hE19⟨a17,c18,rfl,hr20⟩
 have H:=H.addN hE19 (F:=Rp (Shape.slice memS) [.slice a17 1 c18] ([(⟨1,5⟩:Mem)]:List Mem)) hr20
 refine qF 1 [(3,.P b1 0),(6,.P b5 0),(9,.slice a17 1 c18)] ?_
 refine qR 1 [.c [5,0],.c [6]] [(3,.P b1 0),(6,.P b5 0),(9,.slice a17 1 c18)] ?_
 refine qG (sq 0 7) ?_
 refine qP 1 (sq 1 7) [(6,.P b5 0),(9,.slice a17 1 c18),(62,.P b1 0)] ?_
 refine qL .seq 63 (sq 2 7) 32 b1 0 0 (.int .u64 1) (H.cells 2 rfl) ?_
 refine qP 3 (sq 5 7) [(6,.P b5 0),(66,.agg #[.int .u64 2,.slice a17 1 c18])] ?_
 refine qW 35 b5 0 (sq 6 7) (.agg #[.int .u64 2,.slice a17 1 c18]) [(b5,.cells #[.int .u64 2,.slice a17 1 c18] 35 (0,0)),(b3,.cells #[.I 1] 3 (0,0)),(b1,.cells #[.int .u64 1,.slice none 0 0] 35 (0,0))] H 0 rfl rfl ?_
 intro w21 H
 refine qF 1 [(6,.P b5 0),(7,.I 0)] ?_
 refine qRB (.tuple #[.agg #[.int .u64 2,.slice a17 1 c18],.I 0]) Tryz.func46 (v2 (.cell 6 35) (.tmp 7) (vC (H.cells 0 rfl)) vT) ?_
 exact⟨_,rfl,H.done,_,_,rfl,H.out (H.rp 0 rfl)⟩
theorem mix0{S:Nat→Prop}{w:World}  :
 Calls Tryz.prog 123 #[.int .u64 11400714819323198485] w (Ret fun v w'=>Ext w w'∧v=.int .u64 16294208416658607535):=by
 refine qS (fn:=Tryz.f123) (n:=17) (σ:=[(0,.int .u64 11400714819323198485)]) Tryz.func123 ?_
 have H:=Hp.startF (w:=w) (S:=S) (G:=[]) .nil
 refine qR 8 [.c [4]] [(2,.int .u64 16294208416658607535)] ?_
 refine qT (.int .u64 16294208416658607535) Tryz.func123 ?_
 exact⟨_,rfl,H.done,rfl⟩
theorem mix1{S:Nat→Prop}{w:World}  :
 Calls Tryz.prog 123 #[.int .u64 16294208416658607535] w (Ret fun v w'=>Ext w w'∧v=.int .u64 5197578548964807871):=by
 refine qS (fn:=Tryz.f123) (n:=17) (σ:=[(0,.int .u64 16294208416658607535)]) Tryz.func123 ?_
 have H:=Hp.startF (w:=w) (S:=S) (G:=[]) .nil
 refine qR 8 [.c [4]] [(2,.int .u64 5197578548964807871)] ?_
 refine qT (.int .u64 5197578548964807871) Tryz.func123 ?_
 exact⟨_,rfl,H.done,rfl⟩
theorem mix2{S:Nat→Prop}{w:World}  :
 Calls Tryz.prog 123 #[.int .u64 5197578548964807870] w (Ret fun v w'=>Ext w w'∧v=.int .u64 3092335531369821329):=by
 refine qS (fn:=Tryz.f123) (n:=17) (σ:=[(0,.int .u64 5197578548964807870)]) Tryz.func123 ?_
 have H:=Hp.startF (w:=w) (S:=S) (G:=[]) .nil
 refine qR 8 [.c [4]] [(2,.int .u64 3092335531369821329)] ?_
 refine qT (.int .u64 3092335531369821329) Tryz.func123 ?_
 exact⟨_,rfl,H.done,rfl⟩
theorem hash1{S:Nat→Prop}{w:World}  :
 Calls Tryz.prog 85 #[.int .u64 0,.int .u64 0,.int .u64 1] w (Ret fun v w'=>Ext w w'∧v=.int .u64 3092335531369821329):=by
 refine qS (fn:=Tryz.f85) (n:=19) (σ:=[(0,.int .u64 0),(1,.int .u64 0),(2,.int .u64 1)]) Tryz.func85 ?_
 have H:=Hp.startF (w:=w) (S:=S) (G:=[]) .nil
 refine qR 3 [.c [1,0],.c [2]] [(0,.int .u64 0),(1,.int .u64 0),(2,.int .u64 1)] ?_
 refine qG (sq 0 4) ?_
 refine qP 2 (sq 2 4) [(1,.int .u64 0),(2,.int .u64 1),(9,.int .u64 11400714819323198485)] ?_
 refine qK .seq (some 10) (sq 3 4) 123 #[.int .u64 11400714819323198485] (mix0 (S:=fun _=>True)) ?_
 rintro _ w1 hE2 rfl
 have H:=H.ext hE2
 refine qF 1 [(1,.int .u64 0),(2,.int .u64 1),(7,.int .u64 16294208416658607535)] ?_
 refine qR 1 [.c [2,0],.c [3]] [(1,.int .u64 0),(2,.int .u64 1),(7,.int .u64 16294208416658607535)] ?_
 refine qG (sq 0 5) ?_
 refine qP 3 (sq 3 5) [(2,.int .u64 1),(7,.int .u64 16294208416658607535),(13,.int .u64 16294208416658607535)] ?_
 refine qK .seq (some 14) (sq 4 5) 123 #[.int .u64 16294208416658607535] (mix1 (S:=fun _=>True)) ?_
 rintro _ w3 hE4 rfl
 have H:=H.ext hE4
 refine qF 1 [(2,.int .u64 1),(7,.int .u64 5197578548964807871)] ?_
 refine qR 1 [.c [3,0],.c [4]] [(2,.int .u64 1),(7,.int .u64 5197578548964807871)] ?_
 refine qG (sq 0 5) ?_
 refine qP 3 (sq 3 5) [(17,.int .u64 5197578548964807870)] ?_
 refine qK .seq (some 18) (sq 4 5) 123 #[.int .u64 5197578548964807870] (mix2 (S:=fun _=>True)) ?_
 rintro _ w5 hE6 rfl
 have H:=H.ext hE6
 refine qF 1 [(6,.int .u64 3092335531369821329)] ?_
 refine qT (.int .u64 3092335531369821329) Tryz.func85 ?_
 exact⟨_,rfl,H.done,rfl⟩
theorem len64_u{S:Nat→Prop}{w:World}  :
 Calls Tryz.prog 177 #[.int .u64 62610] w (Ret fun v w'=>Ext w w'∧v=.I 16):=by
 refine qS (fn:=Tryz.f177) (n:=25) (σ:=[(0,.int .u64 62610)]) Tryz.func177 ?_
 have H:=Hp.startF (w:=w) (S:=S) (G:=[]) .nil
 refine qR 21 [.c [5]] [(2,.I 16)] ?_
 refine qT (.I 16) Tryz.func177 ?_
 exact⟨_,rfl,H.done,rfl⟩
theorem len_u{S:Nat→Prop}{w:World}  :
 Calls Tryz.prog 181 #[.int .u64 62610] w (Ret fun v w'=>Ext w w'∧v=.I 16):=by
 refine qS (fn:=Tryz.f181) (n:=8) (σ:=[(0,.int .u64 62610)]) Tryz.func181 ?_
 have H:=Hp.startF (w:=w) (S:=S) (G:=[]) .nil
 refine qR 6 [.c [2,0],.c [3]] [(0,.int .u64 62610)] ?_
 refine qG (sq 0 3) ?_
 refine qP 1 (sq 1 3) [(6,.int .u64 62610)] ?_
 refine qK .seq (some 7) (sq 2 3) 177 #[.int .u64 62610] (len64_u (S:=fun _=>True)) ?_
 rintro _ w1 hE2 rfl
 have H:=H.ext hE2
 refine qF 1 [(2,.I 16)] ?_
 refine qT (.I 16) Tryz.func181 ?_
 exact⟨_,rfl,H.done,rfl⟩
theorem ln_u{S:Nat→Prop}{w:World}  :
 Calls Tryz.prog 122 #[.I 62610] w (Ret fun v w'=>Ext w w'∧v=.I 267329929):=by
 refine qS (fn:=Tryz.f122) (n:=41) (σ:=[(0,.I 62610)]) Tryz.func122 ?_
 have H:=Hp.startF (w:=w) (S:=S) (G:=[]) .nil
 refine qR 8 [.c [2,0],.c [3]] [(0,.I 62610)] ?_
 refine qG (sq 0 5) ?_
 refine qP 2 (sq 2 5) [(0,.I 62610),(14,.int .u64 62610)] ?_
 refine qK .seq (some 15) (sq 3 5) 181 #[.int .u64 62610] (len_u (S:=fun _=>True)) ?_
 rintro _ w1 hE2 rfl
 have H:=H.ext hE2
 refine qF 2 [(0,.I 62610),(3,.I 15)] ?_
 refine qR 8 [.c [5,0,1,0],.b 0,.c [6]] [(4,.int .u64 4103208960),(5,.I 15),(23,.I 0)] ?_
 refine WK.enter (b:=cd Tryz.prog 122 [5,0,1,0,0]) (by as_aux_lemma=>kernel_rfl) ?_
 refine qR 16 [.l [5,0,1,0,0],.b 0,.c [6]] [(4,.int .u64 3920012100),(5,.I 31),(23,.I 1)] ?_
 refine WK.again ?_
 refine qR 16 [.l [5,0,1,0,0],.b 0,.c [6]] [(4,.int .u64 3577790889),(5,.I 63),(23,.I 2)] ?_
 refine WK.again ?_
 refine qR 16 [.l [5,0,1,0,0],.b 0,.c [6]] [(4,.int .u64 2980369060),(5,.I 127),(23,.I 3)] ?_
 refine WK.again ?_
 refine qR 16 [.l [5,0,1,0,0],.b 0,.c [6]] [(4,.int .u64 4136282826),(5,.I 254),(23,.I 4)] ?_
 refine WK.again ?_
 refine qR 16 [.l [5,0,1,0,0],.b 0,.c [6]] [(4,.int .u64 3983461208),(5,.I 509),(23,.I 5)] ?_
 refine WK.again ?_
 refine qR 16 [.l [5,0,1,0,0],.b 0,.c [6]] [(4,.int .u64 3694548084),(5,.I 1019),(23,.I 6)] ?_
 refine WK.again ?_
 refine qR 16 [.l [5,0,1,0,0],.b 0,.c [6]] [(4,.int .u64 3178065071),(5,.I 2039),(23,.I 7)] ?_
 refine WK.again ?_
 refine qR 16 [.l [5,0,1,0,0],.b 0,.c [6]] [(4,.int .u64 2351612224),(5,.I 4079),(23,.I 8)] ?_
 refine WK.again ?_
 refine qR 16 [.l [5,0,1,0,0],.b 0,.c [6]] [(4,.int .u64 2575144195),(5,.I 8158),(23,.I 9)] ?_
 refine WK.again ?_
 refine qR 16 [.l [5,0,1,0,0],.b 0,.c [6]] [(4,.int .u64 3087971184),(5,.I 16316),(23,.I 10)] ?_
 refine WK.again ?_
 refine qR 16 [.l [5,0,1,0,0],.b 0,.c [6]] [(4,.int .u64 2220171977),(5,.I 32633),(23,.I 11)] ?_
 refine WK.again ?_
 refine qR 16 [.l [5,0,1,0,0],.b 0,.c [6]] [(4,.int .u64 2295320670),(5,.I 65266),(23,.I 12)] ?_
 refine WK.again ?_
 refine qR 16 [.l [5,0,1,0,0],.b 0,.c [6]] [(4,.int .u64 2453335085),(5,.I 130532),(23,.I 13)] ?_
 refine WK.again ?_
 refine qR 16 [.l [5,0,1,0,0],.b 0,.c [6]] [(4,.int .u64 2802746854),(5,.I 261064),(23,.I 14)] ?_
 refine WK.again ?_
 refine qR 16 [.l [5,0,1,0,0],.b 0,.c [6]] [(4,.int .u64 3657950985),(5,.I 522128),(23,.I 15)] ?_
 refine WK.again ?_
 refine qR 16 [.l [5,0,1,0,0],.b 0,.c [6]] [(4,.int .u64 3115414969),(5,.I 1044257),(23,.I 16)] ?_
 refine WK.again ?_
 refine qR 16 [.l [5,0,1,0,0],.b 0,.c [6]] [(4,.int .u64 2259810089),(5,.I 2088515),(23,.I 17)] ?_
 refine WK.again ?_
 refine qR 16 [.l [5,0,1,0,0],.b 0,.c [6]] [(4,.int .u64 2378011885),(5,.I 4177030),(23,.I 18)] ?_
 refine WK.again ?_
 refine qR 16 [.l [5,0,1,0,0],.b 0,.c [6]] [(4,.int .u64 2633286884),(5,.I 8354060),(23,.I 19)] ?_
 refine WK.again ?_
 refine qR 16 [.l [5,0,1,0,0],.b 0,.c [6]] [(4,.int .u64 3228988411),(5,.I 16708120),(23,.I 20)] ?_
 refine WK.again ?_
 refine qR 16 [.l [5,0,1,0,0],.b 0,.c [6]] [(4,.int .u64 2427577543),(5,.I 33416241),(23,.I 21)] ?_
 refine WK.again ?_
 refine qR 16 [.l [5,0,1,0,0],.b 0,.c [6]] [(4,.int .u64 2744203772),(5,.I 66832482),(23,.I 22)] ?_
 refine WK.again ?_
 refine qR 16 [.l [5,0,1,0,0],.b 0,.c [6]] [(4,.int .u64 3506734195),(5,.I 133664964),(23,.I 23)] ?_
 refine WK.again ?_
 refine qR 16 [.l [5,0,1,0,0],.b 0,.c [6]] [(4,.int .u64 2863161432),(5,.I 267329929),(23,.I 24)] ?_
 refine WK.again ?_
 refine qR 7 [.c [7]] [(2,.I 267329929)] ?_
 refine qT (.I 267329929) Tryz.func122 ?_
 exact⟨_,rfl,H.done,rfl⟩
theorem cost_u{S:Nat→Prop}{w:World}  :
 Calls Tryz.prog 84 #[.int .u64 3092335531369821329,.I 5] w (Ret fun v w'=>Ext w w'∧v=.I 14490363494):=by
 refine qS (fn:=Tryz.f84) (n:=17) (σ:=[(0,.int .u64 3092335531369821329),(1,.I 5)]) Tryz.func84 ?_
 have H:=Hp.startF (w:=w) (S:=S) (G:=[]) .nil
 refine qR 8 [.c [2,0],.c [3]] [(0,.int .u64 3092335531369821329),(1,.I 5)] ?_
 refine qG (sq 0 11) ?_
 refine qP 4 (sq 4 11) [(1,.I 5),(10,.I 62610)] ?_
 refine qK .seq (some 11) (sq 5 11) 122 #[.I 62610] (ln_u (S:=fun _=>True)) ?_
 rintro _ w1 hE2 rfl
 have H:=H.ext hE2
 refine qP 4 (sq 9 11) [(13,.I 72451817472),(15,.I (if 65535<5 then 65535 else 5))] ?_
 refine RW.readS (κ:=.seq) (d:=some 16) (r:=(sq 10 11)) (s:=semV (Op.intDiv .quo .i64 72451817472 (if 65535<5 then 65535 else 5))) (v:=.I (72451817472/(if 65535<5 then 65535 else 5))) (by as_aux_lemma=>kernel_rfl) (fun w' _=>semV_run (quo_run_i64 (by omega) (by omega))) ?_
 refine qF 1 [(4,.I (72451817472/(if 65535<5 then 65535 else 5)))] ?_
 refine qT (.I (72451817472/(if 65535<5 then 65535 else 5))) Tryz.func84 ?_
 exact⟨_,rfl,H.done,rfl⟩
theorem nodes1{S:Nat→Prop}{w:World}{a:Option Addr}{c:Nat}(hM:(Rp (Shape.slice memS) [.slice a 1 c] ([(⟨1,5⟩:Mem)]:List Mem)).p S w):
 Calls Tryz.prog 48 #[.agg #[.int .u64 2,.slice a 1 c],.I 0,.I 1] w (Ret fun v w'=>Ext w w'∧∃(a':Option Addr)(c':Nat),v=.tuple #[.slice a' 1 c',.I 0]∧(Shape.slice (Shape.int .i64)).rep (Nw S w) w' [.slice a' 1 c'] ([1]:List Int)):=by
 refine qS (fn:=Tryz.f48) (n:=111) (σ:=[(0,.agg #[.int .u64 2,.slice a 1 c]),(1,.I 0),(2,.I 1)]) Tryz.func48 ?_
 have H:=Hp.startF (w:=w) (S:=S) (G:=[Rp (Shape.slice memS) [.slice a 1 c] ([(⟨1,5⟩:Mem)]:List Mem)]) (.rp hM .nil)
 refine qR 1 [.c [0],.c [1]] [(0,.agg #[.int .u64 2,.slice a 1 c]),(1,.I 0),(2,.I 1)] ?_
 refine qG (sq 0 3) ?_
 refine qB .seq 3 (sq 1 3) #[.int .u64 2,.slice a 1 c] 35 H ?_
 intro b1 w2 H
 refine qF 2 [(1,.I 0),(2,.I 1),(3,.P b1 0)] ?_
 refine qR 3 [.c [1,0,0,0],.c [1,0,0,1],.b 0,.c [2]] [(1,.I 0),(2,.I 1),(3,.P b1 0)] ?_
 refine qG (sq 0 4) ?_
 refine qL .seq 21 (sq 1 4) 35 b1 0 0 (.agg #[.int .u64 2,.slice a 1 c]) (H.cells 0 rfl) ?_
 refine qK .seq (some 22) (sq 2 4) 77 #[.agg #[.int .u64 2,.slice a 1 c]] (pcheck1 (H.rp 0 rfl)) ?_
 rintro _ w3 hE4 rfl
 have H:=H.ext hE4
 refine qF 2 [(1,.I 0),(2,.I 1),(3,.P b1 0),(20,.bool false)] ?_
 refine qR 5 [.c [1,0,0,1,1,1,1,0],.c [1,0,0,1,1,1,1,1],.b 0,.c [2]] [(1,.I 0),(2,.I 1),(3,.P b1 0)] ?_
 refine qG (sq 0 5) ?_
 refine qL .seq 40 (sq 1 5) 35 b1 0 0 (.agg #[.int .u64 2,.slice a 1 c]) (H.cells 0 rfl) ?_
 refine qK .seq (some 41) (sq 2 5) 83 #[.agg #[.int .u64 2,.slice a 1 c]] (weights_spec (H.rp 0 rfl)) ?_
 rintro _ w5 hE6 rfl
 have H:=H.ext hE6
 refine qF 3 [(1,.I 0),(2,.I 1),(3,.P b1 0),(39,.bool false)] ?_
 refine qR 4 [.c [2,0],.c [3]] [(1,.I 0),(2,.I 1),(3,.P b1 0)] ?_
 refine qG (sq 0 2) ?_
 refine RW.new (κ:=.seq) (d:=some 44) (r:=(sq 1 2)) (o:=mapO (Value.int .i64) (Value.int .i64) ([]:List (Int×Int×Nat)) 0) (v:=fun b_=>.map (some b_)) (fun _=>by as_aux_lemma=>kernel_rfl) (nofun) H ?_
 intro b7 w8 H
 refine qF 1 [(1,.I 0),(2,.I 1),(3,.P b1 0),(8,.map (some b7))] ?_
 refine qR 2 [.c [3,0,0],.c [3,0,1],.c [4]] [(1,.I 0),(2,.I 1),(3,.P b1 0),(8,.map (some b7))] ?_
 refine qG (sq 0 4) ?_
 refine qP 1 (sq 1 4) [(1,.I 0),(2,.I 1),(3,.P b1 0),(8,.map (some b7)),(45,.P b1 1)] ?_
 refine qL .seq 46 (sq 2 4) 33 b1 1 1 (.slice a 1 c) (H.cells 1 rfl) ?_
 refine qF 2 [(1,.I 0),(2,.I 1),(3,.P b1 0),(8,.map (some b7)),(46,.slice a 1 c),(47,.I 1),(48,.I 0)] ?_
 refine qR 1 [.c [3,0,1,0],.b 1,.c [4]] [(1,.I 0),(2,.I 1),(3,.P b1 0),(8,.map (some b7)),(46,.slice a 1 c),(47,.I 1),(48,.I 0)] ?_
 refine WK.enter (b:=cd Tryz.prog 48 [3,0,1,0,0]) (by as_aux_lemma=>kernel_rfl) ?_
 refine qR 8 [.c [3,0,1,0,0,2,0,0,0],.c [3,0,1,0,0,2,0,0,1],.b 2,.c [3,0,1,0,0,3],.l [3,0,1,0,0],.b 1,.c [4]] [(1,.I 0),(2,.I 1),(3,.P b1 0),(8,.map (some b7)),(46,.slice a 1 c),(47,.I 1),(48,.I 0)] ?_
 refine qG (sq 0 4) ?_
 have hx9:0<([(⟨1,5⟩:Mem)]:List Mem).length:=by decide
 refine qX .seq 50 (sq 1 4) 33 92 0 memS (⟨1,5⟩:Mem) H 0 rfl 0 (by omega) (rfl) ?_
 intro b10 o11 es12 hr13 H
 obtain⟨rfl,hf15,hf16⟩:=mem_open hr13
 have H:Hp w S [] [(b7,mapO (Value.int .i64) (Value.int .i64) ([]:List (Int×Int×Nat)) 0),(b1,.cells #[.int .u64 2,.slice a 1 c] 35 (0,0))] [] [Fc b10 o11 [.I 1,.I 5],Rp (Shape.slice memS) [.slice a 1 c] ([(⟨1,5⟩:Mem)]:List Mem)] _:=H
 refine qL .seq 51 (sq 2 4) 92 b10 o11 0 (.agg #[.I 1,.I 5]) (H.fc 0 rfl) ?_
 refine qB .seq 10 (sq 3 4) #[.I 0,.I 0] 92 H ?_
 intro b17 w18 H
 refine qW 92 b17 0 (sq 4 4) (.agg #[.I 1,.I 5]) [(b17,.cells #[.I 1,.I 5] 92 (0,0)),(b7,mapO (Value.int .i64) (Value.int .i64) ([]:List (Int×Int×Nat)) 0),(b1,.cells #[.int .u64 2,.slice a 1 c] 35 (0,0))] H 0 rfl rfl ?_
 intro w19 H
 refine qF 0 [(1,.I 0),(2,.I 1),(3,.P b1 0),(8,.map (some b7)),(10,.P b17 0),(46,.slice a 1 c),(47,.I 1),(48,.I 0)] ?_
 have H:=H.pick [1] rfl
 refine qG (sq 0 6) ?_
 refine qP 2 (sq 2 6) [(1,.I 0),(2,.I 1),(3,.P b1 0),(8,.map (some b7)),(10,.P b17 0),(46,.slice a 1 c),(47,.I 1),(48,.I 0),(52,.map (some b7)),(53,.P b17 0)] ?_
 refine qL .seq 54 (sq 3 6) 3 b17 0 0 (.I 1) (H.cells 0 rfl) ?_
 refine qP 1 (sq 4 6) [(1,.I 0),(2,.I 1),(3,.P b1 0),(8,.map (some b7)),(46,.slice a 1 c),(47,.I 1),(48,.I 0),(52,.map (some b7)),(54,.I 1),(55,.P b17 1)] ?_
 refine qL .seq 56 (sq 5 6) 3 b17 1 1 (.I 5) (H.cells 0 rfl) ?_
 refine RW.mapSet (d:=none) (r:=(sq 6 6)) (T:=163) (mk:=(Value.int .i64)) (vk:=(Value.int .i64)) (Kt:=3) (E:=3) (M':=[(b17,.cells #[.I 1,.I 5] 92 (0,0)),(b7,mapO (Value.int .i64) (Value.int .i64) (mset 1 5 0 ([]:List (Int×Int×Nat))) (mclk 1 0 ([]:List (Int×Int×Nat)))),(b1,.cells #[.int .u64 2,.slice a 1 c] 35 (0,0))]) 1 5 (by as_aux_lemma=>kernel_rfl) H 1 rfl (KeyOk.int (by as_aux_lemma=>kernel_rfl)) (by as_aux_lemma=>kernel_rfl) rfl ?_
 intro w20 hCw20 H
 have H:Hp w S [] [(b17,.cells #[.I 1,.I 5] 92 (0,0)),(b7,mapO (Value.int .i64) (Value.int .i64) ([(1,5,0)]:List (Int×Int×Nat)) 1),(b1,.cells #[.int .u64 2,.slice a 1 c] 35 (0,0))] [] [Rp (Shape.slice memS) [.slice a 1 c] ([(⟨1,5⟩:Mem)]:List Mem)] _:=H
 refine qF 0 [(1,.I 0),(2,.I 1),(3,.P b1 0),(8,.map (some b7)),(46,.slice a 1 c),(47,.I 1),(48,.I 0)] ?_
 refine qR 2 [.l [3,0,1,0,0],.b 1,.c [4]] [(1,.I 0),(2,.I 1),(3,.P b1 0),(8,.map (some b7)),(46,.slice a 1 c),(47,.I 1),(48,.I 1)] ?_
 refine WK.again ?_
 refine qR 11 [.c [5,0,1,0],.b 3,.c [6]] [(1,.I 0),(3,.P b1 0),(8,.map (some b7)),(11,.slice none 0 0),(58,.I 1),(59,.I 0)] ?_
 refine WK.enter (b:=cd Tryz.prog 48 [5,0,1,0,0]) (by as_aux_lemma=>kernel_rfl) ?_
 refine qR 13 [.c [5,0,1,0,0,2,0,0,2,0,0],.c [5,0,1,0,0,2,0,0,2,0,1],.c [5,0,1,0,0,2,0,0,3],.b 4,.c [5,0,1,0,0,3],.l [5,0,1,0,0],.b 3,.c [6]] [(1,.I 0),(3,.P b1 0),(8,.map (some b7)),(11,.slice none 0 0),(12,.I 0),(13,.I 0),(14,.I 0),(58,.I 1),(59,.I 0)] ?_
 have H:=H.dropM 0
 refine qG (sq 0 4) ?_
 refine qP 1 (sq 1 4) [(1,.I 0),(3,.P b1 0),(8,.map (some b7)),(11,.slice none 0 0),(12,.I 0),(13,.I 0),(14,.I 0),(58,.I 1),(59,.I 0),(62,.P b1 1)] ?_
 refine qL .seq 63 (sq 2 4) 33 b1 1 1 (.slice a 1 c) (H.cells 1 rfl) ?_
 refine qF 2 [(1,.I 0),(3,.P b1 0),(8,.map (some b7)),(11,.slice none 0 0),(12,.I 0),(13,.I 0),(14,.I 0),(58,.I 1),(59,.I 0),(63,.slice a 1 c),(64,.I 1),(65,.I 0)] ?_
 refine qR 1 [.c [5,0,1,0,0,2,0,0,2,0,1,0],.b 5,.c [5,0,1,0,0,2,0,0,3],.b 4,.c [5,0,1,0,0,3],.l [5,0,1,0,0],.b 3,.c [6]] [(1,.I 0),(3,.P b1 0),(8,.map (some b7)),(11,.slice none 0 0),(12,.I 0),(13,.I 0),(14,.I 0),(58,.I 1),(59,.I 0),(63,.slice a 1 c),(64,.I 1),(65,.I 0)] ?_
 refine WK.enter (b:=cd Tryz.prog 48 [5,0,1,0,0,2,0,0,2,0,1,0,0]) (by as_aux_lemma=>kernel_rfl) ?_
 refine qR 8 [.c [5,0,1,0,0,2,0,0,2,0,1,0,0,2,0,0,0],.c [5,0,1,0,0,2,0,0,2,0,1,0,0,2,0,0,1],.b 6,.c [5,0,1,0,0,2,0,0,2,0,1,0,0,3],.l [5,0,1,0,0,2,0,0,2,0,1,0,0],.b 5,.c [5,0,1,0,0,2,0,0,3],.b 4,.c [5,0,1,0,0,3],.l [5,0,1,0,0],.b 3,.c [6]] [(1,.I 0),(3,.P b1 0),(8,.map (some b7)),(11,.slice none 0 0),(12,.I 0),(13,.I 0),(14,.I 0),(58,.I 1),(59,.I 0),(63,.slice a 1 c),(64,.I 1),(65,.I 0)] ?_
 refine qG (sq 0 4) ?_
 have hx21:0<([(⟨1,5⟩:Mem)]:List Mem).length:=by decide
 refine qX .seq 67 (sq 1 4) 33 92 0 memS (⟨1,5⟩:Mem) H 0 rfl 0 (by omega) (rfl) ?_
 intro b22 o23 es24 hr25 H
 obtain⟨rfl,hf27,hf28⟩:=mem_open hr25
 have H:Hp w S [] [(b7,mapO (Value.int .i64) (Value.int .i64) ([(1,5,0)]:List (Int×Int×Nat)) 1),(b1,.cells #[.int .u64 2,.slice a 1 c] 35 (0,0))] [] [Fc b22 o23 [.I 1,.I 5],Rp (Shape.slice memS) [.slice a 1 c] ([(⟨1,5⟩:Mem)]:List Mem)] _:=H
 refine qL .seq 68 (sq 2 4) 92 b22 o23 0 (.agg #[.I 1,.I 5]) (H.fc 0 rfl) ?_
 refine qB .seq 16 (sq 3 4) #[.I 0,.I 0] 92 H ?_
 intro b29 w30 H
 refine qW 92 b29 0 (sq 4 4) (.agg #[.I 1,.I 5]) [(b29,.cells #[.I 1,.I 5] 92 (0,0)),(b7,mapO (Value.int .i64) (Value.int .i64) ([(1,5,0)]:List (Int×Int×Nat)) 1),(b1,.cells #[.int .u64 2,.slice a 1 c] 35 (0,0))] H 0 rfl rfl ?_
 intro w31 H
 refine qF 0 [(1,.I 0),(3,.P b1 0),(8,.map (some b7)),(11,.slice none 0 0),(12,.I 0),(13,.I 0),(14,.I 0),(16,.P b29 0),(58,.I 1),(59,.I 0),(63,.slice a 1 c),(64,.I 1),(65,.I 0)] ?_
 refine qR 1 [.c [5,0,1,0,0,2,0,0,2,0,1,0,0,2,0,0,1,0],.c [5,0,1,0,0,2,0,0,2,0,1,0,0,2,0,0,2],.b 6,.c [5,0,1,0,0,2,0,0,2,0,1,0,0,3],.l [5,0,1,0,0,2,0,0,2,0,1,0,0],.b 5,.c [5,0,1,0,0,2,0,0,3],.b 4,.c [5,0,1,0,0,3],.l [5,0,1,0,0],.b 3,.c [6]] [(1,.I 0),(3,.P b1 0),(8,.map (some b7)),(11,.slice none 0 0),(12,.I 0),(13,.I 0),(14,.I 0),(16,.P b29 0),(58,.I 1),(59,.I 0),(63,.slice a 1 c),(64,.I 1),(65,.I 0)] ?_
 have H:=H.pick [1] rfl
 refine qG (sq 0 9) ?_
 refine qP 2 (sq 2 9) [(1,.I 0),(3,.P b1 0),(8,.map (some b7)),(11,.slice none 0 0),(12,.I 0),(13,.I 0),(14,.I 0),(16,.P b29 0),(58,.I 1),(59,.I 0),(63,.slice a 1 c),(64,.I 1),(65,.I 0),(70,.map (some b7)),(71,.P b29 0)] ?_
 refine qL .seq 72 (sq 3 9) 3 b29 0 0 (.I 1) (H.cells 0 rfl) ?_
 refine RW.mapGet (κ:=.seq) (d:=some 73) (r:=(sq 4 9)) (T:=163) (mk:=(Value.int .i64)) (vk:=(Value.int .i64)) (Kt:=3) (E:=3) (z:=0) 1 true (by as_aux_lemma=>kernel_rfl) H 1 rfl (KeyOk.int (by as_aux_lemma=>kernel_rfl)) (by as_aux_lemma=>kernel_rfl) (fun w_=>zeroE_run (by as_aux_lemma=>kernel_rfl) w_) ?_
 refine qF 5 [(1,.I 0),(3,.P b1 0),(8,.map (some b7)),(11,.slice none 0 0),(12,.I 0),(13,.I 0),(14,.I 0),(16,.P b29 0),(17,.I 5),(18,.bool true),(58,.I 1),(59,.I 0),(63,.slice a 1 c),(64,.I 1),(65,.I 0)] ?_
 refine qR 6 [.c [5,0,1,0,0,2,0,0,2,0,1,0,0,2,0,0,3,0],.c [5,0,1,0,0,2,0,0,2,0,1,0,0,2,0,0,4],.b 6,.c [5,0,1,0,0,2,0,0,2,0,1,0,0,3],.l [5,0,1,0,0,2,0,0,2,0,1,0,0],.b 5,.c [5,0,1,0,0,2,0,0,3],.b 4,.c [5,0,1,0,0,3],.l [5,0,1,0,0],.b 3,.c [6]] [(1,.I 0),(3,.P b1 0),(8,.map (some b7)),(11,.slice none 0 0),(12,.I 0),(13,.I 0),(14,.I 0),(16,.P b29 0),(17,.I 5),(58,.I 1),(59,.I 0),(63,.slice a 1 c),(64,.I 1),(65,.I 0)] ?_
 refine qG (sq 0 11) ?_
 refine qP 5 (sq 5 11) [(1,.I 0),(3,.P b1 0),(8,.map (some b7)),(11,.slice none 0 0),(12,.I 0),(13,.I 0),(14,.I 0),(16,.P b29 0),(17,.I 5),(58,.I 1),(59,.I 0),(63,.slice a 1 c),(64,.I 1),(65,.I 0),(83,.int .u64 0),(85,.int .u64 0),(86,.P b29 0)] ?_
 refine qL .seq 87 (sq 6 11) 3 b29 0 0 (.I 1) (H.cells 0 rfl) ?_
 refine qP 1 (sq 7 11) [(1,.I 0),(3,.P b1 0),(8,.map (some b7)),(11,.slice none 0 0),(12,.I 0),(13,.I 0),(14,.I 0),(16,.P b29 0),(17,.I 5),(58,.I 1),(59,.I 0),(63,.slice a 1 c),(64,.I 1),(65,.I 0),(83,.int .u64 0),(85,.int .u64 0),(88,.int .u64 1)] ?_
 refine qK .seq (some 89) (sq 8 11) 85 #[.int .u64 0,.int .u64 0,.int .u64 1] (hash1 (S:=fun _=>True)) ?_
 rintro _ w32 hE33 rfl
 have H:=H.ext hE33
 refine qP 1 (sq 9 11) [(1,.I 0),(3,.P b1 0),(8,.map (some b7)),(11,.slice none 0 0),(12,.I 0),(13,.I 0),(14,.I 0),(16,.P b29 0),(58,.I 1),(59,.I 0),(63,.slice a 1 c),(64,.I 1),(65,.I 0),(89,.int .u64 3092335531369821329),(90,.I 5)] ?_
 refine qK .seq (some 91) (sq 10 11) 84 #[.int .u64 3092335531369821329,.I 5] (cost_u (S:=fun _=>True)) ?_
 rintro _ w34 hE35 rfl
 have H:=H.ext hE35
 refine qF 1 [(1,.I 0),(3,.P b1 0),(8,.map (some b7)),(11,.slice none 0 0),(12,.I 0),(13,.I 0),(14,.I 0),(16,.P b29 0),(19,.I 14490363494),(58,.I 1),(59,.I 0),(63,.slice a 1 c),(64,.I 1),(65,.I 0)] ?_
 refine qR 3 [.c [5,0,1,0,0,2,0,0,2,0,1,0,0,2,0,0,5,0],.b 6,.c [5,0,1,0,0,2,0,0,2,0,1,0,0,3],.l [5,0,1,0,0,2,0,0,2,0,1,0,0],.b 5,.c [5,0,1,0,0,2,0,0,3],.b 4,.c [5,0,1,0,0,3],.l [5,0,1,0,0],.b 3,.c [6]] [(1,.I 0),(3,.P b1 0),(8,.map (some b7)),(11,.slice none 0 0),(12,.I 0),(16,.P b29 0),(19,.I 14490363494),(58,.I 1),(59,.I 0),(63,.slice a 1 c),(64,.I 1),(65,.I 0)] ?_
 refine qG (sq 0 5) ?_
 refine qP 1 (sq 1 5) [(1,.I 0),(3,.P b1 0),(8,.map (some b7)),(11,.slice none 0 0),(12,.I 0),(19,.I 14490363494),(58,.I 1),(59,.I 0),(63,.slice a 1 c),(64,.I 1),(65,.I 0),(99,.P b29 0)] ?_
 refine qL .seq 100 (sq 2 5) 3 b29 0 0 (.I 1) (H.cells 0 rfl) ?_
 refine qF 3 [(1,.I 0),(3,.P b1 0),(8,.map (some b7)),(11,.slice none 0 0),(12,.I 0),(13,.I 1),(14,.I 14490363494),(58,.I 1),(59,.I 0),(63,.slice a 1 c),(64,.I 1),(65,.I 0)] ?_
 refine qR 2 [.l [5,0,1,0,0,2,0,0,2,0,1,0,0],.b 5,.c [5,0,1,0,0,2,0,0,3],.b 4,.c [5,0,1,0,0,3],.l [5,0,1,0,0],.b 3,.c [6]] [(1,.I 0),(3,.P b1 0),(8,.map (some b7)),(11,.slice none 0 0),(12,.I 0),(13,.I 1),(14,.I 14490363494),(58,.I 1),(59,.I 0),(63,.slice a 1 c),(64,.I 1),(65,.I 1)] ?_
 refine WK.again ?_
 refine qR 6 [.c [5,0,1,0,0,2,0,0,3,0],.c [5,0,1,0,0,2,0,0,4],.b 4,.c [5,0,1,0,0,3],.l [5,0,1,0,0],.b 3,.c [6]] [(1,.I 0),(3,.P b1 0),(8,.map (some b7)),(11,.slice none 0 0),(13,.I 1),(58,.I 1),(59,.I 0)] ?_
 have H:=H.dropM 0
 refine qG (sq 0 5) ?_
 refine qP 2 (sq 2 5) [(1,.I 0),(3,.P b1 0),(8,.map (some b7)),(11,.slice none 0 0),(13,.I 1),(58,.I 1),(59,.I 0),(103,.slice none 0 0),(104,.I 1)] ?_
 refine RW.new (κ:=.seq) (d:=some 105) (r:=(sq 3 5)) (o:=.cells #[.I 1] 3 (0,0)) (v:=fun b=>.slice (some ⟨b,0,none⟩) 1 1) (fun b=>by as_aux_lemma=>kernel_rfl) (nofun) H ?_
 intro b36 w37 H
 have H:=H.ownNil (Shape.int .i64) 3
 have H:Hp w S [] [(b36,.cells #[.I 1] 3 (0,0)),(b7,mapO (Value.int .i64) (Value.int .i64) ([(1,5,0)]:List (Int×Int×Nat)) 1),(b1,.cells #[.int .u64 2,.slice a 1 c] 35 (0,0))] [⟨Shape.int .i64,3,.slice none 0 0,[]⟩] [Rp (Shape.slice memS) [.slice a 1 c] ([(⟨1,5⟩:Mem)]:List Mem)] _:=H
 have H:=H.freeze 0 rfl (Shape.int .i64) ([1]:List Int) 1 (by simp[maxLen]) (by first|exact Nat.le_refl _|simp) (EsP.cons (c:=[.I 1]) (Shape.int_mk (by decide)) EsP.nil)
 have H:Hp w S [] [(b7,mapO (Value.int .i64) (Value.int .i64) ([(1,5,0)]:List (Int×Int×Nat)) 1),(b1,.cells #[.int .u64 2,.slice a 1 c] 35 (0,0))] [⟨Shape.int .i64,3,.slice none 0 0,[]⟩] [Rp (Shape.slice (Shape.int .i64)) [.slice (some ⟨b36,0,none⟩) 1 1] ([1]:List Int),Rp (Shape.slice memS) [.slice a 1 c] ([(⟨1,5⟩:Mem)]:List Mem)] _:=H
 refine RW.appendW (d:=some 106) (r:=(sq 4 5)) (T:=69) (ty:=69) (e:=3) (m:=1) (by_:=8) (v:=.slice none 0 0) (a2:=(some ⟨b36,0,none⟩)) (l2:=1) (c2:=1) (zs:=([1]:List Int)) (by as_aux_lemma=>kernel_rfl) (by as_aux_lemma=>kernel_rfl) rfl H 0 rfl 0 rfl (rfl) (by simp<;>omega) ?_
 intro a38 c39 w41 H hc40
 have H:Hp w S [] [(b7,mapO (Value.int .i64) (Value.int .i64) ([(1,5,0)]:List (Int×Int×Nat)) 1),(b1,.cells #[.int .u64 2,.slice a 1 c] 35 (0,0))] [⟨Shape.int .i64,3,.slice a38 1 c39,([1]:List Int)⟩] [Rp (Shape.slice (Shape.int .i64)) [.slice (some ⟨b36,0,none⟩) 1 1] ([1]:List Int),Rp (Shape.slice memS) [.slice a 1 c] ([(⟨1,5⟩:Mem)]:List Mem)] _:=H
 refine qF 1 [(1,.I 0),(3,.P b1 0),(8,.map (some b7)),(11,.slice a38 1 c39),(13,.I 1),(58,.I 1),(59,.I 0)] ?_
 have H:=H.pick [1] rfl
 refine qG (sq 0 3) ?_
 refine qP 2 (sq 2 3) [(1,.I 0),(3,.P b1 0),(8,.map (some b7)),(11,.slice a38 1 c39),(58,.I 1),(59,.I 0),(107,.map (some b7)),(108,.I 1)] ?_
 refine RW.mapDel (d:=none) (r:=(sq 3 3)) (T:=163) (ts:=#[163,3]) (t:=0) (mk:=(Value.int .i64)) (vk:=(Value.int .i64)) (Kt:=3) (E:=3) (M':=[(b7,mapO (Value.int .i64) (Value.int .i64) (mdel 1 ([(1,5,0)]:List (Int×Int×Nat))) 1),(b1,.cells #[.int .u64 2,.slice a 1 c] 35 (0,0))]) 1 (by as_aux_lemma=>kernel_rfl) H 0 rfl (KeyOk.int (by as_aux_lemma=>kernel_rfl)) (by as_aux_lemma=>kernel_rfl) (by as_aux_lemma=>kernel_rfl) rfl ?_
 intro w42 hCw42 H
 refine qF 0 [(1,.I 0),(3,.P b1 0),(8,.map (some b7)),(11,.slice a38 1 c39),(58,.I 1),(59,.I 0)] ?_
 refine qR 2 [.l [5,0,1,0,0],.b 3,.c [6]] [(1,.I 0),(3,.P b1 0),(8,.map (some b7)),(11,.slice a38 1 c39),(58,.I 1),(59,.I 1)] ?_
 refine WK.again ?_
 refine qR 7 [.c [7]] [(6,.slice a38 1 c39),(7,.I 0)] ?_
 refine qT (.tuple #[.slice a38 1 c39,.I 0]) Tryz.func48 ?_
 have H:Hp w S [] [(b7,mapO (Value.int .i64) (Value.int .i64) (mdel 1 ([(1,5,0)]:List (Int×Int×Nat))) 1),(b1,.cells #[.int .u64 2,.slice a 1 c] 35 (0,0))] [] [Rp (Shape.slice (Shape.int .i64)) [.slice a38 1 c39] ([1]:List Int),Rp (Shape.slice memS) [.slice a 1 c] ([(⟨1,5⟩:Mem)]:List Mem)] _:=H.freezeW 0 rfl
 exact⟨_,rfl,H.done,_,_,rfl,H.out (H.rp 0 rfl)⟩
end Go.Proofs.YtcafjhnjhhicdaaGreatDoor
