import Derived.Test.YtcafjhnjhhicdaaGreatDoorSG1
namespace Go.Proofs.YtcafjhnjhhicdaaGreatDoor
open Go.BX
open Go Go.RowKit
set_option maxRecDepth 100000 in
theorem refused_idle(p:Addr)(w:World):CallsD Tryz.prog 105 #[.pointer (some p)] .returning w fun e u' w'=>e=.returned (.tuple #[])∧u'=.returning∧w'=w:=by
 refine callsD_of_wpS Tryz.func105 rfl fun c₀ cs hu=>?_
 apply wpS_seq
 apply wpS_region
 simp[wpOpsS,go_sem,recoverD,hu,Tryz.ntmps105,Exit.thenS]
 refine wpS_of_wp ?_
 have hnil:∀w:World,(binOp BinOp.eql 20 .nilIface .nilIface).run Tryz.prog w=.ok (.bool true) w:=fun _=>by kernel_rfl
 go_wp2
 cases c₀
 simp_all[bodyPostS,results,Tryz.results105]
theorem refused_defer(p:Addr):Idle Tryz.prog ⟨.fn (.func 105) #[],#[.pointer (some p)]⟩:=
 ⟨_,_,105,#[.pointer (some p)],rfl,fun w=>by simp[invoke,go_sem],fun w=>refused_idle p w⟩
theorem needs_spec{S:Nat→Prop}{w:World}  :
 Calls Tryz.prog 106 #[.bool true] w (Ret fun v w'=>Ext w w'∧v=.tuple #[]):=by
 refine qS (fn:=Tryz.f106) (n:=5) (σ:=[(0,.bool true)]) Tryz.func106 ?_
 have H:=Hp.startF (w:=w) (S:=S) (G:=[]) .nil
 refine qR 4 [] [] ?_
 refine WK.fin (v:=.tuple #[]) Tryz.func106 (by as_aux_lemma=>kernel_rfl) ?_
 exact⟨_,rfl,H.done,rfl⟩
def genE(k i j:Nat):BitVec 8:=if i≥k then ginv (BitVec.ofNat 8 i^^^BitVec.ofNat 8 j)else if i=j then 1#8 else 0#8
def genRow(k i:Nat):List (BitVec 8):=(List.range k).map fun j=>genE k i j
def genTo(k i m:Nat):List (BitVec 8):=(List.range k).map fun j=>if j<m then genE k i j else 0#8
def gen(k n:Nat):List (List (BitVec 8)):=(List.range n).map (genRow k)
theorem genTo_len(k i m:Nat):(genTo k i m).length=k:=by simp[genTo]
theorem gen_len(k n:Nat):(gen k n).length=n:=by simp[gen]
theorem genTo_zero(k i:Nat):List.replicate k 0#8=genTo k i 0:=by
 apply List.ext_getElem (by simp[genTo])
 intro j h1 h2
 simp[genTo]
theorem genTo_all{k i m:Nat}(h:k≤m):genTo k i m=genRow k i:=by
 unfold genTo genRow
 refine List.map_congr_left fun j hj=>if_pos (by have:=List.mem_range.1 hj;omega)
theorem genTo_set{k i m:Nat}{x:BitVec 8}(_hm:m<k)(hx:genE k i m=x):(genTo k i m).set m x=genTo k i (m+1):=by
 apply List.ext_getElem (by simp[genTo])
 intro j h1 h2
 simp only[genTo,List.getElem_set,List.getElem_map,List.getElem_range]
 by_cases hj:m=j
 ·subst hj;rw[if_pos rfl,if_pos (by omega), hx]
 · rw[if_neg hj]
   by_cases h3:j<m
   ·rw[if_pos h3,if_pos (by omega)]
   ·rw[if_neg h3,if_neg (by omega)]
theorem genTo_skip{k i m:Nat}(hm:m<k)(h1:i<k)(h2:i≠m):genTo k i m=genTo k i (m+1):=by
 rw[←genTo_set (x:=0#8) hm (by unfold genE;rw[if_neg (by omega),if_neg h2])]
 apply List.ext_getElem (by simp[genTo])
 intro j h3 h4
 rw[List.getElem_set]
 split
 ·rename_i e;subst e;simp[genTo]
 ·rfl
theorem gen_take{k n i:Nat}(h:i<n):(gen k n).take i++[genRow k i]=(gen k n).take (i+1):=by
 rw[List.take_succ_eq_append_getElem (by rw[gen_len];exact h)]
 simp[gen]
theorem gen_ne{i j:Nat}(hi:i<256)(hj:j<256)(h:i≠j):(((BitVec.ofNat 8 i^^^BitVec.ofNat 8 j).toNat:Nat):Int)≠0:=by
 intro he
 have h0:(BitVec.ofNat 8 i^^^BitVec.ofNat 8 j)=0#8:=BitVec.eq_of_toNat_eq (by simpa using he)
 have h1:BitVec.ofNat 8 i=BitVec.ofNat 8 j:=by
  have:=congrArg (·^^^BitVec.ofNat 8 j) h0
  simpa[BitVec.xor_assoc]using this
 have h2:=congrArg BitVec.toNat h1
 rw[BitVec.toNat_ofNat,BitVec.toNat_ofNat]at h2
 omega
theorem generator_spec{S:Nat→Prop}{w:World}(k n:Nat)(hk:0<k)(hkn:k≤n)(hn:n≤255):
 Calls Tryz.prog 70 #[.I k,.I n] w (Ret fun v w'=>Ext w w'∧∃(a:Option Addr)(c:Nat),v=.tuple #[.slice a (gen k n).length c,.I 0]∧(Shape.slice SB).rep (Nw S w) w' [.slice a (gen k n).length c] (gen k n)):=by
 refine qS (fn:=Tryz.f70) (n:=62) (σ:=[(0,.I k),(1,.I n)]) Tryz.func70 ?_
 have H:=Hp.startF (w:=w) (S:=S) (G:=[]) .nil
 refine qR 1 [.c [0],.c [1]] [(0,.I k),(1,.I n)] ?_
 refine qG (sq 0 2) ?_
 refine qP 1 (sq 1 2) [(0,.I k),(1,.I n),(4,.slice none 0 0)] ?_
 refine qB .seq 5 (sq 2 2) #[.I 0] 75 H ?_
 intro b1 w2 H
 refine qF 0 [(0,.I k),(1,.I n),(4,.slice none 0 0),(5,.P b1 0)] ?_
 refine qR 1 [.c [1,0],.c [2]] [(0,.I k),(1,.I n),(4,.slice none 0 0),(5,.P b1 0)] ?_
 refine WK.defer1 (o:=op1 (cd Tryz.prog 70 [1,0])) ⟨.fn (.func 105) #[],#[.P b1 0]⟩ (by as_aux_lemma=>kernel_rfl) (by as_aux_lemma=>kernel_rfl) (by as_aux_lemma=>kernel_rfl) (by as_aux_lemma=>kernel_rfl) (by as_aux_lemma=>kernel_rfl) ?_
 refine qR 1 [.c [2,0],.c [3]] [(0,.I k),(1,.I n),(4,.slice none 0 0),(5,.P b1 0)] ?_
 refine qG (sq 0 12) ?_
 refine qP 1 (sq 1 12) [(0,.I k),(1,.I n),(4,.slice none 0 0),(5,.P b1 0),(9,.I k)] ?_
 refine RW.pv (κ:=.seq) (d:=some 10) (r:=(sq 2 12)) (v':=.bool true) (v:=.bool (decide (((k:Int):Int)>0))) (by as_aux_lemma=>kernel_rfl) (by rw[decide_eq_true (by omega)]) ?_
 refine qP 3 (sq 5 12) [(0,.I k),(1,.I n),(4,.slice none 0 0),(5,.P b1 0),(11,.bool true),(12,.I k),(13,.I n)] ?_
 refine RW.pv (κ:=.seq) (d:=some 14) (r:=(sq 6 12)) (v':=.bool true) (v:=.bool (decide (((k:Int):Int)≤(n:Int)))) (by as_aux_lemma=>kernel_rfl) (by rw[decide_eq_true (by omega)]) ?_
 refine qP 3 (sq 9 12) [(0,.I k),(1,.I n),(4,.slice none 0 0),(5,.P b1 0),(16,.bool true),(17,.I n)] ?_
 refine RW.pv (κ:=.seq) (d:=some 18) (r:=(sq 10 12)) (v':=.bool true) (v:=.bool (decide (((n:Int):Int)≤255))) (by as_aux_lemma=>kernel_rfl) (by rw[decide_eq_true (by omega)]) ?_
 refine qP 1 (sq 11 12) [(0,.I k),(1,.I n),(4,.slice none 0 0),(5,.P b1 0),(19,.bool true)] ?_
 refine qK .seq (some 20) (sq 12 12) 106 #[.bool true] (needs_spec (S:=fun _=>True)) ?_
 rintro _ w3 hE4 rfl
 have H:=H.ext hE4
 refine qF 0 [(0,.I k),(1,.I n),(4,.slice none 0 0),(5,.P b1 0)] ?_
 refine qR 4 [.c [3,0,1,0],.b 0,.c [4]] [(0,.I k),(4,.slice none 0 0),(5,.P b1 0),(21,.I n),(22,.I 0)] ?_
 have H:=H.ownNil SB 28
 refine WK.loop (α:=Nat×Option Addr×Nat) (b:=cd Tryz.prog 70 [3,0,1,0,0]) (by as_aux_lemma=>kernel_rfl) (fun st_=>match st_ with|(i,ao,co)=>[(0,.I k),(4,.slice ao (((gen k n).take i).length) co),(5,.P b1 0),(21,.I n),(22,.I i)]) (fun st_ w'=>match st_ with|(i,ao,co)=>Hp w S [] [(b1,.cells #[.I 0] 75 (0,0))] [⟨SB,28,.slice ao (((gen k n).take i).length) co,(gen k n).take i⟩] [] w'∧i≤n) (fun st_=>match st_ with|(i,ao,co)=>n-i) (0,none,0) ⟨H,Nat.zero_le _⟩ (rfl) ?_
 rintro⟨i,ao,co⟩w6⟨H,hinv0⟩hback5
 have htl:((gen k n).take i).length=i:=by rw[List.length_take,gen_len];omega
 refine qR 3 [.c [3,0,1,0,0,1,0],.c [3,0,1,0,0,2],.l [3,0,1,0,0],.b 0,.c [4]] [(0,.I k),(4,.slice ao (((gen k n).take i).length) co),(5,.P b1 0),(21,.I n),(22,.I i),(23,.bool (decide (((i:Int):Int)<(n:Int))))] ?_
 refine qD (((i:Int):Int)<(n:Int)) (fun h7=>?_) (fun h7=>?_)
 ·
  refine qR 6 [.c [3,0,1,0,0,2,0,0,1,0],.c [3,0,1,0,0,2,0,0,2],.b 1,.c [3,0,1,0,0,3],.l [3,0,1,0,0],.b 0,.c [4]] [(0,.I k),(4,.slice ao (((gen k n).take i).length) co),(5,.P b1 0),(6,.I i),(21,.I n),(22,.I i)] ?_
  refine qG (sq 0 3) ?_
  refine qP 1 (sq 1 3) [(0,.I k),(4,.slice ao (((gen k n).take i).length) co),(5,.P b1 0),(6,.I i),(21,.I n),(22,.I i),(25,.I k)] ?_
  refine RW.makeW Sb (κ:=.seq) (d:=some 26) (r:=(sq 2 3)) (T:=28) (e:=5) (by_:=1) (v0:=.int .u8 0) (0#8:BitVec 8) (kl:=.i64) (kc:=.i64) (lv:=(k:Int)) (cv:=(k:Int)) (by as_aux_lemma=>kernel_rfl) (nofun) (by as_aux_lemma=>kernel_rfl) rfl H k k (by omega) (by omega) (by omega) (by omega) (by omega) (fun _ _=>rfl) ?_
  intro b8 w9 H
  have H:Hp w S [] [(b1,.cells #[.I 0] 75 (0,0))] [⟨Sb,5,.slice (some ⟨b8,0,none⟩) k k,(List.replicate k (0#8:BitVec 8))⟩,⟨SB,28,.slice ao (((gen k n).take i).length) co,(gen k n).take i⟩] [] _:=H
  refine qF 1 [(0,.I k),(4,.slice ao (((gen k n).take i).length) co),(5,.P b1 0),(6,.I i),(7,.slice (some ⟨b8,0,none⟩) k k),(21,.I n),(22,.I i)] ?_
  refine qR 4 [.c [3,0,1,0,0,2,0,0,2,0,1,0],.b 2,.c [3,0,1,0,0,2,0,0,3],.b 1,.c [3,0,1,0,0,3],.l [3,0,1,0,0],.b 0,.c [4]] [(0,.I k),(4,.slice ao (((gen k n).take i).length) co),(5,.P b1 0),(6,.I i),(7,.slice (some ⟨b8,0,none⟩) k k),(21,.I n),(22,.I i),(28,.I ((k:Nat):Int)),(29,.I 0)] ?_
  have H:=H.reW (genTo_zero k i)
  refine WK.loop (α:=Nat) (b:=cd Tryz.prog 70 [3,0,1,0,0,2,0,0,2,0,1,0,0]) (by as_aux_lemma=>kernel_rfl) (fun j=>[(0,.I k),(4,.slice ao (((gen k n).take i).length) co),(5,.P b1 0),(6,.I i),(7,.slice (some ⟨b8,0,none⟩) k k),(21,.I n),(22,.I i),(28,.I ((k:Nat):Int)),(29,.I j)]) (fun j w'=>Hp w S [] [(b1,.cells #[.I 0] 75 (0,0))] [⟨Sb,5,.slice (some ⟨b8,0,none⟩) k k,genTo k i j⟩,⟨SB,28,.slice ao (((gen k n).take i).length) co,(gen k n).take i⟩] [] w'∧j≤k) (fun j=>k-j) 0 ⟨H,Nat.zero_le _⟩ (rfl) ?_
  rintro j w11⟨H,hinv1⟩hback10
  refine qR 3 [.c [3,0,1,0,0,2,0,0,2,0,1,0,0,1,0],.c [3,0,1,0,0,2,0,0,2,0,1,0,0,2],.l [3,0,1,0,0,2,0,0,2,0,1,0,0],.b 2,.c [3,0,1,0,0,2,0,0,3],.b 1,.c [3,0,1,0,0,3],.l [3,0,1,0,0],.b 0,.c [4]] [(0,.I k),(4,.slice ao (((gen k n).take i).length) co),(5,.P b1 0),(6,.I i),(7,.slice (some ⟨b8,0,none⟩) k k),(21,.I n),(22,.I i),(28,.I ((k:Nat):Int)),(29,.I j),(30,.bool (decide (((j:Int):Int)<((k:Nat):Int))))] ?_
  refine qD (((j:Int):Int)<((k:Nat):Int)) (fun h12=>?_) (fun h12=>?_)
  ·
   refine qR 8 [.c [3,0,1,0,0,2,0,0,2,0,1,0,0,2,0,0,1,0,1],.b 4,.b 3,.c [3,0,1,0,0,2,0,0,2,0,1,0,0,3],.l [3,0,1,0,0,2,0,0,2,0,1,0,0],.b 2,.c [3,0,1,0,0,2,0,0,3],.b 1,.c [3,0,1,0,0,3],.l [3,0,1,0,0],.b 0,.c [4]] [(0,.I k),(4,.slice ao (((gen k n).take i).length) co),(5,.P b1 0),(6,.I i),(7,.slice (some ⟨b8,0,none⟩) k k),(8,.I j),(21,.I n),(22,.I i),(28,.I ((k:Nat):Int)),(29,.I j),(32,.bool (decide (((i:Int):Int)≥(k:Int))))] ?_
   refine qD (((i:Int):Int)≥(k:Int)) (fun h13=>?_) (fun h13=>?_)
   ·
    have hne9:=gen_ne (i:=i) (j:=j) (by omega) (by omega) (by omega)
    refine qG (sq 0 13) ?_
    refine qP 3 (sq 3 13) [(0,.I k),(4,.slice ao (((gen k n).take i).length) co),(5,.P b1 0),(6,.I i),(7,.slice (some ⟨b8,0,none⟩) k k),(8,.I j),(21,.I n),(22,.I i),(28,.I ((k:Nat):Int)),(29,.I j),(37,.slice (some ⟨b8,0,none⟩) k k),(38,.I j),(39,.I i)] ?_
    refine RW.pv (κ:=.seq) (d:=some 40) (r:=(sq 4 13)) (v:=.int .u8 (IntKind.u8.wrap ((i:Int)))) (v':=.int .u8 (((BitVec.ofNat 8 i).toNat:Nat):Int)) (by as_aux_lemma=>kernel_rfl) ((wrap_bv8 _).trans (by rw[bv_nat])) ?_
    refine qP 1 (sq 5 13) [(0,.I k),(4,.slice ao (((gen k n).take i).length) co),(5,.P b1 0),(6,.I i),(7,.slice (some ⟨b8,0,none⟩) k k),(21,.I n),(22,.I i),(28,.I ((k:Nat):Int)),(29,.I j),(37,.slice (some ⟨b8,0,none⟩) k k),(38,.I j),(40,.int .u8 (((BitVec.ofNat 8 i).toNat:Nat):Int)),(41,.I j)] ?_
    refine RW.pv (κ:=.seq) (d:=some 42) (r:=(sq 6 13)) (v:=.int .u8 (IntKind.u8.wrap ((j:Int)))) (v':=.int .u8 (((BitVec.ofNat 8 j).toNat:Nat):Int)) (by as_aux_lemma=>kernel_rfl) ((wrap_bv8 _).trans (by rw[bv_nat])) ?_
    refine RW.pv (κ:=.seq) (d:=some 43) (r:=(sq 7 13)) (v:=.int .u8 (IntKind.u8.wrap ((BitVec.ofInt 8 (((BitVec.ofNat 8 i).toNat:Nat):Int)^^^BitVec.ofInt 8 (((BitVec.ofNat 8 j).toNat:Nat):Int)).toNat:Nat))) (v':=.int .u8 (((((BitVec.ofNat 8 i)^^^(BitVec.ofNat 8 j)).toNat:Nat):Int))) (by as_aux_lemma=>kernel_rfl) (bv_xor8 (bvi _) (bvi _)) ?_
    refine qK .seq (some 44) (sq 8 13) 107 #[.int .u8 1,.int .u8 ((((BitVec.ofNat 8 i)^^^(BitVec.ofNat 8 j)).toNat:Nat):Int)] (div1_spec (S:=fun _=>True) ((BitVec.ofNat 8 i)^^^(BitVec.ofNat 8 j)) (by assumption)) ?_
    rintro _ w14 hE15 rfl
    have H:=H.ext hE15
    refine qP 3 (sq 11 13) [(0,.I k),(4,.slice ao (((gen k n).take i).length) co),(5,.P b1 0),(6,.I i),(7,.slice (some ⟨b8,0,none⟩) k k),(21,.I n),(22,.I i),(28,.I ((k:Nat):Int)),(29,.I j),(37,.slice (some ⟨b8,0,none⟩) k k),(38,.I j),(45,.int .u8 (((ginv ((BitVec.ofNat 8 i)^^^(BitVec.ofNat 8 j))).toNat:Nat):Int))] ?_
    have hn17:k=(genTo k i j).length:=(genTo_len _ _ _).symm
    have hx16:j<(genTo k i j).length:=by rw[genTo_len];omega
    refine RW.indexW (κ:=.seq) (d:=some 47) (r:=(sq 12 13)) (T:=28) (e:=5) (m:=1) (ik:=.i64) (ix:=(j:Int)) (sh:=Sb) (xs:=genTo k i j) (a:=(some ⟨b8,0,none⟩)) (len:=k) (cap:=k) (by as_aux_lemma=>kernel_rfl) (by as_aux_lemma=>kernel_rfl) rfl H j (by omega) hx16 hn17 ?_
    intro b18 es19 ha20 hcell21 hr22
    obtain rfl:=hr22
    refine RW.storeW (d:=none) (r:=(sq 13 13)) (e:=5) (m:=1) (b:=b18) (k:=j) (v:=.int .u8 (((ginv ((BitVec.ofNat 8 i)^^^(BitVec.ofNat 8 j))).toNat:Nat):Int)) (by as_aux_lemma=>kernel_rfl) rfl (by as_aux_lemma=>kernel_rfl) H ha20 hx16 hn17 (ginv ((BitVec.ofNat 8 i)^^^(BitVec.ofNat 8 j))) Shape.bv_mk ?_
    intro w23 H
    have H:=H.reW (ys:=genTo k i (j+1)) (genTo_set (by omega) (by unfold genE;rw[if_pos (by omega)]))
    refine qF 0 [(0,.I k),(4,.slice ao (((gen k n).take i).length) co),(5,.P b1 0),(6,.I i),(7,.slice (some ⟨b8,0,none⟩) k k),(21,.I n),(22,.I i),(28,.I ((k:Nat):Int)),(29,.I j)] ?_
    refine qR 2 [.c [3,0,1,0,0,2,0,0,2,0,1,0,0,3],.l [3,0,1,0,0,2,0,0,2,0,1,0,0],.b 2,.c [3,0,1,0,0,2,0,0,3],.b 1,.c [3,0,1,0,0,3],.l [3,0,1,0,0],.b 0,.c [4]] [(0,.I k),(4,.slice ao (((gen k n).take i).length) co),(5,.P b1 0),(6,.I i),(7,.slice (some ⟨b8,0,none⟩) k k),(21,.I n),(22,.I i),(28,.I ((k:Nat):Int)),(29,.I j)] ?_
    refine qG (sq 0 2) ?_
    refine qI .seq 55 (sq 1 2) ((j:Int)+1) ?_
    refine qF 1 [(0,.I k),(4,.slice ao (((gen k n).take i).length) co),(5,.P b1 0),(6,.I i),(7,.slice (some ⟨b8,0,none⟩) k k),(21,.I n),(22,.I i),(28,.I ((k:Nat):Int)),(29,.I ((j:Int)+1))] ?_
    exact WK.back (hback10 (j+1) _ ⟨H,by omega⟩ (by first|omega|(simp only[];omega))) (by as_aux_lemma=>kernel_rfl)
   ·
    refine qR 2 [.c [3,0,1,0,0,2,0,0,2,0,1,0,0,2,0,0,1,0,1,1,1],.b 4,.b 3,.c [3,0,1,0,0,2,0,0,2,0,1,0,0,3],.l [3,0,1,0,0,2,0,0,2,0,1,0,0],.b 2,.c [3,0,1,0,0,2,0,0,3],.b 1,.c [3,0,1,0,0,3],.l [3,0,1,0,0],.b 0,.c [4]] [(0,.I k),(4,.slice ao (((gen k n).take i).length) co),(5,.P b1 0),(6,.I i),(7,.slice (some ⟨b8,0,none⟩) k k),(8,.I j),(21,.I n),(22,.I i),(28,.I ((k:Nat):Int)),(29,.I j),(48,.bool ((i:Int)==(j:Int)))] ?_
    refine qE (i:Int) (j:Int) (fun h24=>?_) (fun h24=>?_)
    ·
     refine qG (sq 0 4) ?_
     refine qP 2 (sq 2 4) [(0,.I k),(4,.slice ao (((gen k n).take i).length) co),(5,.P b1 0),(6,.I i),(7,.slice (some ⟨b8,0,none⟩) k k),(21,.I n),(22,.I i),(28,.I ((k:Nat):Int)),(29,.I j),(52,.slice (some ⟨b8,0,none⟩) k k),(53,.I j)] ?_
     have hn26:k=(genTo k i j).length:=(genTo_len _ _ _).symm
     have hx25:j<(genTo k i j).length:=by rw[genTo_len];omega
     refine RW.indexW (κ:=.seq) (d:=some 54) (r:=(sq 3 4)) (T:=28) (e:=5) (m:=1) (ik:=.i64) (ix:=(j:Int)) (sh:=Sb) (xs:=genTo k i j) (a:=(some ⟨b8,0,none⟩)) (len:=k) (cap:=k) (by as_aux_lemma=>kernel_rfl) (by as_aux_lemma=>kernel_rfl) rfl H j (by omega) hx25 hn26 ?_
     intro b27 es28 ha29 hcell30 hr31
     obtain rfl:=hr31
     refine RW.storeW (d:=none) (r:=(sq 4 4)) (e:=5) (m:=1) (b:=b27) (k:=j) (v:=.int .u8 1) (by as_aux_lemma=>kernel_rfl) rfl (by as_aux_lemma=>kernel_rfl) H ha29 hx25 hn26 (1#8) (Shape.bv_lit (x:=1#8) (by decide)) ?_
     intro w32 H
     have H:=H.reW (ys:=genTo k i (j+1)) (genTo_set (by omega) (by unfold genE;rw[if_neg (by omega),if_pos (by omega)]))
     refine qF 0 [(0,.I k),(4,.slice ao (((gen k n).take i).length) co),(5,.P b1 0),(6,.I i),(7,.slice (some ⟨b8,0,none⟩) k k),(21,.I n),(22,.I i),(28,.I ((k:Nat):Int)),(29,.I j)] ?_
     refine qR 2 [.c [3,0,1,0,0,2,0,0,2,0,1,0,0,3],.l [3,0,1,0,0,2,0,0,2,0,1,0,0],.b 2,.c [3,0,1,0,0,2,0,0,3],.b 1,.c [3,0,1,0,0,3],.l [3,0,1,0,0],.b 0,.c [4]] [(0,.I k),(4,.slice ao (((gen k n).take i).length) co),(5,.P b1 0),(6,.I i),(7,.slice (some ⟨b8,0,none⟩) k k),(21,.I n),(22,.I i),(28,.I ((k:Nat):Int)),(29,.I j)] ?_
     refine qG (sq 0 2) ?_
     refine qI .seq 55 (sq 1 2) ((j:Int)+1) ?_
     refine qF 1 [(0,.I k),(4,.slice ao (((gen k n).take i).length) co),(5,.P b1 0),(6,.I i),(7,.slice (some ⟨b8,0,none⟩) k k),(21,.I n),(22,.I i),(28,.I ((k:Nat):Int)),(29,.I ((j:Int)+1))] ?_
     exact WK.back (hback10 (j+1) _ ⟨H,by omega⟩ (by first|omega|(simp only[];omega))) (by as_aux_lemma=>kernel_rfl)
    ·
     refine qR 3 [.c [3,0,1,0,0,2,0,0,2,0,1,0,0,3],.l [3,0,1,0,0,2,0,0,2,0,1,0,0],.b 2,.c [3,0,1,0,0,2,0,0,3],.b 1,.c [3,0,1,0,0,3],.l [3,0,1,0,0],.b 0,.c [4]] [(0,.I k),(4,.slice ao (((gen k n).take i).length) co),(5,.P b1 0),(6,.I i),(7,.slice (some ⟨b8,0,none⟩) k k),(21,.I n),(22,.I i),(28,.I ((k:Nat):Int)),(29,.I j)] ?_
     refine qG (sq 0 2) ?_
     refine qI .seq 55 (sq 1 2) ((j:Int)+1) ?_
     refine qF 1 [(0,.I k),(4,.slice ao (((gen k n).take i).length) co),(5,.P b1 0),(6,.I i),(7,.slice (some ⟨b8,0,none⟩) k k),(21,.I n),(22,.I i),(28,.I ((k:Nat):Int)),(29,.I ((j:Int)+1))] ?_
     have H:=H.reW (genTo_skip (by omega) (by omega) (by omega))
     exact WK.back (hback10 (j+1) _ ⟨H,by omega⟩ (by first|omega|(simp only[];omega))) (by as_aux_lemma=>kernel_rfl)
  ·
   refine qR 1 [.c [3,0,1,0,0,2,0,0,3],.b 1,.c [3,0,1,0,0,3],.l [3,0,1,0,0],.b 0,.c [4]] [(0,.I k),(4,.slice ao (((gen k n).take i).length) co),(5,.P b1 0),(7,.slice (some ⟨b8,0,none⟩) k k),(21,.I n),(22,.I i)] ?_
   refine qG (sq 0 5) ?_
   refine qP 2 (sq 2 5) [(0,.I k),(4,.slice ao (((gen k n).take i).length) co),(5,.P b1 0),(21,.I n),(22,.I i),(56,.slice ao (((gen k n).take i).length) co),(57,.slice (some ⟨b8,0,none⟩) k k)] ?_
   refine RW.new (κ:=.seq) (d:=some 58) (r:=(sq 3 5)) (o:=.cells #[.slice (some ⟨b8,0,none⟩) k k] 28 (0,0)) (v:=fun b=>.slice (some ⟨b,0,none⟩) 1 1) (fun b=>by as_aux_lemma=>kernel_rfl) (nofun) H ?_
   intro b33 w34 H
   have H:Hp w S [] [(b33,.cells #[.slice (some ⟨b8,0,none⟩) k k] 28 (0,0)),(b1,.cells #[.I 0] 75 (0,0))] [⟨SB,28,.slice ao (((gen k n).take i).length) co,(gen k n).take i⟩] [Rp SB [.slice (some ⟨b8,0,none⟩) k k] (genTo k i j)] _:=H.freezeW 0 rfl
   have H:=H.freeze 0 rfl SB ([genTo k i j]:List (List (BitVec 8))) 1 (by simp[maxLen]) (by first|exact Nat.le_refl _|simp) (EsP.cons (c:=[.slice (some ⟨b8,0,none⟩) k k]) (H.rp 0 rfl) EsP.nil)
   have H:Hp w S [] [(b1,.cells #[.I 0] 75 (0,0))] [⟨SB,28,.slice ao (((gen k n).take i).length) co,(gen k n).take i⟩] [Rp (Shape.slice SB) [.slice (some ⟨b33,0,none⟩) 1 1] ([genTo k i j]:List (List (BitVec 8))),Rp SB [.slice (some ⟨b8,0,none⟩) k k] (genTo k i j)] _:=H
   refine RW.appendW (d:=some 59) (r:=(sq 4 5)) (T:=74) (ty:=74) (e:=28) (m:=1) (by_:=24) (v:=.slice ao (((gen k n).take i).length) co) (a2:=(some ⟨b33,0,none⟩)) (l2:=1) (c2:=1) (zs:=(gen k n).take (i+1)) (by as_aux_lemma=>kernel_rfl) (by as_aux_lemma=>kernel_rfl) rfl H 0 rfl 0 rfl (by rw[genTo_all (by omega)];exact gen_take (by omega)) (by rw[List.length_take];omega) ?_
   intro a35 c36 w38 H hc37
   have H:Hp w S [] [(b1,.cells #[.I 0] 75 (0,0))] [⟨SB,28,.slice a35 (((gen k n).take (i+1)).length) c36,(gen k n).take (i+1)⟩] [Rp (Shape.slice SB) [.slice (some ⟨b33,0,none⟩) 1 1] ([genTo k i j]:List (List (BitVec 8))),Rp SB [.slice (some ⟨b8,0,none⟩) k k] (genTo k i j)] _:=H
   refine qF 1 [(0,.I k),(4,.slice a35 (((gen k n).take (i+1)).length) c36),(5,.P b1 0),(21,.I n),(22,.I i)] ?_
   refine qR 1 [.c [3,0,1,0,0,3],.l [3,0,1,0,0],.b 0,.c [4]] [(0,.I k),(4,.slice a35 (((gen k n).take (i+1)).length) c36),(5,.P b1 0),(21,.I n),(22,.I i)] ?_
   refine qG (sq 0 2) ?_
   refine qI .seq 60 (sq 1 2) ((i:Int)+1) ?_
   refine qF 1 [(0,.I k),(4,.slice a35 (((gen k n).take (i+1)).length) c36),(5,.P b1 0),(21,.I n),(22,.I ((i:Int)+1))] ?_
   have H:=H.pick [] rfl
   exact WK.back (hback5 (i+1,a35,c36) _ ⟨H,by omega⟩ (by first|omega|(simp only[];omega))) (by as_aux_lemma=>kernel_rfl)
 ·
  refine qR 2 [.c [4,0],.c [5]] [(4,.slice ao (((gen k n).take i).length) co),(5,.P b1 0)] ?_
  refine qG (sq 0 3) ?_
  refine qP 2 (sq 2 3) [(4,.slice ao (((gen k n).take i).length) co),(5,.P b1 0)] ?_
  refine qW 75 b1 0 (sq 3 3) (.I 0) [(b1,.cells #[.I 0] 75 (0,0))] H 0 rfl rfl ?_
  intro w39 H
  refine qF 0 [(4,.slice ao (((gen k n).take i).length) co),(5,.P b1 0)] ?_
  refine WK.retD (v:=.tuple #[.slice ao (((gen k n).take i).length) co,.I 0]) Tryz.func70 (by as_aux_lemma=>kernel_rfl) (refused_defer ⟨b1,0,none⟩) (RV.res2 (x:=.tmp 4) (y:=.cell 5 75) (by as_aux_lemma=>kernel_rfl) (RV.tmp (by as_aux_lemma=>kernel_rfl)) (RV.cell (k:=0) (by as_aux_lemma=>kernel_rfl) (H.cells 0 rfl) rfl (by as_aux_lemma=>kernel_rfl))) ?_
  have H:Hp w S [] [(b1,.cells #[.I 0] 75 (0,0))] [] [Rp (Shape.slice SB) [.slice ao (((gen k n).take i).length) co] ((gen k n).take i)] _:=H.freezeW 0 rfl
  rw[List.take_of_length_le (by rw[gen_len];omega)]at H⊢
  exact⟨_,rfl,H.done,_,_,rfl,H.out (H.rp 0 rfl)⟩
end Go.Proofs.YtcafjhnjhhicdaaGreatDoor
