import Derived.Test.YtcafjhnjhhicdaaGreatDoorSK0
namespace Go.Proofs.YtcafjhnjhhicdaaGreatDoor
open Go.BX
theorem hex_some{S:Nat→Prop}{w:World}{xs:List (BitVec 8)}{a:Option Addr}{c:Nat}(h:(Rp SB [.slice a xs.length c] xs).p S w)(hxl:xs.length≤1000000000)(hx0:xs.length≠0):
 Calls Tryz.prog 41 #[.slice a xs.length c] w (Ret fun v w'=>Ext w w'∧v=.string (hexB xs)):=by
 have hlen:=Shape.slice_len h
 refine qS (fn:=Tryz.f41) (n:=25) (σ:=[(0,.slice a xs.length c)]) Tryz.func41 ?_
 have H:=Hp.startF (w:=w) (S:=S) (G:=[Rp SB [.slice a xs.length c] xs]) (.rp h .nil)
 refine qR 5 [.c [1,0,1],.c [2]] [(0,.slice a xs.length c),(8,.bool (((xs.length:Nat):Int)==0))] ?_
 refine qE ((xs.length:Nat):Int) 0 (fun h1=>?_) (fun h1=>?_)
 ·
  omega
 ·
  refine qR 2 [.c [2,0],.c [3]] [(0,.slice a xs.length c)] ?_
  refine qG (sq 0 1) ?_
  refine qB .seq 3 (sq 1 1) #[.pointer none,.slice none 0 0] 150 H ?_
  intro b2 w3 H
  refine qF 0 [(0,.slice a xs.length c),(3,.P b2 0)] ?_
  refine qR 4 [.c [3,0,1,0],.b 0,.c [4]] [(3,.P b2 0),(9,.slice a xs.length c),(10,.I ((xs.length:Nat):Int)),(11,.I 0)] ?_
  have hB0:Lib.IsBuilderF 150 5 w.heap.size b2 (Lib.byteCells (hexL (xs.take 0))) _:=fresh_b (H.own _ (List.mem_cons_self ..)).1 ((H.own _ (List.mem_cons_self ..)).2.elim id fun h=>by cases h)
  have H:=H.dropM 0
  generalize b2=sb at hB0⊢
  refine WK.loop (α:=Nat) (b:=cd Tryz.prog 41 [3,0,1,0,0]) (by as_aux_lemma=>kernel_rfl) (fun i=>[(3,.P sb 0),(9,.slice a xs.length c),(10,.I ((xs.length:Nat):Int)),(11,.I i)]) (fun i w'=>Hp w S [] [] [] [Rp SB [.slice a xs.length c] xs] w'∧i≤xs.length∧Lib.IsBuilderF 150 5 w.heap.size sb (Lib.byteCells (hexL (xs.take i))) w') (fun i=>xs.length-i) 0 ⟨H,Nat.zero_le _,hB0⟩ (rfl) ?_
  rintro i w5⟨H,hinv0⟩hback4
  have hE0:=H.done
  refine qR 3 [.c [3,0,1,0,0,1,0],.c [3,0,1,0,0,2],.l [3,0,1,0,0],.b 0,.c [4]] [(3,.P sb 0),(9,.slice a xs.length c),(10,.I ((xs.length:Nat):Int)),(11,.I i),(12,.bool (decide (((i:Int):Int)<((xs.length:Nat):Int))))] ?_
  refine qD (((i:Int):Int)<((xs.length:Nat):Int)) (fun h6=>?_) (fun h6=>?_)
  ·
   refine qR 4 [.c [3,0,1,0,0,2,0,0,0],.c [3,0,1,0,0,2,0,0,1],.b 1,.c [3,0,1,0,0,3],.l [3,0,1,0,0],.b 0,.c [4]] [(3,.P sb 0),(9,.slice a xs.length c),(10,.I ((xs.length:Nat):Int)),(11,.I i)] ?_
   refine qG (sq 0 3) ?_
   have hx7:i<xs.length:=by omega
   refine qX .seq 13 (sq 1 3) 28 5 (i:Int) Sb (xs[i]) H 0 rfl i (by omega) (List.getElem?_eq_getElem hx7) ?_
   intro b8 o9 es10 hr11 H
   obtain rfl:=hr11
   refine qL .seq 14 (sq 2 3) 5 b8 o9 0 (.int .u8 (((xs[i]).toNat:Nat):Int)) (H.fc 0 rfl) ?_
   refine qF 1 [(3,.P sb 0),(5,.int .u8 (((xs[i]).toNat:Nat):Int)),(9,.slice a xs.length c),(10,.I ((xs.length:Nat):Int)),(11,.I i)] ?_
   refine qR 1 [.c [3,0,1,0,0,2,0,0,1,0],.c [3,0,1,0,0,2,0,0,2],.b 1,.c [3,0,1,0,0,3],.l [3,0,1,0,0],.b 0,.c [4]] [(3,.P sb 0),(5,.int .u8 (((xs[i]).toNat:Nat):Int)),(9,.slice a xs.length c),(10,.I ((xs.length:Nat):Int)),(11,.I i)] ?_
   refine qG (sq 0 4) ?_
   refine qP 1 (sq 1 4) [(3,.P sb 0),(5,.int .u8 (((xs[i]).toNat:Nat):Int)),(9,.slice a xs.length c),(10,.I ((xs.length:Nat):Int)),(11,.I i),(15,.int .u8 (((xs[i]).toNat:Nat):Int))] ?_
   refine RW.pv (κ:=.seq) (d:=some 16) (r:=(sq 2 4)) (v:=.int .u8 ((((xs[i]).toNat:Nat):Int).fdiv (2^4))) (v':=.int .u8 (((((xs[i])>>>4).toNat:Nat):Int))) (by as_aux_lemma=>kernel_rfl) (bv_shr8 _ 4) ?_
   refine RW.strNib (κ:=.seq) (d:=some 17) (r:=(sq 3 4)) (T:=9) (k:=.u8) (t:=((((xs[i])>>>4).toNat:Nat):Int)) (((xs[i])>>>4).toNat) (by as_aux_lemma=>kernel_rfl) (by as_aux_lemma=>kernel_rfl) rfl (hi_lt _) ?_
   refine RW.callS (d:=some 18) (r:=(sq 4 4)) (g:=72) (args:=#[.P sb 0,.int .u8 (((nib ((xs[i])>>>4).toNat).toNat:Nat):Int)]) (by as_aux_lemma=>kernel_rfl) (wb_c (l:=(hexL (xs.take i))) (d:=nib ((xs[i])>>>4).toNat) hE0 hinv0.2 (by simp only[List.length_append,List.length_cons,List.length_nil,hexL_len];rw[List.length_take];omega)) ?_
   rintro _ w12⟨rfl,hE13,hI14⟩
   have H:=(Hp.startF (w:=w) (S:=S) (G:=[Rp SB [.slice a xs.length c] xs]) (.rp h .nil)).ext hE13
   refine qF 0 [(3,.P sb 0),(5,.int .u8 (((xs[i]).toNat:Nat):Int)),(9,.slice a xs.length c),(10,.I ((xs.length:Nat):Int)),(11,.I i)] ?_
   refine qG (sq 0 4) ?_
   refine qP 1 (sq 1 4) [(3,.P sb 0),(9,.slice a xs.length c),(10,.I ((xs.length:Nat):Int)),(11,.I i),(19,.int .u8 (((xs[i]).toNat:Nat):Int))] ?_
   refine RW.pv (κ:=.seq) (d:=some 20) (r:=(sq 2 4)) (v:=.int .u8 (IntKind.u8.wrap ((BitVec.ofInt 8 (((xs[i]).toNat:Nat):Int)&&&BitVec.ofInt 8 15).toNat:Nat))) (v':=.int .u8 (((((xs[i])&&&(15#8)).toNat:Nat):Int))) (by as_aux_lemma=>kernel_rfl) (bv_and8 (bvi _) (by decide)) ?_
   refine RW.strNib (κ:=.seq) (d:=some 21) (r:=(sq 3 4)) (T:=9) (k:=.u8) (t:=((((xs[i])&&&(15#8)).toNat:Nat):Int)) (((xs[i])&&&(15#8)).toNat) (by as_aux_lemma=>kernel_rfl) (by as_aux_lemma=>kernel_rfl) rfl (lo_lt _) ?_
   refine RW.callS (d:=some 22) (r:=(sq 4 4)) (g:=72) (args:=#[.P sb 0,.int .u8 (((nib ((xs[i])&&&(15#8)).toNat).toNat:Nat):Int)]) (by as_aux_lemma=>kernel_rfl) (wb_c (l:=((hexL (xs.take i))++[nib ((xs[i])>>>4).toNat])) (d:=nib ((xs[i])&&&(15#8)).toNat) hE13 hI14 (by simp only[List.length_append,List.length_cons,List.length_nil,hexL_len];rw[List.length_take];omega)) ?_
   rintro _ w15⟨rfl,hE16,hI17⟩
   have H:=(Hp.startF (w:=w) (S:=S) (G:=[Rp SB [.slice a xs.length c] xs]) (.rp h .nil)).ext hE16
   refine qF 0 [(3,.P sb 0),(9,.slice a xs.length c),(10,.I ((xs.length:Nat):Int)),(11,.I i)] ?_
   refine qR 1 [.c [3,0,1,0,0,3],.l [3,0,1,0,0],.b 0,.c [4]] [(3,.P sb 0),(9,.slice a xs.length c),(10,.I ((xs.length:Nat):Int)),(11,.I i)] ?_
   refine qG (sq 0 2) ?_
   refine qI .seq 23 (sq 1 2) ((i:Int)+1) ?_
   refine qF 1 [(3,.P sb 0),(9,.slice a xs.length c),(10,.I ((xs.length:Nat):Int)),(11,.I ((i:Int)+1))] ?_
   exact WK.back (hback4 (i+1) _ ⟨H,by omega,by rw[hexL_succ (by omega)];exact hI17⟩ (by first|omega|(simp only[];omega))) (by as_aux_lemma=>kernel_rfl)
  ·
   refine qR 2 [.c [4,0],.c [5]] [(3,.P sb 0)] ?_
   refine qG (sq 0 2) ?_
   refine RW.callS (d:=some 24) (r:=(sq 1 2)) (g:=73) (args:=#[.P sb 0]) (by as_aux_lemma=>kernel_rfl) (bs_c hE0 hinv0.2) ?_
   rintro _ w18⟨rfl,hE19⟩
   have H:=(Hp.startF (w:=w) (S:=S) (G:=[Rp SB [.slice a xs.length c] xs]) (.rp h .nil)).ext hE19
   refine qF 1 [(2,.string (⟨(hexL (xs.take i)).toArray⟩:ByteArray))] ?_
   refine qT (.string (⟨(hexL (xs.take i)).toArray⟩:ByteArray)) Tryz.func41 ?_
   have hie:i=xs.length:=by omega
   rw[hie,List.take_of_length_le (Nat.le_refl _)]
   exact⟨_,rfl,H.done,by unfold hexB;rw[if_neg hx0]⟩
theorem hex_none{S:Nat→Prop}{w:World}{a:Option Addr}{c:Nat}:
 Calls Tryz.prog 41 #[.slice a 0 c] w (Ret fun v w'=>Ext w w'∧v=.string (⟨#[45]⟩:ByteArray)):=by
 refine qS (fn:=Tryz.f41) (n:=25) (σ:=[(0,.slice a 0 c)]) Tryz.func41 ?_
 have H:=Hp.startF (w:=w) (S:=S) (G:=[]) .nil
 refine qR 8 [.c [1,0,1,0,1],.c [2]] [(2,.string (⟨#[45]⟩:ByteArray))] ?_
 refine qT (.string (⟨#[45]⟩:ByteArray)) Tryz.func41 ?_
 exact⟨_,rfl,H.done,rfl⟩
theorem hex_c{S:Nat→Prop}{w:World}{xs:List (BitVec 8)}{a:Option Addr}{c:Nat}(h:(Rp SB [.slice a xs.length c] xs).p S w)(hxl:xs.length≤1000000000):Calls Tryz.prog 41 #[.slice a xs.length c] w (Ret fun v w'=>Ext w w'∧v=.string (hexB xs)):=by
 by_cases hx:xs.length= 0
 · have h2 :=hex_none (S:=S) (w:=w) (a:=a) (c:=c)
   unfold hexB
   rw[if_pos hx,hx]
   exact h2
 ·exact hex_some h hxl hx
end Go.Proofs.YtcafjhnjhhicdaaGreatDoor
