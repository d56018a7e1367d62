import Derived.Test.YtcafjhnjhhicdaaGreatDoorSG3
import Derived.Test.YtcafjhnjhhicdaaGreatDoorSBxA
namespace Go.Proofs.YtcafjhnjhhicdaaGreatDoor
open Go.BX
def scaleL(row:List (BitVec 8))(c:BitVec 8):List (BitVec 8):=mixL (List.replicate row.length 0#8) row c
theorem scaleL_len(row:List (BitVec 8))(c:BitVec 8):(scaleL row c).length=row.length:=by
 unfold scaleL
 rw[mixL_len (by rw[List.length_replicate]),List.length_replicate]
def rowAt(L:List (List (BitVec 8)))(i:Nat):List (BitVec 8):=(L[i]?).getD []
def entAt(L:List (List (BitVec 8)))(i j:Nat):BitVec 8:=((rowAt L i)[j]?).getD 0#8
theorem rowAt_eq{L:List (List (BitVec 8))}{i:Nat}(h:i<L.length):rowAt L i=L[i]:=by
 unfold rowAt
 rw[List.getElem?_eq_getElem h]
 rfl
theorem entAt_eq{L:List (List (BitVec 8))}{i j:Nat}(h:i<L.length)(hj:j<(L[i]).length):entAt L i j=(L[i])[j]:=by
 unfold entAt
 rw[rowAt_eq h,List.getElem?_eq_getElem hj]
 rfl
def clTo(A L:List (List (BitVec 8)))(p:List (BitVec 8))(at_ col m:Nat):List (List (BitVec 8)):=
 (List.range A.length).map fun i=>if i<m∧i≠at_∧entAt L i col≠0#8 then mixL (rowAt A i) p (entAt L i col)else rowAt A i
theorem clTo_len(A L:List (List (BitVec 8)))(p:List (BitVec 8))(at_ col m:Nat):(clTo A L p at_ col m).length=A.length:=by simp[clTo]
theorem clTo_zero(A L:List (List (BitVec 8)))(p:List (BitVec 8))(at_ col:Nat):clTo A L p at_ col 0=A:=by
 apply List.ext_getElem (by simp[clTo])
 intro i h1 h2
 simp only[clTo,List.getElem_map,List.getElem_range]
 rw[if_neg (by omega),rowAt_eq h2]
theorem clTo_at{A L:List (List (BitVec 8))}{p:List (BitVec 8)}{at_ col m i:Nat}(hi:i<A.length)(h:m≤i∨i=at_):(clTo A L p at_ col m)[i]?=some A[i]:=by
 simp only[clTo,List.getElem?_map,List.getElem?_range hi,Option.map_some]
 rw[if_neg (by omega),rowAt_eq hi]
theorem clTo_get{A L:List (List (BitVec 8))}{p:List (BitVec 8)}{at_ col m i:Nat}(hi:i<A.length)(h:m≤i∨i=at_)(h':i<(clTo A L p at_ col m).length):(clTo A L p at_ col m)[i]=A[i]:=by
 have:=clTo_at (L:=L) (p:=p) (col:=col) hi h
 rw[List.getElem?_eq_getElem h']at this
 exact Option.some.inj this
theorem clTo_hit{A L:List (List (BitVec 8))}{p:List (BitVec 8)}{at_ col m:Nat}(hm:m<A.length)(h1:m≠at_)(h2:entAt L m col≠0#8):(clTo A L p at_ col m).set m (mixL A[m] p (entAt L m col))=clTo A L p at_ col (m+1):=by
 apply List.ext_getElem (by simp[clTo])
 intro i h3 h4
 simp only[clTo,List.getElem_set,List.getElem_map,List.getElem_range]
 by_cases hi:m = i
 · subst hi
   rw[if_pos rfl,if_pos ⟨by omega,h1,h2⟩,rowAt_eq hm]
 · rw[if_neg hi]
   by_cases h5 : i <m∧i≠at_∧entAt L i col≠0#8
   ·rw[if_pos h5,if_pos ⟨by omega,h5.2⟩]
   ·rw[if_neg h5,if_neg fun h6=>h5 ⟨by have:=h6.1;omega,h6.2⟩]
theorem clTo_hit'{A L:List (List (BitVec 8))}{p row:List (BitVec 8)}{at_ col m:Nat}{x:BitVec 8}(hm:m<A.length)(h1:m≠at_)(hx:entAt L m col=x)(h2:x≠0#8)(hr:A[m]=row):(clTo A L p at_ col m).set m (mixL row p x)=clTo A L p at_ col (m+1):=by
 subst hx
 subst hr
 exact clTo_hit hm h1 h2
theorem clTo_miss{A L:List (List (BitVec 8))}{p:List (BitVec 8)}{at_ col m:Nat}(h:m=at_∨entAt L m col=0#8):clTo A L p at_ col m=clTo A L p at_ col (m+1):=by
 unfold clTo
 refine List.map_congr_left fun i hi=>?_
 by_cases h5:i<m∧i≠at_∧entAt L i col≠0#8
 ·rw[if_pos h5,if_pos ⟨by omega,h5.2⟩]
 ·rw[if_neg h5,if_neg fun h6=>h5 ⟨by
    rcases Nat.lt_or_eq_of_le (Nat.le_of_lt_succ h6.1)with h7|h7
    · exact h7
    · subst h7
      rcases h with h |h
      ·exact absurd h h6.2.1
      ·exact absurd h h6.2.2,h6.2⟩]
def clearL(L:List (List (BitVec 8)))(at_ col:Nat):List (List (BitVec 8)):=
 let p:=scaleL (rowAt L at_) (ginv (entAt L at_ col))
 let L1:=L.set at_ p
 clTo L1 L1 p at_ col L1.length
def clearR(L R:List (List (BitVec 8)))(at_ col:Nat):List (List (BitVec 8)):=
 let iv:=ginv (entAt L at_ col)
 let L1:=L.set at_ (scaleL (rowAt L at_) iv)
 clTo (R.set at_ (scaleL (rowAt R at_) iv)) L1 (scaleL (rowAt R at_) iv) at_ col R.length
theorem clearL_len(L:List (List (BitVec 8)))(at_ col:Nat):(clearL L at_ col).length=L.length:=by
 unfold clearL
 rw[clTo_len,List.length_set]
theorem clearR_len(L R:List (List (BitVec 8)))(at_ col:Nat):(clearR L R at_ col).length=R.length:=by
 unfold clearR
 rw[clTo_len,List.length_set]
theorem set_all{L:List (List (BitVec 8))}{c:Nat}(h:∀x∈L,x.length=c){i:Nat}{y:List (BitVec 8)}(hy:y.length=c):∀x∈L.set i y,x.length=c:=fun x hx=>by
 rcases List.mem_or_eq_of_mem_set hx with hx|hx
 ·exact h x hx
 ·subst hx;exact hy
theorem rowAt_len{L:List (List (BitVec 8))}{c:Nat}(h:∀x∈L,x.length=c){i:Nat}(hi:i<L.length):(rowAt L i).length=c:=by
 rw[rowAt_eq hi]
 exact h _ (List.getElem_mem hi)
theorem clTo_all{A L:List (List (BitVec 8))}{p:List (BitVec 8)}{at_ col m c:Nat}(hA:∀x∈A,x.length=c)(hp:p.length=c):∀x∈clTo A L p at_ col m,x.length=c:=fun x hx=>by
 obtain⟨i,hi,rfl⟩:=List.mem_map.1 hx
 have hi:=List.mem_range.1 hi
 have h1:=rowAt_len hA hi
 split
 · rw[mixL_len (by rw[h1, hp])]
   exact h1
 · exact h1
theorem clearL_all{L:List (List (BitVec 8))}{at_ col c:Nat}(hL:∀x∈L,x.length=c)(h:at_<L.length):∀x∈clearL L at_ col,x.length=c:=
 clTo_all (set_all hL (by rw[scaleL_len,rowAt_len hL h])) (by rw[scaleL_len,rowAt_len hL h])
theorem clearR_all{L R:List (List (BitVec 8))}{at_ col c:Nat}(hR:∀x∈R,x.length=c)(h:at_<R.length):∀x∈clearR L R at_ col,x.length=c:=
 clTo_all (set_all hR (by rw[scaleL_len,rowAt_len hR h])) (by rw[scaleL_len,rowAt_len hR h])
def swapL(L:List (List (BitVec 8)))(i j:Nat):List (List (BitVec 8)):=(L.set i (rowAt L j)).set j (rowAt L i)
theorem swapL_len(L:List (List (BitVec 8)))(i j:Nat):(swapL L i j).length=L.length:=by simp[swapL]
theorem swapL_all{L:List (List (BitVec 8))}{i j c:Nat}(h:∀x∈L,x.length=c)(hi:i<L.length)(hj:j<L.length):∀x∈swapL L i j,x.length=c:=
 set_all (set_all h (rowAt_len h hj)) (rowAt_len h hi)
theorem swapL_ent{L:List (List (BitVec 8))}{i j col:Nat}(hj:j<L.length):entAt (swapL L i j) j col=entAt L i col:=by
 unfold entAt swapL
 have:rowAt ((L.set i (rowAt L j)).set j (rowAt L i)) j=rowAt L i:=by
  have hl:j<((L.set i (rowAt L j)).set j (rowAt L i)).length:=by simp[hj]
  rw[rowAt_eq hl]
  simp
 rw[this]
def firstP(L:List (List (BitVec 8)))(col dn:Nat):Option Nat:=(List.range L.length).find? fun i=>decide (dn≤i∧entAt L i col≠0#8)
def redStep(s:Nat×List (List (BitVec 8))×List (List (BitVec 8)))(col:Nat):Nat×List (List (BitVec 8))×List (List (BitVec 8)):=
 match firstP s.2.1 col s.1 with
 |none=>s
 |some i=>(s.1+1,clearL (swapL s.2.1 i s.1) s.1 col,clearR (swapL s.2.1 i s.1) (swapL s.2.2 i s.1) s.1 col)
def redTo(L R:List (List (BitVec 8)))(m:Nat):Nat×List (List (BitVec 8))×List (List (BitVec 8)):=(List.range m).foldl redStep (0,L,R)
theorem redTo_succ(L R:List (List (BitVec 8)))(m:Nat):redTo L R (m+1)=redStep (redTo L R m) m:=by
 unfold redTo
 rw[List.range_succ,List.foldl_append]
 rfl
theorem firstP_some{L:List (List (BitVec 8))}{col dn i:Nat}(hi:i<L.length)(hd:dn≤i)(hz:entAt L i col≠0#8)(hn:∀j,dn≤j→j<i→entAt L j col=0#8):firstP L col dn=some i:=by
 unfold firstP
 rw[List.find?_eq_some_iff_append]
 refine⟨decide_eq_true ⟨hd,hz⟩,List.range i,(List.range (L.length-i-1)).map (·+(i+1)), ?_, fun j hj =>?_⟩
 · have e :L.length=i+(1+(L.length-i-1)):=by omega
   conv=>lhs;rw[e,List.range_add,List.range_add]
   simp[Function.comp_def,Nat.add_comm,Nat.add_left_comm]
 · have hj := List.mem_range.1 hj
   rw[decide_eq_false fun h => h.2 (hn j h.1 hj)]
   rfl
theorem firstP_none{L:List (List (BitVec 8))}{col dn:Nat}(hn:∀j,dn≤j→j<L.length→entAt L j col=0#8):firstP L col dn=none:=by
 unfold firstP
 rw[List.find?_eq_none]
 intro j hj
 have hj:=List.mem_range.1 hj
 rw[decide_eq_false fun h=>h.2 (hn j h.1 hj)]
 decide
theorem redStep_hit{L R:List (List (BitVec 8))}{dn col i:Nat}(h:firstP L col dn=some i):redStep (dn,L,R) col=(dn+1,clearL (swapL L i dn) dn col,clearR (swapL L i dn) (swapL R i dn) dn col):=by
 unfold redStep
 simp only[h]
theorem redStep_miss{L R:List (List (BitVec 8))}{dn col:Nat}(h:firstP L col dn=none):redStep (dn,L,R) col=(dn,L,R):=by
 unfold redStep
 simp only[h]
def idRow(n i:Nat):List (BitVec 8):=(List.replicate n 0#8).set i 1#8
def ident(n:Nat):List (List (BitVec 8)):=(List.range n).map (idRow n)
theorem ident_len(n:Nat):(ident n).length=n:=by simp[ident]
theorem ident_all(n:Nat):∀x∈ident n,x.length=n:=fun x hx=>by
 obtain⟨i,_,rfl⟩:=List.mem_map.1 hx
 simp[idRow]
theorem ident_take{n i:Nat}(h:i<n):(ident n).take i++[idRow n i]=(ident n).take (i+1):=by
 rw[List.take_succ_eq_append_getElem (by rw[ident_len];exact h)]
 simp[ident]
def pickL(m:List (List (BitVec 8)))(rows:List Int):List (List (BitVec 8)):=rows.map fun r=>rowAt m r.toNat
theorem take_snoc'{α:Type}{l:List α}{i:Nat}(h:i<l.length):l.take i++[l[i]]=l.take (i+1):=(List.take_succ_eq_append_getElem h).symm
theorem bvz{x:BitVec 8}(h:¬((x.toNat:Nat):Int)=0):x≠0#8:=fun e=>h (by rw[e];rfl)
theorem bvz0{x:BitVec 8}(h:((x.toNat:Nat):Int)=0):x=0#8:=BitVec.eq_of_toNat_eq (by rw[show(0#8).toNat=0 from rfl];omega)
theorem scaled_spec{S:Nat→Prop}{w:World}{row:List (BitVec 8)}{a:Option Addr}{k:Nat}(c:BitVec 8)(h:SB.rep S w [.slice a row.length k] row)(hl:row.length≤1099511627776):
 Calls Tryz.prog 257 #[.slice a row.length k,.int .u8 ((c.toNat:Nat):Int)] w (Ret fun v w'=>Ext w w'∧Hp w S [] [] [⟨Sb,5,v,scaleL row c⟩] [] w'):=by
 have hrl:(List.replicate row.length (0#8:BitVec 8)).length=row.length:=List.length_replicate
 refine qS (fn:=Tryz.f257) (n:=17) (σ:=[(0,.slice a row.length k),(1,.int .u8 ((c.toNat:Nat):Int))]) Tryz.func257 ?_
 have H:=Hp.startF (w:=w) (S:=S) (G:=[Rp SB [.slice a row.length k] row]) (.rp h .nil)
 refine qR 3 [.c [1,0],.c [2]] [(0,.slice a row.length k),(1,.int .u8 ((c.toNat:Nat):Int))] ?_
 refine qG (sq 0 11) ?_
 refine qP 2 (sq 2 11) [(0,.slice a row.length k),(1,.int .u8 ((c.toNat:Nat):Int)),(9,.I ((row.length:Nat):Int))] ?_
 refine RW.makeW Sb (κ:=.seq) (d:=some 10) (r:=(sq 3 11)) (T:=28) (e:=5) (by_:=1) (v0:=.int .u8 0) (0#8:BitVec 8) (kl:=.i64) (kc:=.i64) (lv:=((row.length:Nat):Int)) (cv:=((row.length:Nat):Int)) (by as_aux_lemma=>kernel_rfl) (nofun) (by as_aux_lemma=>kernel_rfl) rfl H row.length row.length (by omega) (by omega) (by omega) (by omega) (by omega) (fun _ _=>rfl) ?_
 intro b1 w2 H
 have H:Hp w S [] [] [⟨Sb,5,.slice (some ⟨b1,0,none⟩) row.length row.length,(List.replicate row.length (0#8:BitVec 8))⟩] [Rp SB [.slice a row.length k] row] _:=H
 refine qP 2 (sq 5 11) [(10,.slice (some ⟨b1,0,none⟩) row.length row.length),(11,.slice a row.length k),(12,.int .u8 ((c.toNat:Nat):Int))] ?_
 have H:Hp w S [] [] [] [Rp SB [.slice (some ⟨b1,0,none⟩) row.length row.length] (List.replicate row.length (0#8:BitVec 8)),Rp SB [.slice a row.length k] row] _:=H.freezeW 0 rfl
 rw[show(Value.slice (some ⟨b1,0,none⟩) row.length row.length)=.slice (some ⟨b1,0,none⟩) (List.replicate row.length (0#8:BitVec 8)).length row.length by rw[List.length_replicate]]at H⊢
 refine qK .seq (some 13) (sq 6 11) 108 #[.slice (some ⟨b1,0,none⟩) ((List.replicate row.length (0#8:BitVec 8)).length) row.length,.slice a row.length k,.int .u8 ((c.toNat:Nat):Int)] (mix_spec (xs:=(List.replicate row.length (0#8:BitVec 8))) (ys:=row) c (H.rp 0 rfl) (H.rp 1 rfl) (by first|omega|assumption) (by omega)) ?_
 rintro _ w3-⟨a4,k5,rfl,H'⟩
 have H:=H.back (M1:=[]) (W1:=[]) H'
 have H:Hp w S [] [] [⟨Sb,5,.slice a4 ((mixL (List.replicate row.length (0#8:BitVec 8)) row c).length) k5,mixL (List.replicate row.length (0#8:BitVec 8)) row c⟩] [Rp SB [.slice (some ⟨b1,0,none⟩) ((List.replicate row.length (0#8:BitVec 8)).length) row.length] (List.replicate row.length (0#8:BitVec 8)),Rp SB [.slice a row.length k] row] _:=H
 refine qF 5 [(5,.slice a4 ((mixL (List.replicate row.length (0#8:BitVec 8)) row c).length) k5)] ?_
 refine qR 2 [.c [3]] [(4,.slice a4 ((mixL (List.replicate row.length (0#8:BitVec 8)) row c).length) k5)] ?_
 refine qT (.slice a4 ((mixL (List.replicate row.length (0#8:BitVec 8)) row c).length) k5) Tryz.func257 ?_
 have H:=H.drop (M':=[]) (W':=[_]) (List.nil_sublist _) (List.cons_sublist_cons.2 (List.nil_sublist _))
 exact⟨_,rfl,H.done,H.pick [] rfl⟩
theorem copied2_spec{S:Nat→Prop}{w:World}{m:List (List (BitVec 8))}{a:Option Addr}{k:Nat}(h:(Shape.slice SB).rep S w [.slice a m.length k] m)(hr:m.length≤255)(hc:∀x∈m,x.length≤140737488355328):
 Calls Tryz.prog 173 #[.slice a m.length k] w (Ret fun v w'=>Ext w w'∧Hp w S [] [] [⟨SB,28,v,m⟩] [] w'):=by
 have hml:=Shape.slice_len h
 refine qS (fn:=Tryz.f173) (n:=19) (σ:=[(0,.slice a m.length k)]) Tryz.func173 ?_
 have H:=Hp.startF (w:=w) (S:=S) (G:=[Rp (Shape.slice SB) [.slice a m.length k] m]) (.rp h .nil)
 refine qR 8 [.c [2,0,1,0],.b 0,.c [3]] [(3,.slice none 0 0),(6,.slice a m.length k),(7,.I ((m.length:Nat):Int)),(8,.I 0)] ?_
 have H:=H.ownNil SB 28
 have H:=H.drop (M':=[]) (W':=[⟨SB,28,.slice none (m.take 0).length 0,m.take 0⟩]) (by repeat(first|exact List.Sublist.refl _|exact List.nil_sublist _|apply List.Sublist.cons_cons|apply List.Sublist.cons)) (by repeat(first|exact List.Sublist.refl _|exact List.nil_sublist _|apply List.Sublist.cons_cons|apply List.Sublist.cons))
 refine WK.loop (α:=Nat×Option Addr×Nat) (b:=cd Tryz.prog 173 [2,0,1,0,0]) (by as_aux_lemma=>kernel_rfl) (fun st_=>match st_ with|(i,ao,co)=>[(3,.slice ao (m.take i).length co),(6,.slice a m.length k),(7,.I ((m.length:Nat):Int)),(8,.I i)]) (fun st_ w'=>match st_ with|(i,ao,co)=>Hp w S [] [] [⟨SB,28,.slice ao (m.take i).length co,m.take i⟩] [Rp (Shape.slice SB) [.slice a m.length k] m] w'∧i≤m.length) (fun st_=>match st_ with|(i,ao,co)=>m.length-i) (0,none,0) ⟨H,Nat.zero_le _⟩ (rfl) ?_
 rintro⟨i,ao,co⟩w2⟨H,hinv0⟩hback1
 refine qR 3 [.c [2,0,1,0,0,1,0],.c [2,0,1,0,0,2],.l [2,0,1,0,0],.b 0,.c [3]] [(3,.slice ao (m.take i).length co),(6,.slice a m.length k),(7,.I ((m.length:Nat):Int)),(8,.I i),(9,.bool (decide (((i:Int):Int)<((m.length:Nat):Int))))] ?_
 refine qD (((i:Int):Int)<((m.length:Nat):Int)) (fun h3=>?_) (fun h3=>?_)
 ·
  have hcl:=hc (m[i]) (List.getElem_mem (by omega))
  refine qR 4 [.c [2,0,1,0,0,2,0,0,0],.c [2,0,1,0,0,2,0,0,1],.b 1,.c [2,0,1,0,0,3],.l [2,0,1,0,0],.b 0,.c [3]] [(3,.slice ao (m.take i).length co),(6,.slice a m.length k),(7,.I ((m.length:Nat):Int)),(8,.I i)] ?_
  refine qG (sq 0 3) ?_
  have hx4:i<m.length:=by omega
  refine qX .seq 10 (sq 1 3) 74 28 (i:Int) SB (m[i]) H 0 rfl i (by omega) (List.getElem?_eq_getElem hx4) ?_
  intro b5 o6 es7 hr8 H
  obtain⟨a9,k10,rfl⟩:=Shape.slice_form' hr8
  have H:=H.add (F:=Rp SB [.slice a9 (m[i]).length k10] (m[i])) hr8
  refine qL .seq 11 (sq 2 3) 28 b5 o6 0 (.slice a9 (m[i]).length k10) (H.fc 1 rfl) ?_
  refine qF 1 [(3,.slice ao (m.take i).length co),(5,.slice a9 (m[i]).length k10),(6,.slice a m.length k),(7,.I ((m.length:Nat):Int)),(8,.I i)] ?_
  refine qG (sq 0 6) ?_
  refine qP 2 (sq 2 6) [(3,.slice ao (m.take i).length co),(6,.slice a m.length k),(7,.I ((m.length:Nat):Int)),(8,.I i),(12,.slice ao (m.take i).length co),(13,.slice a9 (m[i]).length k10)] ?_
  have H:=H.ownNil Sb 5
  have H:Hp w S [] [] [⟨Sb,5,.slice none 0 0,[]⟩,⟨SB,28,.slice ao (m.take i).length co,m.take i⟩] [Rp SB [.slice a9 (m[i]).length k10] (m[i]),Fc b5 o6 [.slice a9 (m[i]).length k10],Rp (Shape.slice SB) [.slice a m.length k] m] _:=H
  refine RW.appendW (d:=some 14) (r:=(sq 3 6)) (T:=28) (ty:=28) (e:=5) (m:=1) (by_:=1) (v:=.slice none 0 0) (a2:=a9) (l2:=(m[i]).length) (c2:=k10) (zs:=m[i]) (by as_aux_lemma=>kernel_rfl) (by as_aux_lemma=>kernel_rfl) rfl H 0 rfl 0 rfl (rfl) (by omega) ?_
  intro a11 c12 w14 H hc13
  have H:Hp w S [] [] [⟨Sb,5,.slice a11 (m[i]).length c12,m[i]⟩,⟨SB,28,.slice ao (m.take i).length co,m.take i⟩] [Rp SB [.slice a9 (m[i]).length k10] (m[i]),Fc b5 o6 [.slice a9 (m[i]).length k10],Rp (Shape.slice SB) [.slice a m.length k] m] _:=H
  refine RW.new (κ:=.seq) (d:=some 15) (r:=(sq 4 6)) (o:=.cells #[.slice a11 (m[i]).length c12] 28 (0,0)) (v:=fun b=>.slice (some ⟨b,0,none⟩) 1 1) (fun b=>by as_aux_lemma=>kernel_rfl) (nofun) H ?_
  intro b15 w16 H
  have H:Hp w S [] [(b15,.cells #[.slice a11 (m[i]).length c12] 28 (0,0))] [⟨SB,28,.slice ao (m.take i).length co,m.take i⟩] [Rp SB [.slice a11 (m[i]).length c12] (m[i]),Rp SB [.slice a9 (m[i]).length k10] (m[i]),Fc b5 o6 [.slice a9 (m[i]).length k10],Rp (Shape.slice SB) [.slice a m.length k] m] _:=H.freezeW 0 rfl
  have H:=H.freeze 0 rfl SB ([m[i]]:List (List (BitVec 8))) 1 (by simp[maxLen]) (by first|exact Nat.le_refl _|simp) (EsP.cons (c:=[.slice a11 (m[i]).length c12]) (H.rp 0 rfl) EsP.nil)
  have H:Hp w S [] [] [⟨SB,28,.slice ao (m.take i).length co,m.take i⟩] [Rp (Shape.slice SB) [.slice (some ⟨b15,0,none⟩) 1 1] ([m[i]]:List (List (BitVec 8))),Rp SB [.slice a11 (m[i]).length c12] (m[i]),Rp SB [.slice a9 (m[i]).length k10] (m[i]),Fc b5 o6 [.slice a9 (m[i]).length k10],Rp (Shape.slice SB) [.slice a m.length k] m] _:=H
  refine RW.appendW (d:=some 16) (r:=(sq 5 6)) (T:=74) (ty:=74) (e:=28) (m:=1) (by_:=24) (v:=.slice ao (m.take i).length co) (a2:=(some ⟨b15,0,none⟩)) (l2:=1) (c2:=1) (zs:=m.take (i+1)) (by as_aux_lemma=>kernel_rfl) (by as_aux_lemma=>kernel_rfl) rfl H 0 rfl 0 rfl (take_snoc' (by omega)) (by rw[List.length_take];omega) ?_
  intro a17 c18 w20 H hc19
  have H:Hp w S [] [] [⟨SB,28,.slice a17 ((m.take (i+1)).length) c18,m.take (i+1)⟩] [Rp (Shape.slice SB) [.slice (some ⟨b15,0,none⟩) 1 1] ([m[i]]:List (List (BitVec 8))),Rp SB [.slice a11 (m[i]).length c12] (m[i]),Rp SB [.slice a9 (m[i]).length k10] (m[i]),Fc b5 o6 [.slice a9 (m[i]).length k10],Rp (Shape.slice SB) [.slice a m.length k] m] _:=H
  refine qF 1 [(3,.slice a17 ((m.take (i+1)).length) c18),(6,.slice a m.length k),(7,.I ((m.length:Nat):Int)),(8,.I i)] ?_
  refine qR 1 [.c [2,0,1,0,0,3],.l [2,0,1,0,0],.b 0,.c [3]] [(3,.slice a17 ((m.take (i+1)).length) c18),(6,.slice a m.length k),(7,.I ((m.length:Nat):Int)),(8,.I i)] ?_
  refine qG (sq 0 2) ?_
  refine qI .seq 17 (sq 1 2) ((i:Int)+1) ?_
  refine qF 1 [(3,.slice a17 ((m.take (i+1)).length) c18),(6,.slice a m.length k),(7,.I ((m.length:Nat):Int)),(8,.I ((i:Int)+1))] ?_
  have H:=H.pick [4] rfl
  exact WK.back (hback1 (i+1,a17,c18) _ ⟨H,by omega⟩ (by first|omega|(simp only[];omega))) (by as_aux_lemma=>kernel_rfl)
 ·
  refine qR 3 [.c [4]] [(2,.slice ao (m.take i).length co)] ?_
  refine qT (.slice ao (m.take i).length co) Tryz.func173 ?_
  have hie:i=m.length:=by omega
  rw[hie,List.take_length]at H
  have H:=H.drop (M':=[]) (W':=[_]) (List.nil_sublist _) (List.cons_sublist_cons.2 (List.nil_sublist _))
  exact⟨_,rfl,H.done,by rw[hie,List.take_length];exact H.pick [] rfl⟩
theorem sized_spec{S:Nat→Prop}{w:World}{m:List (List (BitVec 8))}{a:Option Addr}{k:Nat}(h:(Shape.slice SB).rep S w [.slice a m.length k] m)(hr:1≤m.length∧m.length≤255){c:Nat}(hc:∀x∈m,x.length=c)(hc2:1≤c∧c≤255):
 Calls Tryz.prog 171 #[.slice a m.length k] w (Ret fun v w'=>Ext w w'∧v=.tuple #[.I ((m.length:Nat):Int),.I ((c:Nat):Int)]):=by
 have hml:=Shape.slice_len h
 have h0c:=hc (m[0]) (List.getElem_mem (by omega))
 refine qS (fn:=Tryz.f171) (n:=43) (σ:=[(0,.slice a m.length k)]) Tryz.func171 ?_
 have H:=Hp.startF (w:=w) (S:=S) (G:=[Rp (Shape.slice SB) [.slice a m.length k] m]) (.rp h .nil)
 refine qR 4 [.c [1,0,0],.c [1,0,1],.c [2]] [(0,.slice a m.length k)] ?_
 refine qG (sq 0 8) ?_
 refine qP 4 (sq 4 8) [(0,.slice a m.length k),(10,.bool (((m.length:Nat):Int)==0))] ?_
 refine tE (fun b_=>[(0,.slice a m.length k),(10,.bool b_)]) ((m.length:Nat):Int) 0 (fun h1=>?_) (fun h1=>?_)
 ·
  omega
 ·
  refine qF 4 [(0,.slice a m.length k),(14,.bool (decide ((((m.length:Nat):Int):Int)>255)))] ?_
  refine qD ((((m.length:Nat):Int):Int)>255) (fun h2=>?_) (fun h2=>?_)
  ·
   omega
  ·
   refine qR 2 [.c [2,0],.c [3]] [(0,.slice a m.length k)] ?_
   refine qG (sq 0 5) ?_
   refine qP 1 (sq 1 5) [(0,.slice a m.length k),(16,.slice a m.length k)] ?_
   have hx3:0<m.length:=by omega
   refine qX .seq 17 (sq 2 5) 74 28 0 SB (m[0]) H 0 rfl 0 (by omega) (List.getElem?_eq_getElem hx3) ?_
   intro b4 o5 es6 hr7 H
   obtain⟨a8,k9,rfl⟩:=Shape.slice_form' hr7
   have H:=H.add (F:=Rp SB [.slice a8 (m[0]).length k9] (m[0])) hr7
   refine qL .seq 18 (sq 3 5) 28 b4 o5 0 (.slice a8 (m[0]).length k9) (H.fc 1 rfl) ?_
   refine qF 2 [(0,.slice a m.length k),(4,.I (((m[0]).length:Nat):Int))] ?_
   refine qR 4 [.c [3,0,1,0],.b 0,.c [4]] [(0,.slice a m.length k),(4,.I (((m[0]).length:Nat):Int)),(20,.slice a m.length k),(21,.I ((m.length:Nat):Int)),(22,.I 0)] ?_
   have H:=H.pick [2] rfl
   refine WK.loop (α:=Nat) (b:=cd Tryz.prog 171 [3,0,1,0,0]) (by as_aux_lemma=>kernel_rfl) (fun i=>[(0,.slice a m.length k),(4,.I (((m[0]).length:Nat):Int)),(20,.slice a m.length k),(21,.I ((m.length:Nat):Int)),(22,.I i)]) (fun i w'=>Hp w S [] [] [] [Rp (Shape.slice SB) [.slice a m.length k] m] w'∧i≤m.length) (fun i=>m.length-i) 0 ⟨H,Nat.zero_le _⟩ (rfl) ?_
   rintro i w11⟨H,hinv0⟩hback10
   refine qR 3 [.c [3,0,1,0,0,1,0],.c [3,0,1,0,0,2],.l [3,0,1,0,0],.b 0,.c [4]] [(0,.slice a m.length k),(4,.I (((m[0]).length:Nat):Int)),(20,.slice a m.length k),(21,.I ((m.length:Nat):Int)),(22,.I i),(23,.bool (decide (((i:Int):Int)<((m.length:Nat):Int))))] ?_
   refine qD (((i:Int):Int)<((m.length:Nat):Int)) (fun h12=>?_) (fun h12=>?_)
   ·
    have hic:=hc (m[i]) (List.getElem_mem (by omega))
    refine qR 4 [.c [3,0,1,0,0,2,0,0,0],.c [3,0,1,0,0,2,0,0,1],.b 1,.c [3,0,1,0,0,3],.l [3,0,1,0,0],.b 0,.c [4]] [(0,.slice a m.length k),(4,.I (((m[0]).length:Nat):Int)),(20,.slice a m.length k),(21,.I ((m.length:Nat):Int)),(22,.I i)] ?_
    refine qG (sq 0 3) ?_
    have hx13:i<m.length:=by omega
    refine qX .seq 24 (sq 1 3) 74 28 (i:Int) SB (m[i]) H 0 rfl i (by omega) (List.getElem?_eq_getElem hx13) ?_
    intro b14 o15 es16 hr17 H
    obtain⟨a18,k19,rfl⟩:=Shape.slice_form' hr17
    have H:=H.add (F:=Rp SB [.slice a18 (m[i]).length k19] (m[i])) hr17
    refine qL .seq 25 (sq 2 3) 28 b14 o15 0 (.slice a18 (m[i]).length k19) (H.fc 1 rfl) ?_
    refine qF 1 [(0,.slice a m.length k),(4,.I (((m[0]).length:Nat):Int)),(6,.slice a18 (m[i]).length k19),(20,.slice a m.length k),(21,.I ((m.length:Nat):Int)),(22,.I i)] ?_
    refine qR 1 [.c [3,0,1,0,0,2,0,0,1,0],.c [3,0,1,0,0,2,0,0,2],.b 1,.c [3,0,1,0,0,3],.l [3,0,1,0,0],.b 0,.c [4]] [(0,.slice a m.length k),(4,.I (((m[0]).length:Nat):Int)),(6,.slice a18 (m[i]).length k19),(20,.slice a m.length k),(21,.I ((m.length:Nat):Int)),(22,.I i)] ?_
    refine qG (sq 0 12) ?_
    refine qP 5 (sq 5 12) [(0,.slice a m.length k),(4,.I (((m[0]).length:Nat):Int)),(20,.slice a m.length k),(21,.I ((m.length:Nat):Int)),(22,.I i),(30,.bool ((((m[i]).length:Nat):Int)!=(((m[0]).length:Nat):Int)))] ?_
    refine Go.BX.tN (fun b_=>[(0,.slice a m.length k),(4,.I (((m[0]).length:Nat):Int)),(20,.slice a m.length k),(21,.I ((m.length:Nat):Int)),(22,.I i),(30,.bool b_)]) (((m[i]).length:Nat):Int) (((m[0]).length:Nat):Int) (fun h20=>?_) (fun h20=>?_)
    ·
     omega
    ·
     refine qP 4 (sq 9 12) [(0,.slice a m.length k),(4,.I (((m[0]).length:Nat):Int)),(20,.slice a m.length k),(21,.I ((m.length:Nat):Int)),(22,.I i),(34,.bool ((((m[0]).length:Nat):Int)==0))] ?_
     refine tE (fun b_=>[(0,.slice a m.length k),(4,.I (((m[0]).length:Nat):Int)),(20,.slice a m.length k),(21,.I ((m.length:Nat):Int)),(22,.I i),(34,.bool b_)]) (((m[0]).length:Nat):Int) 0 (fun h21=>?_) (fun h21=>?_)
     ·
      omega
     ·
      refine qF 3 [(0,.slice a m.length k),(4,.I (((m[0]).length:Nat):Int)),(20,.slice a m.length k),(21,.I ((m.length:Nat):Int)),(22,.I i),(37,.bool (decide (((((m[0]).length:Nat):Int):Int)>255)))] ?_
      refine qD (((((m[0]).length:Nat):Int):Int)>255) (fun h22=>?_) (fun h22=>?_)
      ·
       omega
      ·
       refine qR 2 [.c [3,0,1,0,0,3],.l [3,0,1,0,0],.b 0,.c [4]] [(0,.slice a m.length k),(4,.I (((m[0]).length:Nat):Int)),(20,.slice a m.length k),(21,.I ((m.length:Nat):Int)),(22,.I i)] ?_
       refine qG (sq 0 2) ?_
       refine qI .seq 39 (sq 1 2) ((i:Int)+1) ?_
       refine qF 1 [(0,.slice a m.length k),(4,.I (((m[0]).length:Nat):Int)),(20,.slice a m.length k),(21,.I ((m.length:Nat):Int)),(22,.I ((i:Int)+1))] ?_
       have H:=H.pick [2] rfl
       exact WK.back (hback10 (i+1) _ ⟨H,by omega⟩ (by first|omega|(simp only[];omega))) (by as_aux_lemma=>kernel_rfl)
   ·
    refine qR 3 [.c [5]] [(2,.I ((m.length:Nat):Int)),(3,.I (((m[0]).length:Nat):Int))] ?_
    refine qT (.tuple #[.I ((m.length:Nat):Int),.I (((m[0]).length:Nat):Int)]) Tryz.func171 ?_
    refine⟨_,rfl,H.done,?_⟩
    rw[h0c]
theorem identity_spec{S:Nat→Prop}{w:World}{n:Nat}(hn:1≤n∧n≤255):
 Calls Tryz.prog 172 #[.I n] w (Ret fun v w'=>Ext w w'∧∃(a:Option Addr)(c:Nat),v=.tuple #[.slice a (ident n).length c,.I 0]∧Hp w S [] [] [⟨SB,28,.slice a (ident n).length c,ident n⟩] [] w'):=by
 refine qS (fn:=Tryz.f172) (n:=28) (σ:=[(0,.I n)]) Tryz.func172 ?_
 have H:=Hp.startF (w:=w) (S:=S) (G:=[]) .nil
 refine qR 1 [.c [0],.c [1]] [(0,.I n)] ?_
 refine qG (sq 0 2) ?_
 refine qP 1 (sq 1 2) [(0,.I n),(2,.slice none 0 0)] ?_
 refine qB .seq 3 (sq 2 2) #[.I 0] 75 H ?_
 intro b1 w2 H
 refine qF 0 [(0,.I n),(2,.slice none 0 0),(3,.P b1 0)] ?_
 refine qR 1 [.c [1,0],.c [2]] [(0,.I n),(2,.slice none 0 0),(3,.P b1 0)] ?_
 refine WK.defer1 (o:=op1 (cd Tryz.prog 172 [1,0])) ⟨.fn (.func 105) #[],#[.P b1 0]⟩ (by as_aux_lemma=>kernel_rfl) (by as_aux_lemma=>kernel_rfl) (by as_aux_lemma=>kernel_rfl) (by as_aux_lemma=>kernel_rfl) (by as_aux_lemma=>kernel_rfl) ?_
 refine qR 1 [.c [2,0],.c [3]] [(0,.I n),(2,.slice none 0 0),(3,.P b1 0)] ?_
 refine qG (sq 0 7) ?_
 refine qP 1 (sq 1 7) [(0,.I n),(2,.slice none 0 0),(3,.P b1 0),(6,.I n)] ?_
 refine RW.pv (κ:=.seq) (d:=some 7) (r:=(sq 2 7)) (v':=.bool true) (v:=.bool (decide (((n:Int):Int)>0))) (by as_aux_lemma=>kernel_rfl) (by rw[decide_eq_true (by omega)]) ?_
 refine qP 2 (sq 4 7) [(0,.I n),(2,.slice none 0 0),(3,.P b1 0),(8,.bool true),(9,.I n)] ?_
 refine RW.pv (κ:=.seq) (d:=some 10) (r:=(sq 5 7)) (v':=.bool true) (v:=.bool (decide (((n:Int):Int)≤255))) (by as_aux_lemma=>kernel_rfl) (by rw[decide_eq_true (by omega)]) ?_
 refine qP 1 (sq 6 7) [(0,.I n),(2,.slice none 0 0),(3,.P b1 0),(11,.bool true)] ?_
 refine qK .seq (some 12) (sq 7 7) 106 #[.bool true] (needs_spec (S:=fun _=>True)) ?_
 rintro _ w3 hE4 rfl
 have H:=H.ext hE4
 refine qF 0 [(0,.I n),(2,.slice none 0 0),(3,.P b1 0)] ?_
 refine qR 4 [.c [3,0,1,0],.b 0,.c [4]] [(0,.I n),(2,.slice none 0 0),(3,.P b1 0),(13,.I n),(14,.I 0)] ?_
 have H:=H.ownNil SB 28
 refine WK.loop (α:=Nat×Option Addr×Nat) (b:=cd Tryz.prog 172 [3,0,1,0,0]) (by as_aux_lemma=>kernel_rfl) (fun st_=>match st_ with|(i,ao,co)=>[(0,.I n),(2,.slice ao (((ident n).take i).length) co),(3,.P b1 0),(13,.I n),(14,.I i)]) (fun st_ w'=>match st_ with|(i,ao,co)=>Hp w S [] [(b1,.cells #[.I 0] 75 (0,0))] [⟨SB,28,.slice ao (((ident n).take i).length) co,(ident n).take i⟩] [] w'∧i≤n) (fun st_=>match st_ with|(i,ao,co)=>n-i) (0,none,0) ⟨H,Nat.zero_le _⟩ (rfl) ?_
 rintro⟨i,ao,co⟩w6⟨H,hinv0⟩hback5
 refine qR 3 [.c [3,0,1,0,0,1,0],.c [3,0,1,0,0,2],.l [3,0,1,0,0],.b 0,.c [4]] [(0,.I n),(2,.slice ao (((ident n).take i).length) co),(3,.P b1 0),(13,.I n),(14,.I i),(15,.bool (decide (((i:Int):Int)<(n:Int))))] ?_
 refine qD (((i:Int):Int)<(n:Int)) (fun h7=>?_) (fun h7=>?_)
 ·
  refine qR 6 [.c [3,0,1,0,0,2,0,0,1,0],.c [3,0,1,0,0,2,0,0,2],.b 1,.c [3,0,1,0,0,3],.l [3,0,1,0,0],.b 0,.c [4]] [(0,.I n),(2,.slice ao (((ident n).take i).length) co),(3,.P b1 0),(4,.I i),(13,.I n),(14,.I i)] ?_
  refine qG (sq 0 3) ?_
  refine qP 1 (sq 1 3) [(0,.I n),(2,.slice ao (((ident n).take i).length) co),(3,.P b1 0),(4,.I i),(13,.I n),(14,.I i),(17,.I n)] ?_
  refine RW.makeW Sb (κ:=.seq) (d:=some 18) (r:=(sq 2 3)) (T:=28) (e:=5) (by_:=1) (v0:=.int .u8 0) (0#8:BitVec 8) (kl:=.i64) (kc:=.i64) (lv:=(n:Int)) (cv:=(n:Int)) (by as_aux_lemma=>kernel_rfl) (nofun) (by as_aux_lemma=>kernel_rfl) rfl H n n (by omega) (by omega) (by omega) (by omega) (by omega) (fun _ _=>rfl) ?_
  intro b8 w9 H
  have H:Hp w S [] [(b1,.cells #[.I 0] 75 (0,0))] [⟨Sb,5,.slice (some ⟨b8,0,none⟩) n n,(List.replicate n (0#8:BitVec 8))⟩,⟨SB,28,.slice ao (((ident n).take i).length) co,(ident n).take i⟩] [] _:=H
  refine qF 1 [(0,.I n),(2,.slice ao (((ident n).take i).length) co),(3,.P b1 0),(4,.I i),(5,.slice (some ⟨b8,0,none⟩) n n),(13,.I n),(14,.I i)] ?_
  refine qR 1 [.c [3,0,1,0,0,2,0,0,2,0],.c [3,0,1,0,0,2,0,0,3],.b 1,.c [3,0,1,0,0,3],.l [3,0,1,0,0],.b 0,.c [4]] [(0,.I n),(2,.slice ao (((ident n).take i).length) co),(3,.P b1 0),(4,.I i),(5,.slice (some ⟨b8,0,none⟩) n n),(13,.I n),(14,.I i)] ?_
  refine qG (sq 0 4) ?_
  refine qP 2 (sq 2 4) [(0,.I n),(2,.slice ao (((ident n).take i).length) co),(3,.P b1 0),(5,.slice (some ⟨b8,0,none⟩) n n),(13,.I n),(14,.I i),(19,.slice (some ⟨b8,0,none⟩) n n),(20,.I i)] ?_
  have hn11:n=(List.replicate n (0#8:BitVec 8)).length:=by rw[List.length_replicate]
  have hx10:i<(List.replicate n (0#8:BitVec 8)).length:=by rw[List.length_replicate];omega
  refine RW.indexW (κ:=.seq) (d:=some 21) (r:=(sq 3 4)) (T:=28) (e:=5) (m:=1) (ik:=.i64) (ix:=(i:Int)) (sh:=Sb) (xs:=(List.replicate n (0#8:BitVec 8))) (a:=(some ⟨b8,0,none⟩)) (len:=n) (cap:=n) (by as_aux_lemma=>kernel_rfl) (by as_aux_lemma=>kernel_rfl) rfl H i (by omega) hx10 hn11 ?_
  intro b12 es13 ha14 hcell15 hr16
  obtain rfl:=hr16
  refine RW.storeW (d:=none) (r:=(sq 4 4)) (e:=5) (m:=1) (b:=b12) (k:=i) (v:=.int .u8 1) (by as_aux_lemma=>kernel_rfl) rfl (by as_aux_lemma=>kernel_rfl) H ha14 hx10 hn11 (1#8) (Shape.bv_lit (x:=1#8) (by decide)) ?_
  intro w17 H
  have H:=H.reW (ys:=idRow n i) (rfl)
  refine qF 0 [(0,.I n),(2,.slice ao (((ident n).take i).length) co),(3,.P b1 0),(5,.slice (some ⟨b8,0,none⟩) n n),(13,.I n),(14,.I i)] ?_
  refine qG (sq 0 5) ?_
  refine qP 2 (sq 2 5) [(0,.I n),(2,.slice ao (((ident n).take i).length) co),(3,.P b1 0),(13,.I n),(14,.I i),(22,.slice ao (((ident n).take i).length) co),(23,.slice (some ⟨b8,0,none⟩) n n)] ?_
  refine RW.new (κ:=.seq) (d:=some 24) (r:=(sq 3 5)) (o:=.cells #[.slice (some ⟨b8,0,none⟩) n n] 28 (0,0)) (v:=fun b=>.slice (some ⟨b,0,none⟩) 1 1) (fun b=>by as_aux_lemma=>kernel_rfl) (nofun) H ?_
  intro b18 w19 H
  have H:Hp w S [] [(b18,.cells #[.slice (some ⟨b8,0,none⟩) n n] 28 (0,0)),(b1,.cells #[.I 0] 75 (0,0))] [⟨SB,28,.slice ao (((ident n).take i).length) co,(ident n).take i⟩] [Rp SB [.slice (some ⟨b8,0,none⟩) n n] (idRow n i)] _:=H.freezeW 0 rfl
  have H:=H.freeze 0 rfl SB ([idRow n i]:List (List (BitVec 8))) 1 (by simp[maxLen]) (by first|exact Nat.le_refl _|simp) (EsP.cons (c:=[.slice (some ⟨b8,0,none⟩) n n]) (H.rp 0 rfl) EsP.nil)
  have H:Hp w S [] [(b1,.cells #[.I 0] 75 (0,0))] [⟨SB,28,.slice ao (((ident n).take i).length) co,(ident n).take i⟩] [Rp (Shape.slice SB) [.slice (some ⟨b18,0,none⟩) 1 1] ([idRow n i]:List (List (BitVec 8))),Rp SB [.slice (some ⟨b8,0,none⟩) n n] (idRow n i)] _:=H
  refine RW.appendW (d:=some 25) (r:=(sq 4 5)) (T:=74) (ty:=74) (e:=28) (m:=1) (by_:=24) (v:=.slice ao (((ident n).take i).length) co) (a2:=(some ⟨b18,0,none⟩)) (l2:=1) (c2:=1) (zs:=(ident n).take (i+1)) (by as_aux_lemma=>kernel_rfl) (by as_aux_lemma=>kernel_rfl) rfl H 0 rfl 0 rfl (ident_take (by omega)) (by rw[List.length_take,ident_len];omega) ?_
  intro a20 c21 w23 H hc22
  have H:Hp w S [] [(b1,.cells #[.I 0] 75 (0,0))] [⟨SB,28,.slice a20 (((ident n).take (i+1)).length) c21,(ident n).take (i+1)⟩] [Rp (Shape.slice SB) [.slice (some ⟨b18,0,none⟩) 1 1] ([idRow n i]:List (List (BitVec 8))),Rp SB [.slice (some ⟨b8,0,none⟩) n n] (idRow n i)] _:=H
  refine qF 1 [(0,.I n),(2,.slice a20 (((ident n).take (i+1)).length) c21),(3,.P b1 0),(13,.I n),(14,.I i)] ?_
  refine qR 1 [.c [3,0,1,0,0,3],.l [3,0,1,0,0],.b 0,.c [4]] [(0,.I n),(2,.slice a20 (((ident n).take (i+1)).length) c21),(3,.P b1 0),(13,.I n),(14,.I i)] ?_
  refine qG (sq 0 2) ?_
  refine qI .seq 26 (sq 1 2) ((i:Int)+1) ?_
  refine qF 1 [(0,.I n),(2,.slice a20 (((ident n).take (i+1)).length) c21),(3,.P b1 0),(13,.I n),(14,.I ((i:Int)+1))] ?_
  have H:=H.pick [] rfl
  exact WK.back (hback5 (i+1,a20,c21) _ ⟨H,by omega⟩ (by first|omega|(simp only[];omega))) (by as_aux_lemma=>kernel_rfl)
 ·
  refine qR 2 [.c [4,0],.c [5]] [(2,.slice ao (((ident n).take i).length) co),(3,.P b1 0)] ?_
  refine qG (sq 0 3) ?_
  refine qP 2 (sq 2 3) [(2,.slice ao (((ident n).take i).length) co),(3,.P b1 0)] ?_
  refine qW 75 b1 0 (sq 3 3) (.I 0) [(b1,.cells #[.I 0] 75 (0,0))] H 0 rfl rfl ?_
  intro w24 H
  refine qF 0 [(2,.slice ao (((ident n).take i).length) co),(3,.P b1 0)] ?_
  refine WK.retD (v:=.tuple #[.slice ao (((ident n).take i).length) co,.I 0]) Tryz.func172 (by as_aux_lemma=>kernel_rfl) (refused_defer ⟨b1,0,none⟩) (RV.res2 (x:=.tmp 2) (y:=.cell 3 75) (by as_aux_lemma=>kernel_rfl) (RV.tmp (by as_aux_lemma=>kernel_rfl)) (RV.cell (k:=0) (by as_aux_lemma=>kernel_rfl) (H.cells 0 rfl) rfl (by as_aux_lemma=>kernel_rfl))) ?_
  have hie:i=n:=by omega
  have hte:(ident n).take i=ident n:=List.take_of_length_le (by rw[ident_len];omega)
  rw[hte]at H⊢
  have H:=H.drop (M':=[]) (W':=[_]) (List.nil_sublist _) (List.cons_sublist_cons.2 (List.nil_sublist _))
  exact⟨_,rfl,H.done,_,_,rfl,H.pick [] rfl⟩
end Go.Proofs.YtcafjhnjhhicdaaGreatDoor
